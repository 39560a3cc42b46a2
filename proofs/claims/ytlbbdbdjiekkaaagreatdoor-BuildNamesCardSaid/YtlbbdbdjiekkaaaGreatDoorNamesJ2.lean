import Derived.Test.YtlbbdbdjiekkaaaGreatDoorNamesJ1
import Derived.Test.YtlbbdbdjiekkaaaGreatDoorNamesShLoc
import Derived.Test.YtlbbdbdjiekkaaaGreatDoorNamesShRow
import Derived.Test.YtlbbdbdjiekkaaaGreatDoorNamesShDefer
import Derived.Test.YtlbbdbdjiekkaaaGreatDoorNamesShAll
import Derived.Test.YtlbbdbdjiekkaaaGreatDoorNamesShGlue
import Derived.Laws.Strings
import Derived.WideShapes
import Derived.MapKept
set_option linter.unusedSimpArgs false
set_option linter.unusedVariables false
set_option maxRecDepth 100000
set_option maxHeartbeats 200000
/- What the functions do, printed by program (gen.py) in the words of ShCore; each text is held against the loaded program by the kernel. -/
namespace Go.Proofs.YtlbbdbdjiekkaaaGreatDoor
open Go Go.Sh
section
noncomputable def code205:Code:=Tryz.f212.body.getD .skip
def ann205:Ann:=[(2002,[0]),(2000012,[0,3]),(3709999,[0,31]),(3909999,[0,46]),(2010,[0])]
def ord205:OrdT:=[(18,(OT.l [0,1,2,3,4,5,6,7,8,9,10,11,12,13,14,15,16,17,18] .fin),[0,1,3,7,15,31,63,15,143,511,1023,2047,4095,8191,4095,20479,53247,131071,262143]),(22,(OT.l [0,1,2,3,4,5,6,7,8,9,10,11,12,13,14,15,16,17,18,19,20,21,22,23,24,25,26,27,28,29,30] .fin),[0,1,3,7,15,31,63,15,143,511,1023,2047,4095,8191,4095,20479,53247,131071,262143,524287,1048575,2097151,4194303,8388607,16777215,33554431,67108863,134217727,268435455,536870911,1073741823]),(26,(OT.l [0,1,2,3,4,5,6,7,8,9,10,11,12,13,14,15,16,17,18,19,20,21,22,23,24,25,26,27,28,29,30,31,32,33,34,35,36,37,38,39,40,41,42] .fin),[0,1,3,7,15,31,63,15,143,511,1023,2047,4095,8191,4095,20479,53247,131071,262143,524287,1048575,2097151,4194303,8388607,16777215,33554431,67108863,134217727,268435455,536870911,1073741823,2147483647,4294967295,8589934591,17179869183,34359738367,68719476735,137438953471,274877906943,549755813887,1099511627775,2199023255551,4398046511103]),(10,(OT.l [0,1,2,3,4,6,7,10,11,13,14,5,8,9,12,15,16,17,18,19,20] .fin),[0,1,3,7,15,31,15,79,255,511,15,1039,3583,15,8207,32255,65023,131071,262143,524287,1048575]),(8,(OT.l [0,1,2,3,4,6,7,5,8,9,10,11,12] .fin),[0,1,3,7,15,31,15,79,255,511,1023,2047,4095])]
def z205:List Value:=[(.bool false)]
def kv205 (K:Bool→HP):Value→HP:=fun v h=>rB v fun r0=>K r0 h
variable (K:Bool→HP) (Kp:PK) (N1:Fr→HP) 
noncomputable def c205:Cx:=⟨Tryz.prog,ann205,ord205,none,code205,(retQ Tryz.prog Tryz.f212.results.toList z205 (kv205 K)),Kp⟩
abbrev mk205_1 (x0:Sl):Fr:=([vS x0]++nn 187)
def J205_2 (x0:Sl) (x3:Int):HP:=semJ (c205 K Kp) [1,1,0,0,0,1,0,1,1] [N1] ([vS x0,nO,nO,some (.int .u8 x3)]++nn 184)
abbrev mk205_5 (x0:Sl):Fr:=([vS x0]++nn 187)
def L205_5 (x0:Sl):HP:=semL (c205 K Kp) 2010 [1,1,0,0,0,1,0,1,0,1,0,1,0,1,0,1,1,0,1,0] [N1] (mk205_5 x0)
def J205_4 (x0:Sl) (x46:Bool):HP:=semJ (c205 K Kp) [1,1,0,0,0,1,0,1,0,1,0,1,0,1,0,1,1] [N1] ([vS x0,nO,nO,nO,nO,nO,nO,nO,nO,nO,nO,nO,nO,nO,nO,nO,nO,nO,nO,nO,nO,nO,nO,nO,nO,nO,nO,nO,nO,nO,nO,nO,nO,nO,nO,nO,nO,nO,nO,nO,nO,nO,nO,nO,nO,nO,some (.bool x46)]++nn 141)
def J205_3 (x0:Sl) (x31:Bool):HP:=semJ (c205 K Kp) [1,1,0,0,0,1,0,1,0,1,0,1,0,1] [N1] ([vS x0,nO,nO,nO,nO,nO,nO,nO,nO,nO,nO,nO,nO,nO,nO,nO,nO,nO,nO,nO,nO,nO,nO,nO,nO,nO,nO,nO,nO,nO,nO,some (.bool x31)]++nn 156)
def L205_1 (x0:Sl):HP:=semL (c205 K Kp) 2002 [1,1,0,0] [] (mk205_1 x0)
variable {K Kp N1} {x0:Sl} {x46 x31:Bool} {x3:Int} {h:Hp}
theorem J205_2.of (H :
 Ix (some (⟨1,0,none⟩)) 256 1 x3 fun a73 =>
 Ld h a73 (.int .u8) fun t74 =>
 Lt (bitsV .and .u8 t74 7) fun t76 =>
 Wr .i64 t76 fun t77 =>
 Nn 4<|Lt (Int.fdiv t74 (2 ^ (min (Int.toNat 4) (IntKind.bits .u8)))) fun t79 =>
 Ix (some (⟨2,0,none⟩)) 16 2 t79 fun a80 =>
 Ld h a80 (.int .u8) fun t81_0 =>
 Ld h (a80.add 1) (.int .u8) fun t81_1 =>
 New h #[(.int .u8 0),(.int .u8 0)] Y248 fun a6 h1 =>
 St h1 a6 (.int .u8 t81_0) fun h2 =>
 St h2 (a6.add 1) (.int .u8 t81_1) fun h3 =>
 If (t77 == 2) (
 If (decide ((x0.n:Int) < 2)) (
 K false h3) (
 Ix x0.a x0.n 1 1 fun a90 =>
 Ld h3 a90 (.int .u8) fun t91 =>
 Ld h3 a6 (.int .u8) fun t93 =>
 If (decide (t91 < t93)) (
 K false h3) (
 Ld h3 (a6.add 1) (.int .u8) fun t98 =>
 Ix x0.a x0.n 1 1 fun a100 =>
 Ld h3 a100 (.int .u8) fun t101 =>
 If (decide (t98 < t101)) (
 K false h3) (
 Slc x0 1 (some 2) none none fun t105 =>
 N1 (mk205_1 t105) h3)))) (
 If (t77 == 3) (
 If (decide ((x0.n:Int) < 3)) (
 K false h3) (
 Ix x0.a x0.n 1 1 fun a113 =>
 Ld h3 a113 (.int .u8) fun t114 =>
 Ld h3 a6 (.int .u8) fun t116 =>
 If (decide (t114 < t116)) (
 K false h3) (
 Ld h3 (a6.add 1) (.int .u8) fun t121 =>
 Ix x0.a x0.n 1 1 fun a123 =>
 Ld h3 a123 (.int .u8) fun t124 =>
 If (decide (t121 < t124)) (
 K false h3) (
 Ix x0.a x0.n 1 2 fun a129 =>
 Ld h3 a129 (.int .u8) fun t130 =>
 If (decide (t130 < 128)) (
 K false h3) (
 Ix x0.a x0.n 1 2 fun a135 =>
 Ld h3 a135 (.int .u8) fun t136 =>
 If (decide ((191:Int) < t136)) (
 K false h3) (
 Slc x0 1 (some 3) none none fun t140 =>
 N1 (mk205_1 t140) h3)))))) (
 If (t77 == 4) (
 If (decide ((x0.n:Int) < 4)) (
 K false h3) (
 Ix x0.a x0.n 1 1 fun a148 =>
 Ld h3 a148 (.int .u8) fun t149 =>
 Ld h3 a6 (.int .u8) fun t151 =>
 If (decide (t149 < t151)) (
 K false h3) (
 Ld h3 (a6.add 1) (.int .u8) fun t156 =>
 Ix x0.a x0.n 1 1 fun a158 =>
 Ld h3 a158 (.int .u8) fun t159 =>
 If (decide (t156 < t159)) (
 K false h3) (
 Ix x0.a x0.n 1 2 fun a164 =>
 Ld h3 a164 (.int .u8) fun t165 =>
 If (decide (t165 < 128)) (
 K false h3) (
 Ix x0.a x0.n 1 2 fun a170 =>
 Ld h3 a170 (.int .u8) fun t171 =>
 If (decide ((191:Int) < t171)) (
 K false h3) (
 Ix x0.a x0.n 1 3 fun a176 =>
 Ld h3 a176 (.int .u8) fun t177 =>
 If (decide (t177 < 128)) (
 K false h3) (
 Ix x0.a x0.n 1 3 fun a182 =>
 Ld h3 a182 (.int .u8) fun t183 =>
 If (decide ((191:Int) < t183)) (
 K false h3) (
 Slc x0 1 (some 4) none none fun t187 =>
 N1 (mk205_1 t187) h3)))))))) (
 K false h3)))) :
 J205_2 K Kp N1 x0 x3 h:=jof H (by kernel_rfl)
theorem L205_5.rule:LR1 (L205_5 K Kp N1) (mk205_5) fun N2 (x0:Sl) h =>
 (If (decide ((x0.n:Int) > 32)) (
 Slc x0 1 (some 8) none none fun t56 =>
 Slc x0 1 (some 16) none none fun t60 =>
 Slc x0 1 (some 24) none none fun t63 =>
 Fn207 x0 h (fun t54 h1 =>
 Fn207 t56 h1 (fun t57 h2 =>
 Lt (bitsV .or .u64 t54 t57) fun t58 =>
 Fn207 t60 h2 (fun t61 h3 =>
 Fn207 t63 h3 (fun t64 h4 =>
 Lt (bitsV .or .u64 t61 t64) fun t65 =>
 Lt (bitsV .or .u64 t58 t65) fun t66 =>
 Lt (bitsV .and .u64 t66 9259542123273814144) fun t67 =>
 If (t67 == 0) (
 Slc x0 1 (some 32) none none fun t71 =>
 N2 (mk205_5 t71) h4) (
 N1 (mk205_1 x0) h4)) Kp) Kp) Kp) Kp) (
 N1 (mk205_1 x0) h)) :=
 loop1 (fun _ _=>rfl) fun _ _ _=>by kernel_rfl
theorem J205_4.of (H :
 If x46 (
 Slc x0 1 (some 16) none none fun t48 =>
 L205_5 K Kp N1 t48 h) (
 N1 (mk205_1 x0) h)) :
 J205_4 K Kp N1 x0 x46 h:=jof H (by kernel_rfl)
theorem J205_3.of (H :
 If x31 (
 Slc x0 1 (some 8) none none fun t33 =>
 If (decide ((t33.n:Int) > 16)) (
 Slc t33 1 (some 8) none none fun t41 =>
 Fn207 t33 h (fun t39 h1 =>
 Fn207 t41 h1 (fun t42 h2 =>
 Lt (bitsV .or .u64 t39 t42) fun t43 =>
 Lt (bitsV .and .u64 t43 9259542123273814144) fun t44 =>
 J205_4 K Kp N1 t33 (t44 == 0) h2) Kp) Kp) (
 J205_4 K Kp N1 t33 false h)) (
 N1 (mk205_1 x0) h)) :
 J205_3 K Kp N1 x0 x31 h:=jof H (by kernel_rfl)
theorem L205_1.rule:LR1 (L205_1 K Kp) (mk205_1) fun N1 (x0:Sl) h =>
 (If (decide ((x0.n:Int) > 0)) (
 Ix x0.a x0.n 1 0 fun a17 =>
 Ld h a17 (.int .u8) fun t18 =>
 If (decide (t18 < 128)) (
 Slc x0 1 (some 1) none none fun t22 =>
 If (decide ((t22.n:Int) > 8)) (
 Fn207 t22 h (fun t28 h1 =>
 Lt (bitsV .and .u64 t28 9259542123273814144) fun t29 =>
 J205_3 K Kp N1 t22 (t29 == 0) h1) Kp) (
 J205_3 K Kp N1 t22 false h)) (
 J205_2 K Kp N1 x0 t18 h)) (
 K true h)) :=
 loop1 (fun _ _=>rfl) fun _ _ _=>by kernel_rfl
theorem Fn205.of {p:Sl} (H :
 Slc p 1 none (some (p.n:Int)) (some (p.n:Int)) fun t12 =>
 L205_1 K Kp t12 h) :
 Fn205 p h K Kp:=fnof (ann:=ann205) (o:=ord205) (zs:=z205) (Kv:=kv205 K) Tryz.func212 (by kernel_rfl) H (by kernel_rfl) (by kernel_rfl)
end
section
noncomputable def code114:Code:=Tryz.f213.body.getD .skip
def ann114:Ann:=[(41006,[0,8])]
def ord114:OrdT:=[]
def z114:List Value:=[(.bool false)]
def kv114 (K:Bool→HP):Value→HP:=fun v h=>rB v fun r0=>K r0 h
variable (K:Bool→HP) (Kp:PK) 
noncomputable def c114:Cx:=⟨Tryz.prog,ann114,ord114,none,code114,(retQ Tryz.prog Tryz.f213.results.toList z114 (kv114 K)),Kp⟩
def J114_1 (x0:Int) (x8:Bool):HP:=semR (c114 K Kp) [1,0] [] 1 [6,7,8,9,10] ([vI x0,nO,nO,nO,nO,nO,nO,nO,some (.bool x8)]++nn 4)
variable {K Kp} {x0:Int} {x8:Bool} {h:Hp}
theorem J114_1.of (H :
 If x8 (
 K (x0 != 20) h) (
 K false h)) :
 J114_1 K Kp x0 x8 h:=jof H (by kernel_rfl)
theorem Fn114.of {k:Int} (H :
 If (k != 1) (
 J114_1 K Kp k (k != 18) h) (
 J114_1 K Kp k false h)) :
 Fn114 k h K Kp:=fnof (ann:=ann114) (o:=ord114) (zs:=z114) (Kv:=kv114 K) Tryz.func213 (by kernel_rfl) H (by kernel_rfl) (by kernel_rfl)
end
section
def ann134:Ann:=[]
def ord134:OrdT:=[]
def z134:List Value:=[(.bool false),(.int .i64 0)]
def kv134 (K:Bool→Int→HP):Value→HP:=fun v h=>rU v fun vs=>rB (vs.getD 0 undef) fun r0=>rI (vs.getD 1 undef) fun r1=>K r0 r1 h
variable (K:Bool→Int→HP) (Kp:PK) 
variable {K Kp} {h:Hp}
theorem Fn134.of {b:Sl} {i:Int} (H :
 If (decide (i < 0)) (
 K false 1 h) (
 Dv 8<|Wr .i64 (Int.tdiv i 8) fun t11 =>
 If (decide (t11≥(b.n:Int))) (
 K false 2 h) (
 Fn161 b i h (fun t17 h1 =>
 K t17 0 h1) Kp))) :
 Fn134 b i h K Kp:=fnof (ann:=ann134) (o:=ord134) (zs:=z134) (Kv:=kv134 K) Tryz.func214 (by kernel_rfl) H (by kernel_rfl) (by kernel_rfl)
end
section
noncomputable def code180:Code:=Tryz.f215.body.getD .skip
def ann180:Ann:=[(3400005,[3,4])]
def ord180:OrdT:=[]
def z180:List Value:=[(.int .i64 0)]
def kv180 (K:Int→HP):Value→HP:=fun v h=>rI v fun r0=>K r0 h
variable (K:Int→HP) (Kp:PK) 
noncomputable def c180:Cx:=⟨Tryz.prog,ann180,ord180,none,code180,(retQ Tryz.prog Tryz.f215.results.toList z180 (kv180 K)),Kp⟩
def J180_1 (x3:Int) (x4:Bool):HP:=semJ (c180 K Kp) [1,0,1,0,1] [] ([nO,nO,nO,vI x3,some (.bool x4)]++nn 12)
variable {K Kp} {x3:Int} {x4:Bool} {h:Hp}
theorem J180_1.of (H :
 If x4 (
 K 1 h) (
 If (x3 == 4) (
 If (x3 == 4) (
 K 2 h) (
 If (x3 == 5) (
 If (x3 == 5) (
 K 4 h) (
 If (x3 == 6) (
 If (x3 == 6) (
 K 8 h) (
 K 0 h)) (
 If (x3 == 10) (
 If (x3 == 10) (
 K 8 h) (
 K 0 h)) (
 If (x3 == 11) (
 K 8 h) (
 K 0 h))))) (
 If (x3 == 9) (
 K 4 h) (
 If (x3 == 6) (
 If (x3 == 6) (
 K 8 h) (
 K 0 h)) (
 If (x3 == 10) (
 If (x3 == 10) (
 K 8 h) (
 K 0 h)) (
 If (x3 == 11) (
 K 8 h) (
 K 0 h))))))) (
 If (x3 == 8) (
 K 2 h) (
 If (x3 == 5) (
 If (x3 == 5) (
 K 4 h) (
 If (x3 == 6) (
 If (x3 == 6) (
 K 8 h) (
 K 0 h)) (
 If (x3 == 10) (
 If (x3 == 10) (
 K 8 h) (
 K 0 h)) (
 If (x3 == 11) (
 K 8 h) (
 K 0 h))))) (
 If (x3 == 9) (
 K 4 h) (
 If (x3 == 6) (
 If (x3 == 6) (
 K 8 h) (
 K 0 h)) (
 If (x3 == 10) (
 If (x3 == 10) (
 K 8 h) (
 K 0 h)) (
 If (x3 == 11) (
 K 8 h) (
 K 0 h))))))))) :
 J180_1 K Kp x3 x4 h:=jof H (by kernel_rfl)
theorem Fn180.of {k:Int} (H :
 If (k == 3) (
 J180_1 K Kp k (k == 3) h) (
 J180_1 K Kp k (k == 7) h)) :
 Fn180 k h K Kp:=fnof (ann:=ann180) (o:=ord180) (zs:=z180) (Kv:=kv180 K) Tryz.func215 (by kernel_rfl) H (by kernel_rfl) (by kernel_rfl)
end
section
noncomputable def code68:Code:=Tryz.f216.body.getD .skip
def ann68:Ann:=[(2000005,[0,1])]
def ord68:OrdT:=[]
def z68:List Value:=[(.bool false)]
def kv68 (K:Bool→HP):Value→HP:=fun v h=>rB v fun r0=>K r0 h
variable (K:Bool→HP) (Kp:PK) 
noncomputable def c68:Cx:=⟨Tryz.prog,ann68,ord68,none,code68,(retQ Tryz.prog Tryz.f216.results.toList z68 (kv68 K)),Kp⟩
def J68_1 (x0:Option Addr) (x1:Int):HP:=semJ (c68 K Kp) [1,1,1] [] ([some (.pointer x0),vI x1]++nn 45)
variable {K Kp} {x0:Option Addr} {x1:Int} {h:Hp}
theorem J68_1.of (H :
 Fn112 x0 0 h (fun t35_0 t35_1 t35_2 h1 =>
 Dv 8<|Wr .i64 (Int.tdiv x1 8) fun t37 =>
 Fn115 t35_0 t35_1 t35_2 t37 h1 (fun t38_0 t38_1 h2 =>
 Dv 8<|Lt (Int.tmod x1 8) fun t43 =>
 Nn t43<|Lt (Int.fdiv t38_0 (2 ^ (min (Int.toNat t43) (IntKind.bits .u8)))) fun t44 =>
 Lt (bitsV .and .u8 t44 1) fun t45 =>
 K (t45 == 0) h2) Kp) Kp) :
 J68_1 K Kp x0 x1 h:=jof H (by kernel_rfl)
theorem Fn68.of {a:Option Addr} {r:Int} (H :
 NN a fun p8 =>
 Ld h (p8.add 2) mI fun t12 =>
 If (t12 == 1) (
 K true h) (
 NN a fun p15 =>
 Ld h (p15.add 2) mI fun t19 =>
 Fn114 t19 h (fun t20 h1 =>
 If (!t20) (
 K false h1) (
 NN a fun p24 =>
 Ld h1 ((p24.add 7).add 3) Sl.v fun t27 =>
 Ix t27.a t27.n 1 0 fun a28 =>
 Ld h1 a28 Sl.v fun t29 =>
 If ((t29.n:Int) == 0) (
 K false h1) (
 J68_1 K Kp a r h1))) Kp)) :
 Fn68 a r h K Kp:=fnof (ann:=ann68) (o:=ord68) (zs:=z68) (Kv:=kv68 K) Tryz.func216 (by kernel_rfl) H (by kernel_rfl) (by kernel_rfl)
end
section
def ann162:Ann:=[]
def ord162:OrdT:=[]
def z162:List Value:=[]
def kv162 (K:HP):Value→HP:=fun _ h=>K h
variable (K:HP) (Kp:PK) 
variable {K Kp} {h:Hp}
theorem Fn162.of {left:Option Addr} {n:Int} (H :
 NN left fun p5 =>
 Ld h p5 mI fun t6 =>
 Wr .i64 (t6 - n) fun t8 =>
 NN left fun p9 =>
 St h p9 (.int .i64 t8) fun h1 =>
 NN left fun p11 =>
 Ld h1 p11 mI fun t12 =>
 If (decide (t12 < 0)) (
 Kp [{ v:=(.iface Y162 (.agg #[])),recovered:=false }] h1) (
 K  h1)) :
 Fn162 left n h K Kp:=fnof (ann:=ann162) (o:=ord162) (zs:=z162) (Kv:=kv162 K) Tryz.func217 (by kernel_rfl) H (by kernel_rfl) (by kernel_rfl)
end
end Go.Proofs.YtlbbdbdjiekkaaaGreatDoor
set_option maxRecDepth 100000
set_option maxHeartbeats 200000
/- What the functions do, printed by program (gen.py) in the words of ShCore; each text is held against the loaded program by the kernel. -/
namespace Go.Proofs.YtlbbdbdjiekkaaaGreatDoor
open Go Go.Sh
section
noncomputable def code225:Code:=Tryz.f229.body.getD .skip
def ann225:Ann:=[(2000002,[0])]
def ord225:OrdT:=[(2,(OT.l [0,1,2,3,4,5,6,7,8,9,10,11,12,13,14,15,16,17,18,19,20,21,22,23,24,25,26,27,28,29,30,31,32,33,34,35,36,37,38] .fin),[0,1,3,0,8,24,56,127,0,256,768,1792,4095,0,8192,24576,57344,131071,0,262144,786432,1835008,4194303,0,8388608,25165824,58720256,134217727,0,268435456,805306368,1879048192,4294967295,0,8589934592,25769803776,60129542144,137438953471,274877906943])]
def z225:List Value:=[(.int .u64 0)]
def kv225 (K:Int→HP):Value→HP:=fun v h=>rI v fun r0=>K r0 h
variable (K:Int→HP) (Kp:PK) 
noncomputable def c225:Cx:=⟨Tryz.prog,ann225,ord225,none,code225,(retQ Tryz.prog Tryz.f229.results.toList z225 (kv225 K)),Kp⟩
def J225_1 (x0:ByteArray):HP:=semJ (c225 K Kp) [1,1] [] ([some (.string x0)]++nn 58)
variable {K Kp} {x0:ByteArray} {h:Hp}
theorem J225_1.of (H :
 IxS x0 0 fun t22 =>
 Wr .u64 t22 fun t23 =>
 IxS x0 1 fun t25 =>
 Wr .u64 t25 fun t26 =>
 Nn 8<|Wr .u64 (t26*2 ^ (min (Int.toNat 8) (IntKind.bits .u64))) fun t27 =>
 Lt (bitsV .or .u64 t23 t27) fun t28 =>
 IxS x0 2 fun t30 =>
 Wr .u64 t30 fun t31 =>
 Nn 16<|Wr .u64 (t31*2 ^ (min (Int.toNat 16) (IntKind.bits .u64))) fun t32 =>
 Lt (bitsV .or .u64 t28 t32) fun t33 =>
 IxS x0 3 fun t35 =>
 Wr .u64 t35 fun t36 =>
 Nn 24<|Wr .u64 (t36*2 ^ (min (Int.toNat 24) (IntKind.bits .u64))) fun t37 =>
 Lt (bitsV .or .u64 t33 t37) fun t38 =>
 IxS x0 4 fun t40 =>
 Wr .u64 t40 fun t41 =>
 Nn 32<|Wr .u64 (t41*2 ^ (min (Int.toNat 32) (IntKind.bits .u64))) fun t42 =>
 Lt (bitsV .or .u64 t38 t42) fun t43 =>
 IxS x0 5 fun t45 =>
 Wr .u64 t45 fun t46 =>
 Nn 40<|Wr .u64 (t46*2 ^ (min (Int.toNat 40) (IntKind.bits .u64))) fun t47 =>
 Lt (bitsV .or .u64 t43 t47) fun t48 =>
 IxS x0 6 fun t50 =>
 Wr .u64 t50 fun t51 =>
 Nn 48<|Wr .u64 (t51*2 ^ (min (Int.toNat 48) (IntKind.bits .u64))) fun t52 =>
 Lt (bitsV .or .u64 t48 t52) fun t53 =>
 IxS x0 7 fun t55 =>
 Wr .u64 t55 fun t56 =>
 Nn 56<|Wr .u64 (t56*2 ^ (min (Int.toNat 56) (IntKind.bits .u64))) fun t57 =>
 Lt (bitsV .or .u64 t53 t57) fun t58 =>
 K t58 h) :
 J225_1 K Kp x0 h:=jof H (by kernel_rfl)
theorem Fn225.of {s:ByteArray} (H :
 J225_1 K Kp s h) :
 Fn225 s h K Kp:=fnof (ann:=ann225) (o:=ord225) (zs:=z225) (Kv:=kv225 K) Tryz.func229 (by kernel_rfl) H (by kernel_rfl) (by kernel_rfl)
end
section
def ann340:Ann:=[]
def ord340:OrdT:=[]
def z340:List Value:=[(.int .i64 0),(.bool false)]
def kv340 (K:Int→Bool→HP):Value→HP:=fun v h=>rU v fun vs=>rI (vs.getD 0 undef) fun r0=>rB (vs.getD 1 undef) fun r1=>K r0 r1 h
variable (K:Int→Bool→HP) (Kp:PK) 
variable {K Kp} {h:Hp}
theorem Fn340.of {k:Int} (H :
 If (decide (k≥3)) (
 If (decide (k≤6)) (
 Wr .i64 (k - 3) fun t11 =>
 Nn t11<|Wr .i64 ((8:Int)*2 ^ (min (Int.toNat t11) (IntKind.bits .i64))) fun t12 =>
 K t12 true h) (
 Wr .i64 (k - 7) fun t14 =>
 Nn t14<|Wr .i64 ((8:Int)*2 ^ (min (Int.toNat t14) (IntKind.bits .i64))) fun t15 =>
 K t15 false h)) (
 Wr .i64 (k - 7) fun t14 =>
 Nn t14<|Wr .i64 ((8:Int)*2 ^ (min (Int.toNat t14) (IntKind.bits .i64))) fun t15 =>
 K t15 false h)) :
 Fn340 k h K Kp:=fnof (ann:=ann340) (o:=ord340) (zs:=z340) (Kv:=kv340 K) Tryz.func230 (by kernel_rfl) H (by kernel_rfl) (by kernel_rfl)
end
section
def ann184:Ann:=[]
def ord184:OrdT:=[]
def z184:List Value:=[(.agg #[(.string (bs [])),(.bool false),(.int .i64 0),(.int .i64 0),(.int .i64 0),(.int .i64 0),(.slice none 0 0)])]
def kv184 (K:ByteArray→Bool→Int→Int→Int→Int→Sl→HP):Value→HP:=fun v h=>rG v fun cs0=>rT (cs0.getD 0 undef) fun r0_0=>rB (cs0.getD 1 undef) fun r0_1=>rI (cs0.getD 2 undef) fun r0_2=>rI (cs0.getD 3 undef) fun r0_3=>rI (cs0.getD 4 undef) fun r0_4=>rI (cs0.getD 5 undef) fun r0_5=>rS (cs0.getD 6 undef) fun r0_6=>K r0_0 r0_1 r0_2 r0_3 r0_4 r0_5 r0_6 h
variable (K:ByteArray→Bool→Int→Int→Int→Int→Sl→HP) (Kp:PK) 
variable {K Kp} {h:Hp}
theorem Fn184.of {t_0 t_1 t_2 t_3:Int} {t_4:Sl} (H :
 NY27 h t_0 t_1 t_2 t_3 t_4 fun a1 h1 =>
 New h1 zY29 Y29 fun a2 h2 =>
 LY27 h2 a1 fun t4_0 t4_1 t4_2 t4_3 t4_4 =>
 New h2 zY29 Y29 fun a3 h3 =>
 SY29 h3 a3 (bs [97]) false t4_0 t4_1 t4_2 t4_3 t4_4 fun h4 =>
 Ld h4 a1 mI fun t7 =>
 If (t7 == 1) (
 St h4 (a3.add 1) (.bool true) fun h5 =>
 LY29 h5 a3 fun t28_0 t28_1 t28_2 t28_3 t28_4 t28_5 t28_6 =>
 SY29 h5 a2 t28_0 t28_1 t28_2 t28_3 t28_4 t28_5 t28_6 fun h6 =>
 LY29 h6 a2 fun r0_0 r0_1 r0_2 r0_3 r0_4 r0_5 r0_6 =>
 K r0_0 r0_1 r0_2 r0_3 r0_4 r0_5 r0_6 h6) (
 Ld h4 a1 mI fun t11 =>
 If (t11 == 20) (
 Ld h4 (a1.add 4) Sl.v fun t15 =>
 If (decide ((t15.n:Int) > 0)) (
 Ld h4 (a1.add 4) Sl.v fun t21 =>
 Ix t21.a t21.n 7 0 fun a22 =>
 Ld h4 (a22.add 1) .bool fun t24 =>
 St h4 (a3.add 1) (.bool t24) fun h5 =>
 LY29 h5 a3 fun t28_0 t28_1 t28_2 t28_3 t28_4 t28_5 t28_6 =>
 SY29 h5 a2 t28_0 t28_1 t28_2 t28_3 t28_4 t28_5 t28_6 fun h6 =>
 LY29 h6 a2 fun r0_0 r0_1 r0_2 r0_3 r0_4 r0_5 r0_6 =>
 K r0_0 r0_1 r0_2 r0_3 r0_4 r0_5 r0_6 h6) (
 St h4 (a3.add 1) (.bool false) fun h5 =>
 LY29 h5 a3 fun t28_0 t28_1 t28_2 t28_3 t28_4 t28_5 t28_6 =>
 SY29 h5 a2 t28_0 t28_1 t28_2 t28_3 t28_4 t28_5 t28_6 fun h6 =>
 LY29 h6 a2 fun r0_0 r0_1 r0_2 r0_3 r0_4 r0_5 r0_6 =>
 K r0_0 r0_1 r0_2 r0_3 r0_4 r0_5 r0_6 h6)) (
 St h4 (a3.add 1) (.bool false) fun h5 =>
 LY29 h5 a3 fun t28_0 t28_1 t28_2 t28_3 t28_4 t28_5 t28_6 =>
 SY29 h5 a2 t28_0 t28_1 t28_2 t28_3 t28_4 t28_5 t28_6 fun h6 =>
 LY29 h6 a2 fun r0_0 r0_1 r0_2 r0_3 r0_4 r0_5 r0_6 =>
 K r0_0 r0_1 r0_2 r0_3 r0_4 r0_5 r0_6 h6))) :
 Fn184 t_0 t_1 t_2 t_3 t_4 h K Kp:=fnof (ann:=ann184) (o:=ord184) (zs:=z184) (Kv:=kv184 K) Tryz.func231 (by kernel_rfl) H (by kernel_rfl) (by kernel_rfl)
end
section
noncomputable def code185:Code:=Tryz.f232.body.getD .skip
def ann185:Ann:=[(2003,[3,6,7,8])]
def ord185:OrdT:=[]
def z185:List Value:=[(.slice none 0 0)]
def kv185 (K:Sl→HP):Value→HP:=fun v h=>rS v fun r0=>K r0 h
variable (K:Sl→HP) (Kp:PK) 
noncomputable def c185:Cx:=⟨Tryz.prog,ann185,ord185,none,code185,(retQ Tryz.prog Tryz.f232.results.toList z185 (kv185 K)),Kp⟩
abbrev mk185_1 (x6:Sl) (x7:Int) (x3:Sl) (x8:Int):Fr:=([nO,nO,nO,vS x3,nO,nO,vS x6,vI x7,vI x8]++nn 16)
def L185_1 (x6:Sl) (x7:Int) (x3:Sl) (x8:Int):HP:=semL (c185 K Kp) 2003 [1,1,0,1,0] [] (mk185_1 x6 x7 x3 x8)
variable {K Kp} {x6:Sl} {x7:Int} {h:Hp}
theorem L185_1.rule:LR2 (L185_1 K Kp x6 x7) (mk185_1 x6 x7) fun N1 (x3:Sl) (x8:Int) h =>
 (If (decide (x8 < x7)) (
 Ix x6.a x6.n 7 x8 fun a10 =>
 LY29 h a10 fun t11_0 t11_1 t11_2 t11_3 t11_4 t11_5 t11_6 =>
 New h zY29 Y29 fun a5 h1 =>
 SY29 h1 a5 t11_0 t11_1 t11_2 t11_3 t11_4 t11_5 t11_6 fun h2 =>
 Ld h2 ((a5.add 2).add 4) Sl.v fun t14 =>
 Fn185 t14 h2 (fun t15 h3 =>
 St h3 ((a5.add 2).add 4) (Sl.v t15) fun h4 =>
 LY29 h4 a5 fun t19_0 t19_1 t19_2 t19_3 t19_4 t19_5 t19_6 =>
 New h4 #[(.string t19_0),(.bool t19_1),(.int .i64 t19_2),(.int .i64 t19_3),(.int .i64 t19_4),(.int .i64 t19_5),(Sl.v t19_6)] Y29 fun a20 h5 =>
 Ap h5 Y29 zY29 7 80 x3 1 (rd h5 (some a20) (1*7)) fun t21 h6 =>
 Wr .i64 (x8+1) fun t22 =>
 N1 (mk185_1 x6 x7 t21 t22) h6) Kp) (
 Fn208 x3 h (fun t24 h1 =>
 K t24 h1) Kp)) :=
 loop2 (fun _ _ _=>rfl) fun _ _ _ _=>by kernel_rfl
theorem Fn185.of {l:Sl} (H :
 L185_1 K Kp l (l.n:Int) (⟨none,0,0⟩:Sl) 0 h) :
 Fn185 l h K Kp:=fnof (ann:=ann185) (o:=ord185) (zs:=z185) (Kv:=kv185 K) Tryz.func232 (by kernel_rfl) H (by kernel_rfl) (by kernel_rfl)
end
end Go.Proofs.YtlbbdbdjiekkaaaGreatDoor
set_option maxRecDepth 100000
set_option maxHeartbeats 200000
/- What the functions do, printed by program (gen.py) in the words of ShCore; each text is held against the loaded program by the kernel. -/
namespace Go.Proofs.YtlbbdbdjiekkaaaGreatDoor
open Go Go.Sh
section
noncomputable def code207:Code:=Tryz.f233.body.getD .skip
def ann207:Ann:=[(2000002,[0])]
def ord207:OrdT:=[(2,(OT.l [0,1,2,3,4,5,6,7,8,9,10,11,12,13,14,15,16,17,18,19,20,21,22,23,24,25,26,27,28,29,30,31,32,33,34,35,36,37,38,39,40,41,42,43,44,45,46] .fin),[0,1,3,7,0,16,48,112,240,511,0,1024,3072,7168,15360,32767,0,65536,196608,458752,983040,2097151,0,4194304,12582912,29360128,62914560,134217727,0,268435456,805306368,1879048192,4026531840,8589934591,0,17179869184,51539607552,120259084288,257698037760,549755813887,0,1099511627776,3298534883328,7696581394432,16492674416640,35184372088831,70368744177663])]
def z207:List Value:=[(.int .u64 0)]
def kv207 (K:Int→HP):Value→HP:=fun v h=>rI v fun r0=>K r0 h
variable (K:Int→HP) (Kp:PK) 
noncomputable def c207:Cx:=⟨Tryz.prog,ann207,ord207,none,code207,(retQ Tryz.prog Tryz.f233.results.toList z207 (kv207 K)),Kp⟩
def J207_1 (x0:Sl):HP:=semJ (c207 K Kp) [1,1] [] ([vS x0]++nn 70)
variable {K Kp} {x0:Sl} {h:Hp}
theorem J207_1.of (H :
 Ix x0.a x0.n 1 0 fun a26 =>
 Ld h a26 (.int .u8) fun t27 =>
 Wr .u64 t27 fun t28 =>
 Ix x0.a x0.n 1 1 fun a30 =>
 Ld h a30 (.int .u8) fun t31 =>
 Wr .u64 t31 fun t32 =>
 Nn 8<|Wr .u64 (t32*2 ^ (min (Int.toNat 8) (IntKind.bits .u64))) fun t33 =>
 Lt (bitsV .or .u64 t28 t33) fun t34 =>
 Ix x0.a x0.n 1 2 fun a36 =>
 Ld h a36 (.int .u8) fun t37 =>
 Wr .u64 t37 fun t38 =>
 Nn 16<|Wr .u64 (t38*2 ^ (min (Int.toNat 16) (IntKind.bits .u64))) fun t39 =>
 Lt (bitsV .or .u64 t34 t39) fun t40 =>
 Ix x0.a x0.n 1 3 fun a42 =>
 Ld h a42 (.int .u8) fun t43 =>
 Wr .u64 t43 fun t44 =>
 Nn 24<|Wr .u64 (t44*2 ^ (min (Int.toNat 24) (IntKind.bits .u64))) fun t45 =>
 Lt (bitsV .or .u64 t40 t45) fun t46 =>
 Ix x0.a x0.n 1 4 fun a48 =>
 Ld h a48 (.int .u8) fun t49 =>
 Wr .u64 t49 fun t50 =>
 Nn 32<|Wr .u64 (t50*2 ^ (min (Int.toNat 32) (IntKind.bits .u64))) fun t51 =>
 Lt (bitsV .or .u64 t46 t51) fun t52 =>
 Ix x0.a x0.n 1 5 fun a54 =>
 Ld h a54 (.int .u8) fun t55 =>
 Wr .u64 t55 fun t56 =>
 Nn 40<|Wr .u64 (t56*2 ^ (min (Int.toNat 40) (IntKind.bits .u64))) fun t57 =>
 Lt (bitsV .or .u64 t52 t57) fun t58 =>
 Ix x0.a x0.n 1 6 fun a60 =>
 Ld h a60 (.int .u8) fun t61 =>
 Wr .u64 t61 fun t62 =>
 Nn 48<|Wr .u64 (t62*2 ^ (min (Int.toNat 48) (IntKind.bits .u64))) fun t63 =>
 Lt (bitsV .or .u64 t58 t63) fun t64 =>
 Ix x0.a x0.n 1 7 fun a66 =>
 Ld h a66 (.int .u8) fun t67 =>
 Wr .u64 t67 fun t68 =>
 Nn 56<|Wr .u64 (t68*2 ^ (min (Int.toNat 56) (IntKind.bits .u64))) fun t69 =>
 Lt (bitsV .or .u64 t64 t69) fun t70 =>
 K t70 h) :
 J207_1 K Kp x0 h:=jof H (by kernel_rfl)
theorem Fn207.of {s:Sl} (H :
 J207_1 K Kp s h) :
 Fn207 s h K Kp:=fnof (ann:=ann207) (o:=ord207) (zs:=z207) (Kv:=kv207 K) Tryz.func233 (by kernel_rfl) H (by kernel_rfl) (by kernel_rfl)
end
section
def ann161:Ann:=[]
def ord161:OrdT:=[]
def z161:List Value:=[(.bool false)]
def kv161 (K:Bool→HP):Value→HP:=fun v h=>rB v fun r0=>K r0 h
variable (K:Bool→HP) (Kp:PK) 
variable {K Kp} {h:Hp}
theorem Fn161.of {b:Sl} {i:Int} (H :
 Dv 8<|Wr .i64 (Int.tdiv i 8) fun t7 =>
 Ix b.a b.n 1 t7 fun a8 =>
 Ld h a8 (.int .u8) fun t9 =>
 Dv 8<|Lt (Int.tmod i 8) fun t11 =>
 Nn t11<|Lt (Int.fdiv t9 (2 ^ (min (Int.toNat t11) (IntKind.bits .u8)))) fun t12 =>
 Lt (bitsV .and .u8 t12 1) fun t13 =>
 K (t13 == 1) h) :
 Fn161 b i h K Kp:=fnof (ann:=ann161) (o:=ord161) (zs:=z161) (Kv:=kv161 K) Tryz.func234 (by kernel_rfl) H (by kernel_rfl) (by kernel_rfl)
end
section
def ann112:Ann:=[]
def ord112:OrdT:=[(1,(OT.l [0,1,2,3,4,5,6,7,9,10,11,12,8,13,14] .fin),[0,1,3,7,15,0,63,127,255,0,512,1536,3584,8191,16383])]
def z112:List Value:=[(.agg #[(.slice none 0 0),(.int .i64 0),(.pointer none)])]
def kv112 (K:Sl→Int→(Option Addr)→HP):Value→HP:=fun v h=>rG v fun cs0=>rS (cs0.getD 0 undef) fun r0_0=>rI (cs0.getD 1 undef) fun r0_1=>rP (cs0.getD 2 undef) fun r0_2=>K r0_0 r0_1 r0_2 h
variable (K:Sl→Int→(Option Addr)→HP) (Kp:PK) 
variable {K Kp} {h:Hp}
theorem Fn112.of {a:Option Addr} {k:Int} (H :
 New h zY167 Y167 fun a4 h1 =>
 NN a fun p6 =>
 Ld h1 ((p6.add 7).add 3) Sl.v fun t9 =>
 Ix t9.a t9.n 1 k fun a11 =>
 Ld h1 a11 Sl.v fun t12 =>
 NN a fun p15 =>
 Ld h1 (p15.add 15) .pointer fun t17 =>
 Fn136 t12 h1 (fun t13_0 t13_1 t13_2 h2 =>
 Keep h1 h2 (p15.add 15) 1 <|
 Fn137 t13_0 t13_1 t13_2 t17 h2 (fun t18_0 t18_1 t18_2 h3 =>
 SY167 h3 a4 t18_0 t18_1 t18_2 fun h4 =>
 LY167 h4 a4 fun r0_0 r0_1 r0_2 =>
 K r0_0 r0_1 r0_2 h4) Kp) Kp) :
 Fn112 a k h K Kp:=fnof (ann:=ann112) (o:=ord112) (zs:=z112) (Kv:=kv112 K) Tryz.func235 (by kernel_rfl) H (by kernel_rfl) (by kernel_rfl)
end
section
def ann115:Ann:=[]
def ord115:OrdT:=[]
def z115:List Value:=[(.int .u8 0),(.int .i64 0)]
def kv115 (K:Int→Int→HP):Value→HP:=fun v h=>rU v fun vs=>rI (vs.getD 0 undef) fun r0=>rI (vs.getD 1 undef) fun r1=>K r0 r1 h
variable (K:Int→Int→HP) (Kp:PK) 
variable {K Kp} {h:Hp}
theorem Fn115.of {v_0:Sl} {v_1:Int} {v_2:Option Addr} {atv:Int} (H :
 NY167 h v_0 v_1 v_2 fun a2 h1 =>
 LY167 h1 a2 fun t6_0 t6_1 t6_2 =>
 Fn139 t6_0 t6_1 t6_2 atv 1 h1 (fun t8 h2 =>
 If (!t8) (
 K 0 2 h2) (
 LY167 h2 a2 fun t10_0 t10_1 t10_2 =>
 Fn140 t10_0 t10_1 t10_2 atv 1 h2 (fun t12 h3 =>
 Ix t12.a t12.n 1 0 fun a13 =>
 Ld h3 a13 (.int .u8) fun t14 =>
 K t14 0 h3) Kp)) Kp) :
 Fn115 v_0 v_1 v_2 atv h K Kp:=fnof (ann:=ann115) (o:=ord115) (zs:=z115) (Kv:=kv115 K) Tryz.func236 (by kernel_rfl) H (by kernel_rfl) (by kernel_rfl)
end
section
def ann208:Ann:=[]
def ord208:OrdT:=[]
def z208:List Value:=[(.slice none 0 0)]
def kv208 (K:Sl→HP):Value→HP:=fun v h=>rS v fun r0=>K r0 h
variable (K:Sl→HP) (Kp:PK) 
variable {K Kp} {h:Hp}
theorem Fn208.of {s:Sl} (H :
 Slc s 7 none (some (s.n:Int)) (some (s.n:Int)) fun t8 =>
 K t8 h) :
 Fn208 s h K Kp:=fnof (ann:=ann208) (o:=ord208) (zs:=z208) (Kv:=kv208 K) Tryz.func243 (by kernel_rfl) H (by kernel_rfl) (by kernel_rfl)
end
section
def ann136:Ann:=[]
def ord136:OrdT:=[]
def z136:List Value:=[(.agg #[(.slice none 0 0),(.int .i64 0),(.pointer none)])]
def kv136 (K:Sl→Int→(Option Addr)→HP):Value→HP:=fun v h=>rG v fun cs0=>rS (cs0.getD 0 undef) fun r0_0=>rI (cs0.getD 1 undef) fun r0_1=>rP (cs0.getD 2 undef) fun r0_2=>K r0_0 r0_1 r0_2 h
variable (K:Sl→Int→(Option Addr)→HP) (Kp:PK) 
variable {K Kp} {h:Hp}
theorem Fn136.of {b:Sl} (H :
 New h zY167 Y167 fun a2 h1 =>
 Slc b 1 none (some (b.n:Int)) (some (b.n:Int)) fun t8 =>
 SY167 h1 a2 t8 0 none fun h2 =>
 LY167 h2 a2 fun r0_0 r0_1 r0_2 =>
 K r0_0 r0_1 r0_2 h2) :
 Fn136 b h K Kp:=fnof (ann:=ann136) (o:=ord136) (zs:=z136) (Kv:=kv136 K) Tryz.func244 (by kernel_rfl) H (by kernel_rfl) (by kernel_rfl)
end
section
def ann137:Ann:=[]
def ord137:OrdT:=[]
def z137:List Value:=[(.agg #[(.slice none 0 0),(.int .i64 0),(.pointer none)])]
def kv137 (K:Sl→Int→(Option Addr)→HP):Value→HP:=fun v h=>rG v fun cs0=>rS (cs0.getD 0 undef) fun r0_0=>rI (cs0.getD 1 undef) fun r0_1=>rP (cs0.getD 2 undef) fun r0_2=>K r0_0 r0_1 r0_2 h
variable (K:Sl→Int→(Option Addr)→HP) (Kp:PK) 
variable {K Kp} {h:Hp}
theorem Fn137.of {v_0:Sl} {v_1:Int} {v_2 w:Option Addr} (H :
 NY167 h v_0 v_1 v_2 fun a2 h1 =>
 New h1 zY167 Y167 fun a4 h2 =>
 St h2 (a2.add 2) (.pointer w) fun h3 =>
 LY167 h3 a2 fun t7_0 t7_1 t7_2 =>
 SY167 h3 a4 t7_0 t7_1 t7_2 fun h4 =>
 LY167 h4 a4 fun r0_0 r0_1 r0_2 =>
 K r0_0 r0_1 r0_2 h4) :
 Fn137 v_0 v_1 v_2 w h K Kp:=fnof (ann:=ann137) (o:=ord137) (zs:=z137) (Kv:=kv137 K) Tryz.func245 (by kernel_rfl) H (by kernel_rfl) (by kernel_rfl)
end
section
noncomputable def code139:Code:=Tryz.f246.body.getD .skip
def ann139:Ann:=[(41006,[1,2,3,12]),(41013,[1,2,3,19])]
def ord139:OrdT:=[]
def z139:List Value:=[(.bool false)]
def kv139 (K:Bool→HP):Value→HP:=fun v h=>rB v fun r0=>K r0 h
variable (K:Bool→HP) (Kp:PK) 
noncomputable def c139:Cx:=⟨Tryz.prog,ann139,ord139,none,code139,(retQ Tryz.prog Tryz.f246.results.toList z139 (kv139 K)),Kp⟩
def J139_2 (x1 x2:Int) (x3:Addr) (x19:Bool):HP:=semR (c139 K Kp) [1,0] [] 1 [13,14,15,16,17,18,19,20,21,22] ([nO,vI x1,vI x2,vP x3,nO,nO,nO,nO,nO,nO,nO,nO,nO,nO,nO,nO,nO,nO,nO,some (.bool x19)]++nn 9)
def J139_1 (x1 x2:Int) (x3:Addr) (x12:Bool):HP:=semR (c139 K Kp) [1,0] [] 1 [6,7,8,9,10,11,12,13,14,15,16,17,18,19,20,21,22] ([nO,vI x1,vI x2,vP x3,nO,nO,nO,nO,nO,nO,nO,nO,some (.bool x12)]++nn 16)
variable {K Kp} {x1 x2:Int} {x3:Addr} {x19 x12:Bool} {h:Hp}
theorem J139_2.of (H :
 If x19 (
 Ld h x3 Sl.v fun t23 =>
 Wr .i64 ((t23.n:Int) - x1) fun t26 =>
 K (decide (x2≤t26)) h) (
 K false h)) :
 J139_2 K Kp x1 x2 x3 x19 h:=jof H (by kernel_rfl)
theorem J139_1.of (H :
 If x12 (
 Ld h x3 Sl.v fun t16 =>
 J139_2 K Kp x1 x2 x3 (decide (x1≤(t16.n:Int))) h) (
 J139_2 K Kp x1 x2 x3 false h)) :
 J139_1 K Kp x1 x2 x3 x12 h:=jof H (by kernel_rfl)
theorem Fn139.of {v_0:Sl} {v_1:Int} {v_2:Option Addr} {fromv n:Int} (H :
 NY167 h v_0 v_1 v_2 fun a3 h1 =>
 If (decide (fromv≥0)) (
 J139_1 K Kp fromv n a3 (decide (n≥0)) h1) (
 J139_1 K Kp fromv n a3 false h1)) :
 Fn139 v_0 v_1 v_2 fromv n h K Kp:=fnof (ann:=ann139) (o:=ord139) (zs:=z139) (Kv:=kv139 K) Tryz.func246 (by kernel_rfl) H (by kernel_rfl) (by kernel_rfl)
end
section
noncomputable def code140:Code:=Tryz.f247.body.getD .skip
def ann140:Ann:=[(3209999,[1,2,3,13])]
def ord140:OrdT:=[(2,(OT.l [0,1,2,3,4,5,6,7,8,9,10,11,12,13,14,15,16,17,18,19,20,21,22] .fin),[0,1,0,4,12,28,60,0,128,0,896,0,2048,0,14336,0,63488,130944,262016,524284,1048575,2097151,4194303])]
def z140:List Value:=[(.slice none 0 0)]
def kv140 (K:Sl→HP):Value→HP:=fun v h=>rS v fun r0=>K r0 h
variable (K:Sl→HP) (Kp:PK) 
noncomputable def c140:Cx:=⟨Tryz.prog,ann140,ord140,none,code140,(retQ Tryz.prog Tryz.f247.results.toList z140 (kv140 K)),Kp⟩
def J140_1 (x1 x2:Int) (x3:Addr) (x13:Bool):HP:=semJ (c140 K Kp) [1,0,1] [] ([nO,vI x1,vI x2,vP x3,nO,nO,nO,nO,nO,nO,nO,nO,nO,some (.bool x13)]++nn 32)
variable {K Kp} {x1 x2:Int} {x3:Addr} {x13:Bool} {h:Hp}
theorem J140_1.of (H :
 If x13 (
 Ld h (x3.add 2) .pointer fun t15 =>
 Ld h (x3.add 2) .pointer fun t17 =>
 NN t17 fun p18 =>
 Ld h p18 Sl.v fun t20 =>
 Ld h (x3.add 1) mI fun t22 =>
 Wr .i64 (t22+x1) fun t24 =>
 Ld h (x3.add 1) mI fun t26 =>
 Wr .i64 (t26+x1) fun t28 =>
 Wr .i64 (t28+x2) fun t30 =>
 New h #[(.int .i64 t24),(.int .i64 t30)] Y138 fun a32 h1 =>
 Keep h h1 p18 1 <|
 Keep h h1 (x3.add 2) 1 <|
 Keep h h1 (x3.add 2) 1 <|
 Ap h1 Y138 #[(.int .i64 0),(.int .i64 0)] 2 16 t20 1 (rd h1 (some a32) (1*2)) fun t33 h2 =>
 Keep h1 h2 (x3.add 2) 1 <|
 NN t15 fun p34 =>
 St h2 p34 (Sl.v t33) fun h3 =>
 Ld h3 x3 Sl.v fun t37 =>
 Wr .i64 (x1+x2) fun t41 =>
 Wr .i64 (x1+x2) fun t44 =>
 Slc t37 1 (some x1) (some t41) (some t44) fun t45 =>
 K t45 h3) (
 Ld h x3 Sl.v fun t37 =>
 Wr .i64 (x1+x2) fun t41 =>
 Wr .i64 (x1+x2) fun t44 =>
 Slc t37 1 (some x1) (some t41) (some t44) fun t45 =>
 K t45 h)) :
 J140_1 K Kp x1 x2 x3 x13 h:=jof H (by kernel_rfl)
theorem Fn140.of {v_0:Sl} {v_1:Int} {v_2:Option Addr} {fromv n:Int} (H :
 NY167 h v_0 v_1 v_2 fun a3 h1 =>
 Ld h1 (a3.add 2) .pointer fun t8 =>
 If (!(Option.isNone t8)) (
 J140_1 K Kp fromv n a3 (decide (n > 0)) h1) (
 J140_1 K Kp fromv n a3 false h1)) :
 Fn140 v_0 v_1 v_2 fromv n h K Kp:=fnof (ann:=ann140) (o:=ord140) (zs:=z140) (Kv:=kv140 K) Tryz.func247 (by kernel_rfl) H (by kernel_rfl) (by kernel_rfl)
end
section
def ann342:Ann:=[]
def ord342:OrdT:=[]
def z342:List Value:=[(.int .i64 0)]
def kv342 (K:Int→HP):Value→HP:=fun v h=>rI v fun r0=>K r0 h
variable (K:Int→HP) (Kp:PK) 
variable {K Kp} {h:Hp}
theorem Fn342.of {b:Option Addr} (H :
 NN b fun p4 =>
 Ld h (p4.add 7) mI fun t6 =>
 K t6 h) :
 Fn342 b h K Kp:=fnof (ann:=ann342) (o:=ord342) (zs:=z342) (Kv:=kv342 K) Tryz.func275 (by kernel_rfl) H (by kernel_rfl) (by kernel_rfl)
end
section
def ann346:Ann:=[]
def ord346:OrdT:=[]
def z346:List Value:=[(.int .i64 0)]
def kv346 (K:Int→HP):Value→HP:=fun v h=>rI v fun r0=>K r0 h
variable (K:Int→HP) (Kp:PK) 
variable {K Kp} {h:Hp}
theorem Fn346.of {b:Option Addr} (H :
 NN b fun p4 =>
 Ld h (p4.add 10) mI fun t6 =>
 K t6 h) :
 Fn346 b h K Kp:=fnof (ann:=ann346) (o:=ord346) (zs:=z346) (Kv:=kv346 K) Tryz.func279 (by kernel_rfl) H (by kernel_rfl) (by kernel_rfl)
end
section
def ann348:Ann:=[]
def ord348:OrdT:=[(1,(OT.l [0,1,2,3,4,5,6,7,8,9,10] .fin),[0,1,3,7,0,16,48,112,0,511,1023])]
def z348:List Value:=[(.agg #[(.int .i64 0),(.int .i64 0),(.int .i64 0),(.slice none 0 0),(.slice none 0 0),(.slice none 0 0)])]
def kv348 (K:Int→Int→Int→Sl→Sl→Sl→HP):Value→HP:=fun v h=>rG v fun cs0=>rI (cs0.getD 0 undef) fun r0_0=>rI (cs0.getD 1 undef) fun r0_1=>rI (cs0.getD 2 undef) fun r0_2=>rS (cs0.getD 3 undef) fun r0_3=>rS (cs0.getD 4 undef) fun r0_4=>rS (cs0.getD 5 undef) fun r0_5=>K r0_0 r0_1 r0_2 r0_3 r0_4 r0_5 h
variable (K:Int→Int→Int→Sl→Sl→Sl→HP) (Kp:PK) 
variable {K Kp} {h:Hp}
theorem Fn348.of {b:Option Addr} {buffers:Sl} (H :
 New h zY33 Y33 fun a4 h1 =>
 NN b fun p6 =>
 Ld h1 (p6.add 7) mI fun t8 =>
 NN b fun p10 =>
 Ld h1 (p10.add 8) mI fun t12 =>
 SY33 h1 a4 t8 0 t12 buffers (⟨none,0,0⟩:Sl) (⟨none,0,0⟩:Sl) fun h2 =>
 LY33 h2 a4 fun r0_0 r0_1 r0_2 r0_3 r0_4 r0_5 =>
 K r0_0 r0_1 r0_2 r0_3 r0_4 r0_5 h2) :
 Fn348 b buffers h K Kp:=fnof (ann:=ann348) (o:=ord348) (zs:=z348) (Kv:=kv348 K) Tryz.func281 (by kernel_rfl) H (by kernel_rfl) (by kernel_rfl)
end
section
def ann349:Ann:=[]
def ord349:OrdT:=[(4,(OT.l [0,1,2,3,4,5,6,7,8,9,10,11,12] .fin),[0,1,3,7,0,16,48,112,240,496,1023,2047,4095])]
def z349:List Value:=[(.nilFunc)]
def kv349 (K:Value→HP):Value→HP:=fun v h=>rA v fun r0=>K r0 h
variable (K:Value→HP) (Kp:PK) 
variable {K Kp} {h:Hp}
theorem Fn349.of {b:Option Addr} (H :
 New h #[(.pointer b)] Y421 fun a1 h1 =>
 Ld h1 a1 .pointer fun t5 =>
 NN t5 fun p6 =>
 LY352 h1 p6 fun t7_0 t7_1 t7_2 t7_3 t7_4 t7_5 t7_6 t7_7 t7_8 t7_9 t7_10 t7_11 t7_12 t7_13 t7_14 t7_15 =>
 New h1 zY352 Y352 fun a3 h2 =>
 SY352 h2 a3 t7_0 t7_1 t7_2 t7_3 t7_4 t7_5 t7_6 t7_7 t7_8 t7_9 t7_10 t7_11 t7_12 t7_13 t7_14 t7_15 fun h3 =>
 New h3 #[(.int .u8 0)] Y8 fun a4 h4 =>
 St h4 a4 (.int .u8 0) fun h5 =>
 Ld h5 a1 .pointer fun t8 =>
 NN t8 fun p9 =>
 Ld h5 (p9.add 9) Sl.v fun t11 =>
 If (decide ((t11.n:Int) > 0)) (
 Ld h5 a1 .pointer fun t14 =>
 NN t14 fun p15 =>
 Ld h5 (p15.add 9) Sl.v fun t17 =>
 Ld h5 a1 .pointer fun t18 =>
 NN t18 fun p19 =>
 Ld h5 (p19.add 9) Sl.v fun t21 =>
 Wr .i64 ((t21.n:Int) - 1) fun t23 =>
 Ix t17.a t17.n 1 t23 fun a24 =>
 Ld h5 a24 (.int .u8) fun t25 =>
 St h5 a4 (.int .u8 t25) fun h6 =>
 K (.func (.func I352) #[] #[(.pointer (some a3)),(.pointer (some a1)),(.pointer (some a4))]) h6) (
 K (.func (.func I352) #[] #[(.pointer (some a3)),(.pointer (some a1)),(.pointer (some a4))]) h5)) :
 Fn349 b h K Kp:=fnof (ann:=ann349) (o:=ord349) (zs:=z349) (Kv:=kv349 K) Tryz.func282 (by kernel_rfl) H (by kernel_rfl) (by kernel_rfl)
end
section
noncomputable def code350:Code:=Tryz.f283.body.getD .skip
def ann350:Ann:=[(2000005,[0,1]),(2000008,[0])]
def ord350:OrdT:=[(7,(OT.l [0,1,2,3,4,5,6,7,8,9,10,11,12,13,14,15,16,17,18,19] .fin),[0,1,3,7,0,16,48,112,240,511,1023,0,2048,6144,14336,30720,63488,131071,262143,524287])]
def z350:List Value:=[(.int .i64 0)]
def kv350 (K:Int→HP):Value→HP:=fun v h=>rI v fun r0=>K r0 h
variable (K:Int→HP) (Kp:PK) 
noncomputable def c350:Cx:=⟨Tryz.prog,ann350,ord350,none,code350,(retQ Tryz.prog Tryz.f283.results.toList z350 (kv350 K)),Kp⟩
def J350_2 (x0:Option Addr):HP:=semJ (c350 K Kp) [1,1,1,1] [] ([some (.pointer x0)]++nn 58)
def J350_1 (x0:Option Addr) (x1:Bool):HP:=semJ (c350 K Kp) [1,1,1] [] ([some (.pointer x0),some (.bool x1)]++nn 57)
variable {K Kp} {x0:Option Addr} {x1:Bool} {h:Hp}
theorem J350_2.of (H :
 NN x0 fun p53 =>
 Ld h (p53.add 7) mI fun t55 =>
 Wr .i64 (t55+1) fun t56 =>
 NN x0 fun p57 =>
 St h (p57.add 7) (.int .i64 t56) fun h1 =>
 K 0 h1) :
 J350_2 K Kp x0 h:=jof H (by kernel_rfl)
theorem J350_1.of (H :
 If x1 (
 NN x0 fun p27 =>
 Ld h (p27.add 8) mI fun t29 =>
 Wr .i64 (t29+1) fun t30 =>
 NN x0 fun p31 =>
 St h (p31.add 8) (.int .i64 t30) fun h1 =>
 J350_2 K Kp x0 h1) (
 NN x0 fun p34 =>
 Ld h (p34.add 9) Sl.v fun t36 =>
 NN x0 fun p38 =>
 Ld h (p38.add 7) mI fun t40 =>
 Dv 8<|Wr .i64 (Int.tdiv t40 8) fun t41 =>
 Ix t36.a t36.n 1 t41 fun a42 =>
 Ld h a42 (.int .u8) fun t43 =>
 NN x0 fun p45 =>
 Ld h (p45.add 7) mI fun t47 =>
 Dv 8<|Lt (Int.tmod t47 8) fun t48 =>
 Nn t48<|Wr .u8 ((1:Int)*2 ^ (min (Int.toNat t48) (IntKind.bits .u8))) fun t49 =>
 Lt (bitsV .or .u8 t43 t49) fun t50 =>
 Ix t36.a t36.n 1 t41 fun a51 =>
 St h a51 (.int .u8 t50) fun h1 =>
 J350_2 K Kp x0 h1)) :
 J350_1 K Kp x0 x1 h:=jof H (by kernel_rfl)
theorem Fn350.of {b:Option Addr} {null:Bool} (H :
 NN b fun p6 =>
 Ld h (p6.add 7) mI fun t8 =>
 If (decide (t8≥4096)) (
 K 3 h) (
 NN b fun p11 =>
 Ld h (p11.add 7) mI fun t13 =>
 Dv 8<|Lt (Int.tmod t13 8) fun t14 =>
 If (t14 == 0) (
 NN b fun p18 =>
 Ld h (p18.add 9) Sl.v fun t20 =>
 New h #[(.int .u8 0)] Y8 fun a21 h1 =>
 Ap h1 Y8 #[(.int .u8 0)] 1 1 t20 1 (rd h1 (some a21) (1*1)) fun t22 h2 =>
 NN b fun p23 =>
 St h2 (p23.add 9) (Sl.v t22) fun h3 =>
 J350_1 K Kp b null h3) (
 J350_1 K Kp b null h))) :
 Fn350 b null h K Kp:=fnof (ann:=ann350) (o:=ord350) (zs:=z350) (Kv:=kv350 K) Tryz.func283 (by kernel_rfl) H (by kernel_rfl) (by kernel_rfl)
end
section
def ann351:Ann:=[]
def ord351:OrdT:=[]
def z351:List Value:=[(.int .i64 0)]
def kv351 (K:Int→HP):Value→HP:=fun v h=>rI v fun r0=>K r0 h
variable (K:Int→HP) (Kp:PK) 
variable {K Kp} {h:Hp}
theorem Fn351.of {b:Option Addr} {n:Int} (H :
 NN b fun p6 =>
 Ld h (p6.add 10) mI fun t8 =>
 Wr .i64 (t8+n) fun t10 =>
 NN b fun p11 =>
 St h (p11.add 10) (.int .i64 t10) fun h1 =>
 NN b fun p14 =>
 Ld h1 (p14.add 10) mI fun t16 =>
 If (decide (t16 > 4194304)) (
 K 3 h1) (
 K 0 h1)) :
 Fn351 b n h K Kp:=fnof (ann:=ann351) (o:=ord351) (zs:=z351) (Kv:=kv351 K) Tryz.func284 (by kernel_rfl) H (by kernel_rfl) (by kernel_rfl)
end
section
def ann352:Ann:=[]
def ord352:OrdT:=[(2,(OT.l [0,1,2,3,4,5,6,7,8,9,10,11,12] .fin),[0,1,3,7,0,16,48,112,240,496,0,2047,4095])]
def z352:List Value:=[]
def kv352 (K:HP):Value→HP:=fun _ h=>K h
variable (K:HP) (Kp:PK) 
variable {K Kp} {h:Hp}
theorem Fn352.of {c0 c1 c2:Addr} (H :
 Ld h c1 .pointer fun t3 =>
 LY352 h c0 fun t4_0 t4_1 t4_2 t4_3 t4_4 t4_5 t4_6 t4_7 t4_8 t4_9 t4_10 t4_11 t4_12 t4_13 t4_14 t4_15 =>
 NN t3 fun p5 =>
 SY352 h p5 t4_0 t4_1 t4_2 t4_3 t4_4 t4_5 t4_6 t4_7 t4_8 t4_9 t4_10 t4_11 t4_12 t4_13 t4_14 t4_15 fun h1 =>
 Ld h1 c1 .pointer fun t6 =>
 NN t6 fun p7 =>
 Ld h1 (p7.add 9) Sl.v fun t9 =>
 If (decide ((t9.n:Int) > 0)) (
 Ld h1 c1 .pointer fun t12 =>
 NN t12 fun p13 =>
 Ld h1 (p13.add 9) Sl.v fun t15 =>
 Ld h1 c1 .pointer fun t16 =>
 NN t16 fun p17 =>
 Ld h1 (p17.add 9) Sl.v fun t19 =>
 Wr .i64 ((t19.n:Int) - 1) fun t21 =>
 Ld h1 c2 (.int .u8) fun t22 =>
 Ix t15.a t15.n 1 t21 fun a23 =>
 St h1 a23 (.int .u8 t22) fun h2 =>
 K  h2) (
 K  h1)) :
 Fn352 c0 c1 c2 h K Kp:=fnof (ann:=ann352) (o:=ord352) (zs:=z352) (Kv:=kv352 K) Tryz.func285 (by kernel_rfl) H (by kernel_rfl) (by kernel_rfl)
end
end Go.Proofs.YtlbbdbdjiekkaaaGreatDoor
set_option maxRecDepth 100000
set_option maxHeartbeats 200000
/- What the functions do, printed by program (gen.py) in the words of ShCore; each text is held against the loaded program by the kernel. -/
namespace Go.Proofs.YtlbbdbdjiekkaaaGreatDoor
open Go Go.Sh
section
def ann357:Ann:=[]
def ord357:OrdT:=[]
def z357:List Value:=[(.slice none 0 0)]
def kv357 (K:Sl→HP):Value→HP:=fun v h=>rS v fun r0=>K r0 h
variable (K:Sl→HP) (Kp:PK) 
variable {K Kp} {h:Hp}
theorem Fn357.of {b:Option Addr} (H :
 NN b fun p4 =>
 Ld h (p4.add 8) mI fun t6 =>
 If (t6 == 0) (
 K (⟨none,0,0⟩:Sl) h) (
 NN b fun p9 =>
 Ld h (p9.add 9) Sl.v fun t11 =>
 Fn428 t11 h (fun t12 h1 =>
 K t12 h1) Kp)) :
 Fn357 b h K Kp:=fnof (ann:=ann357) (o:=ord357) (zs:=z357) (Kv:=kv357 K) Tryz.func290 (by kernel_rfl) H (by kernel_rfl) (by kernel_rfl)
end
section
noncomputable def code358:Code:=Tryz.f291.body.getD .skip
def ann358:Ann:=[(2003,[1,5,14,15,16]),(2006,[1,5,7,14,15,16,20,21])]
def ord358:OrdT:=[]
def z358:List Value:=[(.slice none 0 0)]
def kv358 (K:Sl→HP):Value→HP:=fun v h=>rS v fun r0=>K r0 h
variable (K:Sl→HP) (Kp:PK) (N1:Fr→HP) 
noncomputable def c358:Cx:=⟨Tryz.prog,ann358,ord358,none,code358,(retQ Tryz.prog Tryz.f291.results.toList z358 (kv358 K)),Kp⟩
abbrev mk358_1 (x1:Int) (x14:Sl) (x15:Int) (x5:Sl) (x16:Int):Fr:=([nO,vI x1,nO,nO,nO,vS x5,nO,nO,nO,nO,nO,nO,nO,nO,vS x14,vI x15,vI x16]++nn 19)
abbrev mk358_2 (x1 x7:Int) (x14:Sl) (x15 x16 x20:Int) (x5:Sl) (x21:Int):Fr:=([nO,vI x1,nO,nO,nO,vS x5,nO,vI x7,nO,nO,nO,nO,nO,nO,vS x14,vI x15,vI x16,nO,nO,nO,vI x20,vI x21]++nn 14)
def L358_2 (x1 x7:Int) (x14:Sl) (x15 x16 x20:Int) (x5:Sl) (x21:Int):HP:=semL (c358 K Kp) 2006 [1,1,0,1,0,0,1,1,0,0,1,1,0] [N1] (mk358_2 x1 x7 x14 x15 x16 x20 x5 x21)
def L358_1 (x1:Int) (x14:Sl) (x15:Int) (x5:Sl) (x16:Int):HP:=semL (c358 K Kp) 2003 [1,1,0,1,0] [] (mk358_1 x1 x14 x15 x5 x16)
variable {K Kp N1} {x1 x7 x15 x16 x20:Int} {x14:Sl} {h:Hp}
theorem L358_2.rule:LR2 (L358_2 K Kp N1 x1 x7 x14 x15 x16 x20) (mk358_2 x1 x7 x14 x15 x16 x20) fun N2 (x5:Sl) (x21:Int) h =>
 (If (decide (x21 < x20)) (
 Wr .u64 x7 fun t26 =>
 Wr .i64 ((8:Int)*x21) fun t28 =>
 Nn t28<|Lt (Int.fdiv t26 (2 ^ (min (Int.toNat t28) (IntKind.bits .u64)))) fun t29 =>
 Wr .u8 t29 fun t30 =>
 New h #[(.int .u8 t30)] Y8 fun a31 h1 =>
 Ap h1 Y8 #[(.int .u8 0)] 1 1 x5 1 (rd h1 (some a31) (1*1)) fun t32 h2 =>
 Wr .i64 (x21+1) fun t33 =>
 N2 (mk358_2 x1 x7 x14 x15 x16 x20 t32 t33) h2) (
 Wr .i64 (x16+1) fun t34 =>
 N1 (mk358_1 x1 x14 x15 x5 t34) h)) :=
 loop2 (fun _ _ _=>rfl) fun _ _ _ _=>by kernel_rfl
theorem L358_1.rule:LR2 (L358_1 K Kp x1 x14 x15) (mk358_1 x1 x14 x15) fun N1 (x5:Sl) (x16:Int) h =>
 (If (decide (x16 < x15)) (
 Ix x14.a x14.n 1 x16 fun a18 =>
 Ld h a18 mI fun t19 =>
 L358_2 K Kp N1 x1 t19 x14 x15 x16 x1 x5 0 h) (
 K x5 h)) :=
 loop2 (fun _ _ _=>rfl) fun _ _ _ _=>by kernel_rfl
theorem Fn358.of {l:Sl} {width:Int} (H :
 Wr .i64 (width*(l.n:Int)) fun t12 =>
 MkS h Y8 #[(.int .u8 0)] 1 1 0 t12 fun t13 h1 =>
 L358_1 K Kp width l (l.n:Int) t13 0 h1) :
 Fn358 l width h K Kp:=fnof (ann:=ann358) (o:=ord358) (zs:=z358) (Kv:=kv358 K) Tryz.func291 (by kernel_rfl) H (by kernel_rfl) (by kernel_rfl)
end
section
def ann428:Ann:=[]
def ord428:OrdT:=[]
def z428:List Value:=[(.slice none 0 0)]
def kv428 (K:Sl→HP):Value→HP:=fun v h=>rS v fun r0=>K r0 h
variable (K:Sl→HP) (Kp:PK) 
variable {K Kp} {h:Hp}
theorem Fn428.of {s:Sl} (H :
 If (Option.isNone s.a) (
 K (⟨none,0,0⟩:Sl) h) (
 New h #[] Y8 fun a5 h1 =>
 Ap h1 Y8 #[(.int .u8 0)] 1 1 (⟨some a5,0,0⟩:Sl) s.n (rd h1 s.a (s.n*1)) fun t7 h2 =>
 K t7 h2)) :
 Fn428 s h K Kp:=fnof (ann:=ann428) (o:=ord428) (zs:=z428) (Kv:=kv428 K) Tryz.func292 (by kernel_rfl) H (by kernel_rfl) (by kernel_rfl)
end
end Go.Proofs.YtlbbdbdjiekkaaaGreatDoor
set_option maxRecDepth 100000
set_option maxHeartbeats 200000
/- What the functions do, printed by program (gen.py) in the words of ShCore; each text is held against the loaded program by the kernel. -/
namespace Go.Proofs.YtlbbdbdjiekkaaaGreatDoor
open Go Go.Sh
end Go.Proofs.YtlbbdbdjiekkaaaGreatDoor
set_option maxRecDepth 100000
set_option maxHeartbeats 200000
/- What the functions do, printed by program (gen.py) in the words of ShCore; each text is held against the loaded program by the kernel. -/
namespace Go.Proofs.YtlbbdbdjiekkaaaGreatDoor
open Go Go.Sh
section
def ann390:Ann:=[]
def ord390:OrdT:=[]
def z390:List Value:=[(.int .i64 0)]
def kv390 (K:Int→HP):Value→HP:=fun v h=>rI v fun r0=>K r0 h
variable (K:Int→HP) (Kp:PK) 
variable {K Kp} {h:Hp}
theorem Fn390.of {kind:Int} (H :
 If (kind == 3) (
 If (kind == 3) (
 K 1 h) (
 If (kind == 4) (
 If (kind == 4) (
 K 2 h) (
 If (kind == 5) (
 If (kind == 5) (
 K 4 h) (
 K 8 h)) (
 If (kind == 9) (
 K 4 h) (
 K 8 h)))) (
 If (kind == 8) (
 K 2 h) (
 If (kind == 5) (
 If (kind == 5) (
 K 4 h) (
 K 8 h)) (
 If (kind == 9) (
 K 4 h) (
 K 8 h)))))) (
 If (kind == 7) (
 K 1 h) (
 If (kind == 4) (
 If (kind == 4) (
 K 2 h) (
 If (kind == 5) (
 If (kind == 5) (
 K 4 h) (
 K 8 h)) (
 If (kind == 9) (
 K 4 h) (
 K 8 h)))) (
 If (kind == 8) (
 K 2 h) (
 If (kind == 5) (
 If (kind == 5) (
 K 4 h) (
 K 8 h)) (
 If (kind == 9) (
 K 4 h) (
 K 8 h))))))) :
 Fn390 kind h K Kp:=fnof (ann:=ann390) (o:=ord390) (zs:=z390) (Kv:=kv390 K) Tryz.func324 (by kernel_rfl) H (by kernel_rfl) (by kernel_rfl)
end
end Go.Proofs.YtlbbdbdjiekkaaaGreatDoor
set_option maxRecDepth 100000
set_option maxHeartbeats 200000
/- What the functions do, printed by program (gen.py) in the words of ShCore; each text is held against the loaded program by the kernel. -/
namespace Go.Proofs.YtlbbdbdjiekkaaaGreatDoor
open Go Go.Sh
section
noncomputable def code405:Code:=Tryz.f339.body.getD .skip
def ann405:Ann:=[(2000019,[0,2,3]),(2008,[0,2,3,38,39,40]),(2015,[0,2,3,4,72,73,74])]
def ord405:OrdT:=[(19,(OT.l [0,1,2,3,4,5,7,6,8,9,10] .fin),[0,1,3,0,8,24,56,0,248,511,1023]),(10,(OT.l [0,1,2,3,4,5,6,7,8,9,10,11,12] .fin),[0,0,2,7,15,0,32,0,128,480,1023,2047,4095]),(13,(OT.l [0,1,2,3,4,5,6,7,8,9] .fin),[0,1,3,7,15,0,32,127,255,511]),(4,(OT.l [0,1,2,3,4,5,6,7,8] .fin),[0,1,3,7,0,16,48,127,255])]
def z405:List Value:=[(.agg #[(.int .i64 0),(.int .i64 0),(.int .i64 0),(.slice none 0 0),(.slice none 0 0),(.slice none 0 0)])]
def kv405 (K:Int→Int→Int→Sl→Sl→Sl→HP):Value→HP:=fun v h=>rG v fun cs0=>rI (cs0.getD 0 undef) fun r0_0=>rI (cs0.getD 1 undef) fun r0_1=>rI (cs0.getD 2 undef) fun r0_2=>rS (cs0.getD 3 undef) fun r0_3=>rS (cs0.getD 4 undef) fun r0_4=>rS (cs0.getD 5 undef) fun r0_5=>K r0_0 r0_1 r0_2 r0_3 r0_4 r0_5 h
variable (K:Int→Int→Int→Sl→Sl→Sl→HP) (Kp:PK) 
noncomputable def c405:Cx:=⟨Tryz.prog,ann405,ord405,none,code405,(retQ Tryz.prog Tryz.f339.results.toList z405 (kv405 K)),Kp⟩
def J405_1 (x0:Option Addr) (x2:Addr) (x3:Sl):HP:=semJ (c405 K Kp) [1,1,1] [] ([some (.pointer x0),nO,vP x2,vS x3]++nn 94)
abbrev mk405_2 (x0:Option Addr) (x2:Addr) (x3 x38:Sl) (x39 x40:Int):Fr:=([some (.pointer x0),nO,vP x2,vS x3,nO,nO,nO,nO,nO,nO,nO,nO,nO,nO,nO,nO,nO,nO,nO,nO,nO,nO,nO,nO,nO,nO,nO,nO,nO,nO,nO,nO,nO,nO,nO,nO,nO,nO,vS x38,vI x39,vI x40]++nn 57)
def L405_2 (x0:Option Addr) (x2:Addr) (x3 x38:Sl) (x39 x40:Int):HP:=semL (c405 K Kp) 2008 [1,1,0,1,1,0,1,0,1,1,0] [] (mk405_2 x0 x2 x3 x38 x39 x40)
abbrev mk405_3 (x0:Option Addr) (x2:Addr) (x3:Sl) (x4:Addr) (x72:Sl) (x73 x74:Int):Fr:=([some (.pointer x0),nO,vP x2,vS x3,vP x4,nO,nO,nO,nO,nO,nO,nO,nO,nO,nO,nO,nO,nO,nO,nO,nO,nO,nO,nO,nO,nO,nO,nO,nO,nO,nO,nO,nO,nO,nO,nO,nO,nO,nO,nO,nO,nO,nO,nO,nO,nO,nO,nO,nO,nO,nO,nO,nO,nO,nO,nO,nO,nO,nO,nO,nO,nO,nO,nO,nO,nO,nO,nO,nO,nO,nO,nO,vS x72,vI x73,vI x74]++nn 23)
def L405_3 (x0:Option Addr) (x2:Addr) (x3:Sl) (x4:Addr) (x72:Sl) (x73 x74:Int):HP:=semL (c405 K Kp) 2015 [1,1,0,1,1,0,1,1,1,0,1,1,0] [] (mk405_3 x0 x2 x3 x4 x72 x73 x74)
variable {K Kp} {x0:Option Addr} {x2 x4:Addr} {x3 x38 x72:Sl} {x39 x73:Int} {h:Hp}
theorem J405_1.of (H :
 NN x0 fun p89 =>
 NN x0 fun p92 =>
 Fn357 (some p92) h (fun t94 h1 =>
 New h1 #[(Sl.v t94),(Sl.v x3)] Y96 fun a96 h2 =>
 Fn348 (some p89) (⟨some a96,2,2⟩:Sl) h2 (fun t97_0 t97_1 t97_2 t97_3 t97_4 t97_5 h3 =>
 SY33 h3 x2 t97_0 t97_1 t97_2 t97_3 t97_4 t97_5 fun h4 =>
 LY33 h4 x2 fun r0_0 r0_1 r0_2 r0_3 r0_4 r0_5 =>
 K r0_0 r0_1 r0_2 r0_3 r0_4 r0_5 h4) Kp) Kp) :
 J405_1 K Kp x0 x2 x3 h:=jof H (by kernel_rfl)
theorem Fn405.of {m:Option Addr} (H :
 New h zY33 Y33 fun a2 h1 =>
 NN m fun p10 =>
 LY27 h1 (p10.add 2) fun t14_0 t14_1 t14_2 t14_3 t14_4 =>
 New h1 zY27 Y27 fun a4 h2 =>
 SY27 h2 a4 t14_0 t14_1 t14_2 t14_3 t14_4 fun h3 =>
 Ld h3 a4 mI fun t16 =>
 If (t16 == 2) (
 NN m fun p28 =>
 Ld h3 (p28.add 16) Sl.v fun t30 =>
 Wr .i64 ((t30.n:Int)+7) fun t32 =>
 Dv 8<|Wr .i64 (Int.tdiv t32 8) fun t33 =>
 MkS h3 Y8 #[(.int .u8 0)] 1 1 t33 t33 fun t34 h4 =>
 NN m fun p36 =>
 Ld h4 (p36.add 16) Sl.v fun t38 =>
 L405_2 K Kp m a2 t34 t38 (t38.n:Int) 0 h4) (
 If (t16 == 14) (
 NN m fun p61 =>
 Ld h3 (p61.add 17) Sl.v fun t63 =>
 Ld h3 (a4.add 1) mI fun t66 =>
 Wr .i64 ((t63.n:Int)*t66) fun t67 =>
 MkS h3 Y8 #[(.int .u8 0)] 1 1 t67 t67 fun t68 h4 =>
 NN m fun p70 =>
 Ld h4 (p70.add 17) Sl.v fun t72 =>
 L405_3 K Kp m a2 t68 a4 t72 (t72.n:Int) 0 h4) (
 NN m fun p18 =>
 Ld h3 (p18.add 16) Sl.v fun t20 =>
 Ld h3 a4 mI fun t22 =>
 Fn390 t22 h3 (fun t23 h4 =>
 Keep h3 h4 (p18.add 16) 1 <|
 Fn409 t20 t23 h4 (fun t24 h5 =>
 J405_1 K Kp m a2 t24 h5) Kp) Kp))) :
 Fn405 m h K Kp:=fnof (ann:=ann405) (o:=ord405) (zs:=z405) (Kv:=kv405 K) Tryz.func339 (by kernel_rfl) H (by kernel_rfl) (by kernel_rfl)
end
end Go.Proofs.YtlbbdbdjiekkaaaGreatDoor
set_option maxRecDepth 100000
set_option maxHeartbeats 200000
/- What the functions do, printed by program (gen.py) in the words of ShCore; each text is held against the loaded program by the kernel. -/
namespace Go.Proofs.YtlbbdbdjiekkaaaGreatDoor
open Go Go.Sh
section
noncomputable def code407:Code:=Tryz.f341.body.getD .skip
def ann407:Ann:=[(2000005,[0,3]),(2000006,[0,3])]
def ord407:OrdT:=[(1,(OT.l [0,1,2,3,4,5,6] .fin),[0,1,3,0,8,31,63]),(6,(OT.l [0,1,2,3,4,5,6,7,8] .fin),[0,1,3,0,8,24,56,127,255]),(5,(OT.l [0,1,2,3,4,5,6,7,8,9,10,11] .fin),[0,0,2,6,14,0,32,96,254,511,1023,2047]),(4,(OT.l [0,1,2,3,4,5,6,7,8,9,10,11,12] .fin),[0,0,2,6,14,0,32,96,224,510,1023,2047,4095])]
def z407:List Value:=[(.int .i64 0)]
def kv407 (K:Int→HP):Value→HP:=fun v h=>rI v fun r0=>K r0 h
variable (K:Int→HP) (Kp:PK) 
noncomputable def c407:Cx:=⟨Tryz.prog,ann407,ord407,none,code407,(retQ Tryz.prog Tryz.f341.results.toList z407 (kv407 K)),Kp⟩
def J407_2 (x0:Option Addr) (x3:Addr):HP:=semJ (c407 K Kp) [1,1,1,1] [] ([some (.pointer x0),nO,nO,vP x3]++nn 42)
def J407_1 (x0:Option Addr) (x3:Addr):HP:=semJ (c407 K Kp) [1,1,1] [] ([some (.pointer x0),nO,nO,vP x3]++nn 42)
variable {K Kp} {x0:Option Addr} {x3:Addr} {h:Hp}
theorem J407_2.of (H :
 NN x0 fun p39 =>
 Ld h (x3.add 2) .string fun t42 =>
 Wr .i64 ((16:Int)+(t42.size:Int)) fun t44 =>
 Fn351 (some p39) t44 h (fun t45 h1 =>
 K t45 h1) Kp) :
 J407_2 K Kp x0 x3 h:=jof H (by kernel_rfl)
theorem J407_1.of (H :
 NN x0 fun p29 =>
 Ld h (p29.add 17) Sl.v fun t31 =>
 Ld h (x3.add 2) .string fun t33 =>
 New h #[(.string t33)] Y12 fun a34 h1 =>
 Keep h h1 (p29.add 17) 1 <|
 Ap h1 Y12 #[(.string (bs []))] 1 16 t31 1 (rd h1 (some a34) (1*1)) fun t35 h2 =>
 NN x0 fun p36 =>
 St h2 (p36.add 17) (Sl.v t35) fun h3 =>
 J407_2 K Kp x0 x3 h3) :
 J407_1 K Kp x0 x3 h:=jof H (by kernel_rfl)
theorem Fn407.of {m:Option Addr} {v_0:Bool} {v_1:Int} {v_2:ByteArray} {v_3:Sl} (H :
 NY66 h v_0 v_1 v_2 v_3 fun a3 h1 =>
 NN m fun p7 =>
 Ld h1 a3 .bool fun t10 =>
 Fn350 (some p7) t10 h1 (fun t11 h2 =>
 If (t11 != 0) (
 K t11 h2) (
 NN m fun p17 =>
 Ld h2 (p17.add 16) Sl.v fun t19 =>
 Ld h2 (a3.add 1) mI fun t21 =>
 Wr .u64 t21 fun t22 =>
 New h2 #[(.int .u64 t22)] Y201 fun a23 h3 =>
 Keep h2 h3 (p17.add 16) 1 <|
 Ap h3 Y201 #[(.int .u64 0)] 1 8 t19 1 (rd h3 (some a23) (1*1)) fun t24 h4 =>
 NN m fun p25 =>
 St h4 (p25.add 16) (Sl.v t24) fun h5 =>
 J407_1 K Kp m a3 h5)) Kp) :
 Fn407 m v_0 v_1 v_2 v_3 h K Kp:=fnof (ann:=ann407) (o:=ord407) (zs:=z407) (Kv:=kv407 K) Tryz.func341 (by kernel_rfl) H (by kernel_rfl) (by kernel_rfl)
end
section
def ann408:Ann:=[]
def ord408:OrdT:=[]
def z408:List Value:=[(.int .i64 0)]
def kv408 (K:Int→HP):Value→HP:=fun v h=>rI v fun r0=>K r0 h
variable (K:Int→HP) (Kp:PK) 
variable {K Kp} {h:Hp}
theorem Fn408.of {m:Option Addr} (H :
 NN m fun p5 =>
 LY66 h (p5.add 11) fun t8_0 t8_1 t8_2 t8_3 =>
 Fn407 m t8_0 t8_1 t8_2 t8_3 h (fun t9 h1 =>
 K t9 h1) Kp) :
 Fn408 m h K Kp:=fnof (ann:=ann408) (o:=ord408) (zs:=z408) (Kv:=kv408 K) Tryz.func342 (by kernel_rfl) H (by kernel_rfl) (by kernel_rfl)
end
section
noncomputable def code409:Code:=Tryz.f343.body.getD .skip
def ann409:Ann:=[(2003,[1,5,14,15,16]),(2006,[1,5,7,14,15,16,20,21])]
def ord409:OrdT:=[]
def z409:List Value:=[(.slice none 0 0)]
def kv409 (K:Sl→HP):Value→HP:=fun v h=>rS v fun r0=>K r0 h
variable (K:Sl→HP) (Kp:PK) (N1:Fr→HP) 
noncomputable def c409:Cx:=⟨Tryz.prog,ann409,ord409,none,code409,(retQ Tryz.prog Tryz.f343.results.toList z409 (kv409 K)),Kp⟩
abbrev mk409_1 (x1:Int) (x14:Sl) (x15:Int) (x5:Sl) (x16:Int):Fr:=([nO,vI x1,nO,nO,nO,vS x5,nO,nO,nO,nO,nO,nO,nO,nO,vS x14,vI x15,vI x16]++nn 18)
abbrev mk409_2 (x1 x7:Int) (x14:Sl) (x15 x16 x20:Int) (x5:Sl) (x21:Int):Fr:=([nO,vI x1,nO,nO,nO,vS x5,nO,some (.int .u64 x7),nO,nO,nO,nO,nO,nO,vS x14,vI x15,vI x16,nO,nO,nO,vI x20,vI x21]++nn 13)
def L409_2 (x1 x7:Int) (x14:Sl) (x15 x16 x20:Int) (x5:Sl) (x21:Int):HP:=semL (c409 K Kp) 2006 [1,1,0,1,0,0,1,1,0,0,1,1,0] [N1] (mk409_2 x1 x7 x14 x15 x16 x20 x5 x21)
def L409_1 (x1:Int) (x14:Sl) (x15:Int) (x5:Sl) (x16:Int):HP:=semL (c409 K Kp) 2003 [1,1,0,1,0] [] (mk409_1 x1 x14 x15 x5 x16)
variable {K Kp N1} {x1 x7 x15 x16 x20:Int} {x14:Sl} {h:Hp}
theorem L409_2.rule:LR2 (L409_2 K Kp N1 x1 x7 x14 x15 x16 x20) (mk409_2 x1 x7 x14 x15 x16 x20) fun N2 (x5:Sl) (x21:Int) h =>
 (If (decide (x21 < x20)) (
 Wr .i64 ((8:Int)*x21) fun t27 =>
 Nn t27<|Lt (Int.fdiv x7 (2 ^ (min (Int.toNat t27) (IntKind.bits .u64)))) fun t28 =>
 Wr .u8 t28 fun t29 =>
 New h #[(.int .u8 t29)] Y8 fun a30 h1 =>
 Ap h1 Y8 #[(.int .u8 0)] 1 1 x5 1 (rd h1 (some a30) (1*1)) fun t31 h2 =>
 Wr .i64 (x21+1) fun t32 =>
 N2 (mk409_2 x1 x7 x14 x15 x16 x20 t31 t32) h2) (
 Wr .i64 (x16+1) fun t33 =>
 N1 (mk409_1 x1 x14 x15 x5 t33) h)) :=
 loop2 (fun _ _ _=>rfl) fun _ _ _ _=>by kernel_rfl
theorem L409_1.rule:LR2 (L409_1 K Kp x1 x14 x15) (mk409_1 x1 x14 x15) fun N1 (x5:Sl) (x16:Int) h =>
 (If (decide (x16 < x15)) (
 Ix x14.a x14.n 1 x16 fun a18 =>
 Ld h a18 (.int .u64) fun t19 =>
 L409_2 K Kp N1 x1 t19 x14 x15 x16 x1 x5 0 h) (
 K x5 h)) :=
 loop2 (fun _ _ _=>rfl) fun _ _ _ _=>by kernel_rfl
theorem Fn409.of {l:Sl} {width:Int} (H :
 Wr .i64 (width*(l.n:Int)) fun t12 =>
 MkS h Y8 #[(.int .u8 0)] 1 1 0 t12 fun t13 h1 =>
 L409_1 K Kp width l (l.n:Int) t13 0 h1) :
 Fn409 l width h K Kp:=fnof (ann:=ann409) (o:=ord409) (zs:=z409) (Kv:=kv409 K) Tryz.func343 (by kernel_rfl) H (by kernel_rfl) (by kernel_rfl)
end
section
def ann410:Ann:=[]
def ord410:OrdT:=[(1,(OT.l [0,1,2,3,4,5,6,7,8,9,10,11,12,13,14,15,16,17,18,19] .fin),[0,0,0,4,12,28,0,124,0,256,768,1792,0,7936,4093,20477,53245,131071,262143,524287])]
def z410:List Value:=[]
def kv410 (K:HP):Value→HP:=fun _ h=>K h
variable (K:HP) (Kp:PK) 
variable {K Kp} {h:Hp}
theorem Fn410.of {c0 c1 c2:Addr} (H :
 Ld h c0 id fun t3 =>
 CallV Tryz.prog t3 [] h (fun r h1=>r=(.tuple #[])∧(
 Ld h1 c1 .pointer fun t5 =>
 Ld h1 c1 .pointer fun t6 =>
 Ld h1 c1 .pointer fun t7 =>
 NN t7 fun p8 =>
 Ld h1 (p8.add 16) Sl.v fun t10 =>
 Ld h1 c2 mI fun t11 =>
 Slc t10 1 none (some t11) none fun t12 =>
 Ld h1 c1 .pointer fun t13 =>
 NN t13 fun p14 =>
 Ld h1 (p14.add 17) Sl.v fun t16 =>
 Ld h1 c2 mI fun t17 =>
 Slc t16 1 none (some t17) none fun t18 =>
 NN t5 fun p19 =>
 St h1 (p19.add 16) (Sl.v t12) fun h2 =>
 Keep h1 h2 c2 1 <|
 Keep h1 h2 c1 1 <|
 NN t6 fun p21 =>
 St h2 (p21.add 17) (Sl.v t18) fun h3 =>
 K  h3)) Kp) :
 Fn410 c0 c1 c2 h K Kp:=fnof (ann:=ann410) (o:=ord410) (zs:=z410) (Kv:=kv410 K) Tryz.func344 (by kernel_rfl) H (by kernel_rfl) (by kernel_rfl)
end
section
noncomputable def code188:Code:=Tryz.f345.body.getD .skip
def ann188:Ann:=[(2000002,[1,3,8,9,10])]
def ord188:OrdT:=[]
def z188:List Value:=[(.agg #[(.bool false),(.int .i64 0),(.string (bs [])),(.slice none 0 0)])]
def kv188 (K:Bool→Int→ByteArray→Sl→HP):Value→HP:=fun v h=>rG v fun cs0=>rB (cs0.getD 0 undef) fun r0_0=>rI (cs0.getD 1 undef) fun r0_1=>rT (cs0.getD 2 undef) fun r0_2=>rS (cs0.getD 3 undef) fun r0_3=>K r0_0 r0_1 r0_2 r0_3 h
variable (K:Bool→Int→ByteArray→Sl→HP) (Kp:PK) 
noncomputable def c188:Cx:=⟨Tryz.prog,ann188,ord188,none,code188,(retQ Tryz.prog Tryz.f345.results.toList z188 (kv188 K)),Kp⟩
def J188_1 (x1 x3:Option Addr) (x8:Addr) (x9 x10:Int):HP:=semJ (c188 K Kp) [1,1] [] ([nO,some (.pointer x1),nO,some (.pointer x3),nO,nO,nO,nO,vP x8,vI x9,vI x10]++nn 48)
variable {K Kp} {x1 x3:Option Addr} {x8:Addr} {x9 x10:Int} {h:Hp}
theorem J188_1.of (H :
 Wr .i64 ((16:Int)+x10) fun t29 =>
 Wr .i64 (t29 - x9) fun t31 =>
 Fn162 x3 t31 h (fun h1 =>
 Fn112 x1 2 h1 (fun t35_0 t35_1 t35_2 h2 =>
 Wr .i64 (x10 - x9) fun t39 =>
 Fn189 t35_0 t35_1 t35_2 x9 t39 h2 (fun t40_0 t40_1 h3 =>
 NN x1 fun p44 =>
 Ld h3 (p44.add 2) mI fun t48 =>
 If (t48 == 12) (
 Fn224 t40_0 h3 (fun t52 h4 =>
 If (!t52) (
 Kp [{ v:=(.iface Y162 (.agg #[])),recovered:=false }] h4) (
 SY66 h4 x8 false 0 t40_0 (⟨none,0,0⟩:Sl) fun h5 =>
 LY66 h5 x8 fun r0_0 r0_1 r0_2 r0_3 =>
 K r0_0 r0_1 r0_2 r0_3 h5)) Kp) (
 SY66 h3 x8 false 0 t40_0 (⟨none,0,0⟩:Sl) fun h4 =>
 LY66 h4 x8 fun r0_0 r0_1 r0_2 r0_3 =>
 K r0_0 r0_1 r0_2 r0_3 h4)) Kp) Kp) Kp) :
 J188_1 K Kp x1 x3 x8 x9 x10 h:=jof H (by kernel_rfl)
theorem Fn188.of {a:Option Addr} {r:Int} {left:Option Addr} (H :
 New h #[] Y192 fun a4 h1 =>
 New h1 zY66 Y66 fun a8 h2 =>
 NN a fun p17 =>
 Ld h2 ((p17.add 7).add 3) Sl.v fun t20 =>
 Ix t20.a t20.n 1 2 fun a21 =>
 Ld h2 a21 Sl.v fun t22 =>
 Fn141 a r (t22.n:Int) h2 (fun t24_0 t24_1 h3 =>
 J188_1 K Kp a left a8 t24_0 t24_1 h3) Kp) :
 Fn188 a r left h K Kp:=fnof (ann:=ann188) (o:=ord188) (zs:=z188) (Kv:=kv188 K) Tryz.func345 (by kernel_rfl) H (by kernel_rfl) (by kernel_rfl)
end
section
noncomputable def code141:Code:=Tryz.f346.body.getD .skip
def ann141:Ann:=[(44007,[2,9,11,36])]
def ord141:OrdT:=[]
def z141:List Value:=[(.int .i64 0),(.int .i64 0)]
def kv141 (K:Int→Int→HP):Value→HP:=fun v h=>rU v fun vs=>rI (vs.getD 0 undef) fun r0=>rI (vs.getD 1 undef) fun r1=>K r0 r1 h
variable (K:Int→Int→HP) (Kp:PK) 
noncomputable def c141:Cx:=⟨Tryz.prog,ann141,ord141,none,code141,(retQ Tryz.prog Tryz.f346.results.toList z141 (kv141 K)),Kp⟩
def J141_1 (x2 x9 x11:Int) (x36:Bool):HP:=semR (c141 K Kp) [1,1,1,1,0,0] [] 4 [7,8,9,10,11] ([nO,nO,vI x2,nO,nO,nO,nO,nO,nO,vI x9,nO,vI x11,nO,nO,nO,nO,nO,nO,nO,nO,nO,nO,nO,nO,nO,nO,nO,nO,nO,nO,nO,nO,nO,nO,nO,nO,some (.bool x36)]++nn 9)
variable {K Kp} {x2 x9 x11:Int} {x36:Bool} {h:Hp}
theorem J141_1.of (H :
 If x36 (
 Kp [{ v:=(.iface Y162 (.agg #[])),recovered:=false }] h) (
 If (decide (x11 > x2)) (
 Kp [{ v:=(.iface Y162 (.agg #[])),recovered:=false }] h) (
 K x9 x11 h))) :
 J141_1 K Kp x2 x9 x11 x36 h:=jof H (by kernel_rfl)
theorem Fn141.of {a:Option Addr} {r most:Int} (H :
 Fn112 a 1 h (fun t14_0 t14_1 t14_2 h1 =>
 New h1 zY167 Y167 fun a8 h2 =>
 SY167 h2 a8 t14_0 t14_1 t14_2 fun h3 =>
 LY167 h3 a8 fun t16_0 t16_1 t16_2 =>
 Wr .i64 ((4:Int)*r) fun t18 =>
 Fn113 t16_0 t16_1 t16_2 t18 4 h3 (fun t19_0 t19_1 h4 =>
 LY167 h4 a8 fun t23_0 t23_1 t23_2 =>
 Wr .i64 ((4:Int)*r) fun t25 =>
 Wr .i64 (t25+4) fun t26 =>
 Fn113 t23_0 t23_1 t23_2 t26 4 h4 (fun t27_0 t27_1 h5 =>
 If (decide (t19_0 < 0)) (
 J141_1 K Kp most t19_0 t27_0 true h5) (
 J141_1 K Kp most t19_0 t27_0 (decide (t27_0 < t19_0)) h5)) Kp) Kp) Kp) :
 Fn141 a r most h K Kp:=fnof (ann:=ann141) (o:=ord141) (zs:=z141) (Kv:=kv141 K) Tryz.func346 (by kernel_rfl) H (by kernel_rfl) (by kernel_rfl)
end
section
def ann189:Ann:=[]
def ord189:OrdT:=[]
def z189:List Value:=[(.string (bs [])),(.int .i64 0)]
def kv189 (K:ByteArray→Int→HP):Value→HP:=fun v h=>rU v fun vs=>rT (vs.getD 0 undef) fun r0=>rI (vs.getD 1 undef) fun r1=>K r0 r1 h
variable (K:ByteArray→Int→HP) (Kp:PK) 
variable {K Kp} {h:Hp}
theorem Fn189.of {v_0:Sl} {v_1:Int} {v_2:Option Addr} {atv n:Int} (H :
 NY167 h v_0 v_1 v_2 fun a3 h1 =>
 LY167 h1 a3 fun t8_0 t8_1 t8_2 =>
 Fn139 t8_0 t8_1 t8_2 atv n h1 (fun t11 h2 =>
 If (!t11) (
 K (bs []) 2 h2) (
 LY167 h2 a3 fun t13_0 t13_1 t13_2 =>
 Fn140 t13_0 t13_1 t13_2 atv n h2 (fun t16 h3 =>
 Bts h3 t16 fun t17 =>
 K t17 0 h3) Kp)) Kp) :
 Fn189 v_0 v_1 v_2 atv n h K Kp:=fnof (ann:=ann189) (o:=ord189) (zs:=z189) (Kv:=kv189 K) Tryz.func347 (by kernel_rfl) H (by kernel_rfl) (by kernel_rfl)
end
section
def ann113:Ann:=[]
def ord113:OrdT:=[]
def z113:List Value:=[(.int .i64 0),(.int .i64 0)]
def kv113 (K:Int→Int→HP):Value→HP:=fun v h=>rU v fun vs=>rI (vs.getD 0 undef) fun r0=>rI (vs.getD 1 undef) fun r1=>K r0 r1 h
variable (K:Int→Int→HP) (Kp:PK) 
variable {K Kp} {h:Hp}
theorem Fn113.of {v_0:Sl} {v_1:Int} {v_2:Option Addr} {atv width:Int} (H :
 NY167 h v_0 v_1 v_2 fun a3 h1 =>
 LY167 h1 a3 fun t12_0 t12_1 t12_2 =>
 Fn138 t12_0 t12_1 t12_2 atv width h1 (fun t15_0 t15_1 h2 =>
 If (t15_1 != 0) (
 K 0 t15_1 h2) (
 Wr .i64 ((8:Int)*width) fun t22 =>
 Wr .i64 ((64:Int) - t22) fun t23 =>
 Nn t23<|Wr .u64 (t15_0*2 ^ (min (Int.toNat t23) (IntKind.bits .u64))) fun t26 =>
 Wr .i64 t26 fun t27 =>
 Nn t23<|Lt (Int.fdiv t27 (2 ^ (min (Int.toNat t23) (IntKind.bits .i64)))) fun t29 =>
 K t29 0 h2)) Kp) :
 Fn113 v_0 v_1 v_2 atv width h K Kp:=fnof (ann:=ann113) (o:=ord113) (zs:=z113) (Kv:=kv113 K) Tryz.func348 (by kernel_rfl) H (by kernel_rfl) (by kernel_rfl)
end
section
def ann138:Ann:=[]
def ord138:OrdT:=[]
def z138:List Value:=[(.int .u64 0),(.int .i64 0)]
def kv138 (K:Int→Int→HP):Value→HP:=fun v h=>rU v fun vs=>rI (vs.getD 0 undef) fun r0=>rI (vs.getD 1 undef) fun r1=>K r0 r1 h
variable (K:Int→Int→HP) (Kp:PK) 
variable {K Kp} {h:Hp}
theorem Fn138.of {v_0:Sl} {v_1:Int} {v_2:Option Addr} {atv width:Int} (H :
 NY167 h v_0 v_1 v_2 fun a3 h1 =>
 Fn163 width h1 (fun t9 h2 =>
 If (!t9) (
 K 0 1 h2) (
 LY167 h2 a3 fun t11_0 t11_1 t11_2 =>
 Fn139 t11_0 t11_1 t11_2 atv width h2 (fun t14 h3 =>
 If (!t14) (
 K 0 2 h3) (
 LY167 h3 a3 fun t16_0 t16_1 t16_2 =>
 Fn140 t16_0 t16_1 t16_2 atv width h3 (fun t19 h4 =>
 Fn164 t19 h4 (fun t20 h5 =>
 K t20 0 h5) Kp) Kp)) Kp)) Kp) :
 Fn138 v_0 v_1 v_2 atv width h K Kp:=fnof (ann:=ann138) (o:=ord138) (zs:=z138) (Kv:=kv138 K) Tryz.func349 (by kernel_rfl) H (by kernel_rfl) (by kernel_rfl)
end
section
noncomputable def code163:Code:=Tryz.f350.body.getD .skip
def ann163:Ann:=[(41006,[0,8]),(41010,[0,12])]
def ord163:OrdT:=[]
def z163:List Value:=[(.bool false)]
def kv163 (K:Bool→HP):Value→HP:=fun v h=>rB v fun r0=>K r0 h
variable (K:Bool→HP) (Kp:PK) 
noncomputable def c163:Cx:=⟨Tryz.prog,ann163,ord163,none,code163,(retQ Tryz.prog Tryz.f350.results.toList z163 (kv163 K)),Kp⟩
def J163_2 (x0:Int) (x12:Bool):HP:=semR (c163 K Kp) [1,0] [] 1 [10,11,12,13,14] ([vI x0,nO,nO,nO,nO,nO,nO,nO,nO,nO,nO,nO,some (.bool x12)]++nn 4)
def J163_1 (x0:Int) (x8:Bool):HP:=semR (c163 K Kp) [1,0] [] 1 [6,7,8,9,10,11,12,13,14] ([vI x0,nO,nO,nO,nO,nO,nO,nO,some (.bool x8)]++nn 8)
variable {K Kp} {x0:Int} {x12 x8:Bool} {h:Hp}
theorem J163_2.of (H :
 If x12 (
 K true h) (
 K (x0 == 8) h)) :
 J163_2 K Kp x0 x12 h:=jof H (by kernel_rfl)
theorem J163_1.of (H :
 If x8 (
 J163_2 K Kp x0 true h) (
 J163_2 K Kp x0 (x0 == 4) h)) :
 J163_1 K Kp x0 x8 h:=jof H (by kernel_rfl)
theorem Fn163.of {width:Int} (H :
 If (width == 1) (
 J163_1 K Kp width true h) (
 J163_1 K Kp width (width == 2) h)) :
 Fn163 width h K Kp:=fnof (ann:=ann163) (o:=ord163) (zs:=z163) (Kv:=kv163 K) Tryz.func350 (by kernel_rfl) H (by kernel_rfl) (by kernel_rfl)
end
section
noncomputable def code164:Code:=Tryz.f351.body.getD .skip
def ann164:Ann:=[(2003,[3,6,7,8])]
def ord164:OrdT:=[]
def z164:List Value:=[(.int .u64 0)]
def kv164 (K:Int→HP):Value→HP:=fun v h=>rI v fun r0=>K r0 h
variable (K:Int→HP) (Kp:PK) 
noncomputable def c164:Cx:=⟨Tryz.prog,ann164,ord164,none,code164,(retQ Tryz.prog Tryz.f351.results.toList z164 (kv164 K)),Kp⟩
abbrev mk164_1 (x6:Sl) (x7 x3 x8:Int):Fr:=([nO,nO,nO,some (.int .u64 x3),nO,nO,vS x6,vI x7,vI x8]++nn 13)
def L164_1 (x6:Sl) (x7 x3 x8:Int):HP:=semL (c164 K Kp) 2003 [1,1,0,1,0] [] (mk164_1 x6 x7 x3 x8)
variable {K Kp} {x6:Sl} {x7:Int} {h:Hp}
theorem L164_1.rule:LR2 (L164_1 K Kp x6 x7) (mk164_1 x6 x7) fun N1 (x3:Int) (x8:Int) h =>
 (If (decide (x8 < x7)) (
 Ix x6.a x6.n 1 x8 fun a11 =>
 Ld h a11 (.int .u8) fun t12 =>
 Wr .u64 t12 fun t15 =>
 Wr .i64 ((8:Int)*x8) fun t17 =>
 Nn t17<|Wr .u64 (t15*2 ^ (min (Int.toNat t17) (IntKind.bits .u64))) fun t18 =>
 Lt (bitsV .or .u64 x3 t18) fun t19 =>
 Wr .i64 (x8+1) fun t20 =>
 N1 (mk164_1 x6 x7 t19 t20) h) (
 K x3 h)) :=
 loop2 (fun _ _ _=>rfl) fun _ _ _ _=>by kernel_rfl
theorem Fn164.of {b:Sl} (H :
 L164_1 K Kp b (b.n:Int) 0 0 h) :
 Fn164 b h K Kp:=fnof (ann:=ann164) (o:=ord164) (zs:=z164) (Kv:=kv164 K) Tryz.func351 (by kernel_rfl) H (by kernel_rfl) (by kernel_rfl)
end
section
noncomputable def code190:Code:=Tryz.f352.body.getD .skip
def ann190:Ann:=[(2006,[3,8,9,11,12,13])]
def ord190:OrdT:=[(8,(OT.l [0,1,2,3,4,5,6,7,8,9] .fin),[0,1,0,0,0,28,60,127,255,511])]
def z190:List Value:=[(.agg #[(.bool false),(.int .i64 0),(.string (bs [])),(.slice none 0 0)])]
def kv190 (K:Bool→Int→ByteArray→Sl→HP):Value→HP:=fun v h=>rG v fun cs0=>rB (cs0.getD 0 undef) fun r0_0=>rI (cs0.getD 1 undef) fun r0_1=>rT (cs0.getD 2 undef) fun r0_2=>rS (cs0.getD 3 undef) fun r0_3=>K r0_0 r0_1 r0_2 r0_3 h
variable (K:Bool→Int→ByteArray→Sl→HP) (Kp:PK) 
noncomputable def c190:Cx:=⟨Tryz.prog,ann190,ord190,none,code190,(retQ Tryz.prog Tryz.f352.results.toList z190 (kv190 K)),Kp⟩
abbrev mk190_1 (x3:Option Addr) (x8 x9:Addr) (x11:Int) (x12:Option Addr) (x13:Int):Fr:=([nO,nO,nO,some (.pointer x3),nO,nO,nO,nO,vP x8,vP x9,nO,vI x11,some (.pointer x12),vI x13]++nn 26)
def L190_1 (x3:Option Addr) (x8 x9:Addr) (x11:Int) (x12:Option Addr) (x13:Int):HP:=semL (c190 K Kp) 2006 [1,1,1,1,1,0,1,0] [] (mk190_1 x3 x8 x9 x11 x12 x13)
variable {K Kp} {x3 x12:Option Addr} {x8 x9:Addr} {x11:Int} {h:Hp}
theorem L190_1.rule:LR1 (L190_1 K Kp x3 x8 x9 x11 x12) (mk190_1 x3 x8 x9 x11 x12) fun N1 (x13:Int) h =>
 (If (decide (x13 < x11)) (
 Ld h (x9.add 3) Sl.v fun t31 =>
 Fn109 x12 x13 x3 h (fun t35_0 t35_1 t35_2 t35_3 h1 =>
 Keep h h1 (x9.add 3) 1 <|
 New h1 #[(.bool t35_0),(.int .i64 t35_1),(.string t35_2),(Sl.v t35_3)] Y66 fun a36 h2 =>
 Keep h1 h2 (x9.add 3) 1 <|
 Ap h2 Y66 zY66 4 56 t31 1 (rd h2 (some a36) (1*4)) fun t37 h3 =>
 St h3 (x9.add 3) (Sl.v t37) fun h4 =>
 Wr .i64 (x13+1) fun t29 =>
 N1 (mk190_1 x3 x8 x9 x11 x12 t29) h4) Kp) (
 LY66 h x9 fun t39_0 t39_1 t39_2 t39_3 =>
 SY66 h x8 t39_0 t39_1 t39_2 t39_3 fun h1 =>
 LY66 h1 x8 fun r0_0 r0_1 r0_2 r0_3 =>
 K r0_0 r0_1 r0_2 r0_3 h1)) :=
 loop1 (fun _ _=>rfl) fun _ _ _=>by kernel_rfl
theorem Fn190.of {a:Option Addr} {r:Int} {left:Option Addr} (H :
 New h #[] Y193 fun a4 h1 =>
 New h1 zY66 Y66 fun a8 h2 =>
 New h2 zY66 Y66 fun a9 h3 =>
 Fn116 a r h3 (fun t17_0 t17_1 h4 =>
 Fn162 left 16 h4 (fun h5 =>
 Fn66 a 0 h5 (fun t23 h6 =>
 L190_1 K Kp left a8 a9 t17_1 t23 t17_0 h6) Kp) Kp) Kp) :
 Fn190 a r left h K Kp:=fnof (ann:=ann190) (o:=ord190) (zs:=z190) (Kv:=kv190 K) Tryz.func352 (by kernel_rfl) H (by kernel_rfl) (by kernel_rfl)
end
section
noncomputable def code116:Code:=Tryz.f353.body.getD .skip
def ann116:Ann:=[(2000003,[0,1])]
def ord116:OrdT:=[(2,(OT.l [0,1,2,3,4,5,6,7,8,9,10,11,12,13,14,15,16,17,18] .fin),[0,0,2,6,14,30,62,127,0,256,0,1024,3072,7168,15360,31744,65280,255,262143])]
def z116:List Value:=[(.int .i64 0),(.int .i64 0)]
def kv116 (K:Int→Int→HP):Value→HP:=fun v h=>rU v fun vs=>rI (vs.getD 0 undef) fun r0=>rI (vs.getD 1 undef) fun r1=>K r0 r1 h
variable (K:Int→Int→HP) (Kp:PK) 
noncomputable def c116:Cx:=⟨Tryz.prog,ann116,ord116,none,code116,(retQ Tryz.prog Tryz.f353.results.toList z116 (kv116 K)),Kp⟩
def J116_1 (x0:Option Addr) (x1:Int):HP:=semJ (c116 K Kp) [1,1] [] ([some (.pointer x0),vI x1]++nn 41)
variable {K Kp} {x0:Option Addr} {x1:Int} {h:Hp}
theorem J116_1.of (H :
 NN x0 fun p33 =>
 Ld h ((p33.add 7).add 4) Sl.v fun t36 =>
 Ix t36.a t36.n 6 0 fun a37 =>
 Ld h a37 mI fun t39 =>
 Fn141 x0 x1 t39 h (fun t40_0 t40_1 h1 =>
 K t40_0 t40_1 h1) Kp) :
 J116_1 K Kp x0 x1 h:=jof H (by kernel_rfl)
theorem Fn116.of {a:Option Addr} {r:Int} (H :
 NN a fun p7 =>
 Ld h (p7.add 2) mI fun t11 =>
 If (t11 == 16) (
 NN a fun p15 =>
 Ld h ((p15.add 2).add 1) mI fun t19 =>
 Wr .i64 (r*t19) fun t20 =>
 Wr .i64 (r+1) fun t22 =>
 NN a fun p24 =>
 Ld h ((p24.add 2).add 1) mI fun t28 =>
 Wr .i64 (t22*t28) fun t29 =>
 K t20 t29 h) (
 J116_1 K Kp a r h)) :
 Fn116 a r h K Kp:=fnof (ann:=ann116) (o:=ord116) (zs:=z116) (Kv:=kv116 K) Tryz.func353 (by kernel_rfl) H (by kernel_rfl) (by kernel_rfl)
end
section
def ann66:Ann:=[]
def ord66:OrdT:=[(1,(OT.l [0,1,2,3,4,6,7,8,9,11,14,15,16,17,5,10,12,13,18,19] .fin),[0,1,3,7,0,31,0,64,192,448,1023,0,4095,8191,0,16384,49152,114688,262143,524287])]
def z66:List Value:=[(.pointer none)]
def kv66 (K:(Option Addr)→HP):Value→HP:=fun v h=>rP v fun r0=>K r0 h
variable (K:(Option Addr)→HP) (Kp:PK) 
variable {K Kp} {h:Hp}
theorem Fn66.of {a:Option Addr} {k:Int} (H :
 NN a fun p6 =>
 LY29 h p6 fun t8_0 t8_1 t8_2 t8_3 t8_4 t8_5 t8_6 =>
 NN a fun p12 =>
 LY33 h (p12.add 7) fun t14_0 t14_1 t14_2 t14_3 t14_4 t14_5 =>
 NN a fun p20 =>
 Ld h (p20.add 15) .pointer fun t22 =>
 Fn110 t8_0 t8_1 t8_2 t8_3 t8_4 t8_5 t8_6 k h (fun t10_0 t10_1 t10_2 t10_3 t10_4 t10_5 t10_6 h1 =>
 Keep h h1 (p20.add 15) 1 <|
 Keep h h1 (p12.add 7) 6 <|
 Fn111 t14_0 t14_1 t14_2 t14_3 t14_4 t14_5 h1 (fun t15 h2 =>
 Keep h1 h2 (p20.add 15) 1 <|
 Ix t15.a t15.n 6 k fun a17 =>
 LY33 h2 a17 fun t18_0 t18_1 t18_2 t18_3 t18_4 t18_5 =>
 Fn50 t10_0 t10_1 t10_2 t10_3 t10_4 t10_5 t10_6 t18_0 t18_1 t18_2 t18_3 t18_4 t18_5 t22 h2 (fun t23 h3 =>
 K t23 h3) Kp) Kp) Kp) :
 Fn66 a k h K Kp:=fnof (ann:=ann66) (o:=ord66) (zs:=z66) (Kv:=kv66 K) Tryz.func354 (by kernel_rfl) H (by kernel_rfl) (by kernel_rfl)
end
section
noncomputable def code191:Code:=Tryz.f355.body.getD .skip
def ann191:Ann:=[(2004,[1,2,3,8,9,18,19])]
def ord191:OrdT:=[(6,(OT.l [0,1,2,3,5,6,4,7,8,9,10,11] .fin),[0,1,0,0,12,0,0,124,252,511,1023,2047])]
def z191:List Value:=[(.agg #[(.bool false),(.int .i64 0),(.string (bs [])),(.slice none 0 0)])]
def kv191 (K:Bool→Int→ByteArray→Sl→HP):Value→HP:=fun v h=>rG v fun cs0=>rB (cs0.getD 0 undef) fun r0_0=>rI (cs0.getD 1 undef) fun r0_1=>rT (cs0.getD 2 undef) fun r0_2=>rS (cs0.getD 3 undef) fun r0_3=>K r0_0 r0_1 r0_2 r0_3 h
variable (K:Bool→Int→ByteArray→Sl→HP) (Kp:PK) 
noncomputable def c191:Cx:=⟨Tryz.prog,ann191,ord191,none,code191,(retQ Tryz.prog Tryz.f355.results.toList z191 (kv191 K)),Kp⟩
abbrev mk191_1 (x1:Option Addr) (x2:Int) (x3:Option Addr) (x8 x9:Addr) (x18 x19:Int):Fr:=([nO,some (.pointer x1),vI x2,some (.pointer x3),nO,nO,nO,nO,vP x8,vP x9,nO,nO,nO,nO,nO,nO,nO,nO,vI x18,vI x19]++nn 15)
def L191_1 (x1:Option Addr) (x2:Int) (x3:Option Addr) (x8 x9:Addr) (x18 x19:Int):HP:=semL (c191 K Kp) 2004 [1,1,1,0,1,0] [] (mk191_1 x1 x2 x3 x8 x9 x18 x19)
variable {K Kp} {x1 x3:Option Addr} {x2 x18:Int} {x8 x9:Addr} {h:Hp}
theorem L191_1.rule:LR1 (L191_1 K Kp x1 x2 x3 x8 x9 x18) (mk191_1 x1 x2 x3 x8 x9 x18) fun N1 (x19:Int) h =>
 (If (decide (x19 < x18)) (
 Ld h (x9.add 3) Sl.v fun t23 =>
 Fn66 x1 x19 h (fun t26 h1 =>
 Keep h h1 (x9.add 3) 1 <|
 Fn109 t26 x2 x3 h1 (fun t29_0 t29_1 t29_2 t29_3 h2 =>
 Keep h1 h2 (x9.add 3) 1 <|
 New h2 #[(.bool t29_0),(.int .i64 t29_1),(.string t29_2),(Sl.v t29_3)] Y66 fun a30 h3 =>
 Keep h2 h3 (x9.add 3) 1 <|
 Ap h3 Y66 zY66 4 56 t23 1 (rd h3 (some a30) (1*4)) fun t31 h4 =>
 St h4 (x9.add 3) (Sl.v t31) fun h5 =>
 Wr .i64 (x19+1) fun t33 =>
 N1 (mk191_1 x1 x2 x3 x8 x9 x18 t33) h5) Kp) Kp) (
 LY66 h x9 fun t34_0 t34_1 t34_2 t34_3 =>
 SY66 h x8 t34_0 t34_1 t34_2 t34_3 fun h1 =>
 LY66 h1 x8 fun r0_0 r0_1 r0_2 r0_3 =>
 K r0_0 r0_1 r0_2 r0_3 h1)) :=
 loop1 (fun _ _=>rfl) fun _ _ _=>by kernel_rfl
theorem Fn191.of {a:Option Addr} {r:Int} {left:Option Addr} (H :
 New h #[] Y194 fun a4 h1 =>
 New h1 zY66 Y66 fun a8 h2 =>
 New h2 zY66 Y66 fun a9 h3 =>
 Fn162 left 16 h3 (fun h4 =>
 NN a fun p14 =>
 Ld h4 ((p14.add 7).add 4) Sl.v fun t17 =>
 L191_1 K Kp a r left a8 a9 (t17.n:Int) 0 h4) Kp) :
 Fn191 a r left h K Kp:=fnof (ann:=ann191) (o:=ord191) (zs:=z191) (Kv:=kv191 K) Tryz.func355 (by kernel_rfl) H (by kernel_rfl) (by kernel_rfl)
end
end Go.Proofs.YtlbbdbdjiekkaaaGreatDoor
set_option maxRecDepth 100000
set_option maxHeartbeats 200000
/- What the functions do, printed by program (gen.py) in the words of ShCore; each text is held against the loaded program by the kernel. -/
namespace Go.Proofs.YtlbbdbdjiekkaaaGreatDoor
open Go Go.Sh
section
noncomputable def code192:Code:=Tryz.f356.body.getD .skip
def ann192:Ann:=[(2000005,[1,3,8,9,11]),(43013,[1,3,8,9,11,40])]
def ord192:OrdT:=[]
def z192:List Value:=[(.agg #[(.bool false),(.int .i64 0),(.string (bs [])),(.slice none 0 0)])]
def kv192 (K:Bool→Int→ByteArray→Sl→HP):Value→HP:=fun v h=>rG v fun cs0=>rB (cs0.getD 0 undef) fun r0_0=>rI (cs0.getD 1 undef) fun r0_1=>rT (cs0.getD 2 undef) fun r0_2=>rS (cs0.getD 3 undef) fun r0_3=>K r0_0 r0_1 r0_2 r0_3 h
variable (K:Bool→Int→ByteArray→Sl→HP) (Kp:PK) 
noncomputable def c192:Cx:=⟨Tryz.prog,ann192,ord192,none,code192,(retQ Tryz.prog Tryz.f356.results.toList z192 (kv192 K)),Kp⟩
def J192_1 (x1 x3:Option Addr) (x8:Addr) (x9 x11:Int):HP:=semJ (c192 K Kp) [1,1,1,1] [] ([nO,some (.pointer x1),nO,some (.pointer x3),nO,nO,nO,nO,vP x8,some (.int .u8 x9),nO,vI x11]++nn 57)
def J192_2 (x1 x3:Option Addr) (x8:Addr) (x9 x11:Int) (x40:Bool):HP:=semR (c192 K Kp) [1,1,1,0,0] [] 3 [13,14,15,16,17,18,19,20,21,22,23,24,25] ([nO,some (.pointer x1),nO,some (.pointer x3),nO,nO,nO,nO,vP x8,some (.int .u8 x9),nO,vI x11,nO,nO,nO,nO,nO,nO,nO,nO,nO,nO,nO,nO,nO,nO,nO,nO,nO,nO,nO,nO,nO,nO,nO,nO,nO,nO,nO,nO,some (.bool x40)]++nn 28)
variable {K Kp} {x1 x3:Option Addr} {x8:Addr} {x9 x11:Int} {x40:Bool} {h:Hp}
theorem J192_1.of (H :
 Fn162 x3 16 h (fun h1 =>
 Wr .i64 x9 fun t59 =>
 Wr .i64 x9 fun t62 =>
 Fn66 x1 t62 h1 (fun t63 h2 =>
 Fn109 t63 x11 x3 h2 (fun t66_0 t66_1 t66_2 t66_3 h3 =>
 New h3 #[(.bool t66_0),(.int .i64 t66_1),(.string t66_2),(Sl.v t66_3)] Y66 fun a67 h4 =>
 SY66 h4 x8 false t59 (bs []) (⟨some a67,1,1⟩:Sl) fun h5 =>
 LY66 h5 x8 fun r0_0 r0_1 r0_2 r0_3 =>
 K r0_0 r0_1 r0_2 r0_3 h5) Kp) Kp) Kp) :
 J192_1 K Kp x1 x3 x8 x9 x11 h:=jof H (by kernel_rfl)
theorem J192_2.of (H :
 If x40 (
 Kp [{ v:=(.iface Y162 (.agg #[])),recovered:=false }] h) (
 NN x1 fun p44 =>
 Ld h ((p44.add 7).add 4) Sl.v fun t47 =>
 Ix t47.a t47.n 6 x9 fun a49 =>
 Ld h a49 mI fun t51 =>
 If (decide (x11≥t51)) (
 Kp [{ v:=(.iface Y162 (.agg #[])),recovered:=false }] h) (
 J192_1 K Kp x1 x3 x8 x9 x11 h))) :
 J192_2 K Kp x1 x3 x8 x9 x11 x40 h:=jof H (by kernel_rfl)
theorem Fn192.of {a:Option Addr} {r:Int} {left:Option Addr} (H :
 New h #[] Y195 fun a4 h1 =>
 New h1 zY66 Y66 fun a8 h2 =>
 Fn112 a 0 h2 (fun t15_0 t15_1 t15_2 h3 =>
 Fn115 t15_0 t15_1 t15_2 r h3 (fun t17_0 t17_1 h4 =>
 Fn112 a 1 h4 (fun t22_0 t22_1 t22_2 h5 =>
 Wr .i64 ((4:Int)*r) fun t24 =>
 Fn113 t22_0 t22_1 t22_2 t24 4 h5 (fun t25_0 t25_1 h6 =>
 Wr .i64 t17_0 fun t29 =>
 NN a fun p31 =>
 Ld h6 ((p31.add 7).add 4) Sl.v fun t34 =>
 If (decide (t29≥(t34.n:Int))) (
 J192_2 K Kp a left a8 t17_0 t25_0 true h6) (
 J192_2 K Kp a left a8 t17_0 t25_0 (decide (t25_0 < 0)) h6)) Kp) Kp) Kp) Kp) :
 Fn192 a r left h K Kp:=fnof (ann:=ann192) (o:=ord192) (zs:=z192) (Kv:=kv192 K) Tryz.func356 (by kernel_rfl) H (by kernel_rfl) (by kernel_rfl)
end
section
def ann193:Ann:=[]
def ord193:OrdT:=[]
def z193:List Value:=[(.agg #[(.bool false),(.int .i64 0),(.string (bs [])),(.slice none 0 0)])]
def kv193 (K:Bool→Int→ByteArray→Sl→HP):Value→HP:=fun v h=>rG v fun cs0=>rB (cs0.getD 0 undef) fun r0_0=>rI (cs0.getD 1 undef) fun r0_1=>rT (cs0.getD 2 undef) fun r0_2=>rS (cs0.getD 3 undef) fun r0_3=>K r0_0 r0_1 r0_2 r0_3 h
variable (K:Bool→Int→ByteArray→Sl→HP) (Kp:PK) 
variable {K Kp} {h:Hp}
theorem Fn193.of {a:Option Addr} {r:Int} {left:Option Addr} (H :
 New h #[] Y196 fun a4 h1 =>
 New h1 zY66 Y66 fun a8 h2 =>
 NN a fun p12 =>
 Ld h2 ((p12.add 2).add 3) mI fun t16 =>
 Fn194 a t16 r h2 (fun t18 h3 =>
 Wr .u64 t18 fun t19 =>
 NN a fun p22 =>
 Ld h3 ((p22.add 7).add 5) Sl.v fun t25 =>
 Ix t25.a t25.n 6 0 fun a26 =>
 Ld h3 a26 mI fun t28 =>
 Wr .u64 t28 fun t29 =>
 If (decide (t19≥t29)) (
 Kp [{ v:=(.iface Y162 (.agg #[])),recovered:=false }] h3) (
 Fn66 a 0 h3 (fun t34 h4 =>
 Wr .i64 t19 fun t36 =>
 Fn109 t34 t36 left h4 (fun t38_0 t38_1 t38_2 t38_3 h5 =>
 SY66 h5 a8 t38_0 t38_1 t38_2 t38_3 fun h6 =>
 LY66 h6 a8 fun r0_0 r0_1 r0_2 r0_3 =>
 K r0_0 r0_1 r0_2 r0_3 h6) Kp) Kp)) Kp) :
 Fn193 a r left h K Kp:=fnof (ann:=ann193) (o:=ord193) (zs:=z193) (Kv:=kv193 K) Tryz.func357 (by kernel_rfl) H (by kernel_rfl) (by kernel_rfl)
end
section
def ann194:Ann:=[]
def ord194:OrdT:=[]
def z194:List Value:=[(.int .i64 0)]
def kv194 (K:Int→HP):Value→HP:=fun v h=>rI v fun r0=>K r0 h
variable (K:Int→HP) (Kp:PK) 
variable {K Kp} {h:Hp}
theorem Fn194.of {a:Option Addr} {k r:Int} (H :
 Fn180 k h (fun t13 h1 =>
 If (decide (k≥3)) (
 If (decide (k≤6)) (
 Fn112 a 1 h1 (fun t22_0 t22_1 t22_2 h2 =>
 Wr .i64 (r*t13) fun t25 =>
 Fn113 t22_0 t22_1 t22_2 t25 t13 h2 (fun t27_0 t27_1 h3 =>
 K t27_0 h3) Kp) Kp) (
 Fn112 a 1 h1 (fun t33_0 t33_1 t33_2 h2 =>
 Wr .i64 (r*t13) fun t36 =>
 Fn138 t33_0 t33_1 t33_2 t36 t13 h2 (fun t38_0 t38_1 h3 =>
 Wr .i64 t38_0 fun t42 =>
 K t42 h3) Kp) Kp)) (
 Fn112 a 1 h1 (fun t33_0 t33_1 t33_2 h2 =>
 Wr .i64 (r*t13) fun t36 =>
 Fn138 t33_0 t33_1 t33_2 t36 t13 h2 (fun t38_0 t38_1 h3 =>
 Wr .i64 t38_0 fun t42 =>
 K t42 h3) Kp) Kp)) Kp) :
 Fn194 a k r h K Kp:=fnof (ann:=ann194) (o:=ord194) (zs:=z194) (Kv:=kv194 K) Tryz.func358 (by kernel_rfl) H (by kernel_rfl) (by kernel_rfl)
end
section
def ann195:Ann:=[]
def ord195:OrdT:=[]
def z195:List Value:=[(.agg #[(.bool false),(.int .i64 0),(.string (bs [])),(.slice none 0 0)])]
def kv195 (K:Bool→Int→ByteArray→Sl→HP):Value→HP:=fun v h=>rG v fun cs0=>rB (cs0.getD 0 undef) fun r0_0=>rI (cs0.getD 1 undef) fun r0_1=>rT (cs0.getD 2 undef) fun r0_2=>rS (cs0.getD 3 undef) fun r0_3=>K r0_0 r0_1 r0_2 r0_3 h
variable (K:Bool→Int→ByteArray→Sl→HP) (Kp:PK) 
variable {K Kp} {h:Hp}
theorem Fn195.of {a:Option Addr} {r:Int} {left:Option Addr} (H :
 New h #[] Y197 fun a4 h1 =>
 New h1 zY66 Y66 fun a8 h2 =>
 Fn66 a 1 h2 (fun t10 h3 =>
 Fn67 a r h3 (fun t13 h4 =>
 Fn109 t10 t13 left h4 (fun t15_0 t15_1 t15_2 t15_3 h5 =>
 SY66 h5 a8 t15_0 t15_1 t15_2 t15_3 fun h6 =>
 LY66 h6 a8 fun r0_0 r0_1 r0_2 r0_3 =>
 K r0_0 r0_1 r0_2 r0_3 h6) Kp) Kp) Kp) :
 Fn195 a r left h K Kp:=fnof (ann:=ann195) (o:=ord195) (zs:=z195) (Kv:=kv195 K) Tryz.func359 (by kernel_rfl) H (by kernel_rfl) (by kernel_rfl)
end
section
noncomputable def code67:Code:=Tryz.f360.body.getD .skip
def ann67:Ann:=[(2003,[1,4,5,14,15])]
def ord67:OrdT:=[(5,(OT.l [0,2,3,4,5,6,7,8,1,9,10,11,12,13,14] .fin),[0,1,0,4,12,28,0,124,252,511,1023,2047,2047,4095,16383])]
def z67:List Value:=[(.int .i64 0)]
def kv67 (K:Int→HP):Value→HP:=fun v h=>rI v fun r0=>K r0 h
variable (K:Int→HP) (Kp:PK) 
noncomputable def c67:Cx:=⟨Tryz.prog,ann67,ord67,none,code67,(retQ Tryz.prog Tryz.f360.results.toList z67 (kv67 K)),Kp⟩
abbrev mk67_1 (x1:Int) (x5:Option Addr) (x14 x4 x15:Int):Fr:=([nO,vI x1,nO,nO,vI x4,some (.pointer x5),nO,nO,nO,nO,nO,nO,nO,nO,vI x14,vI x15]++nn 22)
def L67_1 (x1:Int) (x5:Option Addr) (x14 x4 x15:Int):HP:=semL (c67 K Kp) 2003 [1,1,0,1,0] [] (mk67_1 x1 x5 x14 x4 x15)
variable {K Kp} {x1 x14:Int} {x5:Option Addr} {h:Hp}
theorem L67_1.rule:LR2 (L67_1 K Kp x1 x5 x14) (mk67_1 x1 x5 x14) fun N1 (x4:Int) (x15:Int) h =>
 (If (decide (x15 < x14)) (
 NN x5 fun p22 =>
 Ld h (p22.add 13) mI fun t24 =>
 Wr .i64 (t24+x15) fun t26 =>
 Wr .i64 ((4:Int)*t26) fun t27 =>
 Fn112 x5 1 h (fun t20_0 t20_1 t20_2 h1 =>
 Keep h h1 (p22.add 13) 1 <|
 Fn113 t20_0 t20_1 t20_2 t27 4 h1 (fun t28_0 t28_1 h2 =>
 If (decide (t28_0 > x1)) (
 K x15 h2) (
 Wr .i64 (x15+1) fun t35 =>
 N1 (mk67_1 x1 x5 x14 x4 t35) h2)) Kp) Kp) (
 Kp [{ v:=(.iface Y162 (.agg #[])),recovered:=false }] h)) :=
 loop2 (fun _ _ _=>rfl) fun _ _ _ _=>by kernel_rfl
theorem Fn67.of {a:Option Addr} {r:Int} (H :
 Fn66 a 0 h (fun t10 h1 =>
 NN t10 fun p12 =>
 Ld h1 (p12.add 14) mI fun t14 =>
 L67_1 K Kp r t10 t14 0 0 h1) Kp) :
 Fn67 a r h K Kp:=fnof (ann:=ann67) (o:=ord67) (zs:=z67) (Kv:=kv67 K) Tryz.func360 (by kernel_rfl) H (by kernel_rfl) (by kernel_rfl)
end
section
def ann196:Ann:=[]
def ord196:OrdT:=[]
def z196:List Value:=[(.agg #[(.bool false),(.int .i64 0),(.string (bs [])),(.slice none 0 0)])]
def kv196 (K:Bool→Int→ByteArray→Sl→HP):Value→HP:=fun v h=>rG v fun cs0=>rB (cs0.getD 0 undef) fun r0_0=>rI (cs0.getD 1 undef) fun r0_1=>rT (cs0.getD 2 undef) fun r0_2=>rS (cs0.getD 3 undef) fun r0_3=>K r0_0 r0_1 r0_2 r0_3 h
variable (K:Bool→Int→ByteArray→Sl→HP) (Kp:PK) 
variable {K Kp} {h:Hp}
theorem Fn196.of {a:Option Addr} {r:Int} {left:Option Addr} (H :
 New h #[] Y198 fun a4 h1 =>
 New h1 zY66 Y66 fun a8 h2 =>
 NN a fun p16 =>
 LY27 h2 (p16.add 2) fun t19_0 t19_1 t19_2 t19_3 t19_4 =>
 New h2 zY27 Y27 fun a9 h3 =>
 SY27 h3 a9 t19_0 t19_1 t19_2 t19_3 t19_4 fun h4 =>
 Fn112 a 1 h4 (fun t21_0 t21_1 t21_2 h5 =>
 New h5 zY167 Y167 fun a10 h6 =>
 SY167 h6 a10 t21_0 t21_1 t21_2 fun h7 =>
 Fn162 left 16 h7 (fun h8 =>
 Ld h8 a9 mI fun t25 =>
 If (t25 == 2) (
 LY167 h8 a10 fun t29_0 t29_1 t29_2 =>
 Dv 8<|Wr .i64 (Int.tdiv r 8) fun t31 =>
 Fn115 t29_0 t29_1 t29_2 t31 h8 (fun t32_0 t32_1 h9 =>
 Dv 8<|Lt (Int.tmod r 8) fun t37 =>
 Nn t37<|Lt (Int.fdiv t32_0 (2 ^ (min (Int.toNat t37) (IntKind.bits .u8)))) fun t38 =>
 Lt (bitsV .and .u8 t38 1) fun t39 =>
 Wr .i64 t39 fun t40 =>
 SY66 h9 a8 false t40 (bs []) (⟨none,0,0⟩:Sl) fun h10 =>
 LY66 h10 a8 fun r0_0 r0_1 r0_2 r0_3 =>
 K r0_0 r0_1 r0_2 r0_3 h10) Kp) (
 If (t25 == 14) (
 Ld h8 (a9.add 1) mI fun t46 =>
 Fn162 left t46 h8 (fun h9 =>
 LY167 h9 a10 fun t49_0 t49_1 t49_2 =>
 Ld h9 (a9.add 1) mI fun t52 =>
 Wr .i64 (r*t52) fun t53 =>
 Ld h9 (a9.add 1) mI fun t55 =>
 Fn189 t49_0 t49_1 t49_2 t53 t55 h9 (fun t56_0 t56_1 h10 =>
 SY66 h10 a8 false 0 t56_0 (⟨none,0,0⟩:Sl) fun h11 =>
 LY66 h11 a8 fun r0_0 r0_1 r0_2 r0_3 =>
 K r0_0 r0_1 r0_2 r0_3 h11) Kp) Kp) (
 Ld h8 a9 mI fun t63 =>
 Fn194 a t63 r h8 (fun t65 h9 =>
 SY66 h9 a8 false t65 (bs []) (⟨none,0,0⟩:Sl) fun h10 =>
 LY66 h10 a8 fun r0_0 r0_1 r0_2 r0_3 =>
 K r0_0 r0_1 r0_2 r0_3 h10) Kp))) Kp) Kp) :
 Fn196 a r left h K Kp:=fnof (ann:=ann196) (o:=ord196) (zs:=z196) (Kv:=kv196 K) Tryz.func361 (by kernel_rfl) H (by kernel_rfl) (by kernel_rfl)
end
end Go.Proofs.YtlbbdbdjiekkaaaGreatDoor
set_option maxRecDepth 100000
set_option maxHeartbeats 200000
/- What the functions do, printed by program (gen.py) in the words of ShCore; each text is held against the loaded program by the kernel. -/
namespace Go.Proofs.YtlbbdbdjiekkaaaGreatDoor
open Go Go.Sh
theorem LY27.b {h:Hp} {b:Nat} {el:TypeId} {t0 t1 t2 t3:Int} {t4:Sl} {K:Int→Int→Int→Int→Sl→Prop} (k:Blk h b #[(.int .i64 t0),(.int .i64 t1),(.int .i64 t2),(.int .i64 t3),(Sl.v t4)] el) (hk:K t0 t1 t2 t3 t4):LY27 h ⟨b,0,none⟩ K:=by
 unfold LY27;simp only [add_blk,Nat.zero_add];exact Ld_blk k rfl (Ld_blk k rfl (Ld_blk k rfl (Ld_blk k rfl (Ld_blk k rfl (hk)))))
theorem LY27.c {h:Hp} {a:Addr} {t0 t1 t2 t3:Int} {t4:Sl} {K:Int→Int→Int→Int→Sl→Prop} (c:Cs h a [(.int .i64 t0),(.int .i64 t1),(.int .i64 t2),(.int .i64 t3),(Sl.v t4)]) (hk:K t0 t1 t2 t3 t4):LY27 h a K :=
 ⟨_,(add_0 a ▸ c 0 _ rfl:cell h a=_),_,c 1 _ rfl,_,c 2 _ rfl,_,c 3 _ rfl,_,c 4 _ rfl,hk⟩
theorem SY27.l {h:Hp} {a:Addr} {t0 t1 t2 t3:Int} {t4:Sl} {K:HP} (H:StL h a 0 [(.int .i64 t0),(.int .i64 t1),(.int .i64 t2),(.int .i64 t3),(Sl.v t4)] K):SY27 h a t0 t1 t2 t3 t4 K:=StL_0 H
theorem SY27.b {h:Hp} {b:Nat} {el:TypeId} {cs:Array Value} {t0 t1 t2 t3:Int} {t4:Sl} {K:HP} (k:Blk h b cs el) (hs:cs.size=5) (hk:∀h',Only b h h'→Blk h' b #[(.int .i64 t0),(.int .i64 t1),(.int .i64 t2),(.int .i64 t3),(Sl.v t4)] el→K h'):SY27 h ⟨b,0,none⟩ t0 t1 t2 t3 t4 K :=
 SY27.l (StL_all k hs (by simp [one,Sl.v]) hk)
theorem LY29.b {h:Hp} {b:Nat} {el:TypeId} {t0:ByteArray} {t1:Bool} {t2 t3 t4 t5:Int} {t6:Sl} {K:ByteArray→Bool→Int→Int→Int→Int→Sl→Prop} (k:Blk h b #[(.string t0),(.bool t1),(.int .i64 t2),(.int .i64 t3),(.int .i64 t4),(.int .i64 t5),(Sl.v t6)] el) (hk:K t0 t1 t2 t3 t4 t5 t6):LY29 h ⟨b,0,none⟩ K:=by
 unfold LY29;simp only [add_blk,Nat.zero_add];exact Ld_blk k rfl (Ld_blk k rfl (Ld_blk k rfl (Ld_blk k rfl (Ld_blk k rfl (Ld_blk k rfl (Ld_blk k rfl (hk)))))))
theorem LY29.c {h:Hp} {a:Addr} {t0:ByteArray} {t1:Bool} {t2 t3 t4 t5:Int} {t6:Sl} {K:ByteArray→Bool→Int→Int→Int→Int→Sl→Prop} (c:Cs h a [(.string t0),(.bool t1),(.int .i64 t2),(.int .i64 t3),(.int .i64 t4),(.int .i64 t5),(Sl.v t6)]) (hk:K t0 t1 t2 t3 t4 t5 t6):LY29 h a K :=
 ⟨_,(add_0 a ▸ c 0 _ rfl:cell h a=_),_,c 1 _ rfl,_,c 2 _ rfl,_,c 3 _ rfl,_,c 4 _ rfl,_,c 5 _ rfl,_,c 6 _ rfl,hk⟩
theorem SY29.l {h:Hp} {a:Addr} {t0:ByteArray} {t1:Bool} {t2 t3 t4 t5:Int} {t6:Sl} {K:HP} (H:StL h a 0 [(.string t0),(.bool t1),(.int .i64 t2),(.int .i64 t3),(.int .i64 t4),(.int .i64 t5),(Sl.v t6)] K):SY29 h a t0 t1 t2 t3 t4 t5 t6 K:=StL_0 H
theorem SY29.b {h:Hp} {b:Nat} {el:TypeId} {cs:Array Value} {t0:ByteArray} {t1:Bool} {t2 t3 t4 t5:Int} {t6:Sl} {K:HP} (k:Blk h b cs el) (hs:cs.size=7) (hk:∀h',Only b h h'→Blk h' b #[(.string t0),(.bool t1),(.int .i64 t2),(.int .i64 t3),(.int .i64 t4),(.int .i64 t5),(Sl.v t6)] el→K h'):SY29 h ⟨b,0,none⟩ t0 t1 t2 t3 t4 t5 t6 K :=
 SY29.l (StL_all k hs (by simp [one,Sl.v]) hk)
theorem LY33.b {h:Hp} {b:Nat} {el:TypeId} {t0 t1 t2:Int} {t3 t4 t5:Sl} {K:Int→Int→Int→Sl→Sl→Sl→Prop} (k:Blk h b #[(.int .i64 t0),(.int .i64 t1),(.int .i64 t2),(Sl.v t3),(Sl.v t4),(Sl.v t5)] el) (hk:K t0 t1 t2 t3 t4 t5):LY33 h ⟨b,0,none⟩ K:=by
 unfold LY33;simp only [add_blk,Nat.zero_add];exact Ld_blk k rfl (Ld_blk k rfl (Ld_blk k rfl (Ld_blk k rfl (Ld_blk k rfl (Ld_blk k rfl (hk))))))
theorem LY33.c {h:Hp} {a:Addr} {t0 t1 t2:Int} {t3 t4 t5:Sl} {K:Int→Int→Int→Sl→Sl→Sl→Prop} (c:Cs h a [(.int .i64 t0),(.int .i64 t1),(.int .i64 t2),(Sl.v t3),(Sl.v t4),(Sl.v t5)]) (hk:K t0 t1 t2 t3 t4 t5):LY33 h a K :=
 ⟨_,(add_0 a ▸ c 0 _ rfl:cell h a=_),_,c 1 _ rfl,_,c 2 _ rfl,_,c 3 _ rfl,_,c 4 _ rfl,_,c 5 _ rfl,hk⟩
theorem SY33.l {h:Hp} {a:Addr} {t0 t1 t2:Int} {t3 t4 t5:Sl} {K:HP} (H:StL h a 0 [(.int .i64 t0),(.int .i64 t1),(.int .i64 t2),(Sl.v t3),(Sl.v t4),(Sl.v t5)] K):SY33 h a t0 t1 t2 t3 t4 t5 K:=StL_0 H
theorem SY33.b {h:Hp} {b:Nat} {el:TypeId} {cs:Array Value} {t0 t1 t2:Int} {t3 t4 t5:Sl} {K:HP} (k:Blk h b cs el) (hs:cs.size=6) (hk:∀h',Only b h h'→Blk h' b #[(.int .i64 t0),(.int .i64 t1),(.int .i64 t2),(Sl.v t3),(Sl.v t4),(Sl.v t5)] el→K h'):SY33 h ⟨b,0,none⟩ t0 t1 t2 t3 t4 t5 K :=
 SY33.l (StL_all k hs (by simp [one,Sl.v]) hk)
theorem LY37.b {h:Hp} {b:Nat} {el:TypeId} {t0:Int} {t1:Sl} {t2:Int} {K:Int→Sl→Int→Prop} (k:Blk h b #[(.int .i64 t0),(Sl.v t1),(.int .i64 t2)] el) (hk:K t0 t1 t2):LY37 h ⟨b,0,none⟩ K:=by
 unfold LY37;simp only [add_blk,Nat.zero_add];exact Ld_blk k rfl (Ld_blk k rfl (Ld_blk k rfl (hk)))
theorem SY37.l {h:Hp} {a:Addr} {t0:Int} {t1:Sl} {t2:Int} {K:HP} (H:StL h a 0 [(.int .i64 t0),(Sl.v t1),(.int .i64 t2)] K):SY37 h a t0 t1 t2 K:=StL_0 H
theorem SY37.b {h:Hp} {b:Nat} {el:TypeId} {cs:Array Value} {t0:Int} {t1:Sl} {t2:Int} {K:HP} (k:Blk h b cs el) (hs:cs.size=3) (hk:∀h',Only b h h'→Blk h' b #[(.int .i64 t0),(Sl.v t1),(.int .i64 t2)] el→K h'):SY37 h ⟨b,0,none⟩ t0 t1 t2 K :=
 SY37.l (StL_all k hs (by simp [one,Sl.v]) hk)
theorem LY66.b {h:Hp} {b:Nat} {el:TypeId} {t0:Bool} {t1:Int} {t2:ByteArray} {t3:Sl} {K:Bool→Int→ByteArray→Sl→Prop} (k:Blk h b #[(.bool t0),(.int .i64 t1),(.string t2),(Sl.v t3)] el) (hk:K t0 t1 t2 t3):LY66 h ⟨b,0,none⟩ K:=by
 unfold LY66;simp only [add_blk,Nat.zero_add];exact Ld_blk k rfl (Ld_blk k rfl (Ld_blk k rfl (Ld_blk k rfl (hk))))
theorem LY66.c {h:Hp} {a:Addr} {t0:Bool} {t1:Int} {t2:ByteArray} {t3:Sl} {K:Bool→Int→ByteArray→Sl→Prop} (c:Cs h a [(.bool t0),(.int .i64 t1),(.string t2),(Sl.v t3)]) (hk:K t0 t1 t2 t3):LY66 h a K :=
 ⟨_,(add_0 a ▸ c 0 _ rfl:cell h a=_),_,c 1 _ rfl,_,c 2 _ rfl,_,c 3 _ rfl,hk⟩
theorem SY66.l {h:Hp} {a:Addr} {t0:Bool} {t1:Int} {t2:ByteArray} {t3:Sl} {K:HP} (H:StL h a 0 [(.bool t0),(.int .i64 t1),(.string t2),(Sl.v t3)] K):SY66 h a t0 t1 t2 t3 K:=StL_0 H
theorem SY66.b {h:Hp} {b:Nat} {el:TypeId} {cs:Array Value} {t0:Bool} {t1:Int} {t2:ByteArray} {t3:Sl} {K:HP} (k:Blk h b cs el) (hs:cs.size=4) (hk:∀h',Only b h h'→Blk h' b #[(.bool t0),(.int .i64 t1),(.string t2),(Sl.v t3)] el→K h'):SY66 h ⟨b,0,none⟩ t0 t1 t2 t3 K :=
 SY66.l (StL_all k hs (by simp [one,Sl.v]) hk)
theorem LY167.b {h:Hp} {b:Nat} {el:TypeId} {t0:Sl} {t1:Int} {t2:Option Addr} {K:Sl→Int→(Option Addr)→Prop} (k:Blk h b #[(Sl.v t0),(.int .i64 t1),(.pointer t2)] el) (hk:K t0 t1 t2):LY167 h ⟨b,0,none⟩ K:=by
 unfold LY167;simp only [add_blk,Nat.zero_add];exact Ld_blk k rfl (Ld_blk k rfl (Ld_blk k rfl (hk)))
theorem SY167.l {h:Hp} {a:Addr} {t0:Sl} {t1:Int} {t2:Option Addr} {K:HP} (H:StL h a 0 [(Sl.v t0),(.int .i64 t1),(.pointer t2)] K):SY167 h a t0 t1 t2 K:=StL_0 H
theorem SY167.b {h:Hp} {b:Nat} {el:TypeId} {cs:Array Value} {t0:Sl} {t1:Int} {t2:Option Addr} {K:HP} (k:Blk h b cs el) (hs:cs.size=3) (hk:∀h',Only b h h'→Blk h' b #[(Sl.v t0),(.int .i64 t1),(.pointer t2)] el→K h'):SY167 h ⟨b,0,none⟩ t0 t1 t2 K :=
 SY167.l (StL_all k hs (by simp [one,Sl.v]) hk)
theorem LY352.b {h:Hp} {b:Nat} {el:TypeId} {t0:ByteArray} {t1:Bool} {t2 t3 t4 t5:Int} {t6:Sl} {t7 t8:Int} {t9:Sl} {t10:Int} {t11:Bool} {t12:Int} {t13:ByteArray} {t14:Sl} {t15:Bool} {K:ByteArray→Bool→Int→Int→Int→Int→Sl→Int→Int→Sl→Int→Bool→Int→ByteArray→Sl→Bool→Prop} (k:Blk h b #[(.string t0),(.bool t1),(.int .i64 t2),(.int .i64 t3),(.int .i64 t4),(.int .i64 t5),(Sl.v t6),(.int .i64 t7),(.int .i64 t8),(Sl.v t9),(.int .i64 t10),(.bool t11),(.int .i64 t12),(.string t13),(Sl.v t14),(.bool t15)] el) (hk:K t0 t1 t2 t3 t4 t5 t6 t7 t8 t9 t10 t11 t12 t13 t14 t15):LY352 h ⟨b,0,none⟩ K:=by
 unfold LY352;simp only [add_blk,Nat.zero_add];exact Ld_blk k rfl (Ld_blk k rfl (Ld_blk k rfl (Ld_blk k rfl (Ld_blk k rfl (Ld_blk k rfl (Ld_blk k rfl (Ld_blk k rfl (Ld_blk k rfl (Ld_blk k rfl (Ld_blk k rfl (Ld_blk k rfl (Ld_blk k rfl (Ld_blk k rfl (Ld_blk k rfl (Ld_blk k rfl (hk))))))))))))))))
theorem SY352.l {h:Hp} {a:Addr} {t0:ByteArray} {t1:Bool} {t2 t3 t4 t5:Int} {t6:Sl} {t7 t8:Int} {t9:Sl} {t10:Int} {t11:Bool} {t12:Int} {t13:ByteArray} {t14:Sl} {t15:Bool} {K:HP} (H:StL h a 0 [(.string t0),(.bool t1),(.int .i64 t2),(.int .i64 t3),(.int .i64 t4),(.int .i64 t5),(Sl.v t6),(.int .i64 t7),(.int .i64 t8),(Sl.v t9),(.int .i64 t10),(.bool t11),(.int .i64 t12),(.string t13),(Sl.v t14),(.bool t15)] K):SY352 h a t0 t1 t2 t3 t4 t5 t6 t7 t8 t9 t10 t11 t12 t13 t14 t15 K:=StL_0 H
theorem SY352.b {h:Hp} {b:Nat} {el:TypeId} {cs:Array Value} {t0:ByteArray} {t1:Bool} {t2 t3 t4 t5:Int} {t6:Sl} {t7 t8:Int} {t9:Sl} {t10:Int} {t11:Bool} {t12:Int} {t13:ByteArray} {t14:Sl} {t15:Bool} {K:HP} (k:Blk h b cs el) (hs:cs.size=16) (hk:∀h',Only b h h'→Blk h' b #[(.string t0),(.bool t1),(.int .i64 t2),(.int .i64 t3),(.int .i64 t4),(.int .i64 t5),(Sl.v t6),(.int .i64 t7),(.int .i64 t8),(Sl.v t9),(.int .i64 t10),(.bool t11),(.int .i64 t12),(.string t13),(Sl.v t14),(.bool t15)] el→K h'):SY352 h ⟨b,0,none⟩ t0 t1 t2 t3 t4 t5 t6 t7 t8 t9 t10 t11 t12 t13 t14 t15 K :=
 SY352.l (StL_all k hs (by simp [one,Sl.v]) hk)
end Go.Proofs.YtlbbdbdjiekkaaaGreatDoor
set_option maxRecDepth 512
set_option maxHeartbeats 200000
/- All printed texts. -/
namespace Go.Proofs.YtlbbdbdjiekkaaaGreatDoor
end Go.Proofs.YtlbbdbdjiekkaaaGreatDoor
set_option maxRecDepth 100000
set_option maxHeartbeats 200000
/- Fields of a heap; names and kinds. -/
namespace Go.Proofs.YtlbbdbdjiekkaaaGreatDoor
open Go Go.Sh Go.WideShapes
theorem Wr_any {k:IntKind} {x:Int} {K:Int→Prop} (h:K (k.wrap x)):Wr k x K:=h
theorem Lt_any {α:Type} {x:α} {K:α→Prop} (h:K x):Lt x K:=h
/-- bytes as values -/
def bv (l:List UInt8):List Value:=l.map fun b=>.int .u8 b.toNat
theorem bv_append (a b:List UInt8):bv (a++b)=bv a++bv b:=by simp [bv]
theorem bv_len (a:List UInt8):(bv a).length=a.length:=by simp [bv]
theorem bv_one {a:List UInt8}:∀v∈bv a,one v=true:=by intro v hv;simp only [bv,List.mem_map] at hv;obtain ⟨x,_,rfl⟩:=hv;rfl
/-- a field -/
inductive Fld
  | mk (name:ByteArray) (nul:Bool) (kind width id ix:Int) (cs:List Fld)
/-- what stands in the seven cells of a field -/
def vals7 (n:ByteArray) (nul:Bool) (k w id ix:Int) (s:Sl):List Value:=[.string n, .bool nul, .int .i64 k, .int .i64 w, .int .i64 id, .int .i64 ix,Sl.v s]
mutual
/-- a slice of fields -/
def FsH (h:Hp) (s:Sl):List Fld→Prop
  | []=>s.n=0∧s.n≤s.c
  | f::fs=>s.n=fs.length+1∧s.n≤s.c∧∃a,s.a=some a∧FldH h a f∧FrH h a 1 fs
/-- the fields from the i-th on -/
def FrH (h:Hp) (a:Addr) (i:Nat):List Fld→Prop
  | []=>True
  | f::fs=>FldH h (a.add (i*7)) f∧FrH h a (i+1) fs
def FldH (h:Hp) (a:Addr):Fld→Prop
  | .mk n nul k w id ix cs=>∃s,Cs h a (vals7 n nul k w id ix s)∧FsH h s cs
end
theorem FrH.get {h:Hp} {a:Addr}:∀{fs:List Fld} {i:Nat},FrH h a i fs→∀(j:Nat) f,fs[j]? = some f→FldH h (a.add ((i+j)*7)) f
  | [],_,_,_,_,hj=>by simp at hj
  | f::fs,i,hh,0,g,hj=>by simp at hj;subst hj;unfold FrH at hh;exact hh.1
  | f::fs,i,hh,j+1,g,hj=>by
    unfold FrH at hh
    have:=FrH.get hh.2 j g (by simpa using hj)
    have e:i+(j+1)=i+1+j:=by omega
    rw [e];exact this
/-- each field of a slice -/
theorem FsH.get {h:Hp} {s:Sl} {fs:List Fld} (hh:FsH h s fs) {j:Nat} {f:Fld} (hj:fs[j]? = some f):∃a,s.a=some a∧FldH h (a.add (j*7)) f:=by
  cases fs with
  | nil=>simp at hj
  | cons g gs =>
    unfold FsH at hh
    obtain ⟨_,_,a,ha,h1,h2⟩:=hh
    refine ⟨a,ha,?_⟩
    cases j with
    | zero =>
      simp at hj;subst hj
      have e:a.add (0*7)=a:=by simp [Addr.add]
      rw [e];exact h1
    | succ j =>
      have:=h2.get j f (by simpa using hj)
      have e:1+j=j+1:=by omega
      rw [e] at this;exact this
theorem FsH.n {h:Hp} {s:Sl} {fs:List Fld} (hh:FsH h s fs):s.n=fs.length∧s.n≤s.c:=by
  cases fs with
  | nil=>unfold FsH at hh;exact hh
  | cons g gs=>unfold FsH at hh;exact ⟨hh.1,hh.2.1⟩
/-- a slice of rows of sz cells -/
def RsH (h:Hp) (s:Sl) (sz:Nat) (rows:List (List Value)):Prop:=s.n=rows.length∧s.n≤s.c∧∀(j:Nat) r,rows[j]? = some r→∃a,s.a=some a∧Cs h (a.add (j*sz)) r
abbrev Md:=ByteArray × ByteArray
def mdRow (m:Md):List Value:=[.string m.1, .string m.2]
theorem add_zero' (a:Addr):a.add 0=a:=by unfold Addr.add;split <;> simp_all
mutual
theorem FsH.grw {h h':Hp} (g:Grw h h'):∀{s:Sl} (fs:List Fld),FsH h s fs→FsH h' s fs
  | _,[],hh=>by unfold FsH at hh ⊢;exact hh
  | _,f::fs,hh=>by
    unfold FsH at hh ⊢
    obtain ⟨a,b,p,e,x,y⟩:=hh
    exact ⟨a,b,p,e,FldH.grw g f x,FrH.grw g fs y⟩
theorem FrH.grw {h h':Hp} (g:Grw h h'):∀{a:Addr} {i:Nat} (fs:List Fld),FrH h a i fs→FrH h' a i fs
  | _,_,[],hh=>by unfold FrH at hh ⊢;exact hh
  | _,_,f::fs,hh=>by
    unfold FrH at hh ⊢
    exact ⟨FldH.grw g f hh.1,FrH.grw g fs hh.2⟩
theorem FldH.grw {h h':Hp} (g:Grw h h'):∀{a:Addr} (f:Fld),FldH h a f→FldH h' a f
  | _, .mk n nul k w id ix cs,hh=>by
    unfold FldH at hh ⊢
    obtain ⟨s,c,x⟩:=hh
    exact ⟨s,c.grw g,FsH.grw g cs x⟩
end
theorem NN_some {a:Addr} {K:Addr→Prop}:NN (some a) K=K a:=rfl
/-- a row is reached -/
theorem RsH.ix {α:Type} {row:α→List Value} {h0:Hp} {s:Sl} {sz:Nat} {l:List α} (hs:RsH h0 s sz (l.map row)) {x:Int} {i:Nat} (hx:x=(i:Int)) {r:α} (hj:l[i]? = some r) {K:Addr→Prop} (hk:∀a,Cs h0 a (row r)→K a):Ix s.a s.n sz x K:=by
  obtain ⟨a,ha,hc⟩:=hs.2.2 i (row r) (by rw [List.getElem?_map,hj];rfl)
  have hi:i < l.length:=(List.getElem?_eq_some_iff.1 hj).1
  have hn:s.n=l.length:=by simpa using hs.1
  subst hx
  rw [ha]
  exact ⟨by omega,by omega,by rw [Int.toNat_natCast];exact hk _ hc⟩
theorem Cs.c0 {h:Hp} {a:Addr} {v:Value} {vs:List Value} (c:Cs h a (v::vs)):cell h a=some v:=by
  have:=c 0 _ rfl;rwa [add_zero'] at this
def Lett (c:Int):Prop:=(97≤c∧c≤122)∨(65≤c∧c≤90)∨c=95
def Digi (c:Int):Prop:=48≤c∧c≤57
def ChOk (j:Nat) (c:Int):Prop:=Lett c∨(Digi c∧j≠0)
/-- what a name must be -/
def NameOk (s:ByteArray):Prop:=1≤s.size∧s.size≤48∧∀(j:Nat) (b:UInt8),s[j]? = some b→ChOk j (b.toNat:Int)
theorem letter_c {c:Int} {h:Hp} {K:Bool→HP} {Kp:PK} (hk:∀b,(b=true↔(Lett c∨Digi c))→K b h):Fn182 c h K Kp:=by
  refine Fn182.of ?_
  unfold Lett Digi at hk
  repeat' (first | ((with_reducible refine J182_1.of ?_);(try simp only [add_blk,Nat.reduceAdd])) | ((with_reducible refine J182_2.of ?_);(try simp only [add_blk,Nat.reduceAdd])) | ((with_reducible refine J182_3.of ?_);(try simp only [add_blk,Nat.reduceAdd])) | ((with_reducible refine If_t (by first | rfl | (simp only [sm,reduceCtorEq];omega)) ?_)) | ((with_reducible refine If_f (by first | rfl | (simp only [sm,reduceCtorEq];omega)) ?_)) | (((with_reducible refine If_i (fun c => ?_) (fun c => ?_)) <;> (try simp only [sm,reduceCtorEq] at c))))
  all_goals refine hk _ ?_
  all_goals simp only [decide_eq_true_eq,decide_eq_false_iff_not,beq_iff_eq,beq_eq_false_iff_ne,ne_eq,reduceCtorEq,true_iff,false_iff] at *
  all_goals omega
theorem known_c {k:Int} {h:Hp} {K:Bool→HP} {Kp:PK} (hk:∀b,(b=true↔(1≤k∧k≤20))→K b h):Fn183 k h K Kp:=by
  refine Fn183.of ?_
  repeat' (first | ((with_reducible refine If_t (by first | rfl | (simp only [sm,reduceCtorEq];omega)) ?_)) | ((with_reducible refine If_f (by first | rfl | (simp only [sm,reduceCtorEq];omega)) ?_)) | (((with_reducible refine If_i (fun c => ?_) (fun c => ?_)) <;> (try simp only [sm,reduceCtorEq] at c))))
  all_goals refine hk _ ?_
  all_goals simp only [decide_eq_true_eq,decide_eq_false_iff_not,reduceCtorEq,true_iff,false_iff] at *
  all_goals omega
theorem bytes_eq {a b:ByteArray}:(a.toList == b.toList)=true↔a=b:=by
  rw [beq_iff_eq,ByteArray.toList_eq,ByteArray.toList_eq]
  exact ⟨bytes_inj,fun e=>by rw [e]⟩
theorem named_c {s:ByteArray} {h:Hp} {K:Bool→HP} {Kp:PK} (hs:s.size≤9223372036854775807) (hk:∀b,(b=true↔NameOk s)→K b h):Fn172 s h K Kp:=by
  refine Fn172.of ?_
  have hF:¬NameOk s→K false h:=fun n=>hk false ⟨by simp,fun x=>(n x).elim⟩
  refine L172_1.rule (fun x h'=>h'=h∧∃i:Nat,x=i∧i≤s.size∧∀j b,j < i→s[j]? = some b→ChOk j (b.toNat:Int)) (fun x _=>s.size - x.toNat) ⟨rfl,0,rfl,by omega,fun j b hj=>by omega⟩ ?_
  rintro x h1 ⟨rfl,i,rfl,hi,hall⟩ N1 hN
  refine If_i (fun c2 => ?_) fun c2 => ?_
  · simp only [decide_eq_true_eq] at c2
    have hi':i < s.size:=by omega
    have hb:s[i]? = some s[i]:=getElem?_pos s i hi'
    generalize s[i]=b at hb
    refine ⟨b,by omega,by rw [Int.toNat_natCast];exact hb,?_⟩
    have nope:¬ChOk i (b.toNat:Int)→K false h1:=fun n=>hF fun q=>n (q.2.2 i b hb)
    have step:ChOk i (b.toNat:Int)→Wr .i64 ((i:Int)+1) fun t20=>N1 (mk172_1 s (s.size:Int) t20) h1:=fun ok=>by
      refine Wr_i64 (by omega) (by omega) ?_
      refine hN _ _ ⟨rfl,i+1,by simp,by omega,fun j b' hj hb' => ?_⟩ (by omega)
      by_cases e:j=i
      · subst e;rw [hb] at hb';cases hb';exact ok
      · exact hall j b' (by omega) hb'
    refine letter_c fun r hr => ?_
    unfold ChOk Lett Digi at nope step
    unfold Lett Digi at hr
    generalize (b.toNat:Int)=t at nope step hr
    cases r <;> repeat' (first | ((with_reducible refine If_t (by first | rfl | (simp only [sm,reduceCtorEq];omega)) ?_)) | ((with_reducible refine If_f (by first | rfl | (simp only [sm,reduceCtorEq];omega)) ?_)) | (((with_reducible refine If_i (fun c => ?_) (fun c => ?_)) <;> (try simp only [sm,reduceCtorEq] at c))))
    all_goals first | refine step ?_ | refine nope ?_
    all_goals simp only [decide_eq_true_eq,decide_eq_false_iff_not,beq_iff_eq,beq_eq_false_iff_ne,ne_eq,reduceCtorEq,true_iff,false_iff] at *
    all_goals omega
  · simp only [decide_eq_false_iff_not] at c2
    refine If_i (fun c3=>hk _ ?_) (fun c3=>hF fun q => ?_)
    · rw [Bool.not_eq_true',Bool.eq_false_iff,ne_eq,bytes_eq] at c3
      rw [decide_eq_true_eq]
      constructor
      · intro h48
        refine ⟨?_,by omega,fun j b hb => ?_⟩
        · rcases Nat.eq_zero_or_pos s.size with h0 | h0
          · exact (c3 (bytes_inj (List.eq_nil_of_length_eq_zero (show s.data.toList.length=0 from h0)))).elim
          · exact h0
        · have:j < s.size:=by
            rcases Nat.lt_or_ge j s.size with h | h
            · exact h
            · rw [getElem?_neg s j (by omega)] at hb;cases hb
          exact hall j b (by omega) hb
      · intro q;have:=q.2.1;omega
    · rw [Bool.not_eq_false',bytes_eq] at c3
      subst c3
      exact absurd q.1 (by decide)
/-- what a type must be, its children's own apart -/
def Shaped (k w id ix:Int) (n:Nat):Prop :=
  1 ≤ k∧k≤20∧(k=14→1≤w∧w≤16)∧(k=16→1≤w∧w≤64)∧(k≠14∧k≠16→w=0)∧(k=19→0≤id∧id≤31∧3≤ix∧ix≤10)∧(k≠19→id=0∧ix=0) ∧
    (k=15∨k=16∨k=19∨k=20→n=1)∧(k=17→n≤32)∧(k=18→1≤n∧n≤32)∧(k≠15∧k≠16∧k≠19∧k≠20∧k≠17∧k≠18→n=0)
/-- the package's table of kinds: which may be an index -/
def KTab (h:Hp):Prop:=∀i:Nat,i < 21→cell h ⟨0,i*4+3,none⟩=some (.bool (decide (3≤i∧i≤10)))
theorem KTab.grw {h h':Hp} (t:KTab h) (g:Grw h h'):KTab h':=fun i hi=>g.cell (t i hi)
end Go.Proofs.YtlbbdbdjiekkaaaGreatDoor
set_option maxRecDepth 100000
set_option maxHeartbeats 200000
/- What a kind asks; fields of one name; marks of null. -/
namespace Go.Proofs.YtlbbdbdjiekkaaaGreatDoor
open Go Go.Sh Go.WideShapes
theorem fits_c {k w id ix:Int} {s:Sl} {h:Hp} {K:Bool→HP} {Kp:PK} (ht:KTab h) (hk:∀b h',Grw h h'→(b=true↔Shaped k w id ix s.n)→K b h'):Fn174 k w id ix s h K Kp:=by
  refine Fn174.of ?_
  refine New_i fun b1 h1 e1 g1 k1 _ => ?_
  have hk:=fun b=>hk b h1 g1
  have ht:=ht.grw g1
  have tab:∀(K:Bool→Prop),1≤ix→ix≤20→K (decide (3≤ix∧ix≤10))→Ix (some (⟨0,0,none⟩)) 21 4 ix fun a67=>Ld h1 (a67.add 3) (Value.bool) fun t69=>K t69:=by
    intro K h1 h2 hK
    refine ⟨by omega,by omega,decide (3≤ix∧ix≤10),?_,hK⟩
    rw [add_blk,add_blk,Nat.zero_add,ht ix.toNat (by omega)]
    congr 2
    rw [decide_eq_decide]
    omega
  clear ht e1
  unfold Shaped at hk
  refine Ld_blk k1 rfl ?_
  refine known_c fun b hb => ?_
  cases b
  · refine If_t rfl (hk _ ?_)
    simp only [sm,reduceCtorEq] at *
    omega
  refine If_f rfl (Ld_blk k1 rfl ?_)
  simp only [sm,reduceCtorEq] at hb
  rcases (by omega:k=14∨k=15∨k=16∨k=17∨k=18∨k=19∨k=20∨(k≠14∧k≠15∧k≠16∧k≠17∧k≠18∧k≠19∧k≠20)) with e | e | e | e | e | e | e | e
  case inr.inr.inr.inr.inr.inl =>
    repeat' (first | ((with_reducible refine J174_1.of ?_);(try simp only [add_blk,Nat.reduceAdd])) | ((with_reducible refine J174_2.of ?_);(try simp only [add_blk,Nat.reduceAdd])) | ((with_reducible refine J174_3.of ?_);(try simp only [add_blk,Nat.reduceAdd])) | ((with_reducible refine J174_7.of ?_);(try simp only [add_blk,Nat.reduceAdd])) | ((with_reducible refine If_t (by first | rfl | (simp only [sm,reduceCtorEq];omega)) ?_)) | ((with_reducible refine If_f (by first | rfl | (simp only [sm,reduceCtorEq];omega)) ?_)) | (((with_reducible refine If_i (fun c => ?_) (fun c => ?_)) <;> (try simp only [sm,reduceCtorEq] at c))) | ((refine Ld_blk k1 rfl ?_)))
    all_goals simp only [sm,reduceCtorEq] at *
    all_goals first
      | (refine known_c fun b hb2 => ?_
         cases b
         · simp only [sm,reduceCtorEq] at hb2
           repeat' (first | ((with_reducible refine J174_8.of ?_);(try simp only [add_blk,Nat.reduceAdd])) | ((with_reducible refine J174_4.of ?_);(try simp only [add_blk,Nat.reduceAdd])) | ((with_reducible refine J174_5.of ?_);(try simp only [add_blk,Nat.reduceAdd])) | ((with_reducible refine J174_6.of ?_);(try simp only [add_blk,Nat.reduceAdd])) | ((with_reducible refine If_t (by first | rfl | (simp only [sm,reduceCtorEq];omega)) ?_)) | ((with_reducible refine If_f (by first | rfl | (simp only [sm,reduceCtorEq];omega)) ?_)) | (((with_reducible refine If_i (fun c => ?_) (fun c => ?_)) <;> (try simp only [sm,reduceCtorEq] at c))) | ((refine Ld_blk k1 rfl ?_)))
           all_goals refine hk _ ?_
           all_goals simp only [sm,reduceCtorEq] at *
           all_goals omega
         · simp only [sm,reduceCtorEq] at hb2
           refine J174_8.of ?_
           simp only [add_blk,Nat.reduceAdd]
           refine If_t rfl (Ld_blk k1 rfl ?_)
           refine tab (fun b=>J174_4 K Kp ⟨b1,0,none⟩ 1 1 _ b h1) (by omega) (by omega) ?_
           by_cases hx:3≤ix∧ix≤10
           · rw [decide_eq_true hx]
             repeat' (first | ((with_reducible refine J174_4.of ?_);(try simp only [add_blk,Nat.reduceAdd])) | ((with_reducible refine J174_5.of ?_);(try simp only [add_blk,Nat.reduceAdd])) | ((with_reducible refine J174_6.of ?_);(try simp only [add_blk,Nat.reduceAdd])) | ((with_reducible refine If_t (by first | rfl | (simp only [sm,reduceCtorEq];omega)) ?_)) | ((with_reducible refine If_f (by first | rfl | (simp only [sm,reduceCtorEq];omega)) ?_)) | (((with_reducible refine If_i (fun c => ?_) (fun c => ?_)) <;> (try simp only [sm,reduceCtorEq] at c))) | ((refine Ld_blk k1 rfl ?_)))
             all_goals refine hk _ ?_
             all_goals simp only [sm,reduceCtorEq] at *
             all_goals omega
           · rw [decide_eq_false hx]
             repeat' (first | ((with_reducible refine J174_4.of ?_);(try simp only [add_blk,Nat.reduceAdd])) | ((with_reducible refine J174_5.of ?_);(try simp only [add_blk,Nat.reduceAdd])) | ((with_reducible refine J174_6.of ?_);(try simp only [add_blk,Nat.reduceAdd])) | ((with_reducible refine If_t (by first | rfl | (simp only [sm,reduceCtorEq];omega)) ?_)) | ((with_reducible refine If_f (by first | rfl | (simp only [sm,reduceCtorEq];omega)) ?_)) | (((with_reducible refine If_i (fun c => ?_) (fun c => ?_)) <;> (try simp only [sm,reduceCtorEq] at c))) | ((refine Ld_blk k1 rfl ?_)))
             all_goals refine hk _ ?_
             all_goals simp only [sm,reduceCtorEq] at *
             all_goals omega)
      | (repeat' (first | ((with_reducible refine J174_8.of ?_);(try simp only [add_blk,Nat.reduceAdd])) | ((with_reducible refine J174_4.of ?_);(try simp only [add_blk,Nat.reduceAdd])) | ((with_reducible refine J174_5.of ?_);(try simp only [add_blk,Nat.reduceAdd])) | ((with_reducible refine J174_6.of ?_);(try simp only [add_blk,Nat.reduceAdd])) | ((with_reducible refine If_t (by first | rfl | (simp only [sm,reduceCtorEq];omega)) ?_)) | ((with_reducible refine If_f (by first | rfl | (simp only [sm,reduceCtorEq];omega)) ?_)) | (((with_reducible refine If_i (fun c => ?_) (fun c => ?_)) <;> (try simp only [sm,reduceCtorEq] at c))) | ((refine Ld_blk k1 rfl ?_)))
         all_goals refine hk _ ?_
         all_goals simp only [sm,reduceCtorEq] at *
         all_goals omega)
  all_goals repeat' (first | ((with_reducible refine J174_1.of ?_);(try simp only [add_blk,Nat.reduceAdd])) | ((with_reducible refine J174_2.of ?_);(try simp only [add_blk,Nat.reduceAdd])) | ((with_reducible refine J174_3.of ?_);(try simp only [add_blk,Nat.reduceAdd])) | ((with_reducible refine J174_4.of ?_);(try simp only [add_blk,Nat.reduceAdd])) | ((with_reducible refine J174_5.of ?_);(try simp only [add_blk,Nat.reduceAdd])) | ((with_reducible refine J174_6.of ?_);(try simp only [add_blk,Nat.reduceAdd])) | ((with_reducible refine J174_7.of ?_);(try simp only [add_blk,Nat.reduceAdd])) | ((with_reducible refine J174_8.of ?_);(try simp only [add_blk,Nat.reduceAdd])) | ((with_reducible refine If_t (by first | rfl | (simp only [sm,reduceCtorEq];omega)) ?_)) | ((with_reducible refine If_f (by first | rfl | (simp only [sm,reduceCtorEq];omega)) ?_)) | (((with_reducible refine If_i (fun c => ?_) (fun c => ?_)) <;> (try simp only [sm,reduceCtorEq] at c))) | ((refine Ld_blk k1 rfl ?_)))
  all_goals refine hk _ ?_
  all_goals simp only [sm,reduceCtorEq] at *
  all_goals omega
def Fld.name:Fld→ByteArray | .mk n _ _ _ _ _ _=>n
def Fld.nul:Fld→Bool | .mk _ b _ _ _ _ _=>b
def Fld.k:Fld→Int | .mk _ _ k _ _ _ _=>k
def Fld.w:Fld→Int | .mk _ _ _ w _ _ _=>w
def Fld.id:Fld→Int | .mk _ _ _ _ i _ _=>i
def Fld.ix:Fld→Int | .mk _ _ _ _ _ i _=>i
def Fld.cs:Fld→List Fld | .mk _ _ _ _ _ _ cs=>cs
/-- the cells of a field -/
theorem FldH.cells {h:Hp} {a:Addr} {f:Fld} (hf:FldH h a f):∃s,FsH h s f.cs∧cell h a=some (.string f.name)∧cell h (a.add 1)=some (.bool f.nul)∧cell h (a.add 2)=some (.int .i64 f.k) ∧
    cell h (a.add 3)=some (.int .i64 f.w)∧cell h (a.add 4)=some (.int .i64 f.id)∧cell h (a.add 5)=some (.int .i64 f.ix)∧cell h (a.add 6)=some (Sl.v s):=by
  obtain ⟨n,nul,k,wd,id,ix,ds⟩:=f
  unfold FldH at hf
  obtain ⟨u,hc,hu⟩:=hf
  have c0:=hc 0 _ rfl
  rw [add_zero'] at c0
  exact ⟨u,hu,c0,hc 1 _ rfl,hc 2 _ rfl,hc 3 _ rfl,hc 4 _ rfl,hc 5 _ rfl,hc 6 _ rfl⟩
/-- the i-th field of a slice is reached -/
theorem FsH.ix {h0:Hp} {s:Sl} {cs:List Fld} (hs:FsH h0 s cs) {x:Int} {i:Nat} (hx:x=(i:Int)) {f:Fld} (hj:cs[i]? = some f) {K:Addr→Prop} (hk:∀a,FldH h0 a f→K a):Ix s.a s.n 7 x K:=by
  obtain ⟨a,ha,hf⟩:=hs.get hj
  have hn:=hs.n
  have hi:i < cs.length:=(List.getElem?_eq_some_iff.1 hj).1
  subst hx
  rw [ha]
  exact ⟨by omega,by omega,by rw [Int.toNat_natCast];exact hk _ hf⟩
def Nulls (k:Int) (nul:Bool) (cs:List Fld):Prop:=(k=1→nul=true)∧(k=18→nul=false)∧(k=20→∃c,cs[0]? = some c∧nul=c.nul)
theorem nulls_c {n:ByteArray} {nul:Bool} {k w id ix:Int} {s:Sl} {cs:List Fld} {h0 h:Hp} {K:Bool→HP} {Kp:PK} (g:Grw h0 h) (hs:FsH h0 s cs) (h1:k=20→cs.length=1) (hk:∀b h',Grw h h'→(b=true↔Nulls k nul cs)→K b h'):Fn175 n nul k w id ix s h K Kp:=by
  refine Fn175.of ?_
  refine New_i fun b1 h2 e1 g1 k1 _ => ?_
  have hk:=fun b=>hk b h2 g1
  unfold Nulls at hk
  simp only [add_blk,Nat.reduceAdd]
  refine Ld_blk k1 rfl ?_
  refine If_i (fun c => ?_) (fun c => ?_)
  · simp only [sm,reduceCtorEq] at c;subst c
    refine Ld_blk k1 rfl (hk _ ?_)
    simp
  refine If_i (fun c2 => ?_) (fun c2 => ?_)
  · simp only [sm,reduceCtorEq] at c2;subst c2
    refine Ld_blk k1 rfl (hk _ ?_)
    simp
  refine If_i (fun c3 => ?_) (fun c3 => ?_)
  · simp only [sm,reduceCtorEq] at c3;subst c3
    have hl:=h1 rfl
    have hj:cs[0]? = some cs[0]:=List.getElem?_eq_getElem (by omega)
    refine Ld_blk k1 rfl (Ld_blk k1 rfl ?_)
    generalize cs[0]=f at hj
    refine hs.ix rfl hj fun a ha => ?_
    obtain ⟨u,_,_,c1,_⟩:=ha.cells
    refine ⟨_,(Grw.trans g g1).cell c1,hk _ ?_⟩
    simp [hj]
  · simp only [sm,reduceCtorEq] at c c2 c3
    refine hk _ ?_
    simp [c,c2,c3]
/-- no two fields have one name -/
def Unlike (cs:List Fld):Prop:=∀(i j:Nat) a b,j < i→cs[i]? = some a→cs[j]? = some b→a.name≠b.name
/-- is a name among those of the fields ahead? -/
theorem again_c {s:Sl} {cs:List Fld} {h0 h:Hp} {a3:Addr} {n:ByteArray} {K:Bool→HP} {Kp:PK} (g:Grw h0 h) (hs:FsH h0 s cs) (hl:cs.length≤9223372036854775807) (hn:cell h (a3.add 2)=some (.string n))
    (hk:∀b h',Grw h h'→(b=true↔∃c∈cs,c.name=n)→K b h'):Fn204 s (.func (.func I173) #[] #[(.pointer (some a3))]) h K Kp:=by
  refine Fn204.of ?_
  refine Fn206.of ?_
  have hsn:=hs.n
  have hok:okFn Tryz.prog I173=true:=by kernel_rfl
  refine L206_1.rule (fun x h'=>Grw h h'∧∃i:Nat,x=i∧i≤cs.length∧∀(j:Nat) a,j < i→cs[j]? = some a→a.name≠n) (fun x _=>cs.length - x.toNat) ⟨Grw.refl _,0,rfl,by omega,fun j a hi=>by omega⟩ ?_
  rintro x h1 ⟨g1,i,rfl,hi,hall⟩ N1 hN
  refine If_i (fun c => ?_) (fun c => ?_)
  · simp only [sm,reduceCtorEq] at c
    have hi':i < cs.length:=by omega
    have ei:cs[i]? = some cs[i]:=List.getElem?_eq_getElem hi'
    generalize cs[i]=f at ei
    refine hs.ix rfl ei fun pa ha => ?_
    obtain ⟨u,_,c0,c1,c2,c3,c4,c5,c6⟩:=ha.cells
    have G:=Grw.trans g g1
    refine ⟨_,G.cell c0,_,G.cell c1,_,G.cell c2,_,G.cell c3,_,G.cell c4,_,G.cell c5,_,G.cell c6,?_⟩
    unfold CallV
    simp only [hok,cond_true]
    refine Fn173.of ?_
    refine New_i fun b1 h2 e1 g2 k1 _ => ?_
    refine Ld_blk k1 rfl ⟨_,g2.cell (g1.cell hn),?_⟩
    refine If_i (fun c3 => ?_) (fun c3 => ?_)
    · rw [bytes_eq] at c3
      refine hk _ _ (Grw.trans g1 g2) ⟨fun _=>⟨f,List.mem_of_getElem? ei,c3⟩,fun _=>by rw [decide_eq_true_eq];omega⟩
    · rw [Bool.eq_false_iff,ne_eq,bytes_eq] at c3
      refine Wr_i64 (by omega) (by omega) ?_
      refine hN _ _ ⟨Grw.trans g1 g2,i+1,by simp,by omega,fun j' a' hlt ea => ?_⟩ (by omega)
      by_cases e:j'=i
      · subst e;rw [ei] at ea;cases ea;exact c3
      · exact hall j' a' (by omega) ea
  · simp only [sm,reduceCtorEq] at c
    refine hk _ _ g1 ⟨fun q => ?_,fun ⟨f,hf,e⟩ => ?_⟩
    · rw [decide_eq_true_eq] at q;omega
    · obtain ⟨j,hj⟩:=List.mem_iff_getElem?.1 hf
      exact (hall j f (by have:=(List.getElem?_eq_some_iff.1 hj).1;omega) hj e).elim
end Go.Proofs.YtlbbdbdjiekkaaaGreatDoor
set_option maxRecDepth 100000
set_option maxHeartbeats 200000
/- All fields of a schema in their order. -/
namespace Go.Proofs.YtlbbdbdjiekkaaaGreatDoor
open Go Go.Sh Go.WideShapes
/-- a field at its place: how deep, which of its list are ahead, whether within a dictionary -/
structure Pl where
  deep:Nat
  ahead:List Fld
  f:Fld
  ins:Bool
mutual
def Fld.places (d:Nat) (ahead:List Fld) (ins:Bool):Fld→List Pl
  | .mk n nul k w id ix cs=>⟨d,ahead, .mk n nul k w id ix cs,ins⟩::(if d < 65 then placesL (d+1) [] (ins || k == 19) cs else [])
def placesL (d:Nat) (ahead:List Fld) (ins:Bool):List Fld→List Pl
  | []=>[]
  | f::fs=>f.places d ahead ins++placesL d (ahead++[f]) ins fs
end
def placesU (d:Nat) (ins:Bool):List Fld→List Pl
  | []=>[]
  | f::fs=>f.places d [] ins++placesU d ins fs
def nextIds (ids:List Int) (f:Fld):List Int:=if f.k=19 then ids++[f.id] else ids
def Right (n:Nat) (ids:List Int) (x:Pl):Prop:=x.deep≤64∧n < 256∧NameOk x.f.name∧(∀g∈x.ahead,g.name≠x.f.name)∧Shaped x.f.k x.f.w x.f.id x.f.ix x.f.cs.length∧Nulls x.f.k x.f.nul x.f.cs ∧
  ¬(x.ins=true∧(x.f.k=19∨x.f.k=20))∧(x.f.k=19→(∃c,x.f.cs[0]? = some c∧c.nul=false)∧x.f.id∉ids)
def AllR (n:Nat) (ids:List Int):List Pl→Prop
  | []=>True
  | x::xs=>Right n ids x∧AllR (n+1) (nextIds ids x.f) xs
def idsOf (ids:List Int):List Pl→List Int
  | []=>ids
  | x::xs=>idsOf (nextIds ids x.f) xs
theorem AllR_append {a b:List Pl}:∀{n:Nat} {ids:List Int},AllR n ids (a++b)↔AllR n ids a∧AllR (n+a.length) (idsOf ids a) b:=by
  induction a with
  | nil=>intro n ids;simp [AllR,idsOf]
  | cons x xs ih =>
    intro n ids
    simp only [List.cons_append,AllR,idsOf,ih,List.length_cons,and_assoc]
    have e:n+1+xs.length=n+(xs.length+1):=by omega
    rw [e]
theorem idsOf_append {a b:List Pl}:∀{ids:List Int},idsOf ids (a++b)=idsOf (idsOf ids a) b:=by
  induction a with
  | nil=>intro ids;rfl
  | cons x xs ih=>intro ids;simp only [List.cons_append,idsOf,ih]
theorem AllR_len {a:List Pl}:∀{n:Nat} {ids:List Int},AllR n ids a→n≤256→n+a.length≤256:=by
  induction a with
  | nil=>intro n ids _ h;simpa using h
  | cons x xs ih =>
    intro n ids h _
    obtain ⟨⟨_,h1,_⟩,h2⟩:=h
    have:=ih h2 (by omega)
    simp only [List.length_cons];omega
theorem places_ahead {f:Fld} {d:Nat} {ahead:List Fld} {ins:Bool} {n:Nat} {ids:List Int}:AllR n ids (f.places d ahead ins)↔(∀g∈ahead,g.name≠f.name)∧AllR n ids (f.places d [] ins):=by
  obtain ⟨nm,nul,k,w,id,ix,cs⟩:=f
  simp only [Fld.places,AllR,Right,List.not_mem_nil]
  constructor
  · rintro ⟨⟨a,b,c,e,r⟩,q⟩;exact ⟨e,⟨a,b,c,by simp,r⟩,q⟩
  · rintro ⟨e,⟨a,b,c,_,r⟩,q⟩;exact ⟨⟨a,b,c,e,r⟩,q⟩
theorem places_len {f:Fld} {d:Nat} {ahead:List Fld} {ins:Bool}:(f.places d ahead ins).length=(f.places d [] ins).length:=by
  obtain ⟨nm,nul,k,w,id,ix,cs⟩:=f
  simp only [Fld.places,List.length_cons]
theorem places_ids {f:Fld} {d:Nat} {ahead:List Fld} {ins:Bool} {ids:List Int}:idsOf ids (f.places d ahead ins)=idsOf ids (f.places d [] ins):=by
  obtain ⟨nm,nul,k,w,id,ix,cs⟩:=f
  simp only [Fld.places,idsOf]
def Apart:List Fld→List Fld→Prop
  | _,[]=>True
  | ahead,f::fs=>(∀g∈ahead,g.name≠f.name)∧Apart (ahead++[f]) fs
theorem AllR_L {fs:List Fld} {d:Nat} {ins:Bool}:∀{ahead:List Fld} {n:Nat} {ids:List Int},AllR n ids (placesL d ahead ins fs)↔Apart ahead fs∧AllR n ids (placesU d ins fs):=by
  induction fs with
  | nil=>intro ahead n ids;simp [placesL,placesU,Apart,AllR]
  | cons f fs ih =>
    intro ahead n ids
    simp only [placesL,placesU,Apart,AllR_append,ih,places_ahead (ahead:=ahead),places_len (ahead:=ahead),places_ids (ahead:=ahead)]
    constructor
    · rintro ⟨⟨a,b⟩,c,e⟩;exact ⟨⟨a,c⟩,b,e⟩
    · rintro ⟨⟨a,c⟩,b,e⟩;exact ⟨⟨a,b⟩,c,e⟩
theorem unlike_pw {cs:List Fld}:Unlike cs↔cs.Pairwise fun a b=>a.name≠b.name:=by
  rw [List.pairwise_iff_getElem]
  constructor
  · intro u i j hi hj hlt e
    exact u j i _ _ hlt (List.getElem?_eq_getElem hj) (List.getElem?_eq_getElem hi) e.symm
  · intro u i j a b hlt ea eb e
    obtain ⟨hi,rfl⟩:=List.getElem?_eq_some_iff.1 ea
    obtain ⟨hj,rfl⟩:=List.getElem?_eq_some_iff.1 eb
    exact u j i hj hi hlt e.symm
theorem apart_pw {fs:List Fld}:∀{ahead:List Fld},ahead.Pairwise (fun a b=>a.name≠b.name)→(Apart ahead fs↔(ahead++fs).Pairwise fun a b=>a.name≠b.name):=by
  induction fs with
  | nil=>intro ahead h;simp [Apart,h]
  | cons f fs ih =>
    intro ahead h
    simp only [Apart]
    have e:ahead++f::fs=(ahead++[f])++fs:=by simp
    constructor
    · rintro ⟨h1,h2⟩
      have hp:(ahead++[f]).Pairwise fun a b=>a.name≠b.name:=List.pairwise_append.2 ⟨h,by simp,fun a ha b hb=>by simp only [List.mem_singleton] at hb;subst hb;exact h1 a ha⟩
      rw [e];exact (ih hp).1 h2
    · intro hp
      rw [e] at hp
      have hp1:=(List.pairwise_append.1 hp).1
      exact ⟨fun g hg=>(List.pairwise_append.1 hp1).2.2 g hg f (by simp),(ih hp1).2 hp⟩
theorem AllR_0 {fs:List Fld} {d:Nat} {ins:Bool} {n:Nat} {ids:List Int}:AllR n ids (placesL d [] ins fs)↔Unlike fs∧AllR n ids (placesU d ins fs):=by
  rw [AllR_L,apart_pw List.Pairwise.nil,List.nil_append,unlike_pw]
def MdOk (m:Md):Prop:=m.1.size≤256∧m.2.size≤256
/-- which schemas may be -/
def SchOk (fs:List Fld) (ms:List Md):Prop:=fs.length≤32∧ms.length≤16∧(∀(j:Nat) m,ms[j]? = some m→MdOk m)∧Unlike fs∧AllR 0 [] (placesU 1 false fs)
abbrev B61 (h:Hp) (b:Nat) (k w id ix:Int) (s:Sl):Prop:=Blk h b #[.int .i64 k, .int .i64 w, .int .i64 id, .int .i64 ix,Sl.v s] Y27
theorem places_cons {nm:ByteArray} {nul:Bool} {k w id ix:Int} {cs:List Fld} {d:Nat} {ins:Bool} (hd:d≤64):(Fld.mk nm nul k w id ix cs).places d [] ins=⟨d,[], .mk nm nul k w id ix cs,ins⟩::placesL (d+1) [] (ins || k == 19) cs:=by
  unfold Fld.places;rw [if_pos (by omega)]
end Go.Proofs.YtlbbdbdjiekkaaaGreatDoor
set_option maxRecDepth 100000
set_option maxHeartbeats 200000
/- A map of numbers; what is wrong with a field. -/
namespace Go.Proofs.YtlbbdbdjiekkaaaGreatDoor
open Go Go.Sh Go.WideShapes
/-! ### a map of numbers -/
def MapI (h:Hp) (r:Nat) (ids:List Int):Prop:=∃es c,h[r]? = some (.map es c)∧(∀e∈es.toList,∃x v:Int,e.key=.int .i64 x∧e.val=.int .i64 v)∧∀x:Int,(∃e∈es.toList,e.key=.int .i64 x)↔x∈ids
theorem MapI.fr {S:Nat→Prop} {h h':Hp} {r:Nat} {ids:List Int} (m:MapI h r ids) (f:Tn S h h') (hn:¬S r):MapI h' r ids:=by
  obtain ⟨es,c,e,q⟩:=m
  exact ⟨es,c,(f.2 r (Array.getElem?_eq_some_iff.1 e).1 hn).trans e,q⟩
theorem MapI.grw {h h':Hp} {r:Nat} {ids:List Int} (m:MapI h r ids) (g:Grw h h'):MapI h' r ids:=m.fr (S:=No) (Tn.of_grw g) id
theorem MapI.find {es:Array MapEntry} (hv:∀e∈es.toList,∃x v:Int,e.key=.int .i64 x∧e.val=.int .i64 v) (t:Int):(Instr.findNow (.int .i64) (.int .i64 t) es.toList 0=some none∧¬∃e∈es.toList,e.key=.int .i64 t) ∨
    ∃(j:Nat) (v:Int),Instr.findNow (.int .i64) (.int .i64 t) es.toList 0=some (some (j, .int .i64 v))∧∃e,es.toList[j]? = some e∧e.key=.int .i64 t:=by
  rcases MapKept.findNow_spec (d:=.int .i64) (k:=.int .i64 t) rfl es.toList 0 (fun x hx=>by obtain ⟨a,_,e,_⟩:=hv x hx;rw [e];rfl) with ⟨h1,h2⟩ | ⟨j,e,h1,h2,h3⟩
  · exact .inl ⟨h1,fun ⟨e,he,q⟩=>h2 e he q⟩
  · obtain ⟨_,v,_,e2⟩:=hv e (List.mem_of_getElem? h2)
    rw [Nat.zero_add,e2] at h1
    exact .inr ⟨j,v,h1,e,h2,h3⟩
theorem Lk_i {h:Hp} {r:Nat} {ids:List Int} {t:Int} {K:Int→Bool→Prop} (m:MapI h r ids) (hk:∀x b,(b=true↔t∈ids)→K x b):Lk h (some r) (.int .i64) (.int .i64 t) (.int .i64 (0:Int)) mI K:=by
  obtain ⟨es,c,e,hv,hm⟩:=m
  rcases MapI.find hv t with ⟨h1,h2⟩ | ⟨j,v,h1,e',h2,h3⟩
  · exact ⟨es,c,_,e,h1,0,rfl,hk 0 false ⟨by simp,fun q=>(h2 ((hm t).2 q)).elim⟩⟩
  · exact ⟨es,c,_,e,h1,v,rfl,hk v true ⟨fun _=>(hm t).1 ⟨e',List.mem_of_getElem? h2,h3⟩,fun _=>rfl⟩⟩
theorem Up_i {h:Hp} {r:Nat} {ids:List Int} {t v:Int} {K:HP} (m:MapI h r ids) (hk:∀h',Only r h h'→MapI h' r (ids++[t])→K h'):Up h (some r) (.int .i64) (.int .i64 t) (.int .i64 v) K:=by
  obtain ⟨es,c,e,hv,hm⟩:=m
  have hlt:=(Array.getElem?_eq_some_iff.1 e).1
  have onl:∀o,Only r h (h.setIfInBounds r o):=fun o=>⟨by simp,fun b hb=>by rw [Array.getElem?_setIfInBounds,if_neg (fun q=>hb q.symm)]⟩
  have get:∀o,(h.setIfInBounds r o)[r]? = some o:=fun o=>by rw [Array.getElem?_setIfInBounds];simp [hlt]
  rcases MapI.find hv t with ⟨h1,h2⟩ | ⟨j,v0,h1,e',h2,h3⟩
  · refine ⟨es,c,_,e,h1,hk _ (onl _) ⟨_,_,get _,fun x hx => ?_,fun x => ?_⟩⟩
    · simp only [Array.toList_push,List.mem_append,List.mem_singleton] at hx
      rcases hx with hx | rfl
      · exact hv x hx
      · exact ⟨t,v,rfl,rfl⟩
    · rw [List.mem_append,←hm x]
      simp only [Array.toList_push,List.mem_append,List.mem_singleton]
      constructor
      · rintro ⟨y,hy | rfl,q⟩
        · exact .inl ⟨y,hy,q⟩
        · simp only [Value.int.injEq,true_and] at q;exact .inr q.symm
      · rintro (⟨y,hy,q⟩ | rfl)
        · exact ⟨y, .inl hy,q⟩
        · exact ⟨_, .inr rfl,rfl⟩
  · refine ⟨es,c,_,e,h1,hk _ (onl _) ⟨_,_,get _,fun x hx => ?_,fun x => ?_⟩⟩
    · rw [Array.toList_modify] at hx
      obtain ⟨i,hi⟩:=List.mem_iff_getElem?.1 hx
      rw [List.getElem?_modify] at hi
      cases hh:es.toList[i]? with
      | none=>simp [hh] at hi
      | some y =>
        have hy:=hv y (List.mem_of_getElem? hh)
        rw [hh] at hi
        split at hi <;> replace hi:=Option.some.inj hi
        · subst hi;exact ⟨t,v,rfl,rfl⟩
        · subst hi;exact hy
    · rw [List.mem_append,←hm x,Array.toList_modify]
      constructor
      · rintro ⟨y,hy,q⟩
        obtain ⟨i,hi⟩:=List.mem_iff_getElem?.1 hy
        rw [List.getElem?_modify] at hi
        cases hh:es.toList[i]? with
        | none=>simp [hh] at hi
        | some z =>
          rw [hh] at hi
          split at hi <;> replace hi:=Option.some.inj hi
          · subst hi;simp only [Value.int.injEq,true_and] at q;exact .inr (by simp [q])
          · subst hi;exact .inl ⟨z,List.mem_of_getElem? hh,q⟩
      · rintro (⟨y,hy,q⟩ | hx)
        · obtain ⟨i,hi⟩:=List.mem_iff_getElem?.1 hy
          by_cases e2:j=i
          · subst e2
            rw [h2] at hi;cases hi
            refine ⟨_,List.mem_of_getElem? (i:=j) (by rw [List.getElem?_modify,h2];simp;rfl),?_⟩
            rw [←q,h3]
          · exact ⟨y,List.mem_of_getElem? (i:=i) (by rw [List.getElem?_modify,hi];simp [e2]),q⟩
        · simp only [List.mem_singleton] at hx
          subst hx
          exact ⟨_,List.mem_of_getElem? (i:=j) (by rw [List.getElem?_modify,h2];simp;rfl),rfl⟩
abbrev M63:Nat:=9223372036854775807
theorem wrong_c {x:Pl} {n r:Nat} {ids:List Int} {h0 h:Hp} {sp sa sf:Sl} {K:Int→HP} {Kp:PK} (g:Grw h0 h) (ht:KTab h0) (hp:sp.n=x.deep) (ha:FsH h0 sa x.ahead) (hf:FsH h0 sf x.f.cs) (hal:x.ahead.length≤M63) (hnm:x.f.name.size≤M63) (hm:MapI h r ids)
    (hk:∀e h',Grw h h'→(e=0↔Right n ids x)→K e h'):Fn153 sp sa x.f.name x.f.nul x.f.k x.f.w x.f.id x.f.ix sf x.ins (n:Int) (some r) h K Kp:=by
  have hsf:=hf.n
  refine Fn153.of ?_
  have hF:¬Right n ids x→∀(e:Int) h',e≠0→Grw h h'→K e h':=fun q e h' ne g=>hk e h' g ⟨fun y=>(ne y).elim,fun y=>(q y).elim⟩
  refine New_i fun b3 h1 e3 g3 k3 _ => ?_
  simp only [add_blk,Nat.reduceAdd]
  refine Ld_blk k3 rfl (Ld_blk k3 rfl (Ld_blk k3 rfl (Ld_blk k3 rfl (Ld_blk k3 rfl ?_))))
  have lc:=SyH.start No h1
  refine lc.new fun b7 _ hb7 _ lc => ?_
  repeat (first | refine lc.ldo 0 rfl rfl ?_ | refine lc.ld 0 rfl rfl ?_ | refine lc.ldo 1 rfl rfl ?_ | refine lc.ld 1 rfl rfl ?_ | refine lc.ldo 2 rfl rfl ?_ | refine lc.ld 2 rfl rfl ?_ | refine lc.ldo 3 rfl rfl ?_ | refine lc.ld 3 rfl rfl ?_ | refine lc.ldo 4 rfl rfl ?_ | refine lc.ld 4 rfl rfl ?_ | refine lc.ldo 5 rfl rfl ?_ | refine lc.ld 5 rfl rfl ?_ | refine lc.ldo 6 rfl rfl ?_ | refine lc.ld 6 rfl rfl ?_ | (refine lc.sto 0 rfl rfl rfl fun _ _ lc => ?_;simp only [Nat.zero_add,List.set_cons_zero,List.set_cons_succ,List.setIfInBounds_toArray] at lc) | (refine lc.st 0 rfl rfl rfl fun _ _ lc => ?_;simp only [Nat.zero_add,List.set_cons_zero,List.set_cons_succ,List.setIfInBounds_toArray] at lc) | (refine lc.sto 1 rfl rfl rfl fun _ _ lc => ?_;simp only [Nat.zero_add,List.set_cons_zero,List.set_cons_succ,List.setIfInBounds_toArray] at lc) | (refine lc.st 1 rfl rfl rfl fun _ _ lc => ?_;simp only [Nat.zero_add,List.set_cons_zero,List.set_cons_succ,List.setIfInBounds_toArray] at lc) | (refine lc.sto 2 rfl rfl rfl fun _ _ lc => ?_;simp only [Nat.zero_add,List.set_cons_zero,List.set_cons_succ,List.setIfInBounds_toArray] at lc) | (refine lc.st 2 rfl rfl rfl fun _ _ lc => ?_;simp only [Nat.zero_add,List.set_cons_zero,List.set_cons_succ,List.setIfInBounds_toArray] at lc) | (refine lc.sto 3 rfl rfl rfl fun _ _ lc => ?_;simp only [Nat.zero_add,List.set_cons_zero,List.set_cons_succ,List.setIfInBounds_toArray] at lc) | (refine lc.st 3 rfl rfl rfl fun _ _ lc => ?_;simp only [Nat.zero_add,List.set_cons_zero,List.set_cons_succ,List.setIfInBounds_toArray] at lc) | (refine lc.sto 4 rfl rfl rfl fun _ _ lc => ?_;simp only [Nat.zero_add,List.set_cons_zero,List.set_cons_succ,List.setIfInBounds_toArray] at lc) | (refine lc.st 4 rfl rfl rfl fun _ _ lc => ?_;simp only [Nat.zero_add,List.set_cons_zero,List.set_cons_succ,List.setIfInBounds_toArray] at lc) | (refine lc.sto 5 rfl rfl rfl fun _ _ lc => ?_;simp only [Nat.zero_add,List.set_cons_zero,List.set_cons_succ,List.setIfInBounds_toArray] at lc) | (refine lc.st 5 rfl rfl rfl fun _ _ lc => ?_;simp only [Nat.zero_add,List.set_cons_zero,List.set_cons_succ,List.setIfInBounds_toArray] at lc) | (refine lc.sto 6 rfl rfl rfl fun _ _ lc => ?_;simp only [Nat.zero_add,List.set_cons_zero,List.set_cons_succ,List.setIfInBounds_toArray] at lc) | (refine lc.st 6 rfl rfl rfl fun _ _ lc => ?_;simp only [Nat.zero_add,List.set_cons_zero,List.set_cons_succ,List.setIfInBounds_toArray] at lc) | refine lc.ldo 0 (x:=Sl.nil) rfl rfl ?_ | refine lc.ld 0 (x:=Sl.nil) rfl rfl ?_ | refine lc.ldo 1 (x:=Sl.nil) rfl rfl ?_ | refine lc.ld 1 (x:=Sl.nil) rfl rfl ?_ | refine lc.ldo 2 (x:=Sl.nil) rfl rfl ?_ | refine lc.ld 2 (x:=Sl.nil) rfl rfl ?_ | refine lc.ldo 3 (x:=Sl.nil) rfl rfl ?_ | refine lc.ld 3 (x:=Sl.nil) rfl rfl ?_ | refine lc.ldo 4 (x:=Sl.nil) rfl rfl ?_ | refine lc.ld 4 (x:=Sl.nil) rfl rfl ?_ | refine lc.ldo 5 (x:=Sl.nil) rfl rfl ?_ | refine lc.ld 5 (x:=Sl.nil) rfl rfl ?_ | refine lc.ldo 6 (x:=Sl.nil) rfl rfl ?_ | refine lc.ld 6 (x:=Sl.nil) rfl rfl ?_ | refine Wr_i64 (by omega) (by omega) ?_ | refine If_t rfl ?_ | refine If_f rfl ?_)
  have k7:B61 _ b7 x.f.k x.f.w x.f.id x.f.ix sf:=lc.blk (i:=0) rfl
  have k3:=k3.grw lc.grw
  have g7:=Grw.trans g3 lc.grw
  clear lc e3
  rename_i h7 _
  refine Lk_i (hm.grw g7) fun tv ok hok => ?_
  refine Ld_blk k3 rfl (If_i (fun c=>hF (fun q => ?_) _ _ (by decide) g7) fun c => ?_)
  · simp only [sm,reduceCtorEq] at c;have:=q.1;omega
  simp only [sm,reduceCtorEq] at c
  refine If_i (fun c2=>hF (fun q => ?_) _ _ (by decide) g7) fun c2 => ?_
  · simp only [sm,reduceCtorEq] at c2;have:=q.2.1;omega
  simp only [sm,reduceCtorEq] at c2
  refine Ld_blk k3 rfl (named_c hnm fun b hb => ?_)
  cases b
  · exact If_t rfl (hF (fun q=>absurd (hb.2 q.2.2.1) (by simp)) _ _ (by decide) g7)
  have hname:=hb.1 rfl
  clear hb
  refine If_f rfl (Ld_blk k3 rfl ?_)
  refine again_c (Grw.trans g g7) ha hal (n:=x.f.name) (by rw [add_blk,cell_blk k3];rfl) fun b h8 g8 hb => ?_
  have G8:=Grw.trans g7 g8
  have k3:=k3.grw g8
  have k7:=k7.grw g8
  cases b
  rotate_left
  · obtain ⟨f,hf1,hf2⟩:=hb.1 rfl
    exact If_t rfl (hF (fun q=>q.2.2.2.1 f hf1 hf2) _ _ (by decide) G8)
  have hap:∀f∈x.ahead,f.name≠x.f.name:=fun f hf e=>absurd (hb.2 ⟨f,hf,e⟩) (by simp)
  clear hb
  refine If_f rfl (Ld_blk k7 rfl (Ld_blk k7 rfl (Ld_blk k7 rfl (Ld_blk k7 rfl (Ld_blk k7 rfl ?_)))))
  refine fits_c (ht.grw (Grw.trans g G8)) fun b h9 g9 hb => ?_
  have G9:=Grw.trans G8 g9
  have k3:=k3.grw g9
  have k7:=k7.grw g9
  rw [hsf.1] at hb
  cases b
  · exact If_t rfl (hF (fun q=>absurd (hb.2 q.2.2.2.2.1) (by simp)) _ _ (by decide) G9)
  have hsh:=hb.1 rfl
  clear hb
  refine If_f rfl (Ld_blk k3 rfl (Ld_blk k3 rfl (Ld_blk k3 rfl (Ld_blk k3 rfl (Ld_blk k3 rfl (Ld_blk k3 rfl (Ld_blk k3 rfl ?_)))))))
  refine nulls_c (Grw.trans g G9) hf (fun e=>by unfold Shaped at hsh;omega) fun b h10 g10 hb => ?_
  have G10:=Grw.trans G9 g10
  have k3:=k3.grw g10
  have k7:=k7.grw g10
  cases b
  · exact If_t rfl (hF (fun q=>absurd (hb.2 q.2.2.2.2.2.1) (by simp)) _ _ (by decide) G10)
  have hnu:=hb.1 rfl
  clear hb
  have hT:¬(x.ins=true∧(x.f.k=19∨x.f.k=20))→(x.f.k=19→(∃c,x.f.cs[0]? = some c∧c.nul=false)∧x.f.id∉ids)→K 0 h10:=fun a b=>hk 0 h10 G10 ⟨fun _=>⟨by omega,by omega,hname,hap,hsh,hnu,a,b⟩,fun _=>rfl⟩
  have hF:=fun q=>hF q 36 h10 (by decide) G10
  have j1 : ∀b,(b=true↔x.ins=true∧(x.f.k=19∨x.f.k=20))→J153_1 K Kp ⟨b7,0,none⟩ ok b h10:=by
    intro b hb
    refine J153_1.of ?_
    simp only [add_blk,Nat.reduceAdd]
    cases b
    · have hb:¬(x.ins=true∧(x.f.k=19∨x.f.k=20)):=fun q=>absurd (hb.2 q) (by simp)
      refine If_f rfl (Ld_blk k7 rfl (If_i (fun c => ?_) fun c => ?_))
      · simp only [sm,reduceCtorEq] at c
        have hpos:0 < x.f.cs.length:=by unfold Shaped at hsh;omega
        obtain ⟨f,hj⟩:∃f,x.f.cs[0]? = some f:=⟨x.f.cs[0],List.getElem?_eq_getElem hpos⟩
        refine Ld_blk k7 rfl (hf.ix rfl hj fun a ha => ?_)
        obtain ⟨u,_,_,c1,_⟩:=ha.cells
        refine ⟨_,(Grw.trans g G10).cell c1,?_⟩
        refine If_i (fun e5 => ?_) fun e5 => ?_
        · refine hF fun q => ?_
          obtain ⟨y,hy,q⟩:=(q.2.2.2.2.2.2.2 c).1
          rw [hj] at hy;cases hy
          simp [e5] at q
        · cases ok
          · exact If_f rfl (hT hb fun _=>⟨⟨f,hj,by simpa using e5⟩,fun q=>absurd (hok.2 q) (by simp)⟩)
          · exact If_t rfl (hF fun q=>(q.2.2.2.2.2.2.2 c).2 (hok.1 rfl))
      · simp only [sm,reduceCtorEq] at c
        exact hT hb fun q=>(c q).elim
    · exact If_t rfl (If_t rfl (hF fun q=>q.2.2.2.2.2.2.1 (hb.1 rfl)))
  refine If_f rfl (Ld_blk k3 rfl (If_i (fun e => ?_) fun e => ?_))
  · refine Ld_blk k7 rfl (If_i (fun c=>j1 _ ?_) fun c => ?_)
    · simp only [sm,reduceCtorEq] at c;simp [c,e]
    · refine Ld_blk k7 rfl (j1 _ ?_)
      simp only [sm,reduceCtorEq] at c;simp [c,e]
  · exact j1 _ (by simp [e])
theorem clone_c {lo:Nat} {h:Hp} {s:Sl} {vs:List Value} {K:Sl→HP} {Kp:PK} (o:Sh lo h.size 1 h s vs Y6) (hv:∀v∈vs,one v=true) (hl:vs.length≤1000)
    (hk:∀s' h',Grw h h'→Sh h.size h'.size 1 h' s' vs Y6→K s' h'):Fn203 s h K Kp:=by
  refine Fn203.of ?_
  have hn:=o.n
  rcases o with ⟨rfl,rfl⟩ | ⟨b,h1,h2,o⟩
  · exact If_t rfl (hk _ h (Grw.refl _) (Sh.nil _ _ _ _ _))
  · obtain ⟨e1,e2,cs,k,e3,e4,e5⟩:=o
    refine If_f (by rw [e1];rfl) (New_i fun b5 h3 eb g3 k3 esz => ?_)
    have o5:Sh h.size h3.size 1 h3 ⟨some ⟨b5,0,none⟩,0,0⟩ [] Y6:=.inr ⟨b5,by omega,by omega,rfl,rfl,_,k3,Nat.le_refl _,rfl,fun i hi=>by simp at hi⟩
    refine Ap_sh o5 g3.1 rfl (new:=vs) (by omega) hv (by rw [e1];exact ⟨by omega,fun i v hi=>by
      have hi':=(List.getElem?_eq_some_iff.1 hi).1
      rw [add_blk,cell_blk (k.grw g3),Nat.zero_add,e5 i (by omega)];exact hi⟩) (by simp only;omega) (by simp only;omega) fun s' h4 f4 at4 o4 hn4 => ?_
    have g4:Grw h h4:=((Tn.of_grw g3:Tn No h h3).trans' f4 fun d ⟨a,ha,hd⟩ hlt=>by simp only [Option.some.injEq] at ha;subst ha;simp only at hd;omega).grw
    exact hk s' h4 g4 (by simpa using o4)
/-- one more step on a way -/
theorem way_c {lo:Nat} {h:Hp} {s:Sl} {vs:List Value} {x:Int} {K:Sl→HP} (o:Sh lo h.size 1 h s vs Y6) (hlo:lo≤h.size) (hl:vs.length≤1000)
    (hk:∀s' h',Tn (In lo h.size) h h'→Sh lo h'.size 1 h' s' (vs++[.int .i64 x]) Y6→s'.n=vs.length+1→K s' h') :
    New h #[(.int .i64 x)] Y6 fun a23 h2=>Ap h2 Y6 #[(.int .i64 (0:Int))] 1 8 s 1 (rd h2 (some a23) (1*1)) fun t24 h3=>K t24 h3:=by
  have hn:=o.n
  refine New_i fun b h2 e2 g2 k2 _ => ?_
  have o2:=(o.grw g2).wide (Nat.le_refl lo) g2.1
  refine Ap_sh o2 (by have:=g2.1;omega) rfl (new:=[.int .i64 x]) rfl (by simp [one]) (rd_blk k2 rfl) (by omega) (by omega) fun s' h4 f4 at4 o4 hn4 => ?_
  exact hk s' h4 ((Tn.of_grw g2:Tn (In lo h.size) h h2).trans' f4 fun d hd hlt=>⟨(o.at hd).1,hlt⟩) o4 (by omega)
theorem placesL_append {a b:List Fld} {d:Nat} {ins:Bool}:∀{ahead:List Fld},placesL d ahead ins (a++b)=placesL d ahead ins a++placesL d (ahead++a) ins b:=by
  induction a with
  | nil=>intro ahead;simp [placesL]
  | cons f fs ih=>intro ahead;simp only [List.cons_append,placesL,ih,List.append_assoc,List.singleton_append,List.nil_append]
theorem FrH.take {h:Hp} {a:Addr}:∀{fs:List Fld} {i j:Nat},FrH h a i fs→FrH h a i (fs.take j)
  | [],_,j,hh=>by cases j <;> simpa using hh
  | f::fs,_,0,hh=>by simp [FrH]
  | f::fs,_,j+1,hh=>by
    unfold FrH at hh
    simp only [List.take_succ_cons,FrH]
    exact ⟨hh.1,FrH.take hh.2⟩
/-- a beginning of a slice of fields -/
theorem FsH.take {h:Hp} {s:Sl} {fs:List Fld} (hh:FsH h s fs) {j:Nat} (hj:j≤fs.length) {s':Sl} (ha:s'.a=s.a) (hn:s'.n=j) (hc:s'.c=s.c):FsH h s' (fs.take j):=by
  have hsn:=hh.n
  cases fs with
  | nil=>simp at hj;subst hj;simp only [List.take_nil,FsH];omega
  | cons f fs =>
    cases j with
    | zero=>simp only [List.take_zero,FsH];omega
    | succ j =>
      simp only [List.length_cons] at hj hsn
      unfold FsH at hh
      obtain ⟨_,_,a,e,h1,h2⟩:=hh
      simp only [List.take_succ_cons,FsH,List.length_take]
      exact ⟨by omega,by omega,a,ha.trans e,h1,h2.take⟩
mutual
/-- lists and names that a machine can hold -/
def Fld.sml:Fld→Prop
  | .mk n _ _ _ _ _ cs=>n.size≤M63∧cs.length≤M63∧smls cs
def smls:List Fld→Prop
  | []=>True
  | f::fs=>f.sml∧smls fs
end
theorem smls.get:∀{fs:List Fld},smls fs→∀f∈fs,f.sml
  | [],_,_,h=>by simp at h
  | g::gs,hh,f,h=>by
    unfold smls at hh
    rcases List.mem_cons.1 h with rfl | h
    · exact hh.1
    · exact smls.get hh.2 f h
end Go.Proofs.YtlbbdbdjiekkaaaGreatDoor
set_option maxRecDepth 100000
set_option maxHeartbeats 200000
/- The way through all fields. -/
namespace Go.Proofs.YtlbbdbdjiekkaaaGreatDoor
open Go Go.Sh Go.WideShapes
/-- which arguments of a round stand for a field at its place -/
def PlE (h0:Hp) (x:Pl) (y0 y1:Sl) (y2:ByteArray) (y3:Bool) (y4 y5 y6 y7:Int) (y8:Sl) (y9:Bool):Prop :=
  (y0.n=x.deep∧y0.n≤y0.c)∧FsH h0 y1 x.ahead∧y2=x.f.name∧y3=x.f.nul∧y4=x.f.k∧y5=x.f.w∧y6=x.f.id∧y7=x.f.ix∧FsH h0 y8 x.f.cs∧y9=x.ins∧x.f.name.size≤M63∧x.ahead.length≤M63
def PlA (h0:Hp) (x:Pl) (args:List Value):Prop:=∃y0 y1 y2 y3 y4 y5 y6 y7 y8 y9,args=[(.agg #[(Sl.v y0),(Sl.v y1),(.string y2),(.bool y3),(.int .i64 y4),(.int .i64 y5),(.int .i64 y6),(.int .i64 y7),(Sl.v y8),(.bool y9)])]∧PlE h0 x y0 y1 y2 y3 y4 y5 y6 y7 y8 y9
def downF (a3 a4:Nat) (c1:Addr):Value:=.func (.func I171) #[] #[(.pointer (some ⟨a3,0,none⟩)),(.pointer (some c1)),(.pointer (some ⟨a4,0,none⟩))]
/-- what the way holds to -/
structure WayC (h0:Hp) (lb a3 a4:Nat) (c1:Addr) (xs:List Pl) (J Jx:List Pl→HP):Prop where
  pre:∀p h1,J p h1→Grw h0 h1∧cell h1 c1=some (.int .i64 65)
  grw:∀p h1 h2,Grw h1 h2→J p h1→J p h2
  grwx:∀p h1 h2,Grw h1 h2→Jx p h1→Jx p h2
  y:∀p x suf h1 args,PlA h0 x args→xs=p++x::suf→J p h1→YieldH Tryz.prog lb args h1 (fun v h2=>Tn (fun c=>c≤lb) h1 h2∧((v=.bool true∧J (p++[x]) h2)∨(v=.bool false∧Jx (p++[x]) h2))) NoP
  l3:lb < a3
  l4:lb < a4
/-- the way's own cells -/
structure Own34 (h:Hp) (a3 a4 lb:Nat) (c1:Addr):Prop where
  k3:Blk h a3 #[.func (.yield lb) #[] #[]] Y233
  k4:Blk h a4 #[downF a3 a4 c1] Y234
theorem Own34.fr {S:Nat→Prop} {h h':Hp} {a3 a4 lb:Nat} {c1:Addr} (o:Own34 h a3 a4 lb c1) (f:Tn S h h') (h3:¬S a3) (h4:¬S a4):Own34 h' a3 a4 lb c1:=⟨f.blk o.k3 h3,f.blk o.k4 h4⟩
theorem Own34.grw {h h':Hp} {a3 a4 lb:Nat} {c1:Addr} (o:Own34 h a3 a4 lb c1) (g:Grw h h'):Own34 h' a3 a4 lb c1:=o.fr (S:=No) (Tn.of_grw g) id id
def DownC (h0:Hp) (lb a3 a4:Nat) (c1:Addr) (xs:List Pl) (J Jx:List Pl→HP) (cs:List Fld):Prop :=
  ∀ {h1:Hp} {path l:Sl} {vs:List Value} {ins:Bool} {d lo:Nat} {p suf:List Pl} {K:Bool→HP},FsH h0 l cs→Sh lo h1.size 1 h1 path vs Y6→lb < lo→lo≤h1.size→(∀v∈vs,one v=true)→vs.length=d→d≤64→Own34 h1 a3 a4 lb c1→cs.length≤M63→smls cs →
    xs=p++(placesL (d+1) [] ins cs++suf)→J p h1→(∀h2,Tn (fun c=>c≤lb) h1 h2→J (p++placesL (d+1) [] ins cs) h2→K true h2)→(∀h2 p' s',xs=p'++s'→Jx p' h2→K false h2) →
    Fn171 path l ins ⟨a3,0,none⟩ c1 ⟨a4,0,none⟩ h1 K NoP
theorem down_c {h0:Hp} {lb a3 a4:Nat} {c1:Addr} {xs:List Pl} {J Jx:List Pl→HP} (W:WayC h0 lb a3 a4 c1 xs J Jx) {cs:List Fld} (IH:∀f∈cs,DownC h0 lb a3 a4 c1 xs J Jx f.cs):DownC h0 lb a3 a4 c1 xs J Jx cs:=by
  intro h1 path l vs ins d lo p suf K hf op hlo hlo2 hvs hvl hd own hcl hsm hxs hJ hT hX
  have hfn:=hf.n
  have hcl:cs.length≤9223372036854775807:=hcl
  have hok:okFn Tryz.prog I171=true:=by kernel_rfl
  refine Fn171.of ?_
  refine J171_1.of ?_
  refine L171_2.rule (fun x h'=>∃i:Nat,x=(i:Int)∧i≤cs.length∧Tn (fun c=>c≤lb) h1 h'∧J (p++placesL (d+1) [] ins (cs.take i)) h') (fun x _=>cs.length - x.toNat) ⟨0,rfl,by omega,Tn.refl _ _,by simpa [placesL] using hJ⟩ ?_
  rintro x h2 ⟨i,rfl,hi,f2,hJ2⟩ N1 hN
  have op2:=op.fr f2 fun b hb _ (e:b≤lb)=>by omega
  have op2:=op2.wide (Nat.le_refl _) f2.1
  have own2:=own.fr f2 (by have:=W.l3;show ¬a3≤lb;omega) (by have:=W.l4;show ¬a4≤lb;omega)
  have hlo3:lo≤h2.size:=Nat.le_trans hlo2 f2.1
  have hlb2:lb < h2.size:=by have:=own2.k3.lt;have:=W.l3;omega
  refine J171_3.of ?_
  refine If_i (fun c => ?_) fun c => ?_
  · simp only [sm,reduceCtorEq] at c
    have hi':i < cs.length:=by omega
    have hj:cs[i]? = some cs[i]:=List.getElem?_eq_getElem hi'
    have htk:cs.take (i+1)=cs.take i++[cs[i]]:=List.take_succ_eq_append_getElem hi'
    have hall:cs=cs.take i++(cs[i]::cs.drop (i+1)):=by rw [←List.drop_eq_getElem_cons hi',List.take_append_drop]
    have hmem:cs[i]∈cs:=List.getElem_mem hi'
    generalize cs[i]=f at hj htk hall hmem
    have hpl:placesL (d+1) [] ins cs=placesL (d+1) [] ins (cs.take i)++(f.places (d+1) (cs.take i) ins++placesL (d+1) (cs.take i++[f]) ins (cs.drop (i+1))):=by
      have q:=congrArg (placesL (d+1) [] ins) hall
      rw [q,placesL_append];simp [placesL]
    have hpl2:placesL (d+1) [] ins (cs.take (i+1))=placesL (d+1) [] ins (cs.take i)++f.places (d+1) (cs.take i) ins:=by rw [htk,placesL_append];simp [placesL]
    have hsf:=hsm.get f hmem
    have hfp:f.places (d+1) (cs.take i) ins=⟨d+1,cs.take i,f,ins⟩::(if d+1 < 65 then placesL (d+2) [] (ins || f.k == 19) f.cs else []):=by cases f;rfl
    have hsz:f.name.size≤M63∧f.cs.length≤M63∧smls f.cs:=by cases f;unfold Fld.sml at hsf;exact hsf
    have IHf:DownC h0 lb a3 a4 c1 xs J Jx f.cs:=IH f hmem
    refine hf.ix rfl hj fun a ha => ?_
    obtain ⟨u,hu,c0,c1',c2,c3,c4,c5,c6⟩:=ha.cells
    have G:=(W.pre _ _ hJ2).1
    refine ⟨_,G.cell c0,_,G.cell c1',_,G.cell c2,_,G.cell c3,_,G.cell c4,_,G.cell c5,_,G.cell c6,?_⟩
    refine New_i fun b11 hx eb gx kx _=>SY29.b kx rfl fun h3 o3 k11 => ?_
    have g3:Grw h2 h3:=o3.grw gx (by omega)
    have hb11:h2.size≤b11:=by omega
    have hb113:=k11.lt
    refine J171_4.of ?_
    refine clone_c ((op2.grw g3).wide (Nat.le_refl _) g3.1) hvs (by omega) fun t21 h4 g4 o4 => ?_
    have g4:=Grw.trans g3 g4
    have k11:=k11.grw (Grw.trans (Grw.refl _) ‹Grw h3 h4›)
    refine way_c (lo:=h3.size) o4 ‹Grw h3 h4›.1 (by omega) fun way h5 f5 o5 hn5 => ?_
    have k11:=f5.blk k11 (fun q=>by have:=q.1;omega)
    have g5:Grw h2 h5:=((Tn.of_grw g4:Tn No h2 h4).trans' f5 fun c hc hlt=>by have:=hc.1;have:=g3.1;omega).grw
    have own5:=own2.grw g5
    have hJ5:=W.grw _ _ _ g5 hJ2
    have G5:=(W.pre _ _ hJ5).1
    refine J171_5.of ?_
    try simp only [add_blk,Nat.reduceAdd]
    refine Ld_blk (x:=Value.func (.yield lb) #[] #[]) own5.k3 rfl ?_
    refine ⟨by simp,by simp,by simp;try omega,by simp;try omega,?_⟩
    refine LY29.b k11 ?_
    have hE:PlE h0 ⟨d+1,cs.take i,f,ins⟩ way ⟨slAt l.a ((none:Option Int).getD 0).toNat ((none:Option Int).getD l.c).toNat 7,((some (i:Int)).getD l.n).toNat - ((none:Option Int).getD 0).toNat,((none:Option Int).getD l.c).toNat - ((none:Option Int).getD 0).toNat⟩ f.name f.nul f.k f.w f.id f.ix u ins:=by
      refine ⟨⟨show way.n=d+1 by omega,o5.cap⟩,hf.take hi ?_ ?_ ?_,rfl,rfl,rfl,rfl,rfl,rfl,hu,rfl,hsz.1,by simp only [List.length_take];omega⟩
      · simp only [slAt,Option.getD_none,Int.toNat_zero,Nat.zero_mul]
        split
        · rfl
        · cases l.a with
          | none=>rfl
          | some a=>simp [add_zero']
      · simp
      · simp
    unfold CallV
    refine YieldH.mono (W.y _ _ ((if d+1 < 65 then placesL (d+2) [] (ins || f.k == 19) f.cs else [])++(placesL (d+1) (cs.take i++[f]) ins (cs.drop (i+1))++suf)) _ _ ⟨_,_,_,_,_,_,_,_,_,_,rfl,hE⟩ (by rw [hxs,hpl,hfp];simp) hJ5) (fun v h6 hv => ?_) (fun _ _ q=>q)
    obtain ⟨f6,(⟨rfl,hJ6⟩ | ⟨rfl,hX6⟩)⟩:=hv
    · refine ⟨true,rfl,If_f rfl ?_⟩
      have f26:=(Tn.of_grw g5:Tn (fun c=>c≤lb) h2 h5).trans f6
      have k11:=f6.blk k11 (show ¬b11≤lb by omega)
      have own6:=own5.fr f6 (by have:=W.l3;show ¬a3≤lb;omega) (by have:=W.l4;show ¬a4≤lb;omega)
      have o6:=(o5.fr f6 fun b hb _ (e:b≤lb)=>by have:=g3.1;omega).wide (Nat.le_refl _) f6.1
      have hc65:=(W.pre _ _ hJ6).2
      refine J171_6.of ?_
      try simp only [add_blk,Nat.reduceAdd]
      refine ⟨_,hc65,?_⟩
      have fin:∀h7,Tn (fun c=>c≤lb) h2 h7→J (p++placesL (d+1) [] ins (cs.take (i+1))) h7→Wr .i64 ((i:Int)+1) fun t55=>N1 (mk171_2 path l ins ⟨a3,0,none⟩ c1 ⟨a4,0,none⟩ l (l.n:Int) t55) h7:=fun h7 f7 j7 =>
        Wr_i64 (by omega) (by omega) (hN _ _ ⟨i+1,by simp,by omega,f2.trans f7,j7⟩ (by omega))
      refine If_i (fun c => ?_) fun c => ?_
      · simp only [sm,reduceCtorEq] at c
        have hd65:d+1 < 65:=by omega
        rw [if_pos hd65] at hfp
        have rcall:∀(b:Bool),b=(ins || f.k == 19)→CallV Tryz.prog (downF a3 a4 c1) [Sl.v way,Sl.v u, .bool b] h6 (fun r h1=>∃t52:Bool,r=.bool t52∧If (!t52) (K false h1) (Wr .i64 ((i:Int)+1) fun t55=>N1 (mk171_2 path l ins ⟨a3,0,none⟩ c1 ⟨a4,0,none⟩ l (l.n:Int) t55) h1)) NoP:=by
          intro b hb
          unfold CallV downF
          simp only [hok,cond_true]
          refine IHf (h1:=h6) (path:=way) (d:=d+1) (ins:=b) (lo:=h3.size) (p:=p++placesL (d+1) [] ins (cs.take i)++[⟨d+1,cs.take i,f,ins⟩]) (suf:=placesL (d+1) (cs.take i++[f]) ins (cs.drop (i+1))++suf)
            (K:=fun t52 h1=>If (!t52) (K false h1) (Wr .i64 ((i:Int)+1) fun t55=>N1 (mk171_2 path l ins ⟨a3,0,none⟩ c1 ⟨a4,0,none⟩ l (l.n:Int) t55) h1)) hu o6 (by have:=g3.1;omega) (by have:=g5.1;have:=f6.1;have:=‹Grw h3 h4›.1;have:=f5.1;omega)
            (fun v hv=>by rcases List.mem_append.1 hv with q | q;exact hvs v q;simp only [List.mem_singleton] at q;subst q;rfl) (by simp;omega) (by omega) own6 hsz.2.1 hsz.2.2 (by rw [hxs,hpl,hfp,hb];simp) hJ6 (fun h7 f7 j7 => ?_) (fun h7 p' s' e j => ?_)
          · refine If_f rfl (fin h7 (f26.trans f7) ?_)
            rw [hpl2,hfp,←hb]
            simpa using j7
          · exact If_t rfl (hX h7 p' s' e j)
        refine Ld_blk (x:=downF a3 a4 c1) own6.k4 rfl (Ld_blk k11 rfl ?_)
        cases ins
        · refine If_f rfl (Ld_blk k11 rfl ?_)
          exact rcall _ (by simp)
        · exact If_t rfl (rcall _ (by simp))
      · simp only [sm,reduceCtorEq] at c
        refine fin h6 f26 ?_
        rw [if_neg (by omega)] at hfp
        rw [hpl2,hfp]
        simpa using hJ6
    · exact ⟨false,rfl,If_t rfl (hX h6 _ ((if d+1 < 65 then placesL (d+2) [] (ins || f.k == 19) f.cs else [])++(placesL (d+1) (cs.take i++[f]) ins (cs.drop (i+1))++suf)) (by rw [hxs,hpl,hfp];simp) hX6)⟩
  · simp only [sm,reduceCtorEq] at c
    have:i=cs.length:=by omega
    subst this
    rw [List.take_length] at hJ2
    exact hT h2 f2 hJ2
theorem down_all {h0:Hp} {lb a3 a4:Nat} {c1:Addr} {xs:List Pl} {J Jx:List Pl→HP} (W:WayC h0 lb a3 a4 c1 xs J Jx):∀f:Fld,DownC h0 lb a3 a4 c1 xs J Jx f.cs
  | .mk _ _ _ _ _ _ cs=>down_c W (cs:=cs) fun f _=>down_all W f
def allF (c1 c2:Addr):Value:=.func (.func I170) #[] #[(.pointer (some c1)),(.pointer (some c2))]
theorem down_list {h0:Hp} {lb a3 a4:Nat} {c1:Addr} {xs:List Pl} {J Jx:List Pl→HP} (W:WayC h0 lb a3 a4 c1 xs J Jx) (cs:List Fld):DownC h0 lb a3 a4 c1 xs J Jx cs:=down_c W fun f _=>down_all W f
theorem all_iter {h0:Hp} {c1 c2:Addr} {l:Sl} {cs:List Fld} (hf:FsH h0 l cs) (hcl:cs.length≤M63) (hsm:smls cs) :
    IterR Tryz.prog (allF c1 c2) (placesL 1 [] false cs) (PlA h0) (fun h=>Grw h0 h∧cell h c1=some (.int .i64 65)∧cell h c2=some (Sl.v l)):=by
  intro lb J Jx h hsz hJ0 hPre hG hGx Y
  have hok:okFn Tryz.prog I170=true:=by kernel_rfl
  have hok2:okFn Tryz.prog I171=true:=by kernel_rfl
  unfold CallF allF
  simp only [hok,cond_true,List.nil_append,List.cons_append]
  refine CallH.mono (Fn170.of (K:=fun h2=>J (placesL 1 [] false cs) h2∨∃pre suf,placesL 1 [] false cs=pre++suf∧Jx pre h2) (Kp:=NoP) ?_) (fun _ _ hh=>hh.2) (fun _ _ hh=>hh)
  refine New_i fun a3 h1 e3 g1 k3 _=>New_i fun a4 h2 e4 g2 k4 _ => ?_
  have k3:=k3.grw g2
  have hne:a3≠a4:=by have:=k3.lt;have:=g1.1;omega
  refine ⟨rfl,?_⟩
  refine St_i k4 (by simp) rfl fun h3 o3 k4 => ?_
  have k3:=o3.blk k3 hne
  have hg:Grw h h3:=Only.grw (Grw.trans g1 g2) o3 (by have:=g1.1;omega)
  have hJ3:=hG _ _ _ hg hJ0
  refine Ld_blk (x:=downF a3 a4 c1) k4 rfl ⟨_,(hPre _ _ hJ3).2.2,?_⟩
  have W:WayC h0 lb a3 a4 c1 (placesL 1 [] false cs) J Jx:=⟨fun p h1 j=>⟨(hPre p h1 j).1,(hPre p h1 j).2.1⟩,hG,hGx,fun p x suf h1 args hA e j=>Y p x suf h1 args hA e j,by omega,by have:=g1.1;omega⟩
  unfold CallV downF
  simp only [hok2,cond_true]
  refine CallH.mono (down_list W cs (h1:=h3) (path:=Sl.nil) (l:=l) (vs:=[]) (ins:=false) (d:=0) (lo:=h3.size) (p:=[]) (suf:=[]) (K:=fun _ h2=>J (placesL 1 [] false cs) h2∨∃pre suf,placesL 1 [] false cs=pre++suf∧Jx pre h2) hf (Sh.nil _ _ _ _ _) (by have:=hg.1;omega) (Nat.le_refl _) (by simp) rfl (by omega) ⟨k3,k4⟩ hcl hsm (by simp) hJ3
    (fun h4 _ j=>.inl (by simpa using j)) (fun h4 p' s' e j=>.inr ⟨p',s',e,j⟩)) (fun _ _ hh => ?_) (fun _ _ hh=>hh)
  obtain ⟨b,rfl,hh⟩:=hh
  exact ⟨b,rfl,hh⟩
theorem Tw.back {l:Nat} {h1 h11 h12:Hp} (g:Grw h1 h11) (t:Tw l h11 h12) (hl:∃r,h1[l]? = some (.loop r)):∃h',Tw l h1 h'∧h12[l]? = h'[l]? := by
  obtain ⟨r,hr⟩:=hl
  obtain ⟨_,_,r',st,pd,e1,e2⟩:=t
  rw [grw_loop g hr] at e1
  cases e1
  refine ⟨h1.setIfInBounds l (.loop { r with state:=st,pending:=pd }),tw_set hr,?_⟩
  rw [e2,Array.getElem?_setIfInBounds];simp [(Array.getElem?_eq_some_iff.1 hr).1]
end Go.Proofs.YtlbbdbdjiekkaaaGreatDoor
set_option maxRecDepth 100000
set_option maxHeartbeats 200000
/- The asking of a schema. -/
namespace Go.Proofs.YtlbbdbdjiekkaaaGreatDoor
open Go Go.Sh Go.WideShapes
abbrev B39 (h:Hp) (b:Nat) (e:Int) (s:Sl) (n:Int):Prop:=Blk h b #[.int .i64 e,Sl.v s, .int .i64 n] Y37
theorem rangeC {fs:List Fld} {h0 h:Hp} {a2 a5 a6 r:Nat} {s1 s7:Sl} {c1 c2:Addr} {K:Int→Sl→Int→HP} {Kp:PK} (ht:KTab h0) (hf:FsH h0 s1 fs) (hcl:fs.length≤M63) (hsm:smls fs) (g:Grw h0 h)
    (l2:h0.size≤a2) (l5:h0.size≤a5) (lr:h0.size≤r) (k2:B39 h a2 0 s7 0) (k5:Blk h a5 #[.int .i64 0] Y6) (k6:Blk h a6 #[.map (some r)] Y219) (hm:MapI h r []) (n25:a2≠a5) (n26:a2≠a6) (n56:a5≠a6) (n2r:a2≠r) (n5r:a5≠r) (n6r:a6≠r) (hc1:cell h c1=some (.int .i64 65)) (hc2:cell h c2=some (Sl.v s1))
    (d12:c1.block≠a2) (d15:c1.block≠a5) (d1r:c1.block≠r) (d22:c2.block≠a2) (d25:c2.block≠a5) (d2r:c2.block≠r)
    (hk:∀(e:Int) (s:Sl) n h',Grw h0 h'→s.n≤s.c→(e=0↔AllR 0 [] (placesL 1 [] false fs))→K e s n h'):R129_3 K Kp ⟨a2,0,none⟩ ⟨a5,0,none⟩ ⟨a6,0,none⟩ (allF c1 c2) h:=by
  have hit:=all_iter (c1:=c1) (c2:=c2) hf hcl hsm
  have i2:=k2.lt
  have i5:=k5.lt
  have i6:=k6.lt
  have ir:r < h.size:=by obtain ⟨_,_,e,_⟩:=hm;exact (Array.getElem?_eq_some_iff.1 e).1
  refine R129_3.rule (α:=Pl) (xs:=placesL 1 [] false fs) (PlE h0) hit
    (fun pre h1=>Tn (fun c=>c=a5∨c=r) h h1∧Blk h1 a5 #[.int .i64 (pre.length:Int)] Y6∧MapI h1 r (idsOf [] pre)∧AllR 0 [] pre)
    (fun pre h1=>Tn (fun c=>c=a2∨c=a5∨c=r) h h1∧∃(e:Int) (s:Sl),B39 h1 a2 e s 0∧e≠0∧s.n≤s.c∧¬AllR 0 [] pre) ⟨Tn.refl _ _,k5,hm,trivial⟩ ?_ ?_ ?_ ?_ ?_ ?_ ?_ ?_
  · rintro pre h1 h2 g ⟨f,b,m,a⟩
    exact ⟨f.trans' (Tn.of_grw (S:=No) g) fun _ t=>t.elim,b.grw g,m.grw g,a⟩
  · rintro l pre h1 h2 hl t ⟨f,b,m,a⟩
    exact ⟨f.trans' t.only.fr fun d hd hlt=>by omega,t.only.blk b (by omega),m.fr t.only.fr (by omega),a⟩
  · rintro pre h1 ⟨f,_⟩
    refine ⟨⟨Nat.le_trans g.1 f.1,fun c hc=>(f.2 c (by have:=g.1;omega) (by omega)).trans (g.2 c hc)⟩,f.cell hc1 (by omega),f.cell hc2 (by omega)⟩
  · rintro pre h1 h2 g ⟨f,e,s,b,q⟩
    exact ⟨f.trans' (Tn.of_grw (S:=No) g) fun _ t=>t.elim,e,s,b.grw g,q⟩
  · rintro l pre h1 h2 hl t ⟨f,e,s,b,q⟩
    exact ⟨f.trans' t.only.fr fun d hd hlt=>by omega,e,s,t.only.blk b (by omega),q⟩
  · rintro l pre x suf h1 y0 y1 y2 y3 y4 y5 y6 y7 y8 y9 hE hxs hl hrec ⟨f1,b5,m1,a1⟩ N X hN hX
    obtain ⟨⟨hp,hpc⟩,ha,rfl,rfl,rfl,rfl,rfl,rfl,hsf,rfl,hnm,hal⟩:=hE
    have hl1:l < h1.size:=by obtain ⟨q,hq⟩:=hrec;exact (Array.getElem?_eq_some_iff.1 hq).1
    have G1:Grw h0 h1:=⟨Nat.le_trans g.1 f1.1,fun c hc=>(f1.2 c (by have:=g.1;omega) (by omega)).trans (g.2 c hc)⟩
    have b6:Blk h1 a6 #[.map (some r)] Y219:=f1.blk k6 (by omega)
    have b2:B39 h1 a2 0 s7 0:=f1.blk k2 (by omega)
    have hlen:=AllR_len a1 (by omega)
    unfold RT129_3
    have lc:=SyH.start No h1
    refine lc.new fun b7 _ hb7 _ lc => ?_
    refine lc.st 0 rfl rfl rfl fun _ _ lc => ?_;simp only [Nat.zero_add,List.set_cons_zero,List.set_cons_succ,List.setIfInBounds_toArray] at lc;refine lc.sto 0 rfl rfl rfl fun _ _ lc => ?_;simp only [Nat.zero_add,List.set_cons_zero,List.set_cons_succ,List.setIfInBounds_toArray] at lc;refine lc.sto 0 rfl rfl rfl fun _ _ lc => ?_;simp only [Nat.zero_add,List.set_cons_zero,List.set_cons_succ,List.setIfInBounds_toArray] at lc;refine lc.sto 0 rfl rfl rfl fun _ _ lc => ?_;simp only [Nat.zero_add,List.set_cons_zero,List.set_cons_succ,List.setIfInBounds_toArray] at lc;refine lc.sto 0 rfl rfl rfl fun _ _ lc => ?_;simp only [Nat.zero_add,List.set_cons_zero,List.set_cons_succ,List.setIfInBounds_toArray] at lc;refine lc.sto 0 rfl rfl rfl fun _ _ lc => ?_;simp only [Nat.zero_add,List.set_cons_zero,List.set_cons_succ,List.setIfInBounds_toArray] at lc;refine lc.sto 0 rfl rfl rfl fun _ _ lc => ?_;simp only [Nat.zero_add,List.set_cons_zero,List.set_cons_succ,List.setIfInBounds_toArray] at lc;refine lc.sto 0 rfl rfl rfl fun _ _ lc => ?_;simp only [Nat.zero_add,List.set_cons_zero,List.set_cons_succ,List.setIfInBounds_toArray] at lc;refine lc.sto 0 rfl rfl rfl fun _ _ lc => ?_;simp only [Nat.zero_add,List.set_cons_zero,List.set_cons_succ,List.setIfInBounds_toArray] at lc;refine lc.sto 0 rfl rfl rfl fun _ _ lc => ?_;simp only [Nat.zero_add,List.set_cons_zero,List.set_cons_succ,List.setIfInBounds_toArray] at lc
    rename_i h11 _
    have k7:Blk h11 b7 #[Sl.v y0,Sl.v y1, .string x.f.name, .bool x.f.nul, .int .i64 x.f.k, .int .i64 x.f.w, .int .i64 x.f.id, .int .i64 x.f.ix,Sl.v y8, .bool x.ins] Y224:=lc.blk (i:=0) rfl
    have g11:Grw h1 h11:=lc.grw
    clear lc
    refine ⟨(g11.2 l hl1),fun h12 t12 => ?_⟩
    have o12:=t12.only
    have k7:=o12.blk k7 (by omega)
    have b5:=o12.blk (b5.grw g11) (by omega)
    have b6:=o12.blk (b6.grw g11) (by omega)
    have b2:=o12.blk (b2.grw g11) (by omega)
    have m1:=(m1.grw g11).fr o12.fr (by omega)
    obtain ⟨h',t',e'⟩:=Tw.back g11 t12 hrec
    have f12:Tn (fun c=>c=l) h1 h12:=(Tn.of_grw g11:Tn (fun c=>c=l) h1 h11).trans' o12.fr fun d hd _=>hd
    have G12:Grw h0 h12:=⟨Nat.le_trans G1.1 f12.1,fun c hc=>(f12.2 c (by have:=G1.1;omega) (by have:=g.1;omega)).trans (G1.2 c hc)⟩
    clear o12
    try simp only [add_blk,Nat.reduceAdd]
    refine Ld_blk k7 rfl (Ld_blk k7 rfl (Ld_blk k7 rfl (Ld_blk k7 rfl (Ld_blk k7 rfl (Ld_blk k7 rfl (Ld_blk k7 rfl (Ld_blk k7 rfl (Ld_blk k7 rfl (Ld_blk k7 rfl ?_)))))))))
    refine Ld_blk b5 rfl (Ld_blk (x:=some r) b6 rfl ?_)
    refine wrong_c G12 ht hp ha hsf hal hnm m1 fun e h13 g13 he => ?_
    have f13:Tn (fun c=>c=l) h1 h13:=f12.trans' (Tn.of_grw (S:=No) g13) fun _ t=>t.elim
    have k7:=k7.grw g13
    have b5:=b5.grw g13
    have b6:=b6.grw g13
    have b2:=b2.grw g13
    have m1:=m1.grw g13
    have el:h13[l]? = h'[l]? := (g13.2 l (by have:=f12.1;omega)).trans e'
    have hpre:AllR 0 [] (pre++[x])↔e=0:=by
      rw [AllR_append]
      simp only [AllR,and_true,Nat.zero_add]
      exact ⟨fun q=>he.2 q.2,fun q=>⟨a1,he.1 q⟩⟩
    refine If_i (fun c => ?_) fun c => ?_
    · simp only [sm,reduceCtorEq] at c
      refine Ld_blk k7 rfl ?_
      refine St_i b2 (by simp) rfl fun h14 o14 b2 => ?_
      refine St_i b2 (by simp) rfl fun h15 o15 b2 => ?_
      refine St_i b2 (by simp) rfl fun h16 o16 b2 => ?_
      have o:=(o14.trans o15).trans o16
      have f16:Tn (fun c=>c=l∨c=a2) h1 h16:=(f13.mono fun d hd _=>.inl hd).trans' o.fr fun d hd _=>.inr hd
      exact hX h' h16 t' ((o.2 l (by omega)).trans el) (f16.mono fun d hd _=>by omega)
        ⟨(f1.mono (T:=fun c=>c=a2∨c=a5∨c=r) fun d hd _=>.inr hd).trans' f16 fun d hd hlt=>by omega,e,y0,by simpa using b2,c,hpc,fun q=>c (hpre.1 q)⟩
    · simp only [sm,reduceCtorEq] at c
      refine Ld_blk b5 rfl (Wr_i64 (by omega) (by omega) (St_i b5 (by simp) rfl fun h14 o14 b5 => ?_))
      have k7:=o14.blk k7 (by omega)
      have b6:=o14.blk b6 (by omega)
      have m1:=m1.fr o14.fr (by omega)
      have f14:Tn (fun c=>c=l∨c=a5) h1 h14:=(f13.mono fun d hd _=>.inl hd).trans' o14.fr fun d hd _=>.inr hd
      have b5:Blk h14 a5 #[.int .i64 ((pre++[x]).length:Int)] Y6:=by simpa using b5
      have a2':=hpre.2 c
      refine Ld_blk k7 rfl (If_i (fun c19 => ?_) fun c19 => ?_)
      · simp only [sm,reduceCtorEq] at c19
        refine Ld_blk (x:=some r) b6 rfl (Ld_blk k7 rfl (Ld_blk b5 rfl ?_))
        refine Up_i m1 fun h15 o15 m2 => ?_
        have f15:Tn (fun c=>c=l∨c=a5∨c=r) h1 h15:=(f14.mono fun d hd _=>by omega).trans' o15.fr fun d hd _=>.inr (.inr hd)
        refine hN h' h15 t' ((o15.2 l (by omega)).trans ((o14.2 l (by omega)).trans el)) (f15.mono fun d hd _=>by omega) ⟨f1.trans' f15 fun d hd hlt=>by omega,o15.blk b5 (by omega),?_,a2'⟩
        rw [idsOf_append]
        simpa [idsOf,nextIds,c19] using m2
      · simp only [sm,reduceCtorEq] at c19
        refine hN h' h14 t' ((o14.2 l (by omega)).trans el) (f14.mono fun d hd _=>by omega) ⟨f1.trans' f14 fun d hd hlt=>by omega,b5,?_,a2'⟩
        rw [idsOf_append]
        simpa [idsOf,nextIds,c19] using m1
  · rintro h1 ⟨f1,b5,m1,a1⟩
    have b2:B39 h1 a2 0 s7 0:=f1.blk k2 (by omega)
    have G1:Grw h0 h1:=⟨Nat.le_trans g.1 f1.1,fun c hc=>(f1.2 c (by have:=g.1;omega) (by omega)).trans (g.2 c hc)⟩
    unfold RD129_3
    try simp only [add_blk,Nat.reduceAdd]
    refine St_i b2 (by simp) rfl fun h14 o14 b2 => ?_
    refine St_i b2 (by simp) rfl fun h15 o15 b2 => ?_
    refine St_i b2 (by simp) rfl fun h16 o16 b2 => ?_
    have b2:B39 h16 a2 0 Sl.nil 0:=by simp at b2;exact b2
    refine Ld_blk b2 rfl (Ld_blk b2 rfl (Ld_blk b2 rfl ?_))
    exact hk _ _ _ _ (Only.grw G1 ((o14.trans o15).trans o16) l2) (Nat.le_refl _) ⟨fun _=>a1,fun _=>rfl⟩
  · rintro pre suf h1 hxs ⟨f1,e,s,b2,he,hcap,na⟩
    have G1:Grw h0 h1:=⟨Nat.le_trans g.1 f1.1,fun c hc=>(f1.2 c (by have:=g.1;omega) (by omega)).trans (g.2 c hc)⟩
    unfold RX129_3_ret
    try simp only [add_blk,Nat.reduceAdd]
    refine Ld_blk b2 rfl (Ld_blk b2 rfl (Ld_blk b2 rfl ?_))
    refine hk _ _ _ _ G1 hcap ⟨fun q=>absurd q he,fun q => ?_⟩
    rw [hxs,AllR_append] at q
    exact absurd q.1 na
theorem NewM_i {h:Hp} {K:Nat→HP} (hk:∀r h',r=h.size→Grw h h'→MapI h' r []→K r h'):NewM h K :=
  hk _ _ rfl (Grw.push _ _) ⟨#[],0,by simp,by simp,by simp⟩
theorem check_c {fs:List Fld} {ms:List Md} {h0 h:Hp} {s1 s2:Sl} {K:Int→Sl→Int→HP} {Kp:PK} (ht:KTab h0) (hsm:smls fs) (g:Grw h0 h) (hf:FsH h0 s1 fs) (h2:RsH h0 s2 2 (ms.map mdRow))
    (hk:∀(e:Int) (s:Sl) n h',Grw h0 h'→s.n≤s.c→(e=0↔SchOk fs ms)→K e s n h'):Fn129 s1 s2 h K Kp:=by
  refine Fn129.of ?_
  have hn1:=hf.n
  have hn2:s2.n=ms.length:=by simpa using h2.1
  refine New_i fun b1 h3 e1 g1 k1 _=>New_i fun b2 h4 e2 g2 k2 _ => ?_
  have k1:=k1.grw g2
  have g4:=Grw.trans g (Grw.trans g1 g2)
  have l2:h0.size≤b2:=by have:=g.1;have:=g1.1;omega
  have l12:b1 < b2:=by have:=k1.lt;have:=g1.1;omega
  try simp only [add_blk,Nat.reduceAdd]
  have k2:B39 h4 b2 0 Sl.nil 0:=k2
  have fault:∀(e n:Int) (h5:Hp) (s7:Sl) (e7 n7:Int),e≠0→¬SchOk fs ms→B39 h5 b2 e7 s7 n7→Grw h0 h5→St h5 ⟨b2,0,none⟩ (.int .i64 e) fun h3=>St h3 ⟨b2,1,none⟩ (.slice none 0 0) fun h4=>St h4 ⟨b2,2,none⟩ (.int .i64 n) fun h5=>Ld h5 ⟨b2,0,none⟩ mI fun r0_0=>Ld h5 ⟨b2,1,none⟩ (Sl.v) fun r0_1=>Ld h5 ⟨b2,2,none⟩ mI fun r0_2=>K r0_0 r0_1 r0_2 h5:=by
    intro e n h5 s7 e7 n7 he hno k g5
    refine St_i k (by simp) rfl fun h14 o14 k => ?_
    refine St_i k (by simp) rfl fun h15 o15 k => ?_
    refine St_i k (by simp) rfl fun h16 o16 k => ?_
    have k:B39 h16 b2 e Sl.nil n:=by simp at k;exact k
    refine Ld_blk k rfl (Ld_blk k rfl (Ld_blk k rfl ?_))
    exact hk _ _ _ _ (Only.grw g5 ((o14.trans o15).trans o16) l2) (Nat.le_refl _) ⟨fun q=>absurd q he,fun q=>absurd q hno⟩
  refine Ld_blk k1 rfl (If_i (fun c => ?_) fun c => ?_)
  · simp only [sm,reduceCtorEq] at c
    exact fault _ _ _ _ _ _ (by decide) (fun q=>by have:=q.1;omega) k2 g4
  refine Ld_blk k1 rfl (If_i (fun c2 => ?_) fun c2 => ?_)
  · simp only [sm,reduceCtorEq] at c2
    exact fault _ _ _ _ _ _ (by decide) (fun q=>by have:=q.2.1;omega) k2 g4
  simp only [sm,reduceCtorEq] at c c2
  refine J129_1.of ?_
  try simp only [add_blk,Nat.reduceAdd]
  refine Ld_blk k1 rfl ?_
  refine L129_4.rule (fun x h'=>Grw h4 h'∧∃i:Nat,x=i∧i≤ms.length∧∀(j:Nat) v,j < i→ms[j]? = some v→MdOk v) (fun x _=>ms.length - x.toNat) ⟨Grw.refl _,0,rfl,by omega,fun j v hj=>by omega⟩ ?_
  rintro x h5 ⟨g5,i,rfl,hi,hall⟩ N1 hN
  have k1:=k1.grw g5
  have k2:=k2.grw g5
  have G5:=Grw.trans g4 g5
  try simp only [add_blk,Nat.reduceAdd]
  refine If_i (fun c3 => ?_) fun c3 => ?_
  · simp only [sm,reduceCtorEq] at c3
    have hi':i < ms.length:=by omega
    have ei:ms[i]? = some ms[i]:=List.getElem?_eq_getElem hi'
    generalize ms[i]=v at ei
    refine h2.ix rfl ei fun a ha => ?_
    refine ⟨_,G5.cell (Cs.c0 (v:=.string v.1) ha),_,G5.cell (ha 1 _ rfl),?_⟩
    have lc:=SyH.start No h5
    refine lc.new fun b6 _ hb6 _ lc => ?_
    refine lc.st 0 rfl rfl rfl fun _ _ lc => ?_;simp only [Nat.zero_add,List.set_cons_zero,List.set_cons_succ,List.setIfInBounds_toArray] at lc;refine lc.sto 0 rfl rfl rfl fun _ _ lc => ?_;simp only [Nat.zero_add,List.set_cons_zero,List.set_cons_succ,List.setIfInBounds_toArray] at lc
    rename_i h6 _
    have k6:Blk h6 b6 #[.string v.1, .string v.2] Y210:=lc.blk (i:=0) rfl
    have g6:=lc.grw
    clear lc
    try simp only [add_blk,Nat.reduceAdd]
    refine Ld_blk k6 rfl (If_i (fun c4 => ?_) fun c4 => ?_)
    · simp only [sm,reduceCtorEq] at c4
      exact fault _ _ _ _ _ _ (by decide) (fun q=>by have:=(q.2.2.1 i v ei).1;omega) (k2.grw g6) (Grw.trans G5 g6)
    refine Ld_blk k6 rfl (If_i (fun c5 => ?_) fun c5 => ?_)
    · simp only [sm,reduceCtorEq] at c5
      exact fault _ _ _ _ _ _ (by decide) (fun q=>by have:=(q.2.2.1 i v ei).2;omega) (k2.grw g6) (Grw.trans G5 g6)
    simp only [sm,reduceCtorEq] at c4 c5
    refine Wr_i64 (by omega) (by omega) (hN _ _ ⟨Grw.trans g5 g6,i+1,by simp,by omega,fun j' v' hlt ej => ?_⟩ (by omega))
    by_cases e:j'=i
    · subst e;rw [ei] at ej;cases ej;exact ⟨by omega,by omega⟩
    · exact hall j' v' (by omega) ej
  · simp only [sm,reduceCtorEq] at c3
    have hms:∀(j:Nat) m,ms[j]? = some m→MdOk m:=fun j v ej=>hall j v (by have:=(List.getElem?_eq_some_iff.1 ej).1;omega) ej
    refine J129_2.of ?_
    refine New_i fun a5 h6 e5 g6 k5 _ => ?_
    refine St_i k5 (by simp) rfl fun h7 o7 k5 => ?_
    have k5:Blk h7 a5 #[.int .i64 0] Y6:=by simpa using k5
    have s7:h7.size=h6.size:=o7.1
    have g7:Grw h5 h7:=Only.grw g6 o7 (by omega)
    refine NewM_i fun r h8 er g8 hm => ?_
    subst er
    have hr8:h7.size < h8.size:=by obtain ⟨_,_,e,_⟩:=hm;exact (Array.getElem?_eq_some_iff.1 e).1
    refine New_i fun a6 h9 e6 g9 k6 _ => ?_
    refine St_i k6 (by simp) rfl fun h10 o10 k6 => ?_
    have k6:Blk h10 a6 #[.map (some h7.size)] Y219:=by simpa using k6
    have g10:Grw h8 h10:=Only.grw g9 o10 (by omega)
    have G10:=Grw.trans g7 (Grw.trans g8 g10)
    have k1:=k1.grw G10
    have i2:=k2.lt
    have i5:=k5.lt
    have i65:=g6.1
    refine Ld_blk k1 rfl ?_
    refine Fn152.of ?_
    refine New_i fun c2 h11 ec2 g11 kc2 _=>New_i fun c1 h12 ec1 g12 kc1 _ => ?_
    have G12:=Grw.trans g11 g12
    have kc2:=kc2.grw g12
    have:=g10.1
    have:=g11.1
    have i6:=k6.lt
    refine rangeC (c1:=⟨c1,0,none⟩) (c2:=⟨c2,0,none⟩) ht hf (by show _≤9223372036854775807;omega) hsm (Grw.trans G5 (Grw.trans G10 G12)) l2 (by have:=G5.1;omega) (by have:=G5.1;omega) (k2.grw (Grw.trans G10 G12)) (k5.grw (Grw.trans g8 (Grw.trans g10 G12))) (k6.grw G12) (hm.grw (Grw.trans g10 G12))
      (by omega) (by omega) (by omega) (by omega) (by omega) (by omega) (by rw [cell_blk kc1];rfl) (by rw [cell_blk kc2];rfl) (by simp only;omega) (by simp only;omega) (by simp only;omega) (by simp only;omega) (by simp only;omega) (by simp only;omega) fun e s n h' g' hcap he=>hk e s n h' g' hcap (he.trans ?_)
    rw [AllR_0]
    exact ⟨fun q=>⟨by omega,by omega,hms,q⟩,fun q=>q.2.2.2⟩
end Go.Proofs.YtlbbdbdjiekkaaaGreatDoor
set_option maxRecDepth 100000
set_option maxHeartbeats 200000
/- The asking of a field and of a type; copies of fields. -/
namespace Go.Proofs.YtlbbdbdjiekkaaaGreatDoor
open Go Go.Sh Go.WideShapes
theorem Keep_blk {h h1:Hp} {b o n:Nat} {cs:Array Value} {el:TypeId} {X:Prop} (k:Blk h b cs el) (g:Grw h h1) (x:X):Keep h h1 ⟨b,o,none⟩ n X :=
  ⟨fun i _=>by rw [add_blk,cell_blk (k.grw g),cell_blk k],x⟩
theorem Keep_cell {h h1:Hp} {a:Addr} {v:Value} {X:Prop} (hc:cell h a=some v) (g:Grw h h1) (x:X):Keep h h1 a 1 X :=
  ⟨fun i hi => by obtain rfl:i=0:=by omega
                  rw [add_zero',hc,g.cell hc],x⟩
theorem FsH.gr {h h':Hp} {s:Sl} {fs:List Fld} (hs:FsH h s fs) (g:Grw h h'):FsH h' s fs:=FsH.grw g fs hs
/-- the field is right by itself -/
def FldOk (f:Fld):Prop:=SchOk [f] []
theorem cfield_c {nm:ByteArray} {nul:Bool} {k w id ix:Int} {cs:List Fld} {h:Hp} {s:Sl} {K:Int→Sl→Int→HP} {Kp:PK} (ht:KTab h) (hsm:(Fld.mk nm nul k w id ix cs).sml) (hs:FsH h s cs)
    (hk:∀e p n h',Grw h h'→(e=0↔FldOk (.mk nm nul k w id ix cs))→K e p n h'):Fn98 nm nul k w id ix s h K Kp:=by
  refine Fn98.of (New_i fun b1 h1 e1 g1 k1 _=>New_i fun b2 h2 e2 g2 k2 _=>LY29.b (k1.grw g2) (New_i fun b5 h3 e5 g3 k5 _ => ?_))
  have G3:=Grw.trans g1 (Grw.trans g2 g3)
  have hl:h.size≤b2:=by have:=g1.1;omega
  refine check_c (fs:=[.mk nm nul k w id ix cs]) (ms:=[]) (ht.grw G3) ⟨hsm,trivial⟩ (Grw.refl _) ?_ ⟨rfl,Nat.le_refl _,fun j r hj=>by simp at hj⟩ fun e p n h4 g4 hp he => ?_
  · unfold FsH
    exact ⟨rfl,Nat.le_refl _,_,rfl,⟨s,fun i v hv=>by rw [add_blk,Nat.zero_add,cell_blk k5];simpa [vals7] using hv,hs.gr G3⟩,trivial⟩
  have k2:=(k2.grw g3).grw g4
  have G4:=Grw.trans G3 g4
  have hk:=fun p n h' g=>hk e p n h' g he
  refine New_i fun b3 h5 e3 g5 k3 _=>SY37.b k3 rfl fun h6 o6 k3 => ?_
  have i23:b2≠b3:=by have:=k2.lt;omega
  have k2:=o6.blk (k2.grw g5) i23
  have G6:=Only.grw (Grw.trans G4 g5) o6 (by have:=G4.1;omega)
  simp only [add_blk]
  refine Ld_blk k3 rfl (If_i (fun c => ?_) fun c => ?_)
  · simp only [sm,reduceCtorEq] at c
    refine Ld_blk k3 rfl ⟨by simp,by simp;omega,by simp;omega,by simp,?_⟩
    refine St_i k3 (by simp) rfl fun h7 o7 k3 => ?_
    have k2:=o7.blk k2 i23
    refine LY37.b k3 (SY37.b k2 rfl fun h8 o8 k2=>LY37.b k2 (hk _ _ _ ?_))
    exact Only.grw (Only.grw G6 o7 (by have:=G4.1;omega)) o8 hl
  · refine LY37.b k3 (SY37.b k2 rfl fun h8 o8 k2=>LY37.b k2 (hk _ _ _ ?_))
    exact Only.grw G6 o8 hl
/-- whether a field that holds a type is Nullable -/
def hnul (k:Int) (cs:List Fld):Bool:=k == 1 || (k == 20 && match cs with | f::_=>f.nul | []=>false)
def hFld (k w id ix:Int) (cs:List Fld):Fld:=.mk (bs [97]) (hnul k cs) k w id ix cs
theorem holder_c {k w id ix:Int} {cs:List Fld} {h:Hp} {s:Sl} {K:ByteArray→Bool→Int→Int→Int→Int→Sl→HP} {Kp:PK} (hs:FsH h s cs)
    (hk:∀h',Grw h h'→K (bs [97]) (hnul k cs) k w id ix s h'):Fn184 k w id ix s h K Kp:=by
  refine Fn184.of (New_i fun b1 h1 e1 g1 k1 _=>New_i fun b2 h2 e2 g2 k2 _=>LY27.b (k1.grw g2) (New_i fun b3 h3 e3 g3 k3 _=>SY29.b k3 rfl fun h4 o4 k3 => ?_))
  have i12:b1 < b2:=by have:=k1.lt;omega
  have i23:b2 < b3:=by have:=k2.lt;omega
  have hl:h.size≤b2:=by have:=g1.1;omega
  have k1:=o4.blk ((k1.grw g2).grw g3) (by omega)
  have k2:=o4.blk (k2.grw g3) (by omega)
  have G4:=Only.grw (Grw.trans g1 (Grw.trans g2 g3)) o4 (by omega)
  have hn:=hs.n
  have fin:∀b:Bool,b=hnul k cs→St h4 ⟨b3,1,none⟩ (.bool b) fun h5=>LY29 h5 ⟨b3,0,none⟩ fun t28_0 t28_1 t28_2 t28_3 t28_4 t28_5 t28_6=>SY29 h5 ⟨b2,0,none⟩ t28_0 t28_1 t28_2 t28_3 t28_4 t28_5 t28_6 fun h6=>LY29 h6 ⟨b2,0,none⟩ fun r0_0 r0_1 r0_2 r0_3 r0_4 r0_5 r0_6=>K r0_0 r0_1 r0_2 r0_3 r0_4 r0_5 r0_6 h6:=by
    rintro b rfl
    refine St_i k3 (by simp) rfl fun h5 o5 k3=>LY29.b k3 (SY29.b (o5.blk k2 (by omega)) rfl fun h6 o6 k2=>LY29.b k2 (hk _ ?_))
    exact Only.grw (Only.grw G4 o5 (by omega)) o6 hl
  simp only [add_blk]
  refine Ld_blk k1 rfl (If_i (fun c=>fin _ ?_) fun c=>Ld_blk k1 rfl (If_i (fun c2=>Ld_blk k1 rfl (If_i (fun c3=>Ld_blk k1 rfl ?_) fun c3=>fin _ ?_)) fun c2=>fin _ ?_))
  · simp [hnul,c]
  · simp only [sm,reduceCtorEq] at c c2 c3
    cases cs with
    | nil=>have:=hn.1;simp at this;omega
    | cons f fs =>
      refine hs.ix rfl (i:=0) rfl fun a ha => ?_
      obtain ⟨u,_,_,c1,_⟩:=ha.cells
      exact ⟨_,G4.cell c1,fin _ (by simp [hnul,c2])⟩
  · simp only [sm,reduceCtorEq] at c c2 c3
    cases cs with
    | nil=>simp [hnul,c2]
    | cons f fs=>have:=hn.1;simp at this;omega
  · simp [hnul,c,c2]
/-- a type that may be -/
def TyOk (k w id ix:Int) (cs:List Fld):Prop:=FldOk (hFld k w id ix cs)
theorem mtype_c {k w id ix:Int} {cs:List Fld} {h:Hp} {s:Sl} {K:Bool→HP} {Kp:PK} (ht:KTab h) (hl:cs.length≤M63) (hsm:smls cs) (hs:FsH h s cs)
    (hk:∀b h',Grw h h'→(b=true↔TyOk k w id ix cs)→K b h'):Fn176 k w id ix s h K Kp:=by
  refine Fn176.of (New_i fun b1 h1 e1 g1 k1 _=>LY27.b k1 (holder_c (hs.gr g1) fun h2 g2 => ?_))
  have G:=Grw.trans g1 g2
  refine cfield_c (ht.grw G) ⟨by decide,hl,hsm⟩ (hs.gr G) fun e p n h3 g3 he=>hk _ _ (Grw.trans G g3) ?_
  rw [beq_iff_eq];exact he
end Go.Proofs.YtlbbdbdjiekkaaaGreatDoor
set_option maxRecDepth 100000
set_option maxHeartbeats 200000
/- Copies of fields. -/
namespace Go.Proofs.YtlbbdbdjiekkaaaGreatDoor
open Go Go.Sh Go.WideShapes
/-- the cells of a field whose children stand in u -/
def Fld.row (f:Fld) (u:Sl):List Value:=vals7 f.name f.nul f.k f.w f.id f.ix u
theorem row_len (f:Fld) (u:Sl):(f.row u).length=7:=rfl
theorem row_one (f:Fld) (u:Sl):∀v∈f.row u,one v=true:=by intro v hv;simp [Fld.row,vals7] at hv;rcases hv with rfl | rfl | rfl | rfl | rfl | rfl | rfl <;> rfl
mutual
/-- a slice of fields whose lists stand in blocks of D -/
def FsA (D:Nat→Prop) (h:Hp) (s:Sl):List Fld→Prop
  | []=>s.n=0∧s.n≤s.c
  | f::fs=>s.n=fs.length+1∧s.n≤s.c∧∃a,s.a=some a∧D a.block∧FldA D h a f∧FrA D h a 1 fs
def FrA (D:Nat→Prop) (h:Hp) (a:Addr) (i:Nat):List Fld→Prop
  | []=>True
  | f::fs=>FldA D h (a.add (i*7)) f∧FrA D h a (i+1) fs
def FldA (D:Nat→Prop) (h:Hp) (a:Addr):Fld→Prop
  | .mk n nul k w id ix cs=>∃s,Cs h a (vals7 n nul k w id ix s)∧FsA D h s cs
end
mutual
theorem FsA.h {D:Nat→Prop} {h:Hp}:∀{s:Sl} (fs:List Fld),FsA D h s fs→FsH h s fs
  | _,[],hh=>by unfold FsA at hh;unfold FsH;exact hh
  | _,f::fs,hh=>by
    unfold FsA at hh;unfold FsH
    obtain ⟨a,b,p,e,_,x,y⟩:=hh
    exact ⟨a,b,p,e,FldA.h f x,FrA.h fs y⟩
theorem FrA.h {D:Nat→Prop} {h:Hp}:∀{a:Addr} {i:Nat} (fs:List Fld),FrA D h a i fs→FrH h a i fs
  | _,_,[],_=>by unfold FrH;trivial
  | _,_,f::fs,hh=>by unfold FrA at hh;unfold FrH;exact ⟨FldA.h f hh.1,FrA.h fs hh.2⟩
theorem FldA.h {D:Nat→Prop} {h:Hp}:∀{a:Addr} (f:Fld),FldA D h a f→FldH h a f
  | _, .mk n nul k w id ix cs,hh=>by
    unfold FldA at hh;unfold FldH
    obtain ⟨s,c,x⟩:=hh
    exact ⟨s,c,FsA.h cs x⟩
end
mutual
theorem FsA.fr {D S E:Nat→Prop} {h h':Hp} (f:Tn S h h') (hn:∀b,D b→¬S b) (hE:∀b,D b→E b):∀{s:Sl} (fs:List Fld),FsA D h s fs→FsA E h' s fs
  | _,[],hh=>by unfold FsA at hh ⊢;exact hh
  | _,g::fs,hh=>by
    unfold FsA at hh ⊢
    obtain ⟨a,b,p,e,d,x,y⟩:=hh
    exact ⟨a,b,p,e,hE _ d,FldA.fr f hn hE (hn _ d) g x,FrA.fr f hn hE (hn _ d) fs y⟩
theorem FrA.fr {D S E:Nat→Prop} {h h':Hp} (f:Tn S h h') (hn:∀b,D b→¬S b) (hE:∀b,D b→E b):∀{a:Addr} (ha:¬S a.block) {i:Nat} (fs:List Fld),FrA D h a i fs→FrA E h' a i fs
  | _,_,_,[],_=>by unfold FrA;trivial
  | _,ha,i,g::fs,hh=>by
    unfold FrA at hh ⊢
    exact ⟨FldA.fr f hn hE (by rw [add_block];exact ha) g hh.1,FrA.fr f hn hE ha fs hh.2⟩
theorem FldA.fr {D S E:Nat→Prop} {h h':Hp} (f:Tn S h h') (hn:∀b,D b→¬S b) (hE:∀b,D b→E b):∀{a:Addr} (ha:¬S a.block) (g:Fld),FldA D h a g→FldA E h' a g
  | _,ha, .mk n nul k w id ix cs,hh=>by
    unfold FldA at hh ⊢
    obtain ⟨s,c,x⟩:=hh
    exact ⟨s,c.fr f ha,FsA.fr f hn hE cs x⟩
end
theorem FsA.gr {D:Nat→Prop} {h h':Hp} {s:Sl} {fs:List Fld} (hs:FsA D h s fs) (g:Grw h h'):FsA D h' s fs:=FsA.fr (S:=No) (Tn.of_grw g) (fun _ _=>id) (fun _=>id) fs hs
theorem FrA.of {D:Nat→Prop} {h:Hp} {a:Addr}:∀{fs:List Fld} {i:Nat},(∀j f,fs[j]? = some f→FldA D h (a.add ((i+j)*7)) f)→FrA D h a i fs
  | [],_,_=>by unfold FrA;trivial
  | f::fs,i,H=>by
    unfold FrA
    refine ⟨H 0 f rfl,FrA.of fun j g hg => ?_⟩
    have:=H (j+1) g (by simpa using hg)
    have e:i+1+j=i+(j+1):=by omega
    rw [e];exact this
/-- a slice of fields in a block of its own -/
theorem FsA.of {D:Nat→Prop} {h:Hp} {s:Sl} {b:Nat} {cs:List Fld} {us:List Sl} {el:TypeId} (o:RowH 7 h s b (List.zipWith Fld.row cs us) el) (hl:us.length=cs.length) (hb:D b) (hu:∀(j:Nat) (f:Fld) (u:Sl),cs[j]? = some f→us[j]? = some u→FsA D h u f.cs):FsA D h s cs:=by
  have hn:=o.n
  rw [List.length_zipWith,hl,Nat.min_self] at hn
  have key:∀j f,cs[j]? = some f→FldA D h ⟨b,j*7,none⟩ f:=by
    intro j f hf
    have hj:=(List.getElem?_eq_some_iff.1 hf).1
    have hj2:us[j]? = some us[j]:=List.getElem?_eq_getElem (by omega)
    have hr:(List.zipWith Fld.row cs us)[j]? = some (f.row us[j]):=by rw [List.getElem?_zipWith,hf,hj2]
    have c:=o.cs hr
    have hx:=hu j f _ hf hj2
    generalize us[j]=u at c hx
    obtain ⟨n,nul,k,w,id,ix,ds⟩:=f
    unfold FldA
    exact ⟨u,c,hx⟩
  cases cs with
  | nil=>unfold FsA;exact ⟨by simpa using hn,o.cap⟩
  | cons f fs =>
    unfold FsA
    refine ⟨by simpa using hn,o.cap,_,o.a,hb,by simpa using key 0 f rfl,FrA.of fun j g hg => ?_⟩
    rw [add_blk,Nat.zero_add]
    have:=key (j+1) g (by simpa using hg)
    have e:1+j=j+1:=by omega
    rw [e];exact this
theorem FsA.sub {D:Nat→Prop} {h:Hp} {s t:Sl} {fs:List Fld} (hs:FsA D h s fs) (ha:t.a=s.a) (hn:t.n=s.n) (hc:t.n≤t.c):FsA D h t fs:=by
  cases fs with
  | nil=>unfold FsA at hs ⊢;exact ⟨hn ▸ hs.1,hc⟩
  | cons f fs=>unfold FsA at hs ⊢;rw [ha,hn];exact ⟨hs.1,hn ▸ hc,hs.2.2⟩
theorem FsA.n {D:Nat→Prop} {h:Hp} {s:Sl} {fs:List Fld} (hs:FsA D h s fs):s.n=fs.length∧s.n≤s.c:=(FsA.h fs hs).n
theorem slAt_0 (p:Option Addr) (m sz:Nat):slAt p 0 m sz=p:=by
  unfold slAt;split
  · rfl
  · cases p <;> simp [add_zero']
theorem clip_c {h:Hp} {s:Sl} {K:Sl→HP} {Kp:PK} (hc:s.n≤s.c) (hk:K ⟨s.a,s.n,s.n⟩ h):Fn208 s h K Kp:=by
  refine Fn208.of ⟨by simp,by simp,by simp,by simp;omega,?_⟩
  simpa [slAt_0] using hk
mutual
/-- no list is long -/
def Fld.lns:Fld→Prop
  | .mk _ _ _ _ _ _ cs=>cs.length≤70000∧lns cs
def lns:List Fld→Prop
  | []=>True
  | f::fs=>f.lns∧lns fs
end
theorem lns.get:∀{fs:List Fld},lns fs→∀f∈fs,f.lns
  | [],_,_,h=>by simp at h
  | g::gs,hh,f,h=>by
    unfold lns at hh
    rcases List.mem_cons.1 h with rfl | h
    · exact hh.1
    · exact lns.get hh.2 f h
theorem Fld.lns.cs {f:Fld} (h:f.lns):f.cs.length≤70000∧YtlbbdbdjiekkaaaGreatDoor.lns f.cs:=by cases f;unfold Fld.lns at h;exact h
theorem placesU_lns {cs:List Fld} {d:Nat} {ins:Bool} (IH:∀f∈cs,∀(n:Nat) (ids:List Int),AllR n ids (f.places d [] ins)→f.lns):∀{n:Nat} {ids:List Int},AllR n ids (placesU d ins cs)→lns cs:=by
  induction cs with
  | nil=>intro n ids _;unfold lns;trivial
  | cons f fs ih =>
    intro n ids h
    simp only [placesU,AllR_append] at h
    have h1:=IH f (by simp) n ids h.1
    have h2:=ih (fun g hg=>IH g (by simp [hg])) h.2
    unfold lns
    exact ⟨h1,h2⟩
theorem places_lns:∀(f:Fld) (d:Nat) (ins:Bool) (n:Nat) (ids:List Int),AllR n ids (f.places d [] ins)→f.lns
  | .mk nm nul k w id ix cs,d,ins,n,ids,h=>by
    have IH:∀f∈cs,∀(n:Nat) (ids:List Int),AllR n ids (f.places (d+1) [] (ins || k == 19))→f.lns:=fun f _ n ids=>places_lns f (d+1) (ins || k == 19) n ids
    have hd:d≤64:=by unfold Fld.places at h;exact h.1.1
    rw [places_cons hd] at h
    have h1:=h.1
    have h2:=(AllR_0.1 h.2).2
    have h3:=placesU_lns IH h2
    have hsh:=h1.2.2.2.2.1
    simp only [Fld.k,Fld.w,Fld.id,Fld.ix,Fld.cs] at hsh
    unfold Shaped at hsh
    unfold Fld.lns
    exact ⟨by omega,h3⟩
theorem FldOk.lns {f:Fld} (h:FldOk f):f.lns:=by
  have:=h.2.2.2.2
  simp only [placesU,List.append_nil] at this
  exact places_lns f 1 false 0 [] this
theorem FldOk.self {f:Fld} (h:FldOk f):Shaped f.k f.w f.id f.ix f.cs.length∧Nulls f.k f.nul f.cs∧(f.k=19→∃c,f.cs[0]? = some c∧c.nul=false):=by
  have:=h.2.2.2.2
  obtain ⟨n,nul,k,w,id,ix,cs⟩:=f
  simp only [placesU,List.append_nil] at this
  unfold Fld.places at this
  have q:=this.1
  exact ⟨q.2.2.2.2.1,q.2.2.2.2.2.1,fun e=>(q.2.2.2.2.2.2.2 e).1⟩
end Go.Proofs.YtlbbdbdjiekkaaaGreatDoor
set_option maxRecDepth 100000
set_option maxHeartbeats 200000
/- Copies of fields made; shapes and widths of types. -/
namespace Go.Proofs.YtlbbdbdjiekkaaaGreatDoor
open Go Go.Sh Go.WideShapes
theorem cell_lt {h:Hp} {a:Addr} {v:Value} (hc:cell h a=some v):a.block < h.size:=by
  unfold Go.Sh.cell at hc;split at hc
  · rename_i e;exact (Array.getElem?_eq_some_iff.1 e).1
  · simp at hc
theorem Cs.lt {h:Hp} {a:Addr} {v:Value} {vs:List Value} (c:Cs h a (v::vs)):a.block < h.size:=cell_lt (Cs.c0 c)
mutual
theorem FsA.lt {D:Nat→Prop} {h:Hp}:∀{s:Sl} (fs:List Fld),FsA D h s fs→FsA (fun b=>D b∧b < h.size) h s fs
  | _,[],hh=>by unfold FsA at hh ⊢;exact hh
  | _,g::fs,hh=>by
    unfold FsA at hh ⊢
    obtain ⟨a,b,p,e,d,x,y⟩:=hh
    refine ⟨a,b,p,e,⟨d,?_⟩,FldA.lt g x,FrA.lt fs y⟩
    obtain ⟨n,nul,k,w,id,ix,cs⟩:=g
    unfold FldA at x
    obtain ⟨s,c,_⟩:=x
    exact Cs.lt c
theorem FrA.lt {D:Nat→Prop} {h:Hp}:∀{a:Addr} {i:Nat} (fs:List Fld),FrA D h a i fs→FrA (fun b=>D b∧b < h.size) h a i fs
  | _,_,[],_=>by unfold FrA;trivial
  | _,i,g::fs,hh=>by unfold FrA at hh ⊢;exact ⟨FldA.lt g hh.1,FrA.lt fs hh.2⟩
theorem FldA.lt {D:Nat→Prop} {h:Hp}:∀{a:Addr} (g:Fld),FldA D h a g→FldA (fun b=>D b∧b < h.size) h a g
  | _, .mk n nul k w id ix cs,hh=>by
    unfold FldA at hh ⊢
    obtain ⟨s,c,x⟩:=hh
    exact ⟨s,c,FsA.lt cs x⟩
end
theorem FldH.row {h:Hp} {a:Addr} {f:Fld} (hf:FldH h a f):∃u,Cs h a (f.row u)∧FsH h u f.cs:=by cases f;exact hf
/-- new blocks alone -/
abbrev Nw (h:Hp):Nat→Prop:=fun b=>h.size≤b
def KCop (cs:List Fld):Prop:=∀{h:Hp} {s:Sl} {K:Sl→HP} {Kp:PK},FsH h s cs→cs.length≤70000→lns cs→(∀t h',Grw h h'→FsA (Nw h) h' t cs→K t h')→Fn185 s h K Kp
theorem kcop_step {cs:List Fld} (IH:∀f∈cs,KCop f.cs):KCop cs:=by
  intro h s K Kp hs hl hln hk
  have hn:=hs.n
  refine Fn185.of (L185_1.rule (fun x3 x h1=>∃(i:Nat) (us:List Sl),x=i∧i≤cs.length∧us.length=i∧Grw h h1∧RowS h.size 7 h1 x3 (List.zipWith Fld.row (cs.take i) us) Y29 ∧
      ∀(j:Nat) (f:Fld) (u:Sl),cs[j]? = some f→us[j]? = some u→FsA (fun b=>h.size≤b∧¬x3.at b) h1 u f.cs)
    (fun x3 x _=>cs.length - x.toNat) ⟨0,[],rfl,by omega,rfl,Grw.refl _,RowS.nil _ _ _ _,by simp⟩ ?_)
  rintro x3 x h1 ⟨i,us,rfl,hi,hus,g1,o1,hu⟩ N1 hN
  have o1n:=o1.n
  rw [List.length_zipWith,List.length_take] at o1n
  refine If_i (fun c => ?_) fun c => ?_
  · simp only [sm,reduceCtorEq] at c
    have hi':i < cs.length:=by omega
    have hj:cs[i]? = some cs[i]:=List.getElem?_eq_getElem hi'
    have htk:cs.take (i+1)=cs.take i++[cs[i]]:=List.take_succ_eq_append_getElem hi'
    have hmem:cs[i]∈cs:=List.getElem_mem hi'
    generalize cs[i]=f at hj htk hmem
    refine hs.ix rfl hj fun a ha => ?_
    obtain ⟨u,c,hfu⟩:=ha.row
    refine LY29.c (c.grw g1) (New_i fun b5 hx eb gx kx _=>SY29.b kx rfl fun h2 o2 k5 => ?_)
    have g2:Grw h1 h2:=Only.grw gx o2 (by omega)
    simp only [add_blk]
    have hfl:=(hln.get f hmem).cs
    refine Ld_blk k5 rfl (IH f hmem ((hfu.gr g1).gr g2) hfl.1 hfl.2 fun t h3 g3 ht => ?_)
    refine St_i (k5.grw g3) (by simp) rfl fun h4 o4 k5=>LY29.b k5 (New_i fun b20 h5 e5 g5 k20 _ => ?_)
    have b5l:h1.size≤b5:=by omega
    have b5l2:b5 < h2.size:=by rw [o2.1];exact kx.lt
    have g4:Grw h1 h4:=Only.grw (Grw.trans g2 g3) o4 b5l
    have G5:Grw h1 h5:=Grw.trans g4 g5
    have ht5:FsA (Nw h2) h5 t f.cs:=FsA.gr (FsA.fr o4.fr (fun b (hb:h2.size≤b) e=>by omega) (fun _ hb=>hb) _ ht) g5
    refine (o1.grw G5).ap (by have:=g1.1;have:=G5.1;omega) rfl (new:=[f.row t]) rfl (fun r hr=>by simp at hr;subst hr;rfl) (fun r hr=>by simp at hr;subst hr;exact row_one f t) (by simpa [Fld.row,vals7] using rd_blk k20 rfl) (by omega) (by omega) fun s' h6 f6 at6 o6 => ?_
    refine Wr_i64 (by omega) (by omega) (hN _ _ _ ⟨i+1,us++[t],by simp,by omega,by simp [hus],?_,?_,?_⟩ (by omega))
    · exact (((Tn.of_grw (Grw.trans g1 G5):Tn No h h5)).trans' f6 fun d hd hlt=>by have:=((o1.grw G5).at hd).1;omega).grw
    · rw [htk,List.zipWith_append (by simp;omega)];exact o6
    · intro j g v hg hv
      have sz5:=G5.1
      by_cases e:j < i
      · rw [List.getElem?_append_left (by omega)] at hv
        refine FsA.fr f6 (D:=fun b=>(h.size≤b∧¬x3.at b)∧b < h1.size) (fun b hb=>hb.1.2) (fun b hb=>⟨hb.1.1,fun q => ?_⟩) _ (FsA.gr (FsA.lt _ (hu j g v hg hv)) G5)
        rcases at6 b q with q | q
        · exact hb.1.2 q
        · have:=hb.2;omega
      · have hj':=(List.getElem?_eq_some_iff.1 hv).1
        simp only [List.length_append,List.length_singleton] at hj'
        have:j=i:=by omega
        subst this
        rw [List.getElem?_append_right (by omega),hus] at hv
        simp only [Nat.sub_self,List.getElem?_cons_zero,Option.some.injEq] at hv
        subst hv
        rw [hj] at hg;cases hg
        refine FsA.fr f6 (D:=fun b=>Nw h2 b∧b < h5.size) (fun b hb q=>by have:=(o1.at q).2;have:=g2.1;have:=hb.1;omega) (fun b hb=>⟨by have:=g1.1;have:=g2.1;have:=hb.1;omega,fun q => ?_⟩) _ (FsA.lt _ ht5)
        rcases at6 b q with q | q
        · have:=(o1.at q).2;have:=g2.1;have:=hb.1;omega
        · have:=hb.2;omega
  · simp only [sm,reduceCtorEq] at c
    have:i=cs.length:=by omega
    subst this
    rw [List.take_length] at o1
    refine clip_c o1.cap (hk _ _ g1 ?_)
    rcases o1.cases with ⟨rfl,e⟩ | ⟨b,hb,o⟩
    · have:cs=[]:=by
        cases cs with
        | nil=>rfl
        | cons f fs=>cases us with
          | nil=>simp at hus
          | cons=>simp at e
      subst this
      unfold FsA;exact ⟨rfl,Nat.le_refl _⟩
    · exact FsA.sub (FsA.of (D:=Nw h) o hus hb fun j f u hf hu'=>FsA.fr (S:=No) (Tn.refl _ _) (fun _ _=>id) (fun b hb=>hb.1) _ (hu j f u hf hu')) rfl rfl (Nat.le_refl _)
theorem kcop_all:∀f:Fld,KCop f.cs
  | .mk _ _ _ _ _ _ cs=>kcop_step (cs:=cs) fun f _=>kcop_all f
theorem kcop (cs:List Fld):KCop cs:=kcop_step fun f _=>kcop_all f
/-- the tables: kinds, and the beginnings of letters -/
def bufK (k:Int):Int:=if k=1∨k=20 then 0 else if k=12∨k=13 then 3 else if k=16∨k=17 then 1 else 2
def widK (k:Int):Int:=if k=3∨k=7 then 1 else if k=4∨k=8 then 2 else if k=5∨k=9 then 4 else if k=6∨k=10∨k=11 then 8 else 0
structure Tab (h:Hp):Prop where
  k:KTab h
  b:∀i:Nat,1≤i→i≤20→cell h ⟨0,i*4+2,none⟩=some (.int .i64 (bufK i))
  w:∀i:Nat,1≤i→i≤20→cell h ⟨0,i*4+1,none⟩=some (.int .i64 (widK i))
theorem Tab.grw {h h':Hp} (t:Tab h) (g:Grw h h'):Tab h':=⟨t.k.grw g,fun i h1 h2=>g.cell (t.b i h1 h2),fun i h1 h2=>g.cell (t.w i h1 h2)⟩
theorem TyOk.kinds {k w id ix:Int} {cs:List Fld} (h:TyOk k w id ix cs):Shaped k w id ix cs.length∧(cs.length≤32∧lns cs):=by
  have q:=FldOk.self h
  have l:=(FldOk.lns h).cs
  simp only [hFld,Fld.k,Fld.w,Fld.id,Fld.ix,Fld.cs] at q l
  refine ⟨q.1,?_,l.2⟩
  have:=q.1
  unfold Shaped at this;omega
/-- how many children and dictionaries an array has -/
def chK (k:Int) (cs:List Fld):Nat:=if k=19 then 0 else if k=20 then cs.length+1 else cs.length
def diK (k:Int):Nat:=if k=19 then 1 else 0
theorem parts_c {k w id ix:Int} {cs:List Fld} {h:Hp} {s:Sl} {K:Sl→HP} {Kp:PK} (ht:KTab h) (hok:TyOk k w id ix cs) (hsm:smls cs) (hs:FsH h s cs)
    (hk:∀t h',Grw h h'→t.n=chK k cs→K t h'):Fn177 k w id ix s h K Kp:=by
  have hq:=hok.kinds
  have hn:=hs.n
  refine Fn177.of (New_i fun b1 h1 e1 g1 k1 _=>LY27.b k1 (mtype_c (ht.grw g1) (by show _≤9223372036854775807;omega) hsm (hs.gr g1) fun b h2 g2 hb => ?_))
  have k1:=k1.grw g2
  have G:=Grw.trans g1 g2
  obtain rfl:=hb.2 hok
  refine If_f rfl (Ld_blk k1 rfl (If_i (fun c=>hk _ _ G ?_) fun c=>J177_1.of ?_))
  · simp only [sm,reduceCtorEq] at c;simp [chK,c]
  simp only [sm,reduceCtorEq] at c
  simp only [add_blk]
  refine Ld_blk k1 rfl (kcop cs (hs.gr G) (by omega) hq.2.2 fun t h3 g3 ht3=>Ld_blk (k1.grw g3) rfl (If_i (fun c2 => ?_) fun c2 => ?_))
  · simp only [sm,reduceCtorEq] at c2
    refine New_i fun b20 h4 e4 g4 k20 _ => ?_
    have htn:=ht3.n
    have hc1:cs.length=1:=by have:=hq.1;unfold Shaped at this;omega
    obtain ⟨f,hf⟩:∃f,cs[0]? = some f:=⟨cs[0],List.getElem?_eq_getElem (by omega)⟩
    obtain ⟨a,ha,hfa⟩:=(FsA.h cs (ht3.gr g4)).get hf
    obtain ⟨u,c,_⟩:=hfa.row
    have o:RowS 0 7 h4 ⟨some ⟨b20,0,none⟩,1,1⟩ [[.string (bs [101,110,100,115]), .bool false, .int .i64 5, .int .i64 0, .int .i64 0, .int .i64 0, .slice none 0 0]] Y29 :=
      ⟨fun r hr=>by simp at hr;subst hr;rfl,rfl, .inr ⟨b20,Nat.zero_le _,k20.lt,rfl,rfl,_,k20,Nat.le_refl _,rfl,fun i _=>by simp⟩⟩
    refine o.ap (Nat.zero_le _) rfl (new:=[f.row u]) (by simp;omega) (fun r hr=>by simp at hr;subst hr;rfl) (fun r hr=>by simp at hr;subst hr;exact row_one f u) ?_ (by simp;omega) (by simp;omega) fun s' h5 f5 _ o5=>hk _ _ ?_ ?_
    · rw [ha,htn.1,hc1]
      refine ⟨by simp [row_len],fun i v hv => ?_⟩
      have:=c i v (by simpa using hv)
      simpa [add_zero'] using this
    · exact Grw.trans G (Grw.trans g3 (((Tn.of_grw g4:Tn No h3 h4).trans' f5 fun d hd hlt=>by obtain ⟨a,ha,hd⟩:=hd;cases ha;simp at hd;omega).grw))
    · have:=o5.n;simp at this;simp [chK,c2,hc1,this]
  · simp only [sm,reduceCtorEq] at c2
    refine hk _ _ (Grw.trans G g3) ?_
    rw [ht3.n.1];simp [chK,c,c2]
theorem shape_c {k w id ix:Int} {cs:List Fld} {h:Hp} {s:Sl} {K:Int→Int→Int→HP} {Kp:PK} (ht:Tab h) (hl:cs.length≤M63) (hsm:smls cs) (hs:FsH h s cs)
    (hf:¬TyOk k w id ix cs→∀h',Grw h h'→K (-1) (-1) (-1) h') (hk:TyOk k w id ix cs→∀h',Grw h h'→K (bufK k) (chK k cs) (diK k) h'):Fn154 k w id ix s h K Kp:=by
  refine Fn154.of (New_i fun b1 h1 e1 g1 k1 _=>LY27.b k1 (mtype_c (ht.k.grw g1) hl hsm (hs.gr g1) fun b h2 g2 hb => ?_))
  have k1:=k1.grw g2
  have G:=Grw.trans g1 g2
  cases b
  · exact If_t rfl (hf (fun q=>absurd (hb.2 q) (by simp)) _ G)
  have hok:=hb.1 rfl
  have hq:=hok.kinds.1
  have j1:∀d:Int,d=diK k→J154_1 K Kp ⟨b1,0,none⟩ d h2:=by
    rintro d rfl
    refine J154_1.of (Ld_blk k1 rfl ⟨by unfold Shaped at hq;omega,by unfold Shaped at hq;omega,?_⟩)
    simp only [add_blk,Nat.zero_add]
    have hc:=(ht.grw G).b k.toNat (by unfold Shaped at hq;omega) (by unfold Shaped at hq;omega)
    rw [Int.toNat_of_nonneg (by unfold Shaped at hq;omega)] at hc
    refine ⟨_,hc,LY27.b k1 (parts_c (ht.k.grw G) hok hsm (hs.gr G) fun t h3 g3 htn=>Keep_cell hc g3 (Keep_blk k1 g3 ?_))⟩
    rw [htn];exact hk hok _ (Grw.trans G g3)
  refine If_f rfl (Ld_blk k1 rfl (If_i (fun c=>j1 _ ?_) fun c=>j1 _ ?_))
  · simp only [sm,reduceCtorEq] at c;simp [diK,c]
  · simp only [sm,reduceCtorEq] at c;simp [diK,c]
/-- how many bytes a row has -/
def wdK (k w ix:Int):Int:=if k=14 then w else if k=19 then widK ix else widK k
theorem width_c {k w id ix:Int} {cs:List Fld} {h:Hp} {s:Sl} {K:Int→HP} {Kp:PK} (ht:Tab h) (hsm:smls cs) (hs:FsH h s cs) (hok:TyOk k w id ix cs)
    (hk:∀h',Grw h h'→K (wdK k w ix) h'):Fn179 k w id ix s h K Kp:=by
  have hq:=hok.kinds
  have hl:=hq.2.1
  replace hq:=hq.1
  refine Fn179.of (New_i fun b1 h1 e1 g1 k1 _=>LY27.b k1 (mtype_c (ht.k.grw g1) (by show _≤9223372036854775807;omega) hsm (hs.gr g1) fun b h2 g2 hb => ?_))
  have k1:=k1.grw g2
  have G:=Grw.trans g1 g2
  obtain rfl:=hb.2 hok
  have tab:∀x:Int,1≤x→x≤20→widK x=wdK k w ix→Ix (some ⟨0,0,none⟩) 21 4 x fun a16=>Ld h2 (a16.add 1) mI fun t18=>K t18 h2:=by
    intro x h1 h2' e
    refine ⟨by omega,by omega,?_⟩
    simp only [add_blk,Nat.zero_add]
    have hc:=(ht.grw G).w x.toNat (by omega) (by omega)
    rw [Int.toNat_of_nonneg (by omega),e] at hc
    exact ⟨_,hc,hk _ G⟩
  unfold Shaped at hq
  simp only [add_blk]
  refine If_f rfl (Ld_blk k1 rfl (If_i (fun c=>Ld_blk k1 rfl ?_) fun c=>If_i (fun c2=>Ld_blk k1 rfl (tab _ ?_ ?_ ?_)) fun c2=>Ld_blk k1 rfl (tab _ ?_ ?_ ?_)))
  · simp only [sm,reduceCtorEq] at c;have:=hk _ G;simp only [wdK,c,if_pos] at this;exact this
  all_goals simp only [sm,reduceCtorEq] at c c2
  all_goals first | omega | simp [wdK,c,c2]
end Go.Proofs.YtlbbdbdjiekkaaaGreatDoor
set_option maxRecDepth 100000
set_option maxHeartbeats 200000
/- The array's own copies of fields. -/
namespace Go.Proofs.YtlbbdbdjiekkaaaGreatDoor
open Go Go.Sh Go.WideShapes
/-- the rows of a slice of fields -/
theorem FsH.rows {h:Hp} {s:Sl} {cs:List Fld} (hs:FsH h s cs):∃us:List Sl,us.length=cs.length∧(∀a,s.a=some a→∀(j:Nat) (r:List Value),(List.zipWith Fld.row cs us)[j]? = some r→Cs h (a.add (j*7)) r) ∧
    ∀(j:Nat) (f:Fld) (u:Sl),cs[j]? = some f→us[j]? = some u→FsH h u f.cs:=by
  have key:∀n,n≤cs.length→∃us:List Sl,us.length=n∧∀(j:Nat) (f:Fld) (u:Sl),cs[j]? = some f→us[j]? = some u→FsH h u f.cs∧∀a,s.a=some a→Cs h (a.add (j*7)) (f.row u):=by
    intro n
    induction n with
    | zero=>exact fun _=>⟨[],rfl,fun j f u _ hu=>by simp at hu⟩
    | succ n ih =>
      intro hn
      obtain ⟨us,hl,hu⟩:=ih (by omega)
      have hj:cs[n]? = some cs[n]:=List.getElem?_eq_getElem (by omega)
      obtain ⟨a,ha,hfx⟩:=hs.get hj
      generalize cs[n]=x at hj hfx
      obtain ⟨u,c,hfu⟩:=hfx.row
      refine ⟨us++[u],by simp [hl],fun j f v hf hv => ?_⟩
      by_cases e:j < n
      · rw [List.getElem?_append_left (by omega)] at hv;exact hu j f v hf hv
      · have:=(List.getElem?_eq_some_iff.1 hv).1
        simp only [List.length_append,List.length_singleton] at this
        have:j=n:=by omega
        subst this
        rw [List.getElem?_append_right (by omega),hl] at hv
        simp only [Nat.sub_self,List.getElem?_cons_zero,Option.some.injEq] at hv
        subst hv
        rw [hj] at hf;cases hf
        exact ⟨hfu,fun a' ha'=>by rw [ha] at ha';cases ha';exact c⟩
  obtain ⟨us,hl,hu⟩:=key cs.length (Nat.le_refl _)
  refine ⟨us,hl,fun a ha j r hr => ?_,fun j f u h1 h2=>(hu j f u h1 h2).1⟩
  rw [List.getElem?_zipWith] at hr
  cases h1:cs[j]? with
  | none=>rw [h1] at hr;cases hr
  | some f=>cases h2:us[j]? with
    | none=>rw [h1,h2] at hr;cases hr
    | some u=>rw [h1,h2] at hr;cases hr;exact (hu j f u h1 h2).2 a ha
theorem rows_lens (cs:List Fld) (us:List Sl):Lens 7 (List.zipWith Fld.row cs us):=by
  intro r hr
  obtain ⟨i,hi⟩:=List.mem_iff_getElem?.1 hr
  rw [List.getElem?_zipWith] at hi
  cases h1:cs[i]? <;> cases h2:us[i]? <;> simp [h1,h2] at hi
  subst hi;rfl
theorem rows_one (cs:List Fld) (us:List Sl):∀r∈List.zipWith Fld.row cs us,∀v∈r,one v=true:=by
  intro r hr
  obtain ⟨i,hi⟩:=List.mem_iff_getElem?.1 hr
  rw [List.getElem?_zipWith] at hi
  cases h1:cs[i]? <;> cases h2:us[i]? <;> simp [h1,h2] at hi
  subst hi;exact row_one _ _
/-- rows that stand in memory are read as one list -/
theorem rd_rows {sz n:Nat} {h:Hp} {a:Addr} {rows:List (List Value)} (hs:0 < sz) (hl:Lens sz rows) (hn:rows.length=n) (hc:∀(j:Nat) (r:List Value),rows[j]? = some r→Cs h (a.add (j*sz)) r):rd h (some a) (n*sz) rows.flatten:=by
  refine ⟨by rw [hl.flat,hn],fun i v hv => ?_⟩
  obtain ⟨e,em⟩:=flat_mul (sz:=sz) (j:=i) hs
  have q:=flat_get hl em (i:=i / sz)
  rw [←e,hv] at q
  cases hr:rows[i / sz]? with
  | none=>rw [hr] at q;cases q
  | some r =>
    rw [hr] at q
    have:=hc _ r hr (i % sz) v q.symm
    rwa [add_add',←e] at this
theorem cloneF_c {h0 h:Hp} {s:Sl} {cs:List Fld} {K:Sl→HP} {Kp:PK} (g0:Grw h0 h) (hs:FsH h0 s cs) (hl:cs.length≤70000)
    (hk:∀t h' us,Grw h h'→us.length=cs.length→(∀(j:Nat) (f:Fld) (u:Sl),cs[j]? = some f→us[j]? = some u→FsH h0 u f.cs)→(t=Sl.nil∧cs=[]∨∃b,h.size≤b∧RowH 7 h' t b (List.zipWith Fld.row cs us) Y29)→K t h'):Fn200 s h K Kp:=by
  have hn:=hs.n
  obtain ⟨us,hul,hc,hu⟩:=hs.rows
  have hzl:(List.zipWith Fld.row cs us).length=cs.length:=by rw [List.length_zipWith,hul,Nat.min_self]
  refine Fn200.of ?_
  cases ha:s.a with
  | none =>
    refine If_t rfl (hk _ h us (Grw.refl _) hul hu (.inl ⟨rfl,?_⟩))
    cases cs with
    | nil=>rfl
    | cons f fs=>unfold FsH at hs;obtain ⟨_,_,a,e,_⟩:=hs;rw [ha] at e;cases e
  | some a =>
    refine If_f rfl (New_i fun b5 h1 e5 g5 k5 _ => ?_)
    refine (RowS.start (sz:=7) k5 (Nat.le_of_eq e5.symm)).ap (by have:=g5.1;omega) rfl (new:=List.zipWith Fld.row cs us) (by rw [hzl];exact hn.1.symm) (rows_lens cs us) (rows_one cs us) (rd_rows (by decide) (rows_lens cs us) (by rw [hzl];exact hn.1.symm) fun j r hr=>(hc a ha j r hr).grw (Grw.trans g0 g5)) (by simp;omega) (by simp;omega) fun t h2 f2 at2 o2 => ?_
    have g2:Grw h h2:=((Tn.of_grw g5:Tn No h h1).trans' f2 fun d ⟨a,ha,hd⟩ hlt=>by cases ha;simp at hd;omega).grw
    refine hk t h2 us g2 hul hu ?_
    rw [List.nil_append] at o2
    rcases o2.cases with ⟨e1,e2⟩ | ⟨b,hb,o⟩
    · exact .inl ⟨e1,List.eq_nil_of_length_eq_zero (by rw [←hzl,e2];rfl)⟩
    · exact .inr ⟨b,hb,o⟩
def FCop (cs:List Fld):Prop:=∀{nm:ByteArray} {nul:Bool} {k w id ix:Int} {h:Hp} {s:Sl} {K:ByteArray→Bool→Int→Int→Int→Int→Sl→HP} {Kp:PK},FsH h s cs→cs.length≤70000→lns cs →
  (∀t h',Grw h h'→FsA (Nw h) h' t cs→K nm nul k w id ix t h')→Fn51 nm nul k w id ix s h K Kp
theorem fcop_step {cs:List Fld} (IH:∀f∈cs,FCop f.cs):FCop cs:=by
  intro nm nul k w id ix h s K Kp hs hl hln hk
  refine Fn51.of (New_i fun b1 h1 e1 g1 k1 _=>New_i fun b2 h2 e2 g2 k2 _ => ?_)
  simp only [add_blk]
  have G2:=Grw.trans g1 g2
  have i1:b1 < h1.size:=k1.lt
  have i12:b1 < b2:=by omega
  have i2:b2 < h2.size:=k2.lt
  refine Ld_blk (k1.grw g2) rfl (cloneF_c G2 hs hl fun t h3 us g3 hul hu ho => ?_)
  refine St_i ((k1.grw g2).grw g3) (by simp) rfl fun h4 o4 k1=>Ld_blk k1 rfl ?_
  have k2:=o4.blk (k2.grw g3) (by omega)
  have G4:Grw h h4:=Only.grw (Grw.trans G2 g3) o4 (by omega)
  have s24:h2.size≤h4.size:=by have:=g3.1;have:=o4.1;omega
  have fin:∀(h5:Hp) (u:Sl),Grw h h5→Blk h5 b1 #[.string nm, .bool nul, .int .i64 k, .int .i64 w, .int .i64 id, .int .i64 ix,Sl.v u] Y29→Blk h5 b2 zY29 Y29→FsA (Nw h2) h5 u cs→LY29 h5 ⟨b1,0,none⟩ fun t30_0 t30_1 t30_2 t30_3 t30_4 t30_5 t30_6 =>
      SY29 h5 ⟨b2,0,none⟩ t30_0 t30_1 t30_2 t30_3 t30_4 t30_5 t30_6 fun h1=>LY29 h1 ⟨b2,0,none⟩ fun r0_0 r0_1 r0_2 r0_3 r0_4 r0_5 r0_6=>K r0_0 r0_1 r0_2 r0_3 r0_4 r0_5 r0_6 h1:=by
    intro h5 u g k1 k2 hu
    refine LY29.b k1 (SY29.b k2 rfl fun h6 o6 k2=>LY29.b k2 (hk _ _ (Only.grw g o6 (by have:=G2.1;omega)) ?_))
    exact FsA.fr o6.fr (fun b (hb:h2.size≤b) e=>by omega) (fun b (hb:h2.size≤b)=>by have:=G2.1;show h.size≤b;omega) _ hu
  rcases ho with ⟨rfl,rfl⟩ | ⟨b,hb,o⟩
  · refine L51_1.rule (fun x h5=>h5=h4∧x=0) (fun _ _=>0) ⟨rfl,rfl⟩ ?_
    rintro x h5 ⟨rfl,rfl⟩ N1 _
    refine If_f rfl (fin _ _ G4 k1 k2 ?_)
    unfold FsA;exact ⟨rfl,Nat.le_refl _⟩
  · have o:=o.fr o4.fr (by omega)
    have on:=o.n
    have hzl:(List.zipWith Fld.row cs us).length=cs.length:=by rw [List.length_zipWith,hul,Nat.min_self]
    rw [hzl] at on
    have k1:Blk h4 b1 #[.string nm, .bool nul, .int .i64 k, .int .i64 w, .int .i64 id, .int .i64 ix,Sl.v t] Y29:=by simpa using k1
    have blt:b < h4.size:=o.lt
    refine L51_1.rule (fun x h5=>∃(i:Nat) (vs:List Sl),x=i∧i≤cs.length∧vs.length=cs.length∧(∀j,i≤j→vs[j]? = us[j]?)∧Tn (·=b) h4 h5∧RowH 7 h5 t b (List.zipWith Fld.row cs vs) Y29 ∧
        ∀(j:Nat) (f:Fld) (u:Sl),j < i→cs[j]? = some f→vs[j]? = some u→FsA (fun c=>h2.size≤c∧c≠b) h5 u f.cs)
      (fun x _=>cs.length - x.toNat) ⟨0,us,rfl,by omega,hul,fun _ _=>rfl,Tn.refl _ _,o,fun j f u hj=>by omega⟩ ?_
    rintro x h5 ⟨i,vs,rfl,hi,hvl,hvu,f5,o5,hv⟩ N1 hN
    have k1:=f5.blk k1 (by omega)
    have k2:=f5.blk k2 (by omega)
    simp only [add_blk]
    have s45:=f5.1
    refine If_i (fun c => ?_) fun c => ?_
    · simp only [sm,reduceCtorEq] at c
      have hi':i < cs.length:=by omega
      have hj:cs[i]? = some cs[i]:=List.getElem?_eq_getElem hi'
      have hmem:cs[i]∈cs:=List.getElem_mem hi'
      generalize cs[i]=f at hj hmem
      have hvi:vs[i]? = some vs[i]:=List.getElem?_eq_getElem (by omega)
      generalize vs[i]=u at hvi
      have hul':FsH h u f.cs:=hu i f u hj (by rw [←hvu i (Nat.le_refl _)];exact hvi)
      have hzl':(List.zipWith Fld.row cs vs).length=cs.length:=by rw [List.length_zipWith,hvl,Nat.min_self]
      have hrow:(List.zipWith Fld.row cs vs)[i]? = some (f.row u):=by rw [List.getElem?_zipWith,hj,hvi]
      have g25:Grw h h5:=((Tn.of_grw G4:Tn No h h4).trans' f5 fun d hd hlt=>by have:=G2.1;omega).grw
      have hfl:=(hln.get f hmem).cs
      refine Ld_blk k1 rfl (Ld_blk k1 rfl (o5.ix rfl (by omega) (LY29.c (o5.cs hrow) (IH f hmem (hul'.gr g25) hfl.1 hfl.2 fun v h6 g6 hfv=>Keep_blk k1 g6 (o5.ix rfl (by omega) (SY29.l ?_))))))
      refine (o5.grw g6).set (by omega) (r:=f.row v) rfl (row_one f v) fun h7 o7 o5'=>Wr_i64 (by omega) (by omega) (hN _ _ ⟨i+1,vs.set i v,by simp,by omega,by simp [hvl],fun j hj => ?_,?_,?_,?_⟩ (by omega))
      · rw [List.getElem?_set_ne (by omega)];exact hvu j (by omega)
      · exact (f5.trans' (Tn.of_grw (S:=No) g6) fun _ t=>t.elim).trans o7.fr
      · have:(List.zipWith Fld.row cs vs).set i (f.row v)=List.zipWith Fld.row cs (vs.set i v):=by
          apply List.ext_getElem?
          intro j
          rw [List.getElem?_set,List.getElem?_zipWith,List.getElem?_zipWith,List.getElem?_set]
          by_cases e:i=j
          · subst e;rw [if_pos rfl,if_pos (by omega),if_pos rfl,if_pos (by omega),hj]
          · rw [if_neg e,if_neg e]
        rw [←this];exact o5'
      · intro j g v' hjlt hg hv'
        by_cases e:i=j
        · subst e
          rw [List.getElem?_set_self (by omega)] at hv';cases hv'
          rw [hj] at hg;cases hg
          exact FsA.fr o7.fr (fun c (hc:h5.size≤c) e=>by omega) (fun c (hc:h5.size≤c)=>⟨by omega,by omega⟩) _ hfv
        · rw [List.getElem?_set_ne e] at hv'
          exact FsA.fr o7.fr (fun c hc e=>hc.2 e) (fun c hc=>hc) _ (FsA.gr (hv j g v' (by omega) hg hv') g6)
    · simp only [sm,reduceCtorEq] at c
      have:i=cs.length:=by omega
      subst this
      refine fin _ _ (((Tn.of_grw G4:Tn No h h4).trans' f5 fun d hd hlt=>by have:=G2.1;have:=g3.1;omega).grw) k1 k2 (FsA.of o5 hvl (by omega) fun j f u hf hv' => ?_)
      exact FsA.fr (S:=No) (Tn.refl _ _) (fun _ _ t=>t) (fun c hc=>hc.1) _ (hv j f u (List.getElem?_eq_some_iff.1 hf).1 hf hv')
theorem fcop_all:∀f:Fld,FCop f.cs
  | .mk _ _ _ _ _ _ cs=>fcop_step (cs:=cs) fun f _=>fcop_all f
theorem fcop (cs:List Fld):FCop cs:=fcop_step fun f _=>fcop_all f
end Go.Proofs.YtlbbdbdjiekkaaaGreatDoor
set_option maxRecDepth 100000
set_option maxHeartbeats 200000
/- Data as it stands in a heap. -/
namespace Go.Proofs.YtlbbdbdjiekkaaaGreatDoor
open Go Go.Sh Go.WideShapes
/-- an array's data: Length, Offset, Nulls, buffers, children, dictionary -/
inductive Dat
  | mk (len off nul:Int) (bufs:List (List UInt8)) (cs ds:List Dat)
def Dat.len:Dat→Int | .mk n _ _ _ _ _=>n
def Dat.off:Dat→Int | .mk _ o _ _ _ _=>o
def Dat.nul:Dat→Int | .mk _ _ u _ _ _=>u
def Dat.bufs:Dat→List (List UInt8) | .mk _ _ _ b _ _=>b
def Dat.cs:Dat→List Dat | .mk _ _ _ _ c _=>c
def Dat.ds:Dat→List Dat | .mk _ _ _ _ _ x=>x
def vals6 (n o u:Int) (b c x:Sl):List Value:=[.int .i64 n, .int .i64 o, .int .i64 u,Sl.v b,Sl.v c,Sl.v x]
def Dat.row (d:Dat) (p:Sl × Sl × Sl):List Value:=vals6 d.len d.off d.nul p.1 p.2.1 p.2.2
theorem drow_len (d:Dat) (p:Sl × Sl × Sl):(d.row p).length=6:=rfl
theorem drow_one (d:Dat) (p:Sl × Sl × Sl):∀v∈d.row p,one v=true:=by intro v hv;simp [Dat.row,vals6] at hv;rcases hv with rfl | rfl | rfl | rfl | rfl | rfl <;> rfl
/-- a slice of things, its block one of E -/
def SvA (E:Nat→Prop) (h:Hp) (s:Sl) (vs:List Value):Prop:=Sv h s vs∧(vs≠[]→∀a,s.a=some a→E a.block)
theorem SvA.fr {E S E':Nat→Prop} {h h':Hp} {s:Sl} {vs:List Value} (v:SvA E h s vs) (f:Tn S h h') (hn:∀b,E b→b < h.size→¬S b) (hE:∀b,E b→E' b):SvA E' h' s vs:=by
  obtain ⟨⟨h1,h2,h3⟩,h4⟩:=v
  refine ⟨⟨h1,h2,fun x hx => ?_⟩,fun hv a ha=>hE _ (h4 hv a ha)⟩
  obtain ⟨a,ha,c⟩:=h3 x hx
  cases vs with
  | nil=>simp at h1;omega
  | cons w ws=>exact ⟨a,ha,c.fr f (hn _ (h4 (by simp) a ha) (Cs.lt c))⟩
theorem SvA.lt {E:Nat→Prop} {h:Hp} {s:Sl} {vs:List Value} (v:SvA E h s vs):SvA (fun b=>E b∧b < h.size) h s vs:=by
  obtain ⟨⟨h1,h2,h3⟩,h4⟩:=v
  refine ⟨⟨h1,h2,h3⟩,fun hv a ha=>⟨h4 hv a ha,?_⟩⟩
  cases vs with
  | nil=>exact absurd rfl hv
  | cons w ws=>obtain ⟨a',ha',c⟩:=h3 ws.length (by simpa using h1);rw [ha] at ha';cases ha';exact Cs.lt c
/-- a slice of lists of bytes -/
def BfsA (D E:Nat→Prop) (h:Hp) (s:Sl) (bufs:List (List UInt8)):Prop :=
  ∃ss:List Sl,ss.length=bufs.length∧SvA D h s (ss.map Sl.v)∧∀(j:Nat) (t:Sl) (l:List UInt8),ss[j]? = some t→bufs[j]? = some l→SvA E h t (bv l)
mutual
/-- a slice of data: the lists around the bytes in blocks of D, the bytes in blocks of E -/
def DsA (D E:Nat→Prop) (h:Hp) (s:Sl):List Dat→Prop
  | []=>s.n=0∧s.n≤s.c
  | d::ds=>s.n=ds.length+1∧s.n≤s.c∧∃a,s.a=some a∧D a.block∧DatA D E h a d∧DrA D E h a 1 ds
def DrA (D E:Nat→Prop) (h:Hp) (a:Addr) (i:Nat):List Dat→Prop
  | []=>True
  | d::ds=>DatA D E h (a.add (i*6)) d∧DrA D E h a (i+1) ds
def DatA (D E:Nat→Prop) (h:Hp) (a:Addr):Dat→Prop
  | .mk n o u bufs cs ds=>∃b c x,Cs h a (vals6 n o u b c x)∧BfsA D E h b bufs∧DsA D E h c cs∧DsA D E h x ds
end
/-- the three lists of data -/
structure DvA (D E:Nat→Prop) (h:Hp) (p:Sl × Sl × Sl) (d:Dat):Prop where
  b:BfsA D E h p.1 d.bufs
  c:DsA D E h p.2.1 d.cs
  x:DsA D E h p.2.2 d.ds
theorem DatA.row {D E:Nat→Prop} {h:Hp} {a:Addr} {d:Dat} (hd:DatA D E h a d):∃p,Cs h a (d.row p)∧DvA D E h p d:=by
  obtain ⟨n,o,u,bufs,cs,ds⟩:=d
  unfold DatA at hd
  obtain ⟨b,c,x,hc,h1,h2,h3⟩:=hd
  exact ⟨(b,c,x),hc,h1,h2,h3⟩
theorem DatA.of {D E:Nat→Prop} {h:Hp} {a:Addr} {d:Dat} {p:Sl × Sl × Sl} (c:Cs h a (d.row p)) (v:DvA D E h p d):DatA D E h a d:=by
  obtain ⟨n,o,u,bufs,cs,ds⟩:=d
  unfold DatA
  exact ⟨_,_,_,c,v.1,v.2,v.3⟩
section
variable {D E D' E' S:Nat→Prop} {h h':Hp}
theorem BfsA.fr (f:Tn S h h') (hn:∀b,D b→b < h.size→¬S b) (hm:∀b,E b→b < h.size→¬S b) (hD:∀b,D b→D' b) (hE:∀b,E b→E' b) {s:Sl} {bufs:List (List UInt8)} (v:BfsA D E h s bufs):BfsA D' E' h' s bufs:=by
  obtain ⟨ss,hl,hs,hb⟩:=v
  exact ⟨ss,hl,hs.fr f hn hD,fun j t l h1 h2=>(hb j t l h1 h2).fr f hm hE⟩
theorem BfsA.lt {s:Sl} {bufs:List (List UInt8)} (v:BfsA D E h s bufs):BfsA (fun b=>D b∧b < h.size) (fun b=>E b∧b < h.size) h s bufs:=by
  obtain ⟨ss,hl,hs,hb⟩:=v
  exact ⟨ss,hl,hs.lt,fun j t l h1 h2=>(hb j t l h1 h2).lt⟩
mutual
theorem DsA.fr (f:Tn S h h') (hn:∀b,D b→b < h.size→¬S b) (hm:∀b,E b→b < h.size→¬S b) (hD:∀b,D b→D' b) (hE:∀b,E b→E' b):∀{s:Sl} (ds:List Dat),DsA D E h s ds→DsA D' E' h' s ds
  | _,[],hh=>by unfold DsA at hh ⊢;exact hh
  | _,d::ds,hh=>by
    unfold DsA at hh ⊢
    obtain ⟨a,b,p,e,q,x,y⟩:=hh
    have hlt:p.block < h.size:=by obtain ⟨n,o,u,bufs,cs,es⟩:=d;unfold DatA at x;obtain ⟨_,_,_,c,_⟩:=x;exact Cs.lt c
    exact ⟨a,b,p,e,hD _ q,DatA.fr f hn hm hD hE (hn _ q hlt) d x,DrA.fr f hn hm hD hE (hn _ q hlt) ds y⟩
theorem DrA.fr (f:Tn S h h') (hn:∀b,D b→b < h.size→¬S b) (hm:∀b,E b→b < h.size→¬S b) (hD:∀b,D b→D' b) (hE:∀b,E b→E' b):∀{a:Addr} (ha:¬S a.block) {i:Nat} (ds:List Dat),DrA D E h a i ds→DrA D' E' h' a i ds
  | _,_,_,[],_=>by unfold DrA;trivial
  | _,ha,i,d::ds,hh=>by
    unfold DrA at hh ⊢
    exact ⟨DatA.fr f hn hm hD hE (by rw [add_block];exact ha) d hh.1,DrA.fr f hn hm hD hE ha ds hh.2⟩
theorem DatA.fr (f:Tn S h h') (hn:∀b,D b→b < h.size→¬S b) (hm:∀b,E b→b < h.size→¬S b) (hD:∀b,D b→D' b) (hE:∀b,E b→E' b):∀{a:Addr} (ha:¬S a.block) (d:Dat),DatA D E h a d→DatA D' E' h' a d
  | _,ha, .mk n o u bufs cs ds,hh=>by
    unfold DatA at hh ⊢
    obtain ⟨b,c,x,hc,h1,h2,h3⟩:=hh
    exact ⟨b,c,x,hc.fr f ha,h1.fr f hn hm hD hE,DsA.fr f hn hm hD hE cs h2,DsA.fr f hn hm hD hE ds h3⟩
end
mutual
theorem DsA.lt:∀{s:Sl} (ds:List Dat),DsA D E h s ds→DsA (fun b=>D b∧b < h.size) (fun b=>E b∧b < h.size) h s ds
  | _,[],hh=>by unfold DsA at hh ⊢;exact hh
  | _,d::ds,hh=>by
    unfold DsA at hh ⊢
    obtain ⟨a,b,p,e,q,x,y⟩:=hh
    have hlt:p.block < h.size:=by obtain ⟨n,o,u,bufs,cs,es⟩:=d;unfold DatA at x;obtain ⟨_,_,_,c,_⟩:=x;exact Cs.lt c
    exact ⟨a,b,p,e,⟨q,hlt⟩,DatA.lt d x,DrA.lt ds y⟩
theorem DrA.lt:∀{a:Addr} {i:Nat} (ds:List Dat),DrA D E h a i ds→DrA (fun b=>D b∧b < h.size) (fun b=>E b∧b < h.size) h a i ds
  | _,_,[],_=>by unfold DrA;trivial
  | _,i,d::ds,hh=>by unfold DrA at hh ⊢;exact ⟨DatA.lt d hh.1,DrA.lt ds hh.2⟩
theorem DatA.lt:∀{a:Addr} (d:Dat),DatA D E h a d→DatA (fun b=>D b∧b < h.size) (fun b=>E b∧b < h.size) h a d
  | _, .mk n o u bufs cs ds,hh=>by
    unfold DatA at hh ⊢
    obtain ⟨b,c,x,hc,h1,h2,h3⟩:=hh
    exact ⟨b,c,x,hc,h1.lt,DsA.lt cs h2,DsA.lt ds h3⟩
end
theorem DsA.gr {s:Sl} {ds:List Dat} (v:DsA D E h s ds) (g:Grw h h'):DsA D E h' s ds:=DsA.fr (S:=No) (Tn.of_grw g) (fun _ _ _=>id) (fun _ _ _=>id) (fun _ q=>q) (fun _ q=>q) ds v
theorem DvA.fr (f:Tn S h h') (hn:∀b,D b→b < h.size→¬S b) (hm:∀b,E b→b < h.size→¬S b) (hD:∀b,D b→D' b) (hE:∀b,E b→E' b) {p:Sl × Sl × Sl} {d:Dat} (v:DvA D E h p d):DvA D' E' h' p d :=
  ⟨v.b.fr f hn hm hD hE,DsA.fr f hn hm hD hE _ v.c,DsA.fr f hn hm hD hE _ v.x⟩
theorem DvA.lt {p:Sl × Sl × Sl} {d:Dat} (v:DvA D E h p d):DvA (fun b=>D b∧b < h.size) (fun b=>E b∧b < h.size) h p d:=⟨v.b.lt,DsA.lt _ v.c,DsA.lt _ v.x⟩
theorem DvA.gr {p:Sl × Sl × Sl} {d:Dat} (v:DvA D E h p d) (g:Grw h h'):DvA D E h' p d:=v.fr (S:=No) (Tn.of_grw g) (fun _ _ _=>id) (fun _ _ _=>id) (fun _ q=>q) (fun _ q=>q)
theorem BfsA.gr {s:Sl} {bufs:List (List UInt8)} (v:BfsA D E h s bufs) (g:Grw h h'):BfsA D E h' s bufs:=v.fr (S:=No) (Tn.of_grw g) (fun _ _ _=>id) (fun _ _ _=>id) (fun _ q=>q) (fun _ q=>q)
/-- the same, of wider stretches -/
theorem DvA.mo {p:Sl × Sl × Sl} {d:Dat} (v:DvA D E h p d) (hD:∀b,D b→D' b) (hE:∀b,E b→E' b):DvA D' E' h p d:=v.fr (S:=No) (Tn.refl _ _) (fun _ _ _=>id) (fun _ _ _=>id) hD hE
theorem DrA.get:∀{a:Addr} {ds:List Dat} {i:Nat},DrA D E h a i ds→∀(j:Nat) d,ds[j]? = some d→DatA D E h (a.add ((i+j)*6)) d
  | _,[],_,_,_,_,hj=>by simp at hj
  | _,f::fs,i,hh,0,g,hj=>by simp at hj;subst hj;unfold DrA at hh;exact hh.1
  | _,f::fs,i,hh,j+1,g,hj=>by
    unfold DrA at hh
    have:=DrA.get hh.2 j g (by simpa using hj)
    have e:i+(j+1)=i+1+j:=by omega
    rw [e];exact this
theorem DsA.get {s:Sl} {ds:List Dat} (hh:DsA D E h s ds) {j:Nat} {d:Dat} (hj:ds[j]? = some d):∃a,s.a=some a∧DatA D E h (a.add (j*6)) d:=by
  cases ds with
  | nil=>simp at hj
  | cons g gs =>
    unfold DsA at hh
    obtain ⟨_,_,a,ha,_,h1,h2⟩:=hh
    refine ⟨a,ha,?_⟩
    cases j with
    | zero=>simp at hj;subst hj;rw [Nat.zero_mul,add_zero'];exact h1
    | succ j =>
      have:=h2.get j d (by simpa using hj)
      have e:1+j=j+1:=by omega
      rw [e] at this;exact this
theorem DsA.n {s:Sl} {ds:List Dat} (hh:DsA D E h s ds):s.n=ds.length∧s.n≤s.c:=by
  cases ds with
  | nil=>unfold DsA at hh;exact hh
  | cons g gs=>unfold DsA at hh;exact ⟨hh.1,hh.2.1⟩
theorem DsA.ix {s:Sl} {ds:List Dat} (hs:DsA D E h s ds) {x:Int} {i:Nat} (hx:x=(i:Int)) {d:Dat} (hj:ds[i]? = some d) {K:Addr→Prop} (hk:∀a p,Cs h a (d.row p)→DvA D E h p d→K a):Ix s.a s.n 6 x K:=by
  obtain ⟨a,ha,hd⟩:=hs.get hj
  obtain ⟨p,c,v⟩:=hd.row
  have hn:=hs.n
  have hi:i < ds.length:=(List.getElem?_eq_some_iff.1 hj).1
  subst hx
  rw [ha]
  exact ⟨by omega,by omega,by rw [Int.toNat_natCast];exact hk _ _ c v⟩
theorem DrA.of {a:Addr}:∀{ds:List Dat} {i:Nat},(∀j d,ds[j]? = some d→DatA D E h (a.add ((i+j)*6)) d)→DrA D E h a i ds
  | [],_,_=>by unfold DrA;trivial
  | f::fs,i,H=>by
    unfold DrA
    refine ⟨H 0 f rfl,DrA.of fun j g hg => ?_⟩
    have:=H (j+1) g (by simpa using hg)
    have e:i+1+j=i+(j+1):=by omega
    rw [e];exact this
theorem DsA.of {s:Sl} {b:Nat} {ds:List Dat} {ps:List (Sl × Sl × Sl)} {el:TypeId} (o:RowH 6 h s b (List.zipWith Dat.row ds ps) el) (hl:ps.length=ds.length) (hb:D b)
    (hp:∀(j:Nat) (d:Dat) (p:Sl × Sl × Sl),ds[j]? = some d→ps[j]? = some p→DvA D E h p d):DsA D E h s ds:=by
  have hn:=o.n
  rw [List.length_zipWith,hl,Nat.min_self] at hn
  have key:∀j d,ds[j]? = some d→DatA D E h ⟨b,j*6,none⟩ d:=by
    intro j d hd
    have hj:=(List.getElem?_eq_some_iff.1 hd).1
    have hj2:ps[j]? = some ps[j]:=List.getElem?_eq_getElem (by omega)
    exact DatA.of (o.cs (by rw [List.getElem?_zipWith,hd,hj2])) (hp j d _ hd hj2)
  cases ds with
  | nil=>unfold DsA;exact ⟨by simpa using hn,o.cap⟩
  | cons d ds =>
    unfold DsA
    refine ⟨by simpa using hn,o.cap,_,o.a,hb,by simpa using key 0 d rfl,DrA.of fun j g hg => ?_⟩
    rw [add_blk,Nat.zero_add]
    have:=key (j+1) g (by simpa using hg)
    have e:1+j=j+1:=by omega
    rw [e];exact this
theorem DsA.nil (h:Hp):DsA D E h Sl.nil []:=by unfold DsA;exact ⟨rfl,Nat.le_refl _⟩
/-- rows appended to a list that grows: the older ones stay -/
theorem DsA.snoc {lo:Nat} {s:Sl} {ds:List Dat} {ps:List (Sl × Sl × Sl)} {el:TypeId} (o:RowS lo 6 h s (List.zipWith Dat.row ds ps) el) (hl:ps.length=ds.length) (hD:∀b,lo≤b→D b)
    (hp:∀(j:Nat) (d:Dat) (p:Sl × Sl × Sl),ds[j]? = some d→ps[j]? = some p→DvA D E h p d):DsA D E h s ds:=by
  rcases o.cases with ⟨rfl,e⟩ | ⟨b,hb,o⟩
  · have:ds=[]:=by
      cases ds with
      | nil=>rfl
      | cons d ds=>cases ps with
        | nil=>simp at hl
        | cons=>simp at e
    subst this;exact DsA.nil h
  · exact DsA.of o hl (hD b hb) hp
end
mutual
/-- no list is long -/
def Dat.sml:Dat→Prop
  | .mk _ _ _ bufs cs ds=>(bufs.length≤70000∧∀l∈bufs,l.length≤70000)∧(cs.length≤70000∧dsml cs)∧ds.length≤70000∧dsml ds
def dsml:List Dat→Prop
  | []=>True
  | d::ds=>d.sml∧dsml ds
end
theorem dsml.get:∀{ds:List Dat},dsml ds→∀d∈ds,d.sml
  | [],_,_,h=>by simp at h
  | g::gs,hh,d,h=>by
    unfold dsml at hh
    rcases List.mem_cons.1 h with rfl | h
    · exact hh.1
    · exact dsml.get hh.2 d h
theorem Dat.sml.un {d:Dat} (h:d.sml):(d.bufs.length≤70000∧∀l∈d.bufs,l.length≤70000)∧(d.cs.length≤70000∧dsml d.cs)∧d.ds.length≤70000∧dsml d.ds:=by cases d;unfold Dat.sml at h;exact h
end Go.Proofs.YtlbbdbdjiekkaaaGreatDoor
set_option maxRecDepth 100000
set_option maxHeartbeats 200000
/- Copies of data. -/
namespace Go.Proofs.YtlbbdbdjiekkaaaGreatDoor
open Go Go.Sh Go.WideShapes
abbrev K6:=Int→Int→Int→Sl→Sl→Sl→HP
/-- what a copy's inner function does -/
def CpF (F:Int→Int→Int→Sl→Sl→Sl→Hp→K6→PK→Prop) (Kp:PK) (D E:Nat→Prop) (E1:Hp→Nat→Prop) (h:Hp) (d:Dat):Prop :=
  ∀{h1:Hp} {p:Sl × Sl × Sl} {K:K6},Grw h h1→DvA D E h1 p d→(∀p' h',Grw h1 h'→DvA (Nw h1) (E1 h1) h' p' d→K d.len d.off d.nul p'.1 p'.2.1 p'.2.2 h')→F d.len d.off d.nul p.1 p.2.1 p.2.2 h1 K Kp
theorem take_zip {α β γ:Type} {g:α→β→γ} {l:List α} {m:List β} {i:Nat} {x:α} {y:β} (hx:l[i]? = some x) (hm:m.length=i):List.zipWith g (l.take (i+1)) (m++[y])=List.zipWith g (l.take i) m++[g x y]:=by
  have hi:=(List.getElem?_eq_some_iff.1 hx).1
  have htk:l.take (i+1)=l.take i++[x]:=by
    rw [List.take_succ_eq_append_getElem hi]
    rw [List.getElem?_eq_getElem hi] at hx;cases hx;rfl
  rw [htk,List.zipWith_append (by simp;omega)];rfl
theorem snoc_get {α:Type} {m:List α} {y v:α} {i j:Nat} (hm:m.length=i) (hv:(m++[y])[j]? = some v):(j < i∧m[j]? = some v)∨(j=i∧v=y):=by
  subst hm
  rcases Nat.lt_trichotomy j m.length with h | h | h
  · rw [List.getElem?_append_left h] at hv;exact .inl ⟨h,hv⟩
  · subst h;rw [List.getElem?_append_right (Nat.le_refl _)] at hv;simp at hv;exact .inr ⟨rfl,hv.symm⟩
  · have:=(List.getElem?_eq_some_iff.1 hv).1;simp at this;omega
theorem list_cp {F:Int→Int→Int→Sl→Sl→Sl→Hp→K6→PK→Prop} {L:Sl→Int→HP} {mk:Sl→Int→Fr} {l:Sl} {Kp:PK} {K:Sl→HP}
    (rule:LR2 L mk fun N1 x3 x8 h=>If (decide (x8 < (l.n:Int))) (Ix l.a l.n 6 x8 fun a10=>LY33 h a10 fun t0 t1 t2 t3 t4 t5=>New h zY33 Y33 fun a5 h1=>SY33 h1 a5 t0 t1 t2 t3 t4 t5 fun h2=>LY33 h2 a5 fun u0 u1 u2 u3 u4 u5 =>
      F u0 u1 u2 u3 u4 u5 h2 (fun w0 w1 w2 w3 w4 w5 h3=>New h3 #[(.int .i64 w0),(.int .i64 w1),(.int .i64 w2),(Sl.v w3),(Sl.v w4),(Sl.v w5)] Y33 fun a15 h4=>Ap h4 Y33 zY33 6 96 x3 1 (rd h4 (some a15) (1*6)) fun t16 h5=>Wr .i64 (x8+1) fun t17=>N1 (mk t16 t17) h5) Kp) (K x3 h))
    {D E:Nat→Prop} {E1:Hp→Nat→Prop} {ds:List Dat} {h:Hp} (hs:DsA D E h l ds) (hl:ds.length≤70000) (e1:∀h1 b,h.size≤h1.size→E1 h1 b→E1 h b) (e2:∀h1 b,h.size≤h1.size→E1 h1 b→b < h.size∨h1.size≤b)
    (HF:∀d∈ds,CpF F Kp D E E1 h d) (hk:∀t h',Grw h h'→DsA (Nw h) (E1 h) h' t ds→K t h'):L Sl.nil 0 h:=by
  have hn:=hs.n
  refine rule (fun x3 x h1=>∃(i:Nat) (ps:List (Sl × Sl × Sl)),x=i∧i≤ds.length∧ps.length=i∧Grw h h1∧RowS h.size 6 h1 x3 (List.zipWith Dat.row (ds.take i) ps) Y33 ∧
      ∀(j:Nat) (d:Dat) (p:Sl × Sl × Sl),ds[j]? = some d→ps[j]? = some p→DvA (fun b=>h.size≤b∧¬x3.at b) (fun b=>E1 h b∧¬x3.at b) h1 p d)
    (fun x3 x _=>ds.length - x.toNat) ⟨0,[],rfl,by omega,rfl,Grw.refl _,RowS.nil _ _ _ _,by simp⟩ ?_
  rintro x3 x h1 ⟨i,ps,rfl,hi,hps,g1,o1,hu⟩ N1 hN
  have o1n:=o1.n
  rw [List.length_zipWith,List.length_take] at o1n
  refine If_i (fun c => ?_) fun c => ?_
  · simp only [sm,reduceCtorEq] at c
    have hi':i < ds.length:=by omega
    have hj:ds[i]? = some ds[i]:=List.getElem?_eq_getElem hi'
    have hmem:ds[i]∈ds:=List.getElem_mem hi'
    generalize ds[i]=d at hj hmem
    refine hs.ix rfl hj fun a p ca vp => ?_
    refine LY33.c (ca.grw g1) (New_i fun b5 hx eb gx kx _=>SY33.b kx rfl fun h2 o2 k5=>LY33.b k5 ?_)
    have g2:Grw h1 h2:=Only.grw gx o2 (by omega)
    have s2:=g2.1
    have s1:=g1.1
    refine HF d hmem (Grw.trans g1 g2) (vp.gr (Grw.trans g1 g2)) fun p' h3 g3 v3=>New_i fun b15 h4 e4 g4 k15 _ => ?_
    have G4:Grw h1 h4:=Grw.trans g2 (Grw.trans g3 g4)
    have s4:=G4.1
    have v4:=(v3.gr g4).lt
    refine (o1.grw G4).ap (by omega) rfl (new:=[d.row p']) rfl (fun r hr=>by simp at hr;subst hr;rfl) (fun r hr=>by simp at hr;subst hr;exact drow_one d p') (by simpa [Dat.row,vals6] using rd_blk k15 rfl) (by omega) (by omega) fun s' h5 f5 at5 o5 => ?_
    refine Wr_i64 (by omega) (by omega) (hN _ _ _ ⟨i+1,ps++[p'],by simp,by omega,by simp [hps],?_,?_,?_⟩ (by omega))
    · exact (((Tn.of_grw (Grw.trans g1 G4):Tn No h h4)).trans' f5 fun b hd hlt=>by have:=((o1.grw G4).at hd).1;omega).grw
    · rw [take_zip hj hps];exact o5
    · intro j g v hg hv
      have old:∀b,s'.at b→b < h4.size→x3.at b:=fun b q hb=>(at5 b q).resolve_right (by omega)
      rcases snoc_get hps hv with ⟨hlt,hv⟩ | ⟨rfl,rfl⟩
      · refine ((hu j g v hg hv).lt.gr G4).fr f5 (fun b hb _=>hb.1.2) (fun b hb _=>hb.1.2) (fun b hb=>⟨hb.1.1,fun q=>hb.1.2 (old b q (by omega))⟩) (fun b hb=>⟨hb.1.1,fun q=>hb.1.2 (old b q (by omega))⟩)
      · rw [hj] at hg;cases hg
        have ax:∀b,x3.at b→h.size≤b∧b < h1.size:=fun b hb=>o1.at hb
        refine v4.fr f5 (fun b hb _ q=>by have:=ax b q;have:=hb.1;omega) (fun b hb _ q=>by have:=ax b q;have:=e2 h2 b (by omega) hb.1;omega) (fun b hb=>⟨by have:=hb.1;omega,fun q => ?_⟩) (fun b hb=>⟨e1 h2 b (by omega) hb.1,fun q => ?_⟩)
        · have:=ax b (old b q hb.2);have:=hb.1;omega
        · have:=ax b (old b q hb.2);have:=e2 h2 b (by omega) hb.1;omega
  · simp only [sm,reduceCtorEq] at c
    have:i=ds.length:=by omega
    subst this
    rw [List.take_length] at o1
    exact hk _ _ g1 (DsA.snoc o1 hps (fun b hb=>hb) fun j d p h1 h2=>(hu j d p h1 h2).mo (fun b hb=>hb.1) fun b hb=>hb.1)
theorem map_flat (vs:List Value):(vs.map fun v=>[v]).flatten=vs:=by induction vs <;> simp_all
theorem one_lens (vs:List Value):Lens 1 (vs.map fun v=>[v]):=by intro r hr;obtain ⟨v,_,rfl⟩:=List.mem_map.1 hr;rfl
theorem slv_one (ss:List Sl):∀r∈(ss.map Sl.v).map fun v=>[v],∀v∈r,one v=true:=by
  intro r hr v hv
  obtain ⟨w,hw,rfl⟩:=List.mem_map.1 hr
  obtain ⟨t,_,rfl⟩:=List.mem_map.1 hw
  simp at hv;subst hv;rfl
/-- rows of one cell as things -/
theorem RowS.sva {lo:Nat} {h:Hp} {s:Sl} {vs:List Value} {el:TypeId} (o:RowS lo 1 h s (vs.map fun v=>[v]) el):SvA (fun b=>lo≤b) h s vs:=by
  refine ⟨?_,fun _ a ha=>(o.at ⟨a,ha,rfl⟩).1⟩
  have:=o.sh;rw [map_flat] at this;exact this.sv
theorem cloneB_c {h0 h:Hp} {D E:Nat→Prop} {s:Sl} {bufs:List (List UInt8)} {K:Sl→HP} {Kp:PK} (g0:Grw h0 h) (hs:BfsA D E h0 s bufs) (hl:bufs.length≤70000)
    (hk:∀t h',Grw h h'→BfsA (Nw h) E h' t bufs→K t h'):Fn201 s h K Kp:=by
  obtain ⟨ss,hsl,hsv,hb⟩:=hs
  have hn:=hsv.1.1
  rw [List.length_map] at hn
  refine Fn201.of (If_i (fun c => ?_) fun c => ?_)
  · refine hk _ h (Grw.refl _) ⟨[],?_,⟨Sv.nil h,fun q=>absurd rfl q⟩,fun j t l h1=>by simp at h1⟩
    rcases hsv.1.na with q | q
    · rw [Option.isNone_iff_eq_none] at c;exact absurd c q
    · have:ss=[]:=by simpa using q
      subst this;exact hsl
  · refine New_i fun b5 h1 e5 g5 k5 _ => ?_
    refine (RowS.start (sz:=1) k5 (Nat.le_of_eq e5.symm)).ap (by have:=g5.1;omega) rfl (new:=(ss.map Sl.v).map fun v=>[v]) (by simp [hn]) (one_lens _) (slv_one ss) ?_ (by simp;omega) (by simp;omega) fun t h2 f2 at2 o2 => ?_
    · rw [map_flat];exact (hsv.1.grw (Grw.trans g0 g5)).rd1 hsv.1.na
    · have g2:Grw h h2:=((Tn.of_grw g5:Tn No h h1).trans' f2 fun d ⟨a,ha,hd⟩ hlt=>by cases ha;simp at hd;omega).grw
      exact hk t h2 g2 ⟨ss,hsl,(RowS.sva o2),fun j t l h1 h2=>(hb j t l h1 h2).fr (S:=No) (Tn.of_grw (Grw.trans g0 g2)) (fun _ _ _=>id) fun _ q=>q⟩
/-- copied: the very bytes, other lists -/
def DCop (d:Dat):Prop:=∀{D E:Nat→Prop} {n0:Nat} {h:Hp} {p:Sl × Sl × Sl} {K:K6} {Kp:PK},DvA D E h p d→(∀b,E b→b < n0)→n0≤h.size→d.sml→(∀p' h',Grw h h'→DvA (Nw h) E h' p' d→K d.len d.off d.nul p'.1 p'.2.1 p'.2.2 h')→Fn52 d.len d.off d.nul p.1 p.2.1 p.2.2 h K Kp
theorem copiedL_c {ds:List Dat} (IH:∀d∈ds,DCop d) {D E:Nat→Prop} {n0:Nat} {h:Hp} {l:Sl} {K:Sl→HP} {Kp:PK} (hs:DsA D E h l ds) (hE:∀b,E b→b < n0) (hn0:n0≤h.size) (hl:ds.length≤70000) (hd:dsml ds)
    (hk:∀t h',Grw h h'→DsA (Nw h) E h' t ds→K t h'):Fn102 l h K Kp :=
  Fn102.of (list_cp (E1:=fun _=>E) L102_1.rule hs hl (fun _ _ _ q=>q) (fun _ b _ q=>.inl (by have:=hE b q;omega)) (fun d hd' _ _ _ g v k=>IH d hd' v hE (by have:=g.1;omega) (hd.get d hd') k) hk)
theorem copied_step {d:Dat} (IHc:∀x∈d.cs,DCop x) (IHd:∀x∈d.ds,DCop x):DCop d:=by
  intro D E n0 h p K Kp v hE hn0 hsm hk
  obtain ⟨b,c,x⟩:=p
  have hu:=hsm.un
  refine Fn52.of (New_i fun b1 h1 e1 g1 k1 _=>New_i fun b2 h2 e2 g2 k2 _ => ?_)
  simp only [add_blk]
  have G2:=Grw.trans g1 g2
  have i12:b1 < b2:=by have:=k1.lt;omega
  have i1:h.size≤b1:=by omega
  have i2:b2 < h2.size:=k2.lt
  refine Ld_blk (k1.grw g2) rfl (cloneB_c G2 v.b hu.1.1 fun tb h3 g3 vb => ?_)
  refine St_i ((k1.grw g2).grw g3) (by simp) rfl fun h4 o4 k1=>Ld_blk k1 rfl ?_
  have k2:=o4.blk (k2.grw g3) (by omega)
  have G4:Grw h h4:=Only.grw (Grw.trans G2 g3) o4 i1
  have s34:h4.size=h3.size:=o4.1
  have s3:=g3.1
  have vb:BfsA (Nw h2) E h4 tb d.bufs:=vb.fr o4.fr (fun b (hb:h2.size≤b) _ e=>by omega) (fun b hb _ e=>by have:=hE b hb;omega) (fun _ q=>q) fun _ q=>q
  have sh:=G2.1
  refine copiedL_c IHc (v.gr G4).c hE (by omega) hu.2.1.1 hu.2.1.2 fun tc h5 g5 vc => ?_
  refine St_i (k1.grw g5) (by simp) rfl fun h6 o6 k1=>Ld_blk k1 rfl ?_
  have k2:=o6.blk (k2.grw g5) (by omega)
  have G6:Grw h h6:=Only.grw (Grw.trans G4 g5) o6 i1
  have s5:=g5.1
  have s56:h6.size=h5.size:=o6.1
  have vb:BfsA (Nw h2) E h6 tb d.bufs:=(vb.gr g5).fr o6.fr (fun b (hb:h2.size≤b) _ e=>by omega) (fun b hb _ e=>by have:=hE b hb;omega) (fun _ q=>q) fun _ q=>q
  have vc:DsA (Nw h2) E h6 tc d.cs:=DsA.fr o6.fr (fun b (hb:h4.size≤b) _ e=>by omega) (fun b hb _ e=>by have:=hE b hb;omega) (fun b (q:h4.size≤b)=>by show h2.size≤b;omega) (fun _ q=>q) _ vc
  refine copiedL_c IHd (v.gr G6).x hE (by omega) hu.2.2.1 hu.2.2.2 fun tx h7 g7 vx => ?_
  refine St_i (k1.grw g7) (by simp) rfl fun h8 o8 k1=>LY33.b k1 ?_
  have s7:=g7.1
  have s78:h8.size=h7.size:=o8.1
  have k2:=o8.blk (k2.grw g7) (by omega)
  have G8:Grw h h8:=Only.grw (Grw.trans G6 g7) o8 i1
  refine SY33.b k2 rfl fun h9 o9 k2=>LY33.b k2 (hk (tb,tc,tx) _ (Only.grw G8 o9 (by omega)) ?_)
  have f:Tn (fun c=>c=b1∨c=b2) h7 h9:=(o8.fr.mono fun _ q _=>.inl q).trans (o9.fr.mono fun _ q _=>.inr q)
  have nD:∀b,Nw h2 b→b < h7.size→¬(b=b1∨b=b2):=fun b (hb:h2.size≤b) _ e=>by omega
  have nE:∀b,E b→b < h7.size→¬(b=b1∨b=b2):=fun b hb _ e=>by have:=hE b hb;omega
  have wD:∀b,Nw h2 b→Nw h b:=fun b (hb:h2.size≤b)=>by show h.size≤b;omega
  exact ⟨(vb.gr g7).fr f nD nE wD fun _ q=>q,DsA.fr f nD nE wD (fun _ q=>q) _ (vc.gr g7),DsA.fr f (fun b (hb:h6.size≤b) l=>nD b (by show h2.size≤b;omega) l) nE (fun b (hb:h6.size≤b)=>by show h.size≤b;omega) (fun _ q=>q) _ vx⟩
theorem copied_c:∀d:Dat,DCop d
  | .mk n o u bufs cs ds=>copied_step (d:=.mk n o u bufs cs ds) (fun x (_:x∈cs)=>copied_c x) fun x (_:x∈ds)=>copied_c x
end Go.Proofs.YtlbbdbdjiekkaaaGreatDoor
set_option maxRecDepth 100000
set_option maxHeartbeats 200000
/- Data laid down in memory of its own. -/
namespace Go.Proofs.YtlbbdbdjiekkaaaGreatDoor
open Go Go.Sh Go.WideShapes
theorem bv_ones (l:List UInt8):∀r∈(bv l).map fun v=>[v],∀v∈r,one v=true:=by
  intro r hr v hv
  obtain ⟨w,hw,rfl⟩:=List.mem_map.1 hr
  simp at hv;subst hv;exact bv_one _ hw
abbrev B33 (h:Hp) (b:Nat) (d:Dat) (p:Sl × Sl × Sl):Prop:=Blk h b #[.int .i64 d.len, .int .i64 d.off, .int .i64 d.nul,Sl.v p.1,Sl.v p.2.1,Sl.v p.2.2] Y33
end Go.Proofs.YtlbbdbdjiekkaaaGreatDoor
set_option maxRecDepth 100000
set_option maxHeartbeats 200000
/- Numbers and bits in bytes. -/
namespace Go.Proofs.YtlbbdbdjiekkaaaGreatDoor
open Go Go.Sh Go.WideShapes
abbrev Tt:Nat→Prop:=fun _=>True
abbrev DvH (h:Hp) (p:Sl × Sl × Sl) (d:Dat):Prop:=DvA Tt Tt h p d
/-- a number, the lowest byte first -/
def leN:List UInt8→Nat
  | []=>0
  | b::l=>b.toNat+256*leN l
theorem leN_lt (l:List UInt8):leN l < 2 ^ (8*l.length):=by
  induction l with
  | nil=>simp [leN]
  | cons b l ih =>
    have hb:=b.toNat_lt
    have e:2 ^ (8*(l.length+1))=256*2 ^ (8*l.length):=by rw [Nat.mul_add,Nat.pow_add,Nat.mul_comm]
    simp only [leN,List.length_cons]
    rw [e];omega
theorem leN_snoc (l:List UInt8) (b:UInt8):leN (l++[b])=leN l+b.toNat*2 ^ (8*l.length):=by
  induction l with
  | nil=>simp [leN]
  | cons c l ih =>
    have e:2 ^ (8*(l.length+1))=256*2 ^ (8*l.length):=by rw [Nat.mul_add,Nat.pow_add,Nat.mul_comm]
    simp only [List.cons_append,leN,ih,List.length_cons]
    rw [e,Nat.mul_add,←Nat.mul_assoc b.toNat,Nat.mul_comm b.toNat 256,Nat.mul_assoc];omega
/-- as a signed one of w bytes -/
def sg (w x:Nat):Int:=if x < 2 ^ (8*w - 1) then x else (x:Int) - 2 ^ (8*w)
def nAt (l:List UInt8) (i w:Nat):Nat:=leN ((l.drop i).take w)
theorem nAt_lt (l:List UInt8) (i w:Nat):nAt l i w < 2 ^ (8*w):=Nat.lt_of_lt_of_le (leN_lt _) (Nat.pow_le_pow_right (by decide) (by simp;omega))
/-- the i-th offset -/
def i32 (l:List UInt8) (i:Nat):Int:=sg 4 (nAt l (4*i) 4)
theorem i32_lt (l:List UInt8) (i:Nat) : -2147483648≤i32 l i∧i32 l i≤2147483647:=by
  have:=nAt_lt l (4*i) 4
  unfold i32 sg
  split <;> omega
def bitL (l:List UInt8) (r:Nat):Bool:=(l.getD (r / 8) 0).toNat / 2 ^ (r % 8) % 2 == 1
theorem and1 (x:Nat):bitsV .and .u8 (x:Int) 1=((x % 2:Nat):Int):=by
  have h1:(BitVec.ofInt 8 (x:Int) &&& BitVec.ofInt 8 1).toNat=x % 2:=by
    have e1:BitVec.ofInt 8 (x:Int)=BitVec.ofNat 8 x:=by simp
    have e2:BitVec.ofInt 8 1=BitVec.ofNat 8 1:=by decide
    rw [e1,e2,BitVec.toNat_and,BitVec.toNat_ofNat,BitVec.toNat_ofNat]
    have:1 % 2 ^ 8=1:=by decide
    rw [this,Nat.and_one_is_mod]
    omega
  show IntKind.wrap .u8 ((BitVec.ofInt 8 (x:Int) &&& BitVec.ofInt 8 1).toNat:Int)=_
  rw [h1,IntKind.wrap_u8];omega
theorem or32 (x y:Nat) (hx:x < 2 ^ 32) (hy:y < 2 ^ 32):bitsV .or .u32 (x:Int) (y:Int)=((x ||| y:Nat):Int):=by
  have h:x ||| y < 2 ^ 32:=Nat.or_lt_two_pow hx hy
  have e:(BitVec.ofInt 32 (x:Int) ||| BitVec.ofInt 32 (y:Int)).toNat=x ||| y:=by
    rw [BitVec.toNat_or,BitVec.ofInt_natCast,BitVec.ofInt_natCast,BitVec.toNat_ofNat,BitVec.toNat_ofNat,Nat.mod_eq_of_lt hx,Nat.mod_eq_of_lt hy]
  show IntKind.u32.wrap ((BitVec.ofInt 32 (x:Int) ||| BitVec.ofInt 32 (y:Int)).toNat:Int)=_
  rw [e];simp only [IntKind.wrap,IntKind.signed,IntKind.bits];simp;omega
theorem or64u (x y:Nat) (hx:x < 2 ^ 64) (hy:y < 2 ^ 64):bitsV .or .u64 (x:Int) (y:Int)=((x ||| y:Nat):Int):=by
  have h:x ||| y < 2 ^ 64:=Nat.or_lt_two_pow hx hy
  have e:(BitVec.ofInt 64 (x:Int) ||| BitVec.ofInt 64 (y:Int)).toNat=x ||| y:=by
    rw [BitVec.toNat_or,BitVec.ofInt_natCast,BitVec.ofInt_natCast,BitVec.toNat_ofNat,BitVec.toNat_ofNat,Nat.mod_eq_of_lt hx,Nat.mod_eq_of_lt hy]
  show IntKind.u64.wrap ((BitVec.ofInt 64 (x:Int) ||| BitVec.ofInt 64 (y:Int)).toNat:Int)=_
  rw [e];simp only [IntKind.wrap,IntKind.signed,IntKind.bits];simp;omega
theorem or_sh {x y k:Nat} (hx:x < 2 ^ k):x ||| (y*2 ^ k)=x+y*2 ^ k:=by
  have:=Nat.shiftLeft_add_eq_or_of_lt hx y
  rw [Nat.shiftLeft_eq] at this
  rw [Nat.or_comm,←this];omega
theorem Wr_u {k:IntKind} {x:Nat} {K:Int→Prop} (hs:k.signed=false) (hx:x < 2 ^ k.bits) (hk:K x):Wr k (x:Int) K:=by
  have:k.wrap (x:Int)=x:=by
    unfold IntKind.wrap;rw [hs]
    have e:((2 ^ k.bits:Nat):Int)=(2:Int) ^ k.bits:=by norm_cast
    have e2:(x:Int) % (2:Int) ^ k.bits=x:=by rw [←e];exact Int.emod_eq_of_lt (by omega) (by exact_mod_cast hx)
    simp [e2]
  unfold Wr;rw [this];exact hk
theorem bv_get (l:List UInt8) (i:Nat):(bv l)[i]? = (l[i]?).map fun b=>Value.int .u8 b.toNat:=by simp [bv]
/-- a part of a slice -/
theorem Sv_slc {h:Hp} {s:Sl} {vs:List Value} {lo hi mx:Option Int} {K:Sl→Prop} (v:Sv h s vs) {a b m:Nat} (ha:lo.getD 0=(a:Int)) (hb:hi.getD s.n=(b:Int)) (hm:mx.getD s.c=(m:Int)) (h1:a≤b) (h2:b≤vs.length) (h3:b≤m) (h4:m≤s.c)
    (hk:∀t:Sl,t.n=b - a→t.c=m - a→(∀x,t.a=some x→∃y,s.a=some y∧x.block=y.block)→Sv h t ((vs.drop a).take (b - a))→K t):Slc s 1 lo hi mx K:=by
  obtain ⟨v1,v2,v3⟩:=v
  refine ⟨by omega,by omega,by omega,by omega,hk _ (by simp only [ha,hb,Int.toNat_natCast]) (by simp only [ha,hm,Int.toNat_natCast]) ?_ ⟨?_,?_,?_⟩⟩
  · intro x hx
    simp only [slAt] at hx
    split at hx
    · exact ⟨x,hx,rfl⟩
    · cases hsa:s.a with
      | none=>rw [hsa] at hx;cases hx
      | some y=>rw [hsa] at hx;cases hx;exact ⟨y,rfl,add_block _ _⟩
  · simp only [ha,hb,Int.toNat_natCast,List.length_take,List.length_drop];omega
  · simp only [ha,hb,hm,Int.toNat_natCast];omega
  · intro x hx
    simp only [ha,hb,hm,Int.toNat_natCast] at hx ⊢
    obtain ⟨y,hy,c⟩:=v3 (s.n - 1) (by omega)
    refine ⟨y.add (a*1),by rw [slAt,if_neg (by omega),hy];rfl,fun i w hw => ?_⟩
    rw [Nat.mul_one,add_add']
    have hi:i < b - a:=by have:=(List.getElem?_eq_some_iff.1 hw).1;simp at this;omega
    rw [List.getElem?_take_of_lt hi,List.getElem?_drop] at hw
    exact c _ _ hw
theorem bv_cut (l:List UInt8) (a n:Nat):((bv l).drop a).take n=bv ((l.drop a).take n):=by simp [bv]
/-- the byte at i -/
theorem Sv_byte {h:Hp} {s:Sl} {l:List UInt8} (v:Sv h s (bv l)) {x:Int} {i:Nat} {b:UInt8} (hx:x=i) (hb:l[i]? = some b) {K:Int→Prop} (hk:K b.toNat):Ix s.a s.n 1 x fun a=>Ld h a (.int .u8) fun t=>K t:=by
  have hi:=(List.getElem?_eq_some_iff.1 hb).1
  have hn:=v.1
  rw [bv_len] at hn
  subst hx
  exact v.ix (by omega) (by omega) (v:=.int .u8 b.toNat) (by rw [Int.toNat_natCast,bv_get,hb];rfl) fun a ha=>⟨_,ha,hk⟩
theorem need_c {n:Nat} {h:Hp} {K:Int→HP} {Kp:PK} (hn:n≤2 ^ 40) (hk:K ((n+7) / 8:Nat) h):Fn178 (n:Int) h K Kp:=by
  refine Fn178.of (If_i (fun c => ?_) fun c => ?_)
  · simp only [sm,reduceCtorEq] at c
    have:(n+7) / 8=0:=by omega
    rw [this] at hk;exact hk
  · simp only [sm,reduceCtorEq] at c
    have e:Int.tdiv ((n:Int) - 1) 8=(((n - 1) / 8:Nat):Int):=by
      have:(n:Int) - 1=((n - 1:Nat):Int):=by omega
      rw [this];rfl
    refine Wr_i64 (by omega) (by omega) (Dv_i (by decide) (Wr_i64 (by rw [e];omega) (by rw [e];omega) (Wr_i64 (by rw [e];omega) (by rw [e];omega) ?_)))
    rw [e]
    have:(((n - 1) / 8:Nat):Int)+1=((n+7) / 8:Nat):=by omega
    rw [this];exact hk
theorem bit_c {s:Sl} {l:List UInt8} {r:Nat} {h:Hp} {K:Bool→HP} {Kp:PK} (v:Sv h s (bv l)) (hr:r / 8 < l.length) (hl:r≤2 ^ 40) (hk:K (bitL l r) h):Fn161 s (r:Int) h K Kp:=by
  have e1:Int.tdiv (r:Int) 8=((r / 8:Nat):Int):=rfl
  have e2:Int.tmod (r:Int) 8=((r % 8:Nat):Int):=rfl
  refine Fn161.of (Dv_i (by decide) (Wr_i64 (by rw [e1];omega) (by rw [e1];omega) ?_))
  have hb:l[r / 8]? = some l[r / 8]:=List.getElem?_eq_getElem hr
  have hg:l.getD (r / 8) 0=l[r / 8]:=by simp [hr]
  unfold bitL at hk
  rw [hg] at hk
  generalize l[r / 8]=b at hb hk
  refine Sv_byte v e1 hb ?_
  refine Dv_i (by decide) ?_
  rw [e2]
  refine Nn_i (by omega) ?_
  have e3:Int.fdiv (b.toNat:Int) (2 ^ (min (Int.toNat ((r % 8:Nat):Int)) (IntKind.bits .u8)))=((b.toNat / 2 ^ (r % 8):Nat):Int):=by
    have:min (Int.toNat ((r % 8:Nat):Int)) (IntKind.bits .u8)=r % 8:=by
      have:IntKind.bits .u8=8:=rfl
      rw [this,Int.toNat_natCast];omega
    rw [this,Int.fdiv_eq_ediv_of_nonneg _ (Int.le_of_lt (Int.pow_pos (by decide)))]
    norm_cast
  unfold Lt
  rw [e3]
  show K (bitsV .and .u8 ((b.toNat / 2 ^ (r % 8):Nat):Int) 1 == 1) h
  rw [and1]
  have:((((b.toNat / 2 ^ (r % 8)) % 2:Nat):Int) == 1)=(b.toNat / 2 ^ (r % 8) % 2 == 1):=by
    rw [Bool.eq_iff_iff];simp only [beq_iff_eq];omega
  rw [this];exact hk
theorem bget_c {s:Sl} {l:List UInt8} {r:Nat} {h:Hp} {K:Bool→Int→HP} {Kp:PK} (v:Sv h s (bv l)) (hl:r≤2 ^ 40) (hk:∀e,K (bitL l r) e h):Fn134 s (r:Int) h K Kp:=by
  have hn:=v.1
  rw [bv_len] at hn
  have e1:Int.tdiv (r:Int) 8=((r / 8:Nat):Int):=rfl
  refine Fn134.of (If_f (by simp) (Dv_i (by decide) (Wr_i64 (by rw [e1];omega) (by rw [e1];omega) (If_i (fun c => ?_) fun c => ?_))))
  · simp only [sm,reduceCtorEq] at c
    rw [e1] at c
    have:bitL l r=false:=by
      unfold bitL
      have:l.getD (r / 8) 0=0:=by rw [List.getD_eq_getElem?_getD,List.getElem?_eq_none (by omega)];rfl
      rw [this];simp
    have q:=hk 2;rw [this] at q;exact q
  · simp only [sm,reduceCtorEq] at c
    rw [e1] at c
    exact bit_c v (by omega) hl (hk 0)
theorem i32_wrap (x:Nat) (hx:x < 2 ^ 32):IntKind.i32.wrap (x:Int)=sg 4 x:=by
  unfold sg
  simp only [IntKind.wrap,IntKind.signed,IntKind.bits]
  simp
  split <;> omega
theorem Wr_sg {x:Nat} {K:Int→Prop} (hx:x < 2 ^ 32) (hk:K (sg 4 x)):Wr .i32 (x:Int) K:=by unfold Wr;rw [i32_wrap x hx];exact hk
theorem signed_c {s:Sl} {l:List UInt8} {x:Int} {i:Nat} {h:Hp} {K:Int→HP} {Kp:PK} (v:Sv h s (bv l)) (hx:x=i) (hi:4*i+4≤l.length) (hl:l.length≤2 ^ 40) (hk:K (i32 l i) h):Fn158 s x h K Kp:=by
  subst hx
  have hn:=v.1
  rw [bv_len] at hn
  have hlen:4≤(l.drop (4*i)).length:=by simp;omega
  unfold i32 nAt at hk
  have hdl:(l.drop (4*i)).length=l.length - 4*i:=by simp
  refine Fn158.of (Wr_i64 (by omega) (by omega) (Sv_slc v (a:=4*i) (b:=l.length) (m:=s.c) (by simp) (by simp [hn]) (by simp) (by omega) (by rw [bv_len];exact Nat.le_refl _) (by have:=v.2.1;omega) (Nat.le_refl _) fun t ht _ _ vt => ?_))
  rw [bv_cut,List.take_of_length_le (by rw [hdl];exact Nat.le_refl _)] at vt
  generalize l.drop (4*i)=L at hk hlen vt hdl
  obtain ⟨b0,L,rfl⟩:∃b M,L=b::M:=by cases L;simp at hlen;exact ⟨_,_,rfl⟩
  obtain ⟨b1,L,rfl⟩:∃b M,L=b::M:=by cases L;simp at hlen;exact ⟨_,_,rfl⟩
  obtain ⟨b2,L,rfl⟩:∃b M,L=b::M:=by cases L;simp at hlen;exact ⟨_,_,rfl⟩
  obtain ⟨b3,L,rfl⟩:∃b M,L=b::M:=by cases L;simp at hlen;exact ⟨_,_,rfl⟩
  have h0:=b0.toNat_lt
  have h1:=b1.toNat_lt
  have h2:=b2.toNat_lt
  have h3:=b3.toNat_lt
  have sh:∀(b:Nat) (k:Nat),min (Int.toNat (k:Int)) (IntKind.bits .u32)=k→(b:Int)*2 ^ (min (Int.toNat (k:Int)) (IntKind.bits .u32))=((b*2 ^ k:Nat):Int):=by
    intro b k e;rw [e];norm_cast
  have lt:IntKind.bits .u32=32:=rfl
  refine Sv_byte vt (i:=0) rfl rfl (Wr_u rfl (by rw [lt];omega) (Sv_byte vt (i:=1) rfl rfl (Wr_u rfl (by rw [lt];omega) (Nn_i (by decide) ?_))))
  rw [show ((8:Int))=((8:Nat):Int) from rfl,sh b1.toNat 8 rfl]
  refine Wr_u rfl (by rw [lt];omega) ?_
  unfold Lt
  rw [or32 _ _ (by omega) (by omega),or_sh (by omega)]
  refine Sv_byte vt (i:=2) rfl rfl (Wr_u rfl (by rw [lt];omega) (Nn_i (by decide) ?_))
  rw [show ((16:Int))=((16:Nat):Int) from rfl,sh b2.toNat 16 rfl]
  refine Wr_u rfl (by rw [lt];omega) ?_
  rw [or32 _ _ (by omega) (by omega),or_sh (by omega)]
  refine Sv_byte vt (i:=3) rfl rfl (Wr_u rfl (by rw [lt];omega) (Nn_i (by decide) ?_))
  rw [show ((24:Int))=((24:Nat):Int) from rfl,sh b3.toNat 24 rfl]
  refine Wr_u rfl (by rw [lt];omega) ?_
  rw [or32 _ _ (by omega) (by omega),or_sh (by omega)]
  refine Wr_sg (by omega) ?_
  have e:leN (List.take 4 (b0::b1::b2::b3::L))=b0.toNat+b1.toNat*2 ^ 8+b2.toNat*2 ^ 16+b3.toNat*2 ^ 24:=by
    simp only [List.take_succ_cons,List.take_zero,leN];omega
  rw [e] at hk
  have bd : -9223372036854775808≤sg 4 (b0.toNat+b1.toNat*2 ^ 8+b2.toNat*2 ^ 16+b3.toNat*2 ^ 24)∧sg 4 (b0.toNat+b1.toNat*2 ^ 8+b2.toNat*2 ^ 16+b3.toNat*2 ^ 24)≤9223372036854775807:=by unfold sg;split <;> omega
  exact Wr_i64 bd.1 bd.2 hk
end Go.Proofs.YtlbbdbdjiekkaaaGreatDoor
set_option maxRecDepth 100000
set_option maxHeartbeats 200000
/- Nulls, needs, parts. -/
namespace Go.Proofs.YtlbbdbdjiekkaaaGreatDoor
open Go Go.Sh Go.WideShapes
def hasV (k:Int):Bool:=k != 1 && k != 18 && k != 20
theorem hasv_c {k:Int} {h:Hp} {K:Bool→HP} {Kp:PK} (hk:K (hasV k) h):Fn114 k h K Kp:=by
  unfold hasV at hk
  refine Fn114.of (If_i (fun c=>J114_1.of ?_) fun c=>J114_1.of (If_f rfl ?_))
  · rw [c,Bool.true_and] at hk
    refine If_i (fun c2 => ?_) fun c2 => ?_
    · rw [c2,Bool.true_and] at hk;exact hk
    · rw [c2,Bool.false_and] at hk;exact hk
  · rw [c,Bool.false_and,Bool.false_and] at hk;exact hk
def bufD (bufs:List (List UInt8)) (j:Nat):List UInt8:=bufs.getD j []
theorem bufD_get {bufs:List (List UInt8)} {j:Nat} (h:j < bufs.length):bufs[j]? = some (bufD bufs j):=by simp [bufD,h]
/-- is a row null by the validity? -/
def nullB (k:Int) (bufs:List (List UInt8)) (r:Nat):Bool:=k == 1 || (hasV k && ((bufD bufs 0).length != 0 && !bitL (bufD bufs 0) r))
/-- a buffer is reached -/
theorem BfsA.ix {D E:Nat→Prop} {h:Hp} {s:Sl} {bufs:List (List UInt8)} (v:BfsA D E h s bufs) {x:Int} {j:Nat} (hx:x=(j:Int)) (hj:j < bufs.length) {K:Addr→Prop} (hk:∀a t,cell h a=some (Sl.v t)→SvA E h t (bv (bufD bufs j))→K a):Ix s.a s.n 1 x K:=by
  obtain ⟨ss,hl,hs,hb⟩:=v
  have hn:=hs.1.1
  rw [List.length_map] at hn
  have hj2:ss[j]? = some ss[j]:=List.getElem?_eq_getElem (by omega)
  subst hx
  exact hs.1.ix (by omega) (by omega) (v:=Sl.v ss[j]) (by rw [Int.toNat_natCast,List.getElem?_map,hj2];rfl) fun a ha=>hk a _ ha (hb j _ _ hj2 (bufD_get hj))
theorem BfsA.n {D E:Nat→Prop} {h:Hp} {s:Sl} {bufs:List (List UInt8)} (v:BfsA D E h s bufs):s.n=bufs.length∧s.n≤s.c:=by
  obtain ⟨ss,hl,hs,_⟩:=v
  have:=hs.1.1
  rw [List.length_map] at this
  exact ⟨by omega,hs.1.2.1⟩
theorem null_c {nm:ByteArray} {nul:Bool} {k w id ix n o u:Int} {s b c x:Sl} {bufs:List (List UInt8)} {r:Nat} {D E:Nat→Prop} {h:Hp} {K:Bool→HP} {Kp:PK} (v:BfsA D E h b bufs) (h1:hasV k=true→1≤bufs.length) (hr:r≤2 ^ 40)
    (hk:∀h',Grw h h'→K (nullB k bufs r) h'):Fn105 nm nul k w id ix s n o u b c x (r:Int) h K Kp:=by
  refine Fn105.of (New_i fun b3 h1' e1 g1 k1 _=>New_i fun b4 h2 e2 g2 k2 _ => ?_)
  simp only [add_blk]
  have G:=Grw.trans g1 g2
  have hk:=hk h2 G
  unfold nullB at hk
  refine Ld_blk (k1.grw g2) rfl (If_i (fun c1 => ?_) fun c1=>Ld_blk (k1.grw g2) rfl (hasv_c ?_))
  · rw [c1,Bool.true_or] at hk;exact hk
  rw [c1,Bool.false_or] at hk
  refine If_i (fun c2 => ?_) fun c2 => ?_
  · rw [Bool.not_eq_true'] at c2;rw [c2,Bool.false_and] at hk;exact hk
  rw [Bool.not_eq_false'] at c2
  rw [c2,Bool.true_and] at hk
  refine Ld_blk k2 rfl ((v.gr G).ix rfl (h1 c2) fun a t ca vt=>⟨_,ca,?_⟩)
  have tn:=vt.1.1
  rw [bv_len] at tn
  refine If_i (fun c3 => ?_) fun c3=>J105_1.of (Ld_blk k2 rfl ((v.gr G).ix rfl (h1 c2) fun a t ca vt=>⟨_,ca,bget_c vt.1 hr fun e => ?_⟩))
  · simp only [sm,reduceCtorEq] at c3
    have:(bufD bufs 0).length=0:=by omega
    rw [this] at hk;exact hk
  · simp only [sm,reduceCtorEq] at c3
    have:((bufD bufs 0).length != 0)=true:=by rw [bne_iff_ne];omega
    rw [this,Bool.true_and] at hk;exact hk
/-- how many of rows are null -/
def cntN (k:Int) (bufs:List (List UInt8)) (o n:Nat):Nat:=(List.range n).countP fun i=>nullB k bufs (o+i)
theorem cntN_le (k:Int) (bufs:List (List UInt8)) (o n:Nat):cntN k bufs o n≤n:=by
  have:=List.countP_le_length (p:=fun i=>nullB k bufs (o+i)) (l:=List.range n);simpa [cntN] using this
theorem cntN_succ (k:Int) (bufs:List (List UInt8)) (o n:Nat):cntN k bufs o (n+1)=cntN k bufs o n+if nullB k bufs (o+n) then 1 else 0:=by
  simp [cntN,List.range_succ,List.countP_append,List.countP_cons]
theorem count_c {nm:ByteArray} {nul:Bool} {k w id ix n o u:Int} {s b c x:Sl} {bufs:List (List UInt8)} {N O:Nat} {D E:Nat→Prop} {h:Hp} {K:Int→HP} {Kp:PK} (v:BfsA D E h b bufs) (h1:hasV k=true→1≤bufs.length) (hn:n=N) (ho:o=O)
    (hN:N≤2 ^ 30) (hO:O≤2 ^ 30) (hk:∀h',Grw h h'→K (cntN k bufs O N) h'):Fn57 nm nul k w id ix s n o u b c x h K Kp:=by
  subst hn ho
  refine Fn57.of (New_i fun b3 h1' e1 g1 k1 _=>New_i fun b4 h2 e2 g2 k2 _=>Ld_blk k2 rfl ?_)
  have G:=Grw.trans g1 g2
  have k1:=k1.grw g2
  refine L57_1.rule (fun y z h'=>∃i:Nat,z=i∧i≤N∧y=cntN k bufs O i∧Grw h2 h') (fun _ z _=>N - z.toNat) ⟨0,rfl,by omega,rfl,Grw.refl _⟩ ?_
  rintro y z h3 ⟨i,rfl,hi,rfl,g3⟩ N1 hN1
  have hc:=cntN_le k bufs O i
  refine If_i (fun c1 => ?_) fun c1 => ?_
  · simp only [sm,reduceCtorEq] at c1
    simp only [add_blk]
    refine LY29.b (k1.grw g3) (LY33.b (k2.grw g3) (Ld_blk (k2.grw g3) rfl (Wr_i64 (by omega) (by omega) ?_)))
    rw [show (O:Int)+i=((O+i:Nat):Int) by omega]
    refine null_c (v.gr (Grw.trans G g3)) h1 (by omega) fun h4 g4 => ?_
    have cs:=cntN_succ k bufs O i
    refine If_i (fun c2 => ?_) fun c2 => ?_
    · rw [if_pos c2] at cs
      exact Wr_i64 (by omega) (by omega) (Wr_i64 (by omega) (by omega) (hN1 _ _ _ ⟨i+1,by simp,by omega,by omega,Grw.trans g3 g4⟩ (by omega)))
    · rw [if_neg (by simp [c2])] at cs
      exact Wr_i64 (by omega) (by omega) (hN1 _ _ _ ⟨i+1,by simp,by omega,by omega,Grw.trans g3 g4⟩ (by omega))
  · simp only [sm,reduceCtorEq] at c1
    have:i=N:=by omega
    subst this
    exact hk _ (Grw.trans G g3)
theorem fault_c {e n:Int} {h:Hp} {K:Int→Sl→Int→HP} {Kp:PK} (hk:∀h',Grw h h'→K e Sl.nil n h'):Fn99 e n h K Kp :=
  Fn99.of (New_i fun b h1 e1 g1 k1 _=>SY37.b k1 rfl fun h2 o2 k2=>LY37.b k2 (hk _ (Only.grw g1 o2 (by omega))))
/-- a fault is put into a result's cell, and that is the result -/
theorem fault_to {e n:Int} {h0 h:Hp} {b:Nat} {el:TypeId} {cs:Array Value} {K:Int→Sl→Int→HP} {Kp:PK} (g:Grw h0 h) (k:Blk h b cs el) (hs:cs.size=3) (hb:h0.size≤b) (hk:∀h',Grw h0 h'→K e Sl.nil n h') :
    Fn99 e n h (fun t0 t1 t2 h1=>SY37 h1 ⟨b,0,none⟩ t0 t1 t2 fun h2=>LY37 h2 ⟨b,0,none⟩ fun r0 r1 r2=>K r0 r1 r2 h2) Kp :=
  fault_c fun h1 g1=>SY37.b (k.grw g1) hs fun h2 o2 k2=>LY37.b k2 (hk _ (Only.grw (Grw.trans g g1) o2 hb))
theorem okay_to {h0 h:Hp} {b:Nat} {el:TypeId} {cs:Array Value} {K:Int→Sl→Int→HP} (g:Grw h0 h) (k:Blk h b cs el) (hs:cs.size=3) (hb:h0.size≤b) (hk:∀h',Grw h0 h'→K 0 Sl.nil 0 h') :
    SY37 h ⟨b,0,none⟩ 0 (⟨none,0,0⟩:Sl) 0 fun h2=>LY37 h2 ⟨b,0,none⟩ fun r0 r1 r2=>K r0 r1 r2 h2 :=
  SY37.b k hs fun h2 o2 k2=>LY37.b k2 (hk _ (Only.grw g o2 hb))
/-- the nulls are as told, and may be -/
def NulOk (nul:Bool) (k:Int) (d:Dat):Prop:=d.nul=cntN k d.bufs d.off.toNat d.len.toNat∧(0 < cntN k d.bufs d.off.toNat d.len.toNat→nul=true)
theorem nulls_k {nm:ByteArray} {nul:Bool} {k w id ix:Int} {s b c x:Sl} {d:Dat} {D E:Nat→Prop} {h:Hp} {K:Int→Sl→Int→HP} {Kp:PK} (v:BfsA D E h b d.bufs) (h1:hasV k=true→1≤d.bufs.length)
    (h2:0≤d.len∧d.len≤4096) (h3:0≤d.off∧d.off≤4096) (hk:∀e t n h',Grw h h'→t=Sl.nil→(e=0↔NulOk nul k d)→K e t n h'):Fn156 nm nul k w id ix s d.len d.off d.nul b c x h K Kp:=by
  refine Fn156.of (New_i fun b2 h1' e1 g1 k2 _=>New_i fun b3 h2' e2 g2 k3 _=>New_i fun b4 h3' e3 g3 k4 _ => ?_)
  have G:=Grw.trans g1 (Grw.trans g2 g3)
  have k2:=(k2.grw g2).grw g3
  have k3:=k3.grw g3
  have hb4:h.size≤b4:=by have:=g1.1;have:=g2.1;omega
  refine LY29.b k2 (LY33.b k3 (count_c (v.gr G) h1 (N:=d.len.toNat) (O:=d.off.toNat) (by omega) (by omega) (by omega) (by omega) fun h4 g4 => ?_))
  have G4:=Grw.trans G g4
  simp only [add_blk]
  have bad:¬NulOk nul k d→Fn99 81 1 h4 (fun t22_0 t22_1 t22_2 h5=>SY37 h5 ⟨b4,0,none⟩ t22_0 t22_1 t22_2 fun h6=>LY37 h6 ⟨b4,0,none⟩ fun r0_0 r0_1 r0_2=>K r0_0 r0_1 r0_2 h6) Kp:=fun q =>
    fault_to G4 (k4.grw g4) rfl hb4 fun h' g'=>hk _ _ _ h' g' rfl ⟨fun y=>absurd y (by decide),fun y=>(q y).elim⟩
  have good:NulOk nul k d→SY37 h4 ⟨b4,0,none⟩ 0 (⟨none,0,0⟩:Sl) 0 fun h5=>LY37 h5 ⟨b4,0,none⟩ fun r0_0 r0_1 r0_2=>K r0_0 r0_1 r0_2 h5:=fun q =>
    okay_to G4 (k4.grw g4) rfl hb4 fun h' g'=>hk _ _ _ h' g' rfl ⟨fun _=>q,fun _=>rfl⟩
  refine Ld_blk (k3.grw g4) rfl (If_i (fun c1=>bad fun q => ?_) fun c1=>If_i (fun c2=>Ld_blk (k2.grw g4) rfl (If_i (fun c3=>bad fun q => ?_) fun c3=>good ?_)) fun c2=>good ?_)
  · simp only [sm,reduceCtorEq] at c1;exact c1 q.1
  · simp only [sm,reduceCtorEq] at c2 c3;have:=q.2 (by omega);rw [c3] at this;cases this
  · simp only [sm,reduceCtorEq] at c1 c3;exact ⟨c1,fun _=>c3⟩
  · simp only [sm,reduceCtorEq] at c1 c2;exact ⟨c1,fun q=>absurd q (by omega)⟩
/-- how many bytes a buffer must have -/
def needB (k w ix:Int) (j e hv:Nat):Nat :=
  if k=18 then e*(1+3*j) else if (j=0∧hv=0)∨j=2 then 0 else if j=0∨k=2 then (e+7) / 8 else if k=12∨k=13∨k=15 then 4*(e+1) else e*(wdK k w ix).toNat
theorem wdK_le {k w id ix:Int} {cs:List Fld} (h:TyOk k w id ix cs):0≤wdK k w ix∧wdK k w ix≤16:=by
  have:=h.kinds.1
  unfold Shaped at this
  have wk:∀y:Int,0≤widK y∧widK y≤8:=by intro y;unfold widK;repeat' split <;> omega
  unfold wdK
  split
  · omega
  · split
    · have:=wk ix;omega
    · have:=wk k;omega
theorem needs_c {k w id ix x y:Int} {s:Sl} {cs:List Fld} {j e hv:Nat} {h:Hp} {K:Int→HP} {Kp:PK} (ht:Tab h) (hsm:smls cs) (hs:FsH h s cs) (hok:TyOk k w id ix cs) (hj:j≤3) (he:e≤2 ^ 30) (hx:x=e) (hy:y=hv)
    (hk:∀h',Grw h h'→K (needB k w ix j e hv) h'):Fn155 k w id ix s (j:Int) x y h K Kp:=by
  subst hx hy
  refine Fn155.of (New_i fun b4 h1 e4 g1 k4 _=>Ld_blk k4 rfl (If_i (fun c => ?_) fun c => ?_))
  · simp only [sm,reduceCtorEq] at c
    have hk:=hk h1 g1
    rw [needB,if_pos c] at hk
    refine Wr_i64 (by omega) (by omega) (Wr_i64 (by omega) (by omega) ?_)
    have e1:(e:Int)*(1+3*(j:Int))=((e*(1+3*j):Nat):Int):=by simp
    have e2:e*(1+3*j)≤2 ^ 30*10:=Nat.mul_le_mul he (by omega)
    rw [e1]
    exact Wr_i64 (by omega) (by omega) hk
  simp only [sm,reduceCtorEq] at c
  have c18:=c
  -- what comes behind
  have j3:¬((j=0∧hv=0)∨j=2)→¬(j=0∨k=2)→∀b:Bool,(b=true→k=12∨k=13)→(b=false→k≠12∧k≠13)→J155_3 K Kp (e:Int) ⟨b4,0,none⟩ b h1:=by
    intro n1 n2 b hb1 hb2
    have fin:(k=12∨k=13∨k=15)→Wr .i64 ((e:Int)+1) fun t52=>Wr .i64 ((4:Int)*t52) fun t53=>K t53 h1:=by
      intro q
      have hk:=hk h1 g1
      rw [needB,if_neg c18,if_neg n1,if_neg n2,if_pos q] at hk
      refine Wr_i64 (by omega) (by omega) (Wr_i64 (by omega) (by omega) ?_)
      have e1:(4:Int)*((e:Int)+1)=((4*(e+1):Nat):Int):=by omega
      rw [e1];exact hk
    refine J155_3.of (If_i (fun c=>fin ?_) fun c=>Ld_blk k4 rfl (If_i (fun c2=>fin ?_) fun c2=>LY27.b k4 (width_c (ht.grw g1) hsm (hs.gr g1) hok fun h2 g2 => ?_)))
    · have:=hb1 c;omega
    · simp only [sm,reduceCtorEq] at c2;omega
    · simp only [sm,reduceCtorEq] at c2
      have:=hb2 c
      have hk:=hk h2 (Grw.trans g1 g2)
      rw [needB,if_neg c18,if_neg n1,if_neg n2,if_neg (by omega)] at hk
      have hw:=wdK_le hok
      have e1:(e:Int)*wdK k w ix=((e*(wdK k w ix).toNat:Nat):Int):=by
        rw [Int.natCast_mul,Int.toNat_of_nonneg hw.1]
      have e2:e*(wdK k w ix).toNat≤2 ^ 30*16:=Nat.mul_le_mul he (by omega)
      rw [e1]
      exact Wr_i64 (by omega) (by omega) hk
  have j2:¬((j=0∧hv=0)∨j=2)→∀b:Bool,(b=true↔(j=0∨k=2))→J155_2 K Kp (e:Int) ⟨b4,0,none⟩ b h1:=by
    intro n1 b hb
    refine J155_2.of (If_i (fun c=>need_c (by omega) ?_) fun c=>Ld_blk k4 rfl (If_i (fun c2=>j3 n1 ?_ true ?_ ?_) fun c2=>Ld_blk k4 rfl (j3 n1 ?_ _ ?_ ?_)))
    · have hk:=hk h1 g1
      rw [needB,if_neg c18,if_neg n1,if_pos (hb.1 c)] at hk;exact hk
    all_goals first
      | exact fun q=>by rw [hb.2 q] at c;cases c
      | (simp only [sm,reduceCtorEq] at c2;intro q;first | omega | (cases q) | (simp only [sm,reduceCtorEq] at q;omega))
  have j1:∀b:Bool,(b=true↔((j=0∧hv=0)∨j=2))→J155_1 K Kp (j:Int) (e:Int) ⟨b4,0,none⟩ b h1:=by
    intro b hb
    refine J155_1.of (If_i (fun c => ?_) fun c=>If_i (fun c2=>j2 ?_ true ?_) fun c2=>Ld_blk k4 rfl (j2 ?_ _ ?_))
    · have hk:=hk h1 g1
      rw [needB,if_neg c18,if_pos (hb.1 c)] at hk;exact hk
    all_goals first
      | exact fun q=>by rw [hb.2 q] at c;cases c
      | (simp only [sm,reduceCtorEq] at c2;simp only [true_iff,beq_iff_eq];omega)
  refine If_i (fun c=>If_i (fun c2=>j1 _ ?_) fun c2=>j1 _ ?_) fun c=>j1 _ ?_
  all_goals simp only [sm,reduceCtorEq] at *
  all_goals omega
/-- the parts -/
def partsD (d:Dat):List Dat:=if d.ds.length > 0 then d.ds else d.cs
def endsF:Fld:=.mk (bs [101,110,100,115]) false 5 0 0 0 []
def pfs (k:Int) (cs:List Fld):List Fld:=if k=20 then endsF::cs else cs
theorem parts_k {d:Dat} {p:Sl × Sl × Sl} {D E:Nat→Prop} {h:Hp} {K:Sl→HP} {Kp:PK} (v:DvA D E h p d) (hk:∀s h',Grw h h'→DsA D E h' s (partsD d)→K s h'):Fn111 d.len d.off d.nul p.1 p.2.1 p.2.2 h K Kp:=by
  have hn:=v.x.n
  refine Fn111.of (New_i fun b1 h1 e1 g1 k1 _ => ?_)
  simp only [add_blk]
  refine Ld_blk k1 rfl (If_i (fun c=>Ld_blk k1 rfl (hk _ _ g1 ?_)) fun c=>Ld_blk k1 rfl (hk _ _ g1 ?_))
  · simp only [sm,reduceCtorEq] at c;rw [partsD,if_pos (by omega)];exact v.x.gr g1
  · simp only [sm,reduceCtorEq] at c;rw [partsD,if_neg (by omega)];exact v.c.gr g1
abbrev KF:=ByteArray→Bool→Int→Int→Int→Int→Sl→HP
theorem partf_c {nm:ByteArray} {nul:Bool} {k w id ix:Int} {s:Sl} {cs:List Fld} {j:Nat} {f:Fld} {h:Hp} {K:KF} {Kp:PK} (hs:FsH h s cs) (hf:(pfs k cs)[j]? = some f) (h20:k=20→cs.length=1)
    (hk:∀t h',Grw h h'→FsH h' t f.cs→K f.name f.nul f.k f.w f.id f.ix t h'):Fn110 nm nul k w id ix s (j:Int) h K Kp:=by
  refine Fn110.of (New_i fun b2 h1 e2 g1 k2 _=>New_i fun b4 h2 e4 g2 k4 _ => ?_)
  have G:=Grw.trans g1 g2
  have k2:=k2.grw g2
  have hb4:h.size≤b4:=by have:=g1.1;omega
  simp only [add_blk]
  have out:∀{a:Addr} {g:Fld} {u:Sl},Cs h a (g.row u)→FsH h u g.cs→g=f→LY29 h2 a fun t0 t1 t2 t3 t4 t5 t6=>SY29 h2 ⟨b4,0,none⟩ t0 t1 t2 t3 t4 t5 t6 fun h3=>LY29 h3 ⟨b4,0,none⟩ fun r0 r1 r2 r3 r4 r5 r6=>K r0 r1 r2 r3 r4 r5 r6 h3:=by
    rintro a g u c hu rfl
    refine LY29.c (c.grw G) (SY29.b k4 rfl fun h3 o3 k4=>LY29.b k4 (hk _ _ (Only.grw G o3 hb4) (hu.gr (Only.grw G o3 hb4))))
  have j1:∀i,cs[i]? = some f→(if k=20 then i=0 else i=j)→J110_1 K Kp (j:Int) ⟨b2,0,none⟩ ⟨b4,0,none⟩ h2:=by
    intro i hi hij
    refine J110_1.of ?_
    simp only [add_blk]
    have hat:∀{x:Int},x=i→Ix s.a s.n 7 x fun a=>LY29 h2 a fun t0 t1 t2 t3 t4 t5 t6=>SY29 h2 ⟨b4,0,none⟩ t0 t1 t2 t3 t4 t5 t6 fun h3=>LY29 h3 ⟨b4,0,none⟩ fun r0 r1 r2 r3 r4 r5 r6=>K r0 r1 r2 r3 r4 r5 r6 h3:=fun hx =>
      hs.ix hx hi fun a ha=>by obtain ⟨u,c,hu⟩:=ha.row;exact out c hu rfl
    refine Ld_blk k2 rfl (If_i (fun c=>Ld_blk k2 rfl (hat ?_)) fun c=>Ld_blk k2 rfl (hat ?_))
    · simp only [sm,reduceCtorEq] at c;rw [if_pos c] at hij;omega
    · simp only [sm,reduceCtorEq] at c;rw [if_neg c] at hij;omega
  unfold pfs at hf
  refine Ld_blk k2 rfl (If_i (fun c=>If_i (fun c2 => ?_) fun c2 => ?_) fun c => ?_)
  · simp only [sm,reduceCtorEq] at c c2
    obtain rfl:j=0:=by omega
    rw [if_pos c] at hf
    simp only [List.getElem?_cons_zero,Option.some.injEq] at hf
    subst hf
    refine SY29.b k4 rfl fun h3 o3 k4=>LY29.b k4 (hk _ _ (Only.grw G o3 hb4) ?_)
    show FsH _ _ []
    unfold FsH;exact ⟨rfl,Nat.le_refl _⟩
  · simp only [sm,reduceCtorEq] at c c2
    rw [if_pos c] at hf
    obtain ⟨i,rfl⟩:∃i,j=i+1:=⟨j - 1,by omega⟩
    rw [List.getElem?_cons_succ] at hf
    have:=(List.getElem?_eq_some_iff.1 hf).1
    have:=h20 c
    obtain rfl:i=0:=by omega
    exact j1 0 hf (by rw [if_pos c])
  · simp only [sm,reduceCtorEq] at c
    rw [if_neg c] at hf
    exact j1 j hf (by rw [if_neg c])
end Go.Proofs.YtlbbdbdjiekkaaaGreatDoor
set_option maxRecDepth 100000
set_option maxHeartbeats 200000
/- Sizes. -/
namespace Go.Proofs.YtlbbdbdjiekkaaaGreatDoor
open Go Go.Sh Go.WideShapes
/-- numbers and sizes of an array's data -/
structure SizOk (nul:Bool) (k w id ix:Int) (cs:List Fld) (d:Dat):Prop where
  ty:TyOk k w id ix cs
  nb:(d.bufs.length:Int)=bufK k
  nc:d.cs.length=chK k cs
  nd:d.ds.length=diK k
  l0:0≤d.len
  o0:0≤d.off
  u0:0≤d.nul
  ul:d.nul≤d.len
  l1:d.len≤4096
  o1:d.off≤4096
  e1:d.off+d.len≤4096
  big:∀j,j < d.bufs.length→(bufD d.bufs j).length≤65536
  need:∀j,j < d.bufs.length→needB k w ix j (d.off+d.len).toNat (bufD d.bufs j).length≤(bufD d.bufs j).length
  ch:∀(j:Nat) (c:Dat),d.cs[j]? = some c→(k=16→(d.off+d.len)*w≤c.len)∧(k=17→d.off+d.len≤c.len)
  nu:NulOk nul k d
/-- the first fields alone -/
structure SizO (k w id ix:Int) (cs:List Fld) (d:Dat):Prop where
  ty:TyOk k w id ix cs
  nb:(d.bufs.length:Int)=bufK k
  nc:d.cs.length=chK k cs
  nd:d.ds.length=diK k
  l0:0≤d.len
  o0:0≤d.off
  u0:0≤d.nul
  ul:d.nul≤d.len
  l1:d.len≤4096
  o1:d.off≤4096
  e1:d.off+d.len≤4096
/-- the cells of a walk through a check -/
structure Sz (h0 h:Hp) (b2 b3 b4:Nat) (nm:ByteArray) (nul:Bool) (k w id ix:Int) (s:Sl) (d:Dat) (p:Sl × Sl × Sl):Prop where
  g:Grw h0 h
  k2:Blk h b2 #[.string nm, .bool nul, .int .i64 k, .int .i64 w, .int .i64 id, .int .i64 ix,Sl.v s] Y29
  k3:B33 h b3 d p
  k4:Blk h b4 zY37 Y37
  hb:h0.size≤b4
theorem Sz.grw {h0 h h':Hp} {b2 b3 b4:Nat} {nm:ByteArray} {nul:Bool} {k w id ix:Int} {s:Sl} {d:Dat} {p:Sl × Sl × Sl} (z:Sz h0 h b2 b3 b4 nm nul k w id ix s d p) (g:Grw h h'):Sz h0 h' b2 b3 b4 nm nul k w id ix s d p :=
  ⟨Grw.trans z.g g,z.k2.grw g,z.k3.grw g,z.k4.grw g,z.hb⟩
theorem ty_cells {h:Hp} {b:Nat} {nm:ByteArray} {nul:Bool} {k w id ix:Int} {s:Sl} {el:TypeId} (z:Blk h b #[.string nm, .bool nul, .int .i64 k, .int .i64 w, .int .i64 id, .int .i64 ix,Sl.v s] el):Cs h ⟨b,2,none⟩ [.int .i64 k, .int .i64 w, .int .i64 id, .int .i64 ix,Sl.v s]:=by
  intro i v hv
  rw [add_blk,cell_blk z]
  rcases i with _ | _ | _ | _ | _ | i
  all_goals first | exact hv | (simp at hv)
theorem chK_le (k:Int) (cs:List Fld):chK k cs≤cs.length+1:=by
  unfold chK;split
  · omega
  · split <;> omega
theorem bufK_le (k:Int):0≤bufK k∧bufK k≤3:=by unfold bufK;repeat' split <;> omega
section
variable {h0 h:Hp} {b2 b3 b4:Nat} {nm:ByteArray} {nul:Bool} {k w id ix:Int} {s:Sl} {cs:List Fld} {d:Dat} {p:Sl × Sl × Sl} {K:Int→Sl→Int→HP} {Kp:PK}
theorem Sz.bad {e n:Int} (z:Sz h0 h b2 b3 b4 nm nul k w id ix s d p) {P:Prop} (he:e≠0) (hP:¬P) (hk:∀e t n h',Grw h0 h'→t=Sl.nil→(e=0↔P)→K e t n h') :
    Fn99 e n h (fun t0 t1 t2 h1=>SY37 h1 ⟨b4,0,none⟩ t0 t1 t2 fun h2=>LY37 h2 ⟨b4,0,none⟩ fun r0 r1 r2=>K r0 r1 r2 h2) Kp :=
  fault_to z.g z.k4 rfl z.hb fun h' g'=>hk _ _ _ h' g' rfl ⟨fun y=>absurd y he,fun y=>(hP y).elim⟩
theorem sz3_c (z:Sz h0 h b2 b3 b4 nm nul k w id ix s d p) (v:DvH h0 p d) (o:SizO k w id ix cs d) (big:∀j,j < d.bufs.length→(bufD d.bufs j).length≤65536) (need:∀j,j < d.bufs.length→needB k w ix j (d.off+d.len).toNat (bufD d.bufs j).length≤(bufD d.bufs j).length)
    (hk:∀e t n h',Grw h0 h'→t=Sl.nil→(e=0↔SizOk nul k w id ix cs d)→K e t n h') (x5:Int) (h5:0≤x5∧x5≤5):J130_3 K Kp ⟨b2,0,none⟩ ⟨b3,0,none⟩ ⟨b4,0,none⟩ x5 (d.off+d.len) h:=by
  obtain ⟨ty,nb,nc,nd,l0,o0,u0,ul,l1,o1,e1⟩:=o
  have hq:=ty.kinds
  have vn:=v.c.n
  have hcl:d.cs.length≤33:=by have:=chK_le k cs;omega
  have hw:k=16→1≤w∧w≤64:=by have:=hq.1;unfold Shaped at this;omega
  refine J130_3.of ?_
  simp only [add_blk]
  refine Ld_blk z.k3 rfl ?_
  refine L130_4.rule (fun x h'=>∃i:Nat,x=i∧i≤d.cs.length∧Grw h h'∧∀(j:Nat) (c:Dat),j < i→d.cs[j]? = some c→(k=16→(d.off+d.len)*w≤c.len)∧(k=17→d.off+d.len≤c.len)) (fun x _=>d.cs.length - x.toNat)
    ⟨0,rfl,by omega,Grw.refl _,fun j c hj=>by omega⟩ ?_
  rintro x h1 ⟨i,rfl,hi,g1,hall⟩ N1 hN
  have z:=z.grw g1
  simp only [add_blk]
  refine If_i (fun c => ?_) fun c => ?_
  · simp only [sm,reduceCtorEq] at c
    have hi':i < d.cs.length:=by omega
    have hj:d.cs[i]? = some d.cs[i]:=List.getElem?_eq_getElem hi'
    generalize d.cs[i]=c' at hj
    refine v.c.ix rfl hj fun a q ca vq=>LY33.c (ca.grw z.g) (New_i fun b14 hx eb gx kx _=>SY33.b kx rfl fun h2 o2 k14 => ?_)
    have g2:Grw h1 h2:=Only.grw gx o2 (by omega)
    have z:=z.grw g2
    have step:(k=16→(d.off+d.len)*w≤c'.len)∧(k=17→d.off+d.len≤c'.len)→Wr .i64 ((i:Int)+1) fun t157=>N1 (mk130_4 ⟨b2,0,none⟩ ⟨b3,0,none⟩ ⟨b4,0,none⟩ x5 (d.off+d.len) p.2.1 (p.2.1.n:Int) t157) h2:=fun ok =>
      Wr_i64 (by omega) (by omega) (hN _ _ ⟨i+1,by simp,by omega,Grw.trans g1 g2,fun j c hjl hc=>by
        by_cases e:j=i
        · subst e;rw [hj] at hc;cases hc;exact ok
        · exact hall j c (by omega) hc⟩ (by omega))
    have bad:¬((k=16→(d.off+d.len)*w≤c'.len)∧(k=17→d.off+d.len≤c'.len))→Wr .i64 (x5+(i:Int)) fun t155=>Fn99 82 t155 h2 (fun t0 t1 t2 h1=>SY37 h1 ⟨b4,0,none⟩ t0 t1 t2 fun h2=>LY37 h2 ⟨b4,0,none⟩ fun r0 r1 r2=>K r0 r1 r2 h2) Kp:=fun no =>
      Wr_i64 (by omega) (by omega) (z.bad (by decide) (fun q=>no (q.ch i c' hj)) hk)
    have j5:∀b:Bool,(b=true↔k=16∧¬(d.off+d.len)*w≤c'.len)→J130_5 K Kp N1 ⟨b2,0,none⟩ ⟨b3,0,none⟩ ⟨b4,0,none⟩ x5 (d.off+d.len) (i:Int) ⟨b14,0,none⟩ p.2.1 (p.2.1.n:Int) (i:Int) b h2:=by
      intro b hb
      refine J130_5.of ?_
      simp only [add_blk]
      refine If_i (fun c1=>bad fun q=>(hb.1 c1).2 (q.1 (hb.1 c1).1)) fun c1=>Ld_blk z.k2 rfl (If_i (fun c2=>Ld_blk k14 rfl (If_i (fun c3=>bad fun q => ?_) fun c3=>step ?_)) fun c2=>step ?_)
      · simp only [sm,reduceCtorEq] at c2 c3;have:=q.2 c2;omega
      · simp only [sm,reduceCtorEq] at c2 c3;exact ⟨fun q=>by omega,fun _=>by omega⟩
      · simp only [sm,reduceCtorEq] at c2
        exact ⟨fun q=>Decidable.byContradiction fun q2=>(by rw [hb.2 ⟨q,q2⟩] at c1;cases c1),fun q=>absurd q c2⟩
    refine Ld_blk z.k2 rfl (If_i (fun c2=>Ld_blk k14 rfl (Ld_blk z.k2 rfl ?_)) fun c2=>j5 _ ?_)
    · simp only [sm,reduceCtorEq] at c2
      have e2:0≤(d.off+d.len)*w:=Int.mul_nonneg (by omega) (by omega)
      have e3:(d.off+d.len)*w≤4096*64:=Int.mul_le_mul (by omega) (by omega) (by omega) (by omega)
      refine Wr_i64 (by omega) (by omega) (j5 _ ?_)
      rw [decide_eq_true_eq];omega
    · simp only [sm,reduceCtorEq] at c2;simp [c2]
  · simp only [sm,reduceCtorEq] at c
    have hch:∀(j:Nat) (c:Dat),d.cs[j]? = some c→(k=16→(d.off+d.len)*w≤c.len)∧(k=17→d.off+d.len≤c.len):=fun j c hc=>hall j c (by have:=(List.getElem?_eq_some_iff.1 hc).1;omega) hc
    have hb1:hasV k=true→1≤d.bufs.length:=by
      intro q
      unfold hasV at q
      simp only [Bool.and_eq_true,bne_iff_ne,ne_eq] at q
      unfold bufK at nb
      repeat' split at nb
      all_goals omega
    refine LY29.b z.k2 (LY33.b z.k3 (nulls_k (v.b.gr z.g) hb1 ⟨l0,l1⟩ ⟨o0,o1⟩ fun e t n h2 g2 et he=>SY37.b (z.grw g2).k4 rfl fun h3 o3 k4=>LY37.b k4 (hk _ _ _ _ (Only.grw (z.grw g2).g o3 z.hb) et ?_)))
    exact he.trans ⟨fun q=>⟨ty,nb,nc,nd,l0,o0,u0,ul,l1,o1,e1,big,need,hch,q⟩,fun q=>q.nu⟩
theorem sz2_c (ht:Tab h0) (hsm:smls cs) (hs:FsH h0 s cs) (z:Sz h0 h b2 b3 b4 nm nul k w id ix s d p) (v:DvH h0 p d) (o:SizO k w id ix cs d) (big:∀j,j < d.bufs.length→(bufD d.bufs j).length≤65536)
    (hk:∀e t n h',Grw h0 h'→t=Sl.nil→(e=0↔SizOk nul k w id ix cs d)→K e t n h') (x5:Int) (h5:0≤x5∧x5≤5):J130_2 K Kp ⟨b2,0,none⟩ ⟨b3,0,none⟩ ⟨b4,0,none⟩ x5 (d.off+d.len) h:=by
  have vn:=v.b.n
  have bk:=bufK_le k
  have nb:=o.nb
  have o':=o
  obtain ⟨ty,_,nc,nd,l0,o0,u0,ul,l1,o1,e1⟩:=o
  refine J130_2.of ?_
  simp only [add_blk]
  refine Ld_blk z.k3 rfl ?_
  refine L130_6.rule (fun x h'=>∃i:Nat,x=i∧i≤d.bufs.length∧Grw h h'∧∀j,j < i→needB k w ix j (d.off+d.len).toNat (bufD d.bufs j).length≤(bufD d.bufs j).length) (fun x _=>d.bufs.length - x.toNat)
    ⟨0,rfl,by omega,Grw.refl _,fun j hj=>by omega⟩ ?_
  rintro x h1 ⟨i,rfl,hi,g1,hall⟩ N1 hN
  have z:=z.grw g1
  simp only [add_blk]
  refine If_i (fun c => ?_) fun c => ?_
  · simp only [sm,reduceCtorEq] at c
    refine v.b.ix rfl (j:=i) (by omega) fun a t ca vt=>⟨_,z.g.cell ca,LY27.c (ty_cells z.k2) ?_⟩
    have tn:=vt.1.1
    rw [bv_len] at tn
    refine needs_c (e:=(d.off+d.len).toNat) (hv:=(bufD d.bufs i).length) (ht.grw z.g) hsm (hs.gr z.g) ty (by omega) (by omega) (by omega) (by omega) fun h2 g2=>If_i (fun c2 => ?_) fun c2 => ?_
    · simp only [sm,reduceCtorEq] at c2
      exact (z.grw g2).bad (by decide) (fun q=>by have:=q.need i (by omega);omega) hk
    · simp only [sm,reduceCtorEq] at c2
      refine Wr_i64 (by omega) (by omega) (hN _ _ ⟨i+1,by simp,by omega,Grw.trans g1 g2,fun j hj => ?_⟩ (by omega))
      by_cases e:j=i
      · subst e;omega
      · exact hall j (by omega)
  · simp only [sm,reduceCtorEq] at c
    exact sz3_c z v o' big (fun j hj=>hall j (by omega)) hk x5 h5
theorem sz1_c (ht:Tab h0) (hsm:smls cs) (hs:FsH h0 s cs) (z:Sz h0 h b2 b3 b4 nm nul k w id ix s d p) (v:DvH h0 p d) (o:SizO k w id ix cs d)
    (hk:∀e t n h',Grw h0 h'→t=Sl.nil→(e=0↔SizOk nul k w id ix cs d)→K e t n h') (x5:Int) (h5:0≤x5∧x5≤5):J130_1 K Kp ⟨b2,0,none⟩ ⟨b3,0,none⟩ ⟨b4,0,none⟩ x5 (d.off+d.len) h:=by
  have vn:=v.b.n
  have bk:=bufK_le k
  have nb:=o.nb
  refine J130_1.of ?_
  simp only [add_blk]
  refine Ld_blk z.k3 rfl ?_
  refine L130_7.rule (fun x h'=>∃i:Nat,x=i∧i≤d.bufs.length∧h'=h∧∀j,j < i→(bufD d.bufs j).length≤65536) (fun x _=>d.bufs.length - x.toNat)
    ⟨0,rfl,by omega,rfl,fun j hj=>by omega⟩ ?_
  rintro x h1 ⟨i,rfl,hi,rfl,hall⟩ N1 hN
  refine If_i (fun c => ?_) fun c => ?_
  · simp only [sm,reduceCtorEq] at c
    refine v.b.ix rfl (j:=i) (by omega) fun a t ca vt=>⟨_,z.g.cell ca,?_⟩
    have tn:=vt.1.1
    rw [bv_len] at tn
    refine If_i (fun c2 => ?_) fun c2 => ?_
    · simp only [sm,reduceCtorEq] at c2
      exact z.bad (by decide) (fun q=>by have:=q.big i (by omega);omega) hk
    · simp only [sm,reduceCtorEq] at c2
      refine Wr_i64 (by omega) (by omega) (hN _ _ ⟨i+1,by simp,by omega,rfl,fun j hj => ?_⟩ (by omega))
      by_cases e:j=i
      · subst e;omega
      · exact hall j (by omega)
  · simp only [sm,reduceCtorEq] at c
    exact sz2_c ht hsm hs z v o (fun j hj=>hall j (by omega)) hk x5 h5
theorem sizes_c (ht:Tab h) (hl:cs.length≤M63) (hsm:smls cs) (hs:FsH h s cs) (v:DvH h p d) (hk:∀e t n h',Grw h h'→t=Sl.nil→(e=0↔SizOk nul k w id ix cs d)→K e t n h') :
    Fn130 nm nul k w id ix s d.len d.off d.nul p.1 p.2.1 p.2.2 h K Kp:=by
  have vb:=v.b.n
  have vc:=v.c.n
  have vx:=v.x.n
  refine Fn130.of (New_i fun b2 h1 e1 g1 k2 _=>New_i fun b3 h2 e2 g2 k3 _=>New_i fun b4 h3 e3 g3 k4 _ => ?_)
  have z:Sz h h3 b2 b3 b4 nm nul k w id ix s d p:=⟨Grw.trans g1 (Grw.trans g2 g3),(k2.grw g2).grw g3,k3.grw g3,k4,by have:=g1.1;have:=g2.1;omega⟩
  simp only [add_blk]
  have bad:∀{h':Hp} {e n:Int},Sz h h' b2 b3 b4 nm nul k w id ix s d p→e≠0→¬SizOk nul k w id ix cs d→Fn99 e n h' (fun t0 t1 t2 h1=>SY37 h1 ⟨b4,0,none⟩ t0 t1 t2 fun h2=>LY37 h2 ⟨b4,0,none⟩ fun r0 r1 r2=>K r0 r1 r2 h2) Kp:=fun z he q=>z.bad he q hk
  have j8:∀{h':Hp} {x5 x8:Int},Sz h h' b2 b3 b4 nm nul k w id ix s d p→¬SizOk nul k w id ix cs d→J130_8 K Kp ⟨b2,0,none⟩ ⟨b3,0,none⟩ ⟨b4,0,none⟩ x5 x8 true h':=fun z q=>J130_8.of (If_t rfl (bad z (by decide) q))
  refine LY27.c (ty_cells z.k2) (shape_c (ht.grw z.g) hl hsm (hs.gr z.g) (fun no h4 g4 => ?_) fun ty h4 g4 => ?_)
  · have z:=z.grw g4
    exact Ld_blk z.k3 rfl (Ld_blk z.k3 rfl (Wr_any (Ld_blk z.k3 rfl (If_t (by rw [bne_iff_ne];omega) (J130_13.of (If_t rfl (j8 z fun q=>no q.ty)))))))
  have z:=z.grw g4
  refine Ld_blk z.k3 rfl (Ld_blk z.k3 rfl (Wr_any ?_))
  -- all is well so far: the numbers
  have main:(d.bufs.length:Int)=bufK k→d.cs.length=chK k cs→∀b:Bool,(b=true↔¬d.ds.length=diK k)→J130_8 K Kp ⟨b2,0,none⟩ ⟨b3,0,none⟩ ⟨b4,0,none⟩ (bufK k) (IntKind.i64.wrap (d.off+d.len)) b h4:=by
    intro nb nc b hb
    have bk:=bufK_le k
    refine J130_8.of (If_i (fun c=>bad z (by decide) fun q=>hb.1 c q.nd) fun c => ?_)
    have nd:d.ds.length=diK k:=Decidable.byContradiction fun q=>by rw [hb.2 q] at c;cases c
    simp only [add_blk]
    have j10:0≤d.len→0≤d.off→0≤d.nul→d.nul≤d.len→d.len≤4096→∀b:Bool,(b=true↔¬d.off≤4096)→J130_10 K Kp ⟨b2,0,none⟩ ⟨b3,0,none⟩ ⟨b4,0,none⟩ (bufK k) (IntKind.i64.wrap (d.off+d.len)) b h4:=by
      intro l0 o0 u0 ul l1 b hb
      refine J130_10.of (If_i (fun c=>bad z (by decide) fun q=>hb.1 c q.o1) fun c => ?_)
      have o1:d.off≤4096:=Decidable.byContradiction fun q=>by rw [hb.2 q] at c;cases c
      have hw:IntKind.i64.wrap (d.off+d.len)=d.off+d.len:=by rw [IntKind.wrap_i64];omega
      rw [hw]
      refine If_i (fun c2=>bad z (by decide) fun q => ?_) fun c2 => ?_
      · simp only [sm,reduceCtorEq] at c2;have:=q.e1;omega
      · simp only [sm,reduceCtorEq] at c2
        exact sz1_c ht hsm hs z v ⟨ty,nb,nc,nd,l0,o0,u0,ul,l1,o1,by omega⟩ hk _ (by omega)
    have j9:0≤d.len→0≤d.off→0≤d.nul→∀b:Bool,(b=true↔¬d.nul≤d.len)→J130_9 K Kp ⟨b2,0,none⟩ ⟨b3,0,none⟩ ⟨b4,0,none⟩ (bufK k) (IntKind.i64.wrap (d.off+d.len)) b h4:=by
      intro l0 o0 u0 b hb
      refine J130_9.of ?_
      simp only [add_blk]
      refine If_i (fun c=>bad z (by decide) fun q=>hb.1 c q.ul) fun c => ?_
      have ul:d.nul≤d.len:=Decidable.byContradiction fun q=>by rw [hb.2 q] at c;cases c
      refine Ld_blk z.k3 rfl (If_i (fun c2=>J130_10.of (If_t rfl (bad z (by decide) fun q => ?_))) fun c2=>Ld_blk z.k3 rfl (j10 l0 o0 u0 ul ?_ _ ?_))
      · simp only [sm,reduceCtorEq] at c2;have:=q.l1;omega
      · simp only [sm,reduceCtorEq] at c2;omega
      · rw [decide_eq_true_eq];omega
    have no9:¬SizOk nul k w id ix cs d→J130_9 K Kp ⟨b2,0,none⟩ ⟨b3,0,none⟩ ⟨b4,0,none⟩ (bufK k) (IntKind.i64.wrap (d.off+d.len)) true h4:=fun q=>J130_9.of (If_t rfl (bad z (by decide) q))
    have j12:0≤d.len→0≤d.off→∀b:Bool,(b=true↔¬0≤d.nul)→J130_12 K Kp ⟨b2,0,none⟩ ⟨b3,0,none⟩ ⟨b4,0,none⟩ (bufK k) (IntKind.i64.wrap (d.off+d.len)) b h4:=by
      intro l0 o0 b hb
      refine J130_12.of ?_
      simp only [add_blk]
      refine If_i (fun c=>no9 fun q=>hb.1 c q.u0) fun c=>Ld_blk z.k3 rfl (Ld_blk z.k3 rfl (j9 l0 o0 (Decidable.byContradiction fun q=>by rw [hb.2 q] at c;cases c) _ ?_))
      rw [decide_eq_true_eq];omega
    have no12:¬SizOk nul k w id ix cs d→J130_12 K Kp ⟨b2,0,none⟩ ⟨b3,0,none⟩ ⟨b4,0,none⟩ (bufK k) (IntKind.i64.wrap (d.off+d.len)) true h4:=fun q=>J130_12.of (If_t rfl (no9 q))
    have j11:0≤d.len→∀b:Bool,(b=true↔¬0≤d.off)→J130_11 K Kp ⟨b2,0,none⟩ ⟨b3,0,none⟩ ⟨b4,0,none⟩ (bufK k) (IntKind.i64.wrap (d.off+d.len)) b h4:=by
      intro l0 b hb
      refine J130_11.of ?_
      simp only [add_blk]
      refine If_i (fun c=>no12 fun q=>hb.1 c q.o0) fun c=>Ld_blk z.k3 rfl (j12 l0 (Decidable.byContradiction fun q=>by rw [hb.2 q] at c;cases c) _ ?_)
      rw [decide_eq_true_eq];omega
    refine Ld_blk z.k3 rfl (If_i (fun c2=>J130_11.of (If_t rfl (no12 fun q => ?_))) fun c2=>Ld_blk z.k3 rfl (j11 ?_ _ ?_))
    · simp only [sm,reduceCtorEq] at c2;have:=q.l0;omega
    · simp only [sm,reduceCtorEq] at c2;omega
    · rw [decide_eq_true_eq];omega
  have j13:(d.bufs.length:Int)=bufK k→∀b:Bool,(b=true↔¬d.cs.length=chK k cs)→J130_13 K Kp ⟨b2,0,none⟩ ⟨b3,0,none⟩ ⟨b4,0,none⟩ (bufK k) (diK k) (IntKind.i64.wrap (d.off+d.len)) b h4:=by
    intro nb b hb
    refine J130_13.of ?_
    simp only [add_blk]
    refine If_i (fun c=>j8 z fun q=>hb.1 c q.nc) fun c=>Ld_blk z.k3 rfl (main nb (Decidable.byContradiction fun q=>by rw [hb.2 q] at c;cases c) _ ?_)
    rw [bne_iff_ne];omega
  refine Ld_blk z.k3 rfl (If_i (fun c=>J130_13.of (If_t rfl (j8 z fun q => ?_))) fun c=>Ld_blk z.k3 rfl (j13 ?_ _ ?_))
  · simp only [sm,reduceCtorEq] at c;have:=q.nb;omega
  · simp only [sm,reduceCtorEq] at c;omega
  · rw [bne_iff_ne];omega
end
end Go.Proofs.YtlbbdbdjiekkaaaGreatDoor
