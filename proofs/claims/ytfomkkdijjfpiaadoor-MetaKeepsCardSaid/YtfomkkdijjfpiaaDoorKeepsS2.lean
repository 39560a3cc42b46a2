/- What the functions do, printed by program (gen.py) in the words of ShCore; each text is held against the loaded program by the kernel. -/
import Derived.Test.YtfomkkdijjfpiaaDoorKeepsF
set_option linter.unusedSimpArgs false
set_option linter.unusedVariables false
set_option maxRecDepth 100000
namespace Go.Proofs.YtfomkkdijjfpiaaDoor
open Go Go.Sh
/- ### 7: MetaKeeps -/
noncomputable def code7 : Code := Tryd.f7.body.getD .skip
def ann7 : Ann := [(2000009, [1, 2, 6, 8, 9, 11]), (2000012, [1, 6, 8, 11]), (53008, [1, 6, 11, 71]), (47006, [1, 2, 6, 8, 9, 11, 40])]
def ord7 : List (Nat × OT × List Nat) := []
def kv7 (K : Bool → HP) : Value → HP := fun v h => match v with | .bool r0 => (K r0 h) | _ => False
def q7 (K : Bool → HP) : Qt := retQ Tryd.prog Tryd.f7.results.toList [(.bool false)] (kv7 K)
def JT7_3 (x1:Sl) (x6:Sl) (x11:Sl) (x71:Bool) (K : Bool → HP) (Kp:PK) (h:Hp) : Prop :=
 If x71 (
 K false h) (
 Fn10 x11 x6 h (fun t75 h1 =>
 If (!t75) (
 K false h1) (
 Fn20 x1 h1 (fun t79 h2 =>
 If t79 (
 Fn11  h2 (fun t81 h3 =>
 K t81 h3) Kp) (
 K false h2)) Kp)) Kp)
def J7_3 (x1:Sl) (x6:Sl) (x11:Sl) (x71:Bool) (K : Bool → HP) (Kp:PK) (h:Hp) : Prop :=
 Joint (semOps Tryd.prog (Ann.reg 13 ann7) (regOps (sub [1, 1, 0, 1, 0, 1, 1, 1, 1, 1, 1, 1, 1, 0] code7)) [8, 9, 10, 11, 12, 13] (ctxQ Tryd.prog ann7 (Dw ord7) none Kp [1, 1, 0, 1, 0, 1, 1, 1, 1, 1, 1, 1, 1, 0] code7 [] (q7 K) .normal) Kp (([none, some (Sl.v x1), none, none, none, none, some (Sl.v x6), none, none, none, none, some (Sl.v x11), none, none, none, none, none, none, none, none, none, none, none, none, none, none, none, none, none, none, none, none, none, none, none, none, none, none, none, none, none, none, none, none, none, none, none, none, none, none, none, none, none, none, none, none, none, none, none, none, none, none, none, none, none, none, none, none, none, none, none, some (.bool x71)] ++ nn 11)) h)
theorem J7_3.of {x1:Sl} {x6:Sl} {x11:Sl} {x71:Bool} {K : Bool → HP} {Kp:PK} {h:Hp} (H : JT7_3 x1 x6 x11 x71 K Kp h) : J7_3 x1 x6 x11 x71 K Kp h :=
 Joint.mk (Eq.mp (by kernel_rfl) H)
def JT7_2 (x1:Sl) (x6:Sl) (x8:Addr) (x11:Sl) (K : Bool → HP) (Kp:PK) (h:Hp) : Prop :=
 Ld h x8 (Value.int .i64) fun t60_0 =>
 Ld h (x8.add 1) (Sl.v) fun t60_1 =>
 Ld h (x8.add 2) (Sl.v) fun t60_2 =>
 Ld h (x8.add 3) (Value.int .i64) fun t60_3 =>
 Ld h (x8.add 4) (Value.bool) fun t60_4 =>
 Ld h (x8.add 5) (Value.int .i64) fun t60_5 =>
 Ld h (x8.add 6) (Value.int .i64) fun t60_6 =>
 Ld h (x8.add 7) (Sl.v) fun t60_7 =>
 Ld h (x8.add 8) (Sl.v) fun t60_8 =>
 Fn8 t60_0 t60_1 t60_2 t60_3 t60_4 t60_5 t60_6 t60_7 t60_8 h (fun t61_0 t61_1 h1 =>
 If (t61_1 != (0:Int)) (
 J7_3 x1 x6 x11 true K Kp h1) (
 Fn10 t61_0 x6 h1 (fun t69 h2 =>
 J7_3 x1 x6 x11 (!t69) K Kp h2) Kp)) Kp
def J7_2 (x1:Sl) (x6:Sl) (x8:Addr) (x11:Sl) (K : Bool → HP) (Kp:PK) (h:Hp) : Prop :=
 Joint (sem Tryd.prog ann7 (Dw ord7) none (sub [1, 1, 0, 1, 0, 1, 1, 1, 1, 1, 1, 1] code7) (ctxQ Tryd.prog ann7 (Dw ord7) none Kp [1, 1, 0, 1, 0, 1, 1, 1, 1, 1, 1, 1] code7 [] (q7 K)) Kp (([none, some (Sl.v x1), none, none, none, none, some (Sl.v x6), none, some (.pointer (some x8)), none, none, some (Sl.v x11)] ++ nn 71)) h)
theorem J7_2.of {x1:Sl} {x6:Sl} {x8:Addr} {x11:Sl} {K : Bool → HP} {Kp:PK} {h:Hp} (H : JT7_2 x1 x6 x8 x11 K Kp h) : J7_2 x1 x6 x8 x11 K Kp h :=
 Joint.mk (Eq.mp (by kernel_rfl) H)
def JT7_1 (x1:Sl) (x2:Addr) (x6:Sl) (x8:Addr) (x9:Sl) (x11:Sl) (K : Bool → HP) (Kp:PK) (h:Hp) : Prop :=
 Fn18 x9 h (fun h1 =>
 Fn10 x11 x6 h1 (fun t51 h2 =>
 If (!t51) (
 K false h2) (
 Ld h2 x8 (Value.int .i64) fun t54_0 =>
 Ld h2 (x8.add 1) (Sl.v) fun t54_1 =>
 Ld h2 (x8.add 2) (Sl.v) fun t54_2 =>
 Ld h2 (x8.add 3) (Value.int .i64) fun t54_3 =>
 Ld h2 (x8.add 4) (Value.bool) fun t54_4 =>
 Ld h2 (x8.add 5) (Value.int .i64) fun t54_5 =>
 Ld h2 (x8.add 6) (Value.int .i64) fun t54_6 =>
 Ld h2 (x8.add 7) (Sl.v) fun t54_7 =>
 Ld h2 (x8.add 8) (Sl.v) fun t54_8 =>
 Ld h2 x2 (Value.int .i64) fun t55_0 =>
 Ld h2 (x2.add 1) (Sl.v) fun t55_1 =>
 Ld h2 (x2.add 2) (Sl.v) fun t55_2 =>
 Ld h2 (x2.add 3) (Value.int .i64) fun t55_3 =>
 Ld h2 (x2.add 4) (Value.bool) fun t55_4 =>
 Ld h2 (x2.add 5) (Value.int .i64) fun t55_5 =>
 Ld h2 (x2.add 6) (Value.int .i64) fun t55_6 =>
 Ld h2 (x2.add 7) (Sl.v) fun t55_7 =>
 Ld h2 (x2.add 8) (Sl.v) fun t55_8 =>
 Fn19 t54_0 t54_1 t54_2 t54_3 t54_4 t54_5 t54_6 t54_7 t54_8 t55_0 t55_1 t55_2 t55_3 t55_4 t55_5 t55_6 t55_7 t55_8 h2 (fun t56 h3 =>
 If (!t56) (
 K false h3) (
 J7_2 x1 x6 x8 x11 K Kp h3)) Kp)) Kp) Kp
def J7_1 (x1:Sl) (x2:Addr) (x6:Sl) (x8:Addr) (x9:Sl) (x11:Sl) (K : Bool → HP) (Kp:PK) (h:Hp) : Prop :=
 Joint (sem Tryd.prog ann7 (Dw ord7) none (sub [1, 1, 0, 1, 0, 1, 1, 1, 1, 1] code7) (ctxQ Tryd.prog ann7 (Dw ord7) none Kp [1, 1, 0, 1, 0, 1, 1, 1, 1, 1] code7 [] (q7 K)) Kp (([none, some (Sl.v x1), some (.pointer (some x2)), none, none, none, some (Sl.v x6), none, some (.pointer (some x8)), some (Sl.v x9), none, some (Sl.v x11)] ++ nn 71)) h)
theorem J7_1.of {x1:Sl} {x2:Addr} {x6:Sl} {x8:Addr} {x9:Sl} {x11:Sl} {K : Bool → HP} {Kp:PK} {h:Hp} (H : JT7_1 x1 x2 x6 x8 x9 x11 K Kp h) : J7_1 x1 x2 x6 x8 x9 x11 K Kp h :=
 Joint.mk (Eq.mp (by kernel_rfl) H)
def JT7_4 (x1:Sl) (x2:Addr) (x6:Sl) (x8:Addr) (x9:Sl) (x11:Sl) (x40:Bool) (K : Bool → HP) (Kp:PK) (h:Hp) : Prop :=
 If x40 (
 K false h) (
 Fn10 x9 x6 h (fun t44 h1 =>
 If (!t44) (
 K false h1) (
 J7_1 x1 x2 x6 x8 x9 x11 K Kp h1)) Kp)
def J7_4 (x1:Sl) (x2:Addr) (x6:Sl) (x8:Addr) (x9:Sl) (x11:Sl) (x40:Bool) (K : Bool → HP) (Kp:PK) (h:Hp) : Prop :=
 Joint (semOps Tryd.prog (Ann.reg 7 ann7) (regOps (sub [1, 1, 0, 1, 0, 1, 1, 1, 1, 0, 0] code7)) [6, 7, 8, 9, 10, 11] (ctxQ Tryd.prog ann7 (Dw ord7) none Kp [1, 1, 0, 1, 0, 1, 1, 1, 1, 0, 0] code7 [] (q7 K) .normal) Kp (([none, some (Sl.v x1), some (.pointer (some x2)), none, none, none, some (Sl.v x6), none, some (.pointer (some x8)), some (Sl.v x9), none, some (Sl.v x11), none, none, none, none, none, none, none, none, none, none, none, none, none, none, none, none, none, none, none, none, none, none, none, none, none, none, none, none, some (.bool x40)] ++ nn 42)) h)
theorem J7_4.of {x1:Sl} {x2:Addr} {x6:Sl} {x8:Addr} {x9:Sl} {x11:Sl} {x40:Bool} {K : Bool → HP} {Kp:PK} {h:Hp} (H : JT7_4 x1 x2 x6 x8 x9 x11 x40 K Kp h) : J7_4 x1 x2 x6 x8 x9 x11 x40 K Kp h :=
 Joint.mk (Eq.mp (by kernel_rfl) H)
def S7 (hv_0:Int) (hv_1:Sl) (hv_2:Sl) (hv_3:Int) (hv_4:Bool) (hv_5:Int) (hv_6:Int) (hv_7:Sl) (hv_8:Sl) (b:Sl) (h:Hp) (K : Bool → HP) (Kp:PK) : Prop :=
 New h #[(.int .i64 hv_0), (Sl.v hv_1), (Sl.v hv_2), (.int .i64 hv_3), (.bool hv_4), (.int .i64 hv_5), (.int .i64 hv_6), (Sl.v hv_7), (Sl.v hv_8)] 29 fun a2 h1 =>
 Ld h1 a2 (Value.int .i64) fun t15_0 =>
 Ld h1 (a2.add 1) (Sl.v) fun t15_1 =>
 Ld h1 (a2.add 2) (Sl.v) fun t15_2 =>
 Ld h1 (a2.add 3) (Value.int .i64) fun t15_3 =>
 Ld h1 (a2.add 4) (Value.bool) fun t15_4 =>
 Ld h1 (a2.add 5) (Value.int .i64) fun t15_5 =>
 Ld h1 (a2.add 6) (Value.int .i64) fun t15_6 =>
 Ld h1 (a2.add 7) (Sl.v) fun t15_7 =>
 Ld h1 (a2.add 8) (Sl.v) fun t15_8 =>
 Fn16 t15_0 t15_1 t15_2 t15_3 t15_4 t15_5 t15_6 t15_7 t15_8 h1 (fun t16 h2 =>
 If t16 (
 Ld h2 a2 (Value.int .i64) fun t19_0 =>
 Ld h2 (a2.add 1) (Sl.v) fun t19_1 =>
 Ld h2 (a2.add 2) (Sl.v) fun t19_2 =>
 Ld h2 (a2.add 3) (Value.int .i64) fun t19_3 =>
 Ld h2 (a2.add 4) (Value.bool) fun t19_4 =>
 Ld h2 (a2.add 5) (Value.int .i64) fun t19_5 =>
 Ld h2 (a2.add 6) (Value.int .i64) fun t19_6 =>
 Ld h2 (a2.add 7) (Sl.v) fun t19_7 =>
 Ld h2 (a2.add 8) (Sl.v) fun t19_8 =>
 Fn9 t19_0 t19_1 t19_2 t19_3 t19_4 t19_5 t19_6 t19_7 t19_8 h2 (fun t20_0 t20_1 h3 =>
 Ld h3 a2 (Value.int .i64) fun t23_0 =>
 Ld h3 (a2.add 1) (Sl.v) fun t23_1 =>
 Ld h3 (a2.add 2) (Sl.v) fun t23_2 =>
 Ld h3 (a2.add 3) (Value.int .i64) fun t23_3 =>
 Ld h3 (a2.add 4) (Value.bool) fun t23_4 =>
 Ld h3 (a2.add 5) (Value.int .i64) fun t23_5 =>
 Ld h3 (a2.add 6) (Value.int .i64) fun t23_6 =>
 Ld h3 (a2.add 7) (Sl.v) fun t23_7 =>
 Ld h3 (a2.add 8) (Sl.v) fun t23_8 =>
 Fn17 t23_0 t23_1 t23_2 t23_3 t23_4 t23_5 t23_6 t23_7 t23_8 h3 (fun t24_0 t24_1 t24_2 t24_3 t24_4 t24_5 t24_6 t24_7 t24_8 h4 =>
 New h4 #[(.int .i64 (0:Int)), (.slice none 0 0), (.slice none 0 0), (.int .i64 (0:Int)), (.bool false), (.int .i64 (0:Int)), (.int .i64 (0:Int)), (.slice none 0 0), (.slice none 0 0)] 29 fun a8 h5 =>
 St h5 a8 (.int .i64 t24_0) fun h6 =>
 St h6 (a8.add 1) (Sl.v t24_1) fun h7 =>
 St h7 (a8.add 2) (Sl.v t24_2) fun h8 =>
 St h8 (a8.add 3) (.int .i64 t24_3) fun h9 =>
 St h9 (a8.add 4) (.bool t24_4) fun h10 =>
 St h10 (a8.add 5) (.int .i64 t24_5) fun h11 =>
 St h11 (a8.add 6) (.int .i64 t24_6) fun h12 =>
 St h12 (a8.add 7) (Sl.v t24_7) fun h13 =>
 St h13 (a8.add 8) (Sl.v t24_8) fun h14 =>
 Ld h14 a8 (Value.int .i64) fun t26_0 =>
 Ld h14 (a8.add 1) (Sl.v) fun t26_1 =>
 Ld h14 (a8.add 2) (Sl.v) fun t26_2 =>
 Ld h14 (a8.add 3) (Value.int .i64) fun t26_3 =>
 Ld h14 (a8.add 4) (Value.bool) fun t26_4 =>
 Ld h14 (a8.add 5) (Value.int .i64) fun t26_5 =>
 Ld h14 (a8.add 6) (Value.int .i64) fun t26_6 =>
 Ld h14 (a8.add 7) (Sl.v) fun t26_7 =>
 Ld h14 (a8.add 8) (Sl.v) fun t26_8 =>
 Fn8 t26_0 t26_1 t26_2 t26_3 t26_4 t26_5 t26_6 t26_7 t26_8 h14 (fun t27_0 t27_1 h15 =>
 Ld h15 a8 (Value.int .i64) fun t31_0 =>
 Ld h15 (a8.add 1) (Sl.v) fun t31_1 =>
 Ld h15 (a8.add 2) (Sl.v) fun t31_2 =>
 Ld h15 (a8.add 3) (Value.int .i64) fun t31_3 =>
 Ld h15 (a8.add 4) (Value.bool) fun t31_4 =>
 Ld h15 (a8.add 5) (Value.int .i64) fun t31_5 =>
 Ld h15 (a8.add 6) (Value.int .i64) fun t31_6 =>
 Ld h15 (a8.add 7) (Sl.v) fun t31_7 =>
 Ld h15 (a8.add 8) (Sl.v) fun t31_8 =>
 Fn8 t31_0 t31_1 t31_2 t31_3 t31_4 t31_5 t31_6 t31_7 t31_8 h15 (fun t32_0 t32_1 h16 =>
 If (t27_1 != (0:Int)) (
 J7_4 b a2 t20_0 a8 t27_0 t32_0 true K Kp h16) (
 J7_4 b a2 t20_0 a8 t27_0 t32_0 (t32_1 != (0:Int)) K Kp h16)) Kp) Kp) Kp) Kp) (
 Fn20 b h2 (fun t79 h3 =>
 If t79 (
 Fn11  h3 (fun t81 h4 =>
 K t81 h4) Kp) (
 K false h3)) Kp)) Kp
theorem Fn7.of {hv_0:Int} {hv_1:Sl} {hv_2:Sl} {hv_3:Int} {hv_4:Bool} {hv_5:Int} {hv_6:Int} {hv_7:Sl} {hv_8:Sl} {b:Sl} {h:Hp} {K : Bool → HP} {Kp:PK} (H : S7 hv_0 hv_1 hv_2 hv_3 hv_4 hv_5 hv_6 hv_7 hv_8 b h K Kp) : Fn7 hv_0 hv_1 hv_2 hv_3 hv_4 hv_5 hv_6 hv_7 hv_8 b h K Kp :=
 fn_of2 (P := Tryd.prog) (ann := ann7) (D := DrawSem Tryd.prog ord7) (drawOk _) (c := code7) (zs := [(.bool false)]) (args := [(.agg #[(.int .i64 hv_0), (Sl.v hv_1), (Sl.v hv_2), (.int .i64 hv_3), (.bool hv_4), (.int .i64 hv_5), (.int .i64 hv_6), (Sl.v hv_7), (Sl.v hv_8)]), (Sl.v b)]) (Kv := kv7 K) (Kp := Kp) (h := h) Tryd.func7 (by kernel_rfl) H (by kernel_rfl) (by kernel_rfl)
/- ### 8: Put -/
noncomputable def code8 : Code := Tryd.f8.body.getD .skip
def ann8 : Ann := [(2000013, [1, 4]), (2000022, [1, 4]), (2024, [4, 79, 80, 81]), (2017, [1, 4, 58, 59, 60])]
def ord8 : List (Nat × OT × List Nat) := []
def kv8 (K : Sl → Int → HP) : Value → HP := fun v h => match v with | .tuple us => (let vs := us.toList; match (vs.getD 0 undef) with | .slice r0a r0n r0c => (let r0 : Sl := ⟨r0a, r0n, r0c⟩; match (vs.getD 1 undef) with | .int _ r1 => (K r0 r1 h) | _ => False) | _ => False) | _ => False
def q8 (K : Sl → Int → HP) : Qt := retQ Tryd.prog Tryd.f8.results.toList [(.slice none 0 0), (.int .i64 (0:Int))] (kv8 K)
abbrev mk8_3 (x4:Addr) (x79:Sl) (x80:Int) (x81:Int) : Fr := ([none, none, none, none, some (.pointer (some x4)), none, none, none, none, none, none, none, none, none, none, none, none, none, none, none, none, none, none, none, none, none, none, none, none, none, none, none, none, none, none, none, none, none, none, none, none, none, none, none, none, none, none, none, none, none, none, none, none, none, none, none, none, none, none, none, none, none, none, none, none, none, none, none, none, none, none, none, none, none, none, none, none, none, none, some (Sl.v x79), some (.int .i64 x80), some (.int .i64 x81)] ++ nn 20)
def T8_3 (x4:Addr) (x79:Sl) (x80:Int) (K : Sl → Int → HP) (Kp:PK) (N1 : Fr → HP) (x81:Int) (h:Hp) : Prop :=
 If (decide (x81 < x80)) (
 Ix x79.a x79.n 3 x81 fun a83 =>
 Ld h a83 (Value.int .i64) fun t84_0 =>
 Ld h (a83.add 1) (Value.int .i64) fun t84_1 =>
 Ld h (a83.add 2) (Value.int .i64) fun t84_2 =>
 New h #[(.int .i64 (0:Int)), (.int .i64 (0:Int)), (.int .i64 (0:Int))] 57 fun a8 h1 =>
 St h1 a8 (.int .i64 t84_0) fun h2 =>
 St h2 (a8.add 1) (.int .i64 t84_1) fun h3 =>
 St h3 (a8.add 2) (.int .i64 t84_2) fun h4 =>
 Ld h4 a8 (Value.int .i64) fun t87 =>
 Fn22 (some x4) t87 (4:Int) h4 (fun h5 =>
 Ld h5 (a8.add 1) (Value.int .i64) fun t91 =>
 Fn22 (some x4) t91 (4:Int) h5 (fun h6 =>
 Ld h6 (a8.add 2) (Value.int .i64) fun t95 =>
 Fn22 (some x4) t95 (4:Int) h6 (fun h7 =>
 Wr .i64 (x81 + (1:Int)) fun t97 =>
 N1 (mk8_3 x4 x79 x80 t97) h7) Kp) Kp) Kp) (
 Ld h x4 (Sl.v) fun t101 =>
 K t101 (0:Int) h)
def L8_3 (x4:Addr) (x79:Sl) (x80:Int) (K : Sl → Int → HP) (Kp:PK) (x81:Int) (h:Hp) : Prop :=
 LoopH (fun N fr h => sem Tryd.prog ann8 (Dw ord8) none (sub [1, 1, 1, 1, 1, 1, 1, 1, 1, 1, 1, 1, 1, 0, 1, 0, 0] code8) (thenQ (fun fr' h' => N (Ann.find ann8 2024 fr') h') (ctxQ Tryd.prog ann8 (Dw ord8) none Kp [1, 1, 1, 1, 1, 1, 1, 1, 1, 1, 1, 1, 1, 0, 1, 0] code8 [] (q8 K))) Kp fr h) (mk8_3 x4 x79 x80 x81) h
theorem L8_3.rule {x4:Addr} {x79:Sl} {x80:Int} {K : Sl → Int → HP} {Kp:PK} (I : Int → HP) (μ : Int → Hp → Nat) {x81:Int} {h:Hp} (h0 : I x81 h)
 (step : ∀ (x81:Int) (h:Hp), I x81 h → ∀ N1 : Fr → HP, (∀ (x81':Int) (h':Hp), I x81' h' → μ x81' h' < μ x81 h → N1 (mk8_3 x4 x79 x80 x81') h') → T8_3 x4 x79 x80 K Kp N1 x81 h) : L8_3 x4 x79 x80 K Kp x81 h :=
 loop_rule (σ := Int) (fun s => mk8_3 x4 x79 x80 s) (fun N s h => T8_3 x4 x79 x80 K Kp N s h) (fun N s h => by kernel_rfl) (fun s h => I s h) (fun s h => μ s h) (s0 := x81) h0 (fun s h hI N hN => step s h hI N (fun x81' h' hI' hl => hN x81' h' hI' hl))
def JT8_2 (x1:Addr) (x4:Addr) (K : Sl → Int → HP) (Kp:PK) (h:Hp) : Prop :=
 Ld h (x1.add 8) (Sl.v) fun t75 =>
 Fn22 (some x4) (t75.n:Int) (2:Int) h (fun h1 =>
 Ld h1 (x1.add 8) (Sl.v) fun t79 =>
 L8_3 x4 t79 (t79.n:Int) K Kp (0:Int) h1) Kp
def J8_2 (x1:Addr) (x4:Addr) (K : Sl → Int → HP) (Kp:PK) (h:Hp) : Prop :=
 Joint (sem Tryd.prog ann8 (Dw ord8) none (sub [1, 1, 1, 1, 1, 1, 1, 1, 1, 1, 1, 1] code8) (ctxQ Tryd.prog ann8 (Dw ord8) none Kp [1, 1, 1, 1, 1, 1, 1, 1, 1, 1, 1, 1] code8 [] (q8 K)) Kp (([none, some (.pointer (some x1)), none, none, some (.pointer (some x4))] ++ nn 97)) h)
theorem J8_2.of {x1:Addr} {x4:Addr} {K : Sl → Int → HP} {Kp:PK} {h:Hp} (H : JT8_2 x1 x4 K Kp h) : J8_2 x1 x4 K Kp h :=
 Joint.mk (Eq.mp (by kernel_rfl) H)
abbrev mk8_4 (x1:Addr) (x4:Addr) (x58:Sl) (x59:Int) (x60:Int) : Fr := ([none, some (.pointer (some x1)), none, none, some (.pointer (some x4)), none, none, none, none, none, none, none, none, none, none, none, none, none, none, none, none, none, none, none, none, none, none, none, none, none, none, none, none, none, none, none, none, none, none, none, none, none, none, none, none, none, none, none, none, none, none, none, none, none, none, none, none, none, some (Sl.v x58), some (.int .i64 x59), some (.int .i64 x60)] ++ nn 41)
def T8_4 (x1:Addr) (x4:Addr) (x58:Sl) (x59:Int) (K : Sl → Int → HP) (Kp:PK) (N1 : Fr → HP) (x60:Int) (h:Hp) : Prop :=
 If (decide (x60 < x59)) (
 Ix x58.a x58.n 2 x60 fun a62 =>
 Ld h a62 (Value.int .i64) fun t63_0 =>
 Ld h (a62.add 1) (Value.int .i64) fun t63_1 =>
 New h #[(.int .i64 (0:Int)), (.int .i64 (0:Int))] 55 fun a6 h1 =>
 St h1 a6 (.int .i64 t63_0) fun h2 =>
 St h2 (a6.add 1) (.int .i64 t63_1) fun h3 =>
 Ld h3 a6 (Value.int .i64) fun t66 =>
 Fn22 (some x4) t66 (4:Int) h3 (fun h4 =>
 Ld h4 (a6.add 1) (Value.int .i64) fun t70 =>
 Fn22 (some x4) t70 (4:Int) h4 (fun h5 =>
 Wr .i64 (x60 + (1:Int)) fun t72 =>
 N1 (mk8_4 x1 x4 x58 x59 t72) h5) Kp) Kp) (
 J8_2 x1 x4 K Kp h)
def L8_4 (x1:Addr) (x4:Addr) (x58:Sl) (x59:Int) (K : Sl → Int → HP) (Kp:PK) (x60:Int) (h:Hp) : Prop :=
 LoopH (fun N fr h => sem Tryd.prog ann8 (Dw ord8) none (sub [1, 1, 1, 1, 1, 1, 1, 1, 1, 1, 1, 0, 1, 0, 0] code8) (thenQ (fun fr' h' => N (Ann.find ann8 2017 fr') h') (ctxQ Tryd.prog ann8 (Dw ord8) none Kp [1, 1, 1, 1, 1, 1, 1, 1, 1, 1, 1, 0, 1, 0] code8 [] (q8 K))) Kp fr h) (mk8_4 x1 x4 x58 x59 x60) h
theorem L8_4.rule {x1:Addr} {x4:Addr} {x58:Sl} {x59:Int} {K : Sl → Int → HP} {Kp:PK} (I : Int → HP) (μ : Int → Hp → Nat) {x60:Int} {h:Hp} (h0 : I x60 h)
 (step : ∀ (x60:Int) (h:Hp), I x60 h → ∀ N1 : Fr → HP, (∀ (x60':Int) (h':Hp), I x60' h' → μ x60' h' < μ x60 h → N1 (mk8_4 x1 x4 x58 x59 x60') h') → T8_4 x1 x4 x58 x59 K Kp N1 x60 h) : L8_4 x1 x4 x58 x59 K Kp x60 h :=
 loop_rule (σ := Int) (fun s => mk8_4 x1 x4 x58 x59 s) (fun N s h => T8_4 x1 x4 x58 x59 K Kp N s h) (fun N s h => by kernel_rfl) (fun s h => I s h) (fun s h => μ s h) (s0 := x60) h0 (fun s h hI N hN => step s h hI N (fun x60' h' hI' hl => hN x60' h' hI' hl))
def JT8_1 (x1:Addr) (x4:Addr) (K : Sl → Int → HP) (Kp:PK) (h:Hp) : Prop :=
 Ld h (x1.add 5) (Value.int .i64) fun t46 =>
 Fn22 (some x4) t46 (4:Int) h (fun h1 =>
 Ld h1 (x1.add 6) (Value.int .i64) fun t50 =>
 Fn22 (some x4) t50 (1:Int) h1 (fun h2 =>
 Ld h2 (x1.add 7) (Sl.v) fun t54 =>
 Fn22 (some x4) (t54.n:Int) (2:Int) h2 (fun h3 =>
 Ld h3 (x1.add 7) (Sl.v) fun t58 =>
 L8_4 x1 x4 t58 (t58.n:Int) K Kp (0:Int) h3) Kp) Kp) Kp
def J8_1 (x1:Addr) (x4:Addr) (K : Sl → Int → HP) (Kp:PK) (h:Hp) : Prop :=
 Joint (sem Tryd.prog ann8 (Dw ord8) none (sub [1, 1, 1, 1, 1, 1, 1, 1] code8) (ctxQ Tryd.prog ann8 (Dw ord8) none Kp [1, 1, 1, 1, 1, 1, 1, 1] code8 [] (q8 K)) Kp (([none, some (.pointer (some x1)), none, none, some (.pointer (some x4))] ++ nn 97)) h)
theorem J8_1.of {x1:Addr} {x4:Addr} {K : Sl → Int → HP} {Kp:PK} {h:Hp} (H : JT8_1 x1 x4 K Kp h) : J8_1 x1 x4 K Kp h :=
 Joint.mk (Eq.mp (by kernel_rfl) H)
def S8 (hv_0:Int) (hv_1:Sl) (hv_2:Sl) (hv_3:Int) (hv_4:Bool) (hv_5:Int) (hv_6:Int) (hv_7:Sl) (hv_8:Sl) (h:Hp) (K : Sl → Int → HP) (Kp:PK) : Prop :=
 New h #[(.int .i64 hv_0), (Sl.v hv_1), (Sl.v hv_2), (.int .i64 hv_3), (.bool hv_4), (.int .i64 hv_5), (.int .i64 hv_6), (Sl.v hv_7), (Sl.v hv_8)] 29 fun a1 h1 =>
 Ld h1 a1 (Value.int .i64) fun t9_0 =>
 Ld h1 (a1.add 1) (Sl.v) fun t9_1 =>
 Ld h1 (a1.add 2) (Sl.v) fun t9_2 =>
 Ld h1 (a1.add 3) (Value.int .i64) fun t9_3 =>
 Ld h1 (a1.add 4) (Value.bool) fun t9_4 =>
 Ld h1 (a1.add 5) (Value.int .i64) fun t9_5 =>
 Ld h1 (a1.add 6) (Value.int .i64) fun t9_6 =>
 Ld h1 (a1.add 7) (Sl.v) fun t9_7 =>
 Ld h1 (a1.add 8) (Sl.v) fun t9_8 =>
 Fn21 t9_0 t9_1 t9_2 t9_3 t9_4 t9_5 t9_6 t9_7 t9_8 h1 (fun t10 h2 =>
 If (!t10) (
 K (⟨none, 0, 0⟩:Sl) (50:Int) h2) (
 New h2 #[(.slice none 0 0)] 50 fun a13 h3 =>
 Ld h3 a1 (Value.int .i64) fun t16 =>
 Fn22 (some a13) t16 (1:Int) h3 (fun h4 =>
 Fn22 (some a13) (1:Int) (1:Int) h4 (fun h5 =>
 Fn22 (some a13) (0:Int) (2:Int) h5 (fun h6 =>
 Ld h6 a1 (Value.int .i64) fun t23 =>
 If (t23 == (1:Int)) (
 Ld h6 (a1.add 1) (Sl.v) fun t27_0 =>
 Ld h6 ((a1.add 1).add 1) (Sl.v) fun t27_1 =>
 Fn23 (some a13) t27_0 t27_1 h6 (fun h7 =>
 Ld h7 a13 (Sl.v) fun t32 =>
 K t32 (0:Int) h7) Kp) (
 Ld h6 a1 (Value.int .i64) fun t34 =>
 If (t34 == (2:Int)) (
 Ld h6 (a1.add 3) (Value.int .i64) fun t38 =>
 Fn22 (some a13) t38 (2:Int) h6 (fun h7 =>
 Ld h7 (a1.add 4) (Value.bool) fun t42 =>
 Fn24 (some a13) t42 h7 (fun h8 =>
 J8_1 a1 a13 K Kp h8) Kp) Kp) (
 J8_1 a1 a13 K Kp h6))) Kp) Kp) Kp)) Kp
theorem Fn8.of {hv_0:Int} {hv_1:Sl} {hv_2:Sl} {hv_3:Int} {hv_4:Bool} {hv_5:Int} {hv_6:Int} {hv_7:Sl} {hv_8:Sl} {h:Hp} {K : Sl → Int → HP} {Kp:PK} (H : S8 hv_0 hv_1 hv_2 hv_3 hv_4 hv_5 hv_6 hv_7 hv_8 h K Kp) : Fn8 hv_0 hv_1 hv_2 hv_3 hv_4 hv_5 hv_6 hv_7 hv_8 h K Kp :=
 fn_of2 (P := Tryd.prog) (ann := ann8) (D := DrawSem Tryd.prog ord8) (drawOk _) (c := code8) (zs := [(.slice none 0 0), (.int .i64 (0:Int))]) (args := [(.agg #[(.int .i64 hv_0), (Sl.v hv_1), (Sl.v hv_2), (.int .i64 hv_3), (.bool hv_4), (.int .i64 hv_5), (.int .i64 hv_6), (Sl.v hv_7), (Sl.v hv_8)])]) (Kv := kv8 K) (Kp := Kp) (h := h) Tryd.func8 (by kernel_rfl) H (by kernel_rfl) (by kernel_rfl)
end Go.Proofs.YtfomkkdijjfpiaaDoor
