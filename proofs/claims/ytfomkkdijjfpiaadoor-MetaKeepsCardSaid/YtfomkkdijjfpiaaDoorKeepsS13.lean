/- What the functions do, printed by program (gen.py) in the words of ShCore; each text is held against the loaded program by the kernel. -/
import Derived.Test.YtfomkkdijjfpiaaDoorKeepsF
set_option linter.unusedSimpArgs false
set_option linter.unusedVariables false
set_option maxRecDepth 100000
namespace Go.Proofs.YtfomkkdijjfpiaaDoor
open Go Go.Sh
/- ### 43: field -/
noncomputable def code43 : Code := Tryd.f43.body.getD .skip
def ann43 : Ann := [(2000015, [0, 4]), (2016, [0, 49, 50, 51]), (3800009, [0, 4, 22, 23])]
def ord43 : List (Nat × OT × List Nat) := []
def kv43 (K:HP) : Value → HP := fun _ h => K h
def q43 (K:HP) : Qt := retQ Tryd.prog Tryd.f43.results.toList [] (kv43 K)
abbrev mk43_2 (x0 : Option Addr) (x49:Sl) (x50:Int) (x51:Int) : Fr := ([some (.pointer x0), none, none, none, none, none, none, none, none, none, none, none, none, none, none, none, none, none, none, none, none, none, none, none, none, none, none, none, none, none, none, none, none, none, none, none, none, none, none, none, none, none, none, none, none, none, none, none, none, some (Sl.v x49), some (.int .i64 x50), some (.int .i64 x51)] ++ nn 7)
def T43_2 (x0 : Option Addr) (x49:Sl) (x50:Int) (K:HP) (Kp:PK) (N1 : Fr → HP) (x51:Int) (h:Hp) : Prop :=
 If (decide (x51 < x50)) (
 Ix x49.a x49.n 7 x51 fun a53 =>
 Ld h a53 (Value.string) fun t54_0 =>
 Ld h (a53.add 1) (Value.bool) fun t54_1 =>
 Ld h (a53.add 2) (Value.int .i64) fun t54_2 =>
 Ld h (a53.add 3) (Value.int .i64) fun t54_3 =>
 Ld h (a53.add 4) (Value.int .i64) fun t54_4 =>
 Ld h (a53.add 5) (Value.int .i64) fun t54_5 =>
 Ld h (a53.add 6) (Sl.v) fun t54_6 =>
 New h #[(.string (bs [])), (.bool false), (.int .i64 (0:Int)), (.int .i64 (0:Int)), (.int .i64 (0:Int)), (.int .i64 (0:Int)), (.slice none 0 0)] 63 fun a6 h1 =>
 St h1 a6 (.string t54_0) fun h2 =>
 St h2 (a6.add 1) (.bool t54_1) fun h3 =>
 St h3 (a6.add 2) (.int .i64 t54_2) fun h4 =>
 St h4 (a6.add 3) (.int .i64 t54_3) fun h5 =>
 St h5 (a6.add 4) (.int .i64 t54_4) fun h6 =>
 St h6 (a6.add 5) (.int .i64 t54_5) fun h7 =>
 St h7 (a6.add 6) (Sl.v t54_6) fun h8 =>
 Ld h8 a6 (Value.string) fun t56_0 =>
 Ld h8 (a6.add 1) (Value.bool) fun t56_1 =>
 Ld h8 (a6.add 2) (Value.int .i64) fun t56_2 =>
 Ld h8 (a6.add 3) (Value.int .i64) fun t56_3 =>
 Ld h8 (a6.add 4) (Value.int .i64) fun t56_4 =>
 Ld h8 (a6.add 5) (Value.int .i64) fun t56_5 =>
 Ld h8 (a6.add 6) (Sl.v) fun t56_6 =>
 Fn43 x0 t56_0 t56_1 t56_2 t56_3 t56_4 t56_5 t56_6 h8 (fun h9 =>
 Wr .i64 (x51 + (1:Int)) fun t58 =>
 N1 (mk43_2 x0 x49 x50 t58) h9) Kp) (
 K  h)
def L43_2 (x0 : Option Addr) (x49:Sl) (x50:Int) (K:HP) (Kp:PK) (x51:Int) (h:Hp) : Prop :=
 LoopH (fun N fr h => sem Tryd.prog ann43 (Dw ord43) none (sub [1, 1, 1, 1, 1, 1, 1, 0, 0] code43) (thenQ (fun fr' h' => N (Ann.find ann43 2016 fr') h') (ctxQ Tryd.prog ann43 (Dw ord43) none Kp [1, 1, 1, 1, 1, 1, 1, 0] code43 [] (q43 K))) Kp fr h) (mk43_2 x0 x49 x50 x51) h
theorem L43_2.rule {x0 : Option Addr} {x49:Sl} {x50:Int} {K:HP} {Kp:PK} (I : Int → HP) (μ : Int → Hp → Nat) {x51:Int} {h:Hp} (h0 : I x51 h)
 (step : ∀ (x51:Int) (h:Hp), I x51 h → ∀ N1 : Fr → HP, (∀ (x51':Int) (h':Hp), I x51' h' → μ x51' h' < μ x51 h → N1 (mk43_2 x0 x49 x50 x51') h') → T43_2 x0 x49 x50 K Kp N1 x51 h) : L43_2 x0 x49 x50 K Kp x51 h :=
 loop_rule (σ := Int) (fun s => mk43_2 x0 x49 x50 s) (fun N s h => T43_2 x0 x49 x50 K Kp N s h) (fun N s h => by kernel_rfl) (fun s h => I s h) (fun s h => μ s h) (s0 := x51) h0 (fun s h hI N hN => step s h hI N (fun x51' h' hI' hl => hN x51' h' hI' hl))
def JT43_1 (x0 : Option Addr) (x4:Addr) (K:HP) (Kp:PK) (h:Hp) : Prop :=
 Ld h (x4.add 4) (Sl.v) fun t49 =>
 L43_2 x0 t49 (t49.n:Int) K Kp (0:Int) h
def J43_1 (x0 : Option Addr) (x4:Addr) (K:HP) (Kp:PK) (h:Hp) : Prop :=
 Joint (sem Tryd.prog ann43 (Dw ord43) none (sub [1, 1, 1, 1, 1, 1] code43) (ctxQ Tryd.prog ann43 (Dw ord43) none Kp [1, 1, 1, 1, 1, 1] code43 [] (q43 K)) Kp (([some (.pointer x0), none, none, none, some (.pointer (some x4))] ++ nn 54)) h)
theorem J43_1.of {x0 : Option Addr} {x4:Addr} {K:HP} {Kp:PK} {h:Hp} (H : JT43_1 x0 x4 K Kp h) : J43_1 x0 x4 K Kp h :=
 Joint.mk (Eq.mp (by kernel_rfl) H)
def JT43_3 (x0 : Option Addr) (x4:Addr) (x22:Int) (x23:Bool) (K:HP) (Kp:PK) (h:Hp) : Prop :=
 If x23 (
 Ld h (x4.add 1) (Value.int .i64) fun t28 =>
 Fn22 x0 t28 (2:Int) h (fun h1 =>
 J43_1 x0 x4 K Kp h1) Kp) (
 If (x22 == (19:Int)) (
 Ld h (x4.add 2) (Value.int .i64) fun t34 =>
 Fn22 x0 t34 (2:Int) h (fun h1 =>
 Ld h1 (x4.add 3) (Value.int .i64) fun t38 =>
 Fn22 x0 t38 (1:Int) h1 (fun h2 =>
 J43_1 x0 x4 K Kp h2) Kp) Kp) (
 If (x22 == (17:Int)) (
 If (x22 == (17:Int)) (
 Ld h (x4.add 4) (Sl.v) fun t45 =>
 Fn22 x0 (t45.n:Int) (1:Int) h (fun h1 =>
 J43_1 x0 x4 K Kp h1) Kp) (
 J43_1 x0 x4 K Kp h)) (
 If (x22 == (18:Int)) (
 Ld h (x4.add 4) (Sl.v) fun t45 =>
 Fn22 x0 (t45.n:Int) (1:Int) h (fun h1 =>
 J43_1 x0 x4 K Kp h1) Kp) (
 J43_1 x0 x4 K Kp h))))
def J43_3 (x0 : Option Addr) (x4:Addr) (x22:Int) (x23:Bool) (K:HP) (Kp:PK) (h:Hp) : Prop :=
 Joint (sem Tryd.prog ann43 (Dw ord43) none (sub [1, 1, 1, 1, 1, 0, 1, 0, 1] code43) (ctxQ Tryd.prog ann43 (Dw ord43) none Kp [1, 1, 1, 1, 1, 0, 1, 0, 1] code43 [] (q43 K)) Kp (([some (.pointer x0), none, none, none, some (.pointer (some x4)), none, none, none, none, none, none, none, none, none, none, none, none, none, none, none, none, none, some (.int .i64 x22), some (.bool x23)] ++ nn 35)) h)
theorem J43_3.of {x0 : Option Addr} {x4:Addr} {x22:Int} {x23:Bool} {K:HP} {Kp:PK} {h:Hp} (H : JT43_3 x0 x4 x22 x23 K Kp h) : J43_3 x0 x4 x22 x23 K Kp h :=
 Joint.mk (Eq.mp (by kernel_rfl) H)
def S43 (w : Option Addr) (f_0 : ByteArray) (f_1:Bool) (f_2:Int) (f_3:Int) (f_4:Int) (f_5:Int) (f_6:Sl) (h:Hp) (K:HP) (Kp:PK) : Prop :=
 New h #[(.string f_0), (.bool f_1), (.int .i64 f_2), (.int .i64 f_3), (.int .i64 f_4), (.int .i64 f_5), (Sl.v f_6)] 63 fun a3 h1 =>
 Ld h1 a3 (Value.string) fun t9 =>
 Fn44 w t9 (1:Int) h1 (fun h2 =>
 Ld h2 (a3.add 1) (Value.bool) fun t13 =>
 Fn24 w t13 h2 (fun h3 =>
 Ld h3 (a3.add 2) (Value.int .i64) fun t16_0 =>
 Ld h3 ((a3.add 2).add 1) (Value.int .i64) fun t16_1 =>
 Ld h3 ((a3.add 2).add 2) (Value.int .i64) fun t16_2 =>
 Ld h3 ((a3.add 2).add 3) (Value.int .i64) fun t16_3 =>
 Ld h3 ((a3.add 2).add 4) (Sl.v) fun t16_4 =>
 New h3 #[(.int .i64 (0:Int)), (.int .i64 (0:Int)), (.int .i64 (0:Int)), (.int .i64 (0:Int)), (.slice none 0 0)] 61 fun a4 h4 =>
 St h4 a4 (.int .i64 t16_0) fun h5 =>
 St h5 (a4.add 1) (.int .i64 t16_1) fun h6 =>
 St h6 (a4.add 2) (.int .i64 t16_2) fun h7 =>
 St h7 (a4.add 3) (.int .i64 t16_3) fun h8 =>
 St h8 (a4.add 4) (Sl.v t16_4) fun h9 =>
 Ld h9 a4 (Value.int .i64) fun t19 =>
 Fn22 w t19 (1:Int) h9 (fun h10 =>
 Ld h10 a4 (Value.int .i64) fun t22 =>
 If (t22 == (14:Int)) (
 J43_3 w a4 t22 (t22 == (14:Int)) K Kp h10) (
 J43_3 w a4 t22 (t22 == (16:Int)) K Kp h10)) Kp) Kp) Kp
theorem Fn43.of {w : Option Addr} {f_0 : ByteArray} {f_1:Bool} {f_2:Int} {f_3:Int} {f_4:Int} {f_5:Int} {f_6:Sl} {h:Hp} {K:HP} {Kp:PK} (H : S43 w f_0 f_1 f_2 f_3 f_4 f_5 f_6 h K Kp) : Fn43 w f_0 f_1 f_2 f_3 f_4 f_5 f_6 h K Kp :=
 fn_of2 (P := Tryd.prog) (ann := ann43) (D := DrawSem Tryd.prog ord43) (drawOk _) (c := code43) (zs := []) (args := [(.pointer w), (.agg #[(.string f_0), (.bool f_1), (.int .i64 f_2), (.int .i64 f_3), (.int .i64 f_4), (.int .i64 f_5), (Sl.v f_6)])]) (Kv := kv43 K) (Kp := Kp) (h := h) Tryd.func43 (by kernel_rfl) H (by kernel_rfl) (by kernel_rfl)
/- ### 44: text -/
noncomputable def code44 : Code := Tryd.f44.body.getD .skip
def ann44 : Ann := []
def ord44 : List (Nat × OT × List Nat) := []
def kv44 (K:HP) : Value → HP := fun _ h => K h
def S44 (w : Option Addr) (s : ByteArray) (width:Int) (h:Hp) (K:HP) (Kp:PK) : Prop :=
 Fn22 w (s.size:Int) width h (fun h1 =>
 NN w fun p13 =>
 Ld h1 p13 (Sl.v) fun t15 =>
 Ap h1 5 #[(.int .u8 (0:Int))] 1 1 t15 s.size (fun vs => vs = s.data.toList.map fun b => Value.int .u8 b.toNat) fun t17 h2 =>
 NN w fun p18 =>
 St h2 p18 (Sl.v t17) fun h3 =>
 K  h3) Kp
theorem Fn44.of {w : Option Addr} {s : ByteArray} {width:Int} {h:Hp} {K:HP} {Kp:PK} (H : S44 w s width h K Kp) : Fn44 w s width h K Kp :=
 fn_of2 (P := Tryd.prog) (ann := ann44) (D := DrawSem Tryd.prog ord44) (drawOk _) (c := code44) (zs := []) (args := [(.pointer w), (.string s), (.int .i64 width)]) (Kv := kv44 K) (Kp := Kp) (h := h) Tryd.func44 (by kernel_rfl) H (by kernel_rfl) (by kernel_rfl)
/- ### 45: among -/
noncomputable def code45 : Code := Tryd.f45.body.getD .skip
def ann45 : Ann := []
def ord45 : List (Nat × OT × List Nat) := []
def kv45 (K : Int → HP) : Value → HP := fun v h => match v with | .int _ r0 => (K r0 h) | _ => False
def S45 (r : Option Addr) (low:Int) (high:Int) (h:Hp) (K : Int → HP) (Kp:PK) : Prop :=
 NN r fun p10 =>
 Ld h (p10.add 1) (Value.int .i64) fun t12 =>
 Fn47 r (1:Int) h (fun t14 h1 =>
 If (decide (t14 < low)) (
 Kp [{ v := (.iface 69 (.agg #[(.int .i64 (8:Int)), (.int .i64 t12)])), recovered := false }] h1) (
 If (decide (t14 > high)) (
 Kp [{ v := (.iface 69 (.agg #[(.int .i64 (8:Int)), (.int .i64 t12)])), recovered := false }] h1) (
 K t14 h1))) Kp
theorem Fn45.of {r : Option Addr} {low:Int} {high:Int} {h:Hp} {K : Int → HP} {Kp:PK} (H : S45 r low high h K Kp) : Fn45 r low high h K Kp :=
 fn_of2 (P := Tryd.prog) (ann := ann45) (D := DrawSem Tryd.prog ord45) (drawOk _) (c := code45) (zs := [(.int .i64 (0:Int))]) (args := [(.pointer r), (.int .i64 low), (.int .i64 high)]) (Kv := kv45 K) (Kp := Kp) (h := h) Tryd.func45 (by kernel_rfl) H (by kernel_rfl) (by kernel_rfl)
/- ### 46: schema -/
noncomputable def code46 : Code := Tryd.f46.body.getD .skip
def ann46 : Ann := [(2000006, [0, 2, 3]), (2007, [0, 2, 3, 18, 19]), (2003, [0, 2, 3, 6, 7])]
def ord46 : List (Nat × OT × List Nat) := [(9, (OT.l [0, 1, 2, 3, 4, 5, 6, 7, 8, 9] .fin), [0, 1, 0, 0, 8, 28, 60, 127, 255, 511]), (4, (OT.l [0, 1, 2, 3, 4, 5, 6, 7] .fin), [0, 1, 0, 4, 12, 31, 63, 127])]
def kv46 (K : Sl → Sl → HP) : Value → HP := fun v h => match v with | .agg cs0 => (match (cs0.toList.getD 0 undef) with | .slice r0_0a r0_0n r0_0c => (let r0_0 : Sl := ⟨r0_0a, r0_0n, r0_0c⟩; match (cs0.toList.getD 1 undef) with | .slice r0_1a r0_1n r0_1c => (let r0_1 : Sl := ⟨r0_1a, r0_1n, r0_1c⟩; K r0_0 r0_1 h) | _ => False) | _ => False) | _ => False
def q46 (K : Sl → Sl → HP) : Qt := retQ Tryd.prog Tryd.f46.results.toList [(.agg #[(.slice none 0 0), (.slice none 0 0)])] (kv46 K)
abbrev mk46_2 (x0 : Option Addr) (x2:Addr) (x3:Addr) (x18:Int) (x19:Int) : Fr := ([some (.pointer x0), none, some (.pointer (some x2)), some (.pointer (some x3)), none, none, none, none, none, none, none, none, none, none, none, none, none, none, some (.int .i64 x18), some (.int .i64 x19)] ++ nn 14)
def T46_2 (x0 : Option Addr) (x2:Addr) (x3:Addr) (x18:Int) (K : Sl → Sl → HP) (Kp:PK) (N1 : Fr → HP) (x19:Int) (h:Hp) : Prop :=
 If (decide (x19 < x18)) (
 Fn59 x0 (2:Int) h (fun t22 h1 =>
 Ld h1 (x3.add 1) (Sl.v) fun t24 =>
 Fn59 x0 (2:Int) h1 (fun t27 h2 =>
 Keep h1 h2 (x3.add 1) 1 <|
 New h2 #[(.string t22), (.string t27)] 66 fun a29 h3 =>
 Keep h2 h3 (x3.add 1) 1 <|
 Ap h3 66 #[(.string (bs [])), (.string (bs []))] 2 32 t24 1 (rd h3 (some a29) (1 * 2)) fun t30 h4 =>
 St h4 (x3.add 1) (Sl.v t30) fun h5 =>
 Wr .i64 (x19 + (1:Int)) fun t32 =>
 N1 (mk46_2 x0 x2 x3 x18 t32) h5) Kp) Kp) (
 Ld h x3 (Sl.v) fun t33_0 =>
 Ld h (x3.add 1) (Sl.v) fun t33_1 =>
 St h x2 (Sl.v t33_0) fun h1 =>
 St h1 (x2.add 1) (Sl.v t33_1) fun h2 =>
 Ld h2 x2 (Sl.v) fun r0_0 =>
 Ld h2 (x2.add 1) (Sl.v) fun r0_1 =>
 K r0_0 r0_1 h2)
def L46_2 (x0 : Option Addr) (x2:Addr) (x3:Addr) (x18:Int) (K : Sl → Sl → HP) (Kp:PK) (x19:Int) (h:Hp) : Prop :=
 LoopH (fun N fr h => sem Tryd.prog ann46 (Dw ord46) none (sub [1, 1, 1, 0, 1, 0, 0] code46) (thenQ (fun fr' h' => N (Ann.find ann46 2007 fr') h') (ctxQ Tryd.prog ann46 (Dw ord46) none Kp [1, 1, 1, 0, 1, 0] code46 [] (q46 K))) Kp fr h) (mk46_2 x0 x2 x3 x18 x19) h
theorem L46_2.rule {x0 : Option Addr} {x2:Addr} {x3:Addr} {x18:Int} {K : Sl → Sl → HP} {Kp:PK} (I : Int → HP) (μ : Int → Hp → Nat) {x19:Int} {h:Hp} (h0 : I x19 h)
 (step : ∀ (x19:Int) (h:Hp), I x19 h → ∀ N1 : Fr → HP, (∀ (x19':Int) (h':Hp), I x19' h' → μ x19' h' < μ x19 h → N1 (mk46_2 x0 x2 x3 x18 x19') h') → T46_2 x0 x2 x3 x18 K Kp N1 x19 h) : L46_2 x0 x2 x3 x18 K Kp x19 h :=
 loop_rule (σ := Int) (fun s => mk46_2 x0 x2 x3 x18 s) (fun N s h => T46_2 x0 x2 x3 x18 K Kp N s h) (fun N s h => by kernel_rfl) (fun s h => I s h) (fun s h => μ s h) (s0 := x19) h0 (fun s h hI N hN => step s h hI N (fun x19' h' hI' hl => hN x19' h' hI' hl))
def JT46_1 (x0 : Option Addr) (x2:Addr) (x3:Addr) (K : Sl → Sl → HP) (Kp:PK) (h:Hp) : Prop :=
 Fn47 x0 (2:Int) h (fun t18 h1 =>
 L46_2 x0 x2 x3 t18 K Kp (0:Int) h1) Kp
def J46_1 (x0 : Option Addr) (x2:Addr) (x3:Addr) (K : Sl → Sl → HP) (Kp:PK) (h:Hp) : Prop :=
 Joint (sem Tryd.prog ann46 (Dw ord46) none (sub [1, 1, 1] code46) (ctxQ Tryd.prog ann46 (Dw ord46) none Kp [1, 1, 1] code46 [] (q46 K)) Kp (([some (.pointer x0), none, some (.pointer (some x2)), some (.pointer (some x3))] ++ nn 30)) h)
theorem J46_1.of {x0 : Option Addr} {x2:Addr} {x3:Addr} {K : Sl → Sl → HP} {Kp:PK} {h:Hp} (H : JT46_1 x0 x2 x3 K Kp h) : J46_1 x0 x2 x3 K Kp h :=
 Joint.mk (Eq.mp (by kernel_rfl) H)
abbrev mk46_3 (x0 : Option Addr) (x2:Addr) (x3:Addr) (x6:Int) (x7:Int) : Fr := ([some (.pointer x0), none, some (.pointer (some x2)), some (.pointer (some x3)), none, none, some (.int .i64 x6), some (.int .i64 x7)] ++ nn 26)
def T46_3 (x0 : Option Addr) (x2:Addr) (x3:Addr) (x6:Int) (K : Sl → Sl → HP) (Kp:PK) (N1 : Fr → HP) (x7:Int) (h:Hp) : Prop :=
 If (decide (x7 < x6)) (
 Ld h x3 (Sl.v) fun t10 =>
 Fn58 x0 (0:Int) h (fun t12_0 t12_1 t12_2 t12_3 t12_4 t12_5 t12_6 h1 =>
 Keep h h1 x3 1 <|
 New h1 #[(.string t12_0), (.bool t12_1), (.int .i64 t12_2), (.int .i64 t12_3), (.int .i64 t12_4), (.int .i64 t12_5), (Sl.v t12_6)] 63 fun a13 h2 =>
 Keep h1 h2 x3 1 <|
 Ap h2 63 #[(.string (bs [])), (.bool false), (.int .i64 (0:Int)), (.int .i64 (0:Int)), (.int .i64 (0:Int)), (.int .i64 (0:Int)), (.slice none 0 0)] 7 80 t10 1 (rd h2 (some a13) (1 * 7)) fun t14 h3 =>
 St h3 x3 (Sl.v t14) fun h4 =>
 Wr .i64 (x7 + (1:Int)) fun t16 =>
 N1 (mk46_3 x0 x2 x3 x6 t16) h4) Kp) (
 J46_1 x0 x2 x3 K Kp h)
def L46_3 (x0 : Option Addr) (x2:Addr) (x3:Addr) (x6:Int) (K : Sl → Sl → HP) (Kp:PK) (x7:Int) (h:Hp) : Prop :=
 LoopH (fun N fr h => sem Tryd.prog ann46 (Dw ord46) none (sub [1, 1, 0, 1, 0, 0] code46) (thenQ (fun fr' h' => N (Ann.find ann46 2003 fr') h') (ctxQ Tryd.prog ann46 (Dw ord46) none Kp [1, 1, 0, 1, 0] code46 [] (q46 K))) Kp fr h) (mk46_3 x0 x2 x3 x6 x7) h
theorem L46_3.rule {x0 : Option Addr} {x2:Addr} {x3:Addr} {x6:Int} {K : Sl → Sl → HP} {Kp:PK} (I : Int → HP) (μ : Int → Hp → Nat) {x7:Int} {h:Hp} (h0 : I x7 h)
 (step : ∀ (x7:Int) (h:Hp), I x7 h → ∀ N1 : Fr → HP, (∀ (x7':Int) (h':Hp), I x7' h' → μ x7' h' < μ x7 h → N1 (mk46_3 x0 x2 x3 x6 x7') h') → T46_3 x0 x2 x3 x6 K Kp N1 x7 h) : L46_3 x0 x2 x3 x6 K Kp x7 h :=
 loop_rule (σ := Int) (fun s => mk46_3 x0 x2 x3 x6 s) (fun N s h => T46_3 x0 x2 x3 x6 K Kp N s h) (fun N s h => by kernel_rfl) (fun s h => I s h) (fun s h => μ s h) (s0 := x7) h0 (fun s h hI N hN => step s h hI N (fun x7' h' hI' hl => hN x7' h' hI' hl))
def S46 (r : Option Addr) (h:Hp) (K : Sl → Sl → HP) (Kp:PK) : Prop :=
 New h #[(.slice none 0 0), (.slice none 0 0)] 25 fun a2 h1 =>
 New h1 #[(.slice none 0 0), (.slice none 0 0)] 25 fun a3 h2 =>
 Fn47 r (2:Int) h2 (fun t6 h3 =>
 L46_3 r a2 a3 t6 K Kp (0:Int) h3) Kp
theorem Fn46.of {r : Option Addr} {h:Hp} {K : Sl → Sl → HP} {Kp:PK} (H : S46 r h K Kp) : Fn46 r h K Kp :=
 fn_of2 (P := Tryd.prog) (ann := ann46) (D := DrawSem Tryd.prog ord46) (drawOk _) (c := code46) (zs := [(.agg #[(.slice none 0 0), (.slice none 0 0)])]) (args := [(.pointer r)]) (Kv := kv46 K) (Kp := Kp) (h := h) Tryd.func46 (by kernel_rfl) H (by kernel_rfl) (by kernel_rfl)
/- ### 47: number -/
noncomputable def code47 : Code := Tryd.f47.body.getD .skip
def ann47 : Ann := [(2003, [5, 10, 11, 12])]
def ord47 : List (Nat × OT × List Nat) := []
def kv47 (K : Int → HP) : Value → HP := fun v h => match v with | .int _ r0 => (K r0 h) | _ => False
def q47 (K : Int → HP) : Qt := retQ Tryd.prog Tryd.f47.results.toList [(.int .i64 (0:Int))] (kv47 K)
abbrev mk47_1 (x10:Sl) (x11:Int) (x5:Int) (x12:Int) : Fr := ([none, none, none, none, none, some (.int .i64 x5), none, none, none, none, some (Sl.v x10), some (.int .i64 x11), some (.int .i64 x12)] ++ nn 13)
def T47_1 (x10:Sl) (x11:Int) (K : Int → HP) (Kp:PK) (N1 : Fr → HP) (x5:Int) (x12:Int) (h:Hp) : Prop :=
 If (decide (x12 < x11)) (
 Ix x10.a x10.n 1 x12 fun a15 =>
 Ld h a15 (Value.int .u8) fun t16 =>
 Wr .i64 t16 fun t19 =>
 Wr .i64 ((8:Int) * x12) fun t21 =>
 Nn t21 <| Wr .i64 (t19 * 2 ^ (min (Int.toNat t21) (IntKind.bits .i64))) fun t22 =>
 Lt (bitsV .or .i64 x5 t22) fun t23 =>
 Wr .i64 (x12 + (1:Int)) fun t24 =>
 N1 (mk47_1 x10 x11 t23 t24) h) (
 K x5 h)
def L47_1 (x10:Sl) (x11:Int) (K : Int → HP) (Kp:PK) (x5:Int) (x12:Int) (h:Hp) : Prop :=
 LoopH (fun N fr h => sem Tryd.prog ann47 (Dw ord47) none (sub [1, 1, 0, 1, 0, 0] code47) (thenQ (fun fr' h' => N (Ann.find ann47 2003 fr') h') (ctxQ Tryd.prog ann47 (Dw ord47) none Kp [1, 1, 0, 1, 0] code47 [] (q47 K))) Kp fr h) (mk47_1 x10 x11 x5 x12) h
theorem L47_1.rule {x10:Sl} {x11:Int} {K : Int → HP} {Kp:PK} (I : Int → Int → HP) (μ : Int → Int → Hp → Nat) {x5:Int} {x12:Int} {h:Hp} (h0 : I x5 x12 h)
 (step : ∀ (x5:Int) (x12:Int) (h:Hp), I x5 x12 h → ∀ N1 : Fr → HP, (∀ (x5':Int) (x12':Int) (h':Hp), I x5' x12' h' → μ x5' x12' h' < μ x5 x12 h → N1 (mk47_1 x10 x11 x5' x12') h') → T47_1 x10 x11 K Kp N1 x5 x12 h) : L47_1 x10 x11 K Kp x5 x12 h :=
 loop_rule (σ := Int × Int) (fun s => mk47_1 x10 x11 s.1 s.2) (fun N s h => T47_1 x10 x11 K Kp N s.1 s.2 h) (fun N s h => by kernel_rfl) (fun s h => I s.1 s.2 h) (fun s h => μ s.1 s.2 h) (s0 := ⟨x5, x12⟩) h0 (fun s h hI N hN => step s.1 s.2 h hI N (fun x5' x12' h' hI' hl => hN ⟨x5', x12'⟩ h' hI' hl))
def S47 (r : Option Addr) (width:Int) (h:Hp) (K : Int → HP) (Kp:PK) : Prop :=
 Fn60 r width h (fun t10 h1 =>
 L47_1 t10 (t10.n:Int) K Kp (0:Int) (0:Int) h1) Kp
theorem Fn47.of {r : Option Addr} {width:Int} {h:Hp} {K : Int → HP} {Kp:PK} (H : S47 r width h K Kp) : Fn47 r width h K Kp :=
 fn_of2 (P := Tryd.prog) (ann := ann47) (D := DrawSem Tryd.prog ord47) (drawOk _) (c := code47) (zs := [(.int .i64 (0:Int))]) (args := [(.pointer r), (.int .i64 width)]) (Kv := kv47 K) (Kp := Kp) (h := h) Tryd.func47 (by kernel_rfl) H (by kernel_rfl) (by kernel_rfl)
/- ### 48: field -/
noncomputable def code48 : Code := Tryd.f48.body.getD .skip
def ann48 : Ann := [(2000008, [0, 1, 4, 5]), (2000029, [0, 1, 4, 5, 7]), (2030, [0, 1, 4, 5, 7, 8])]
def ord48 : List (Nat × OT × List Nat) := []
def kv48 (K : ByteArray → Bool → Int → Int → Int → Int → Sl → HP) : Value → HP := fun v h => match v with | .agg cs0 => (match (cs0.toList.getD 0 undef) with | .string r0_0 => (match (cs0.toList.getD 1 undef) with | .bool r0_1 => (match (cs0.toList.getD 2 undef) with | .int _ r0_2 => (match (cs0.toList.getD 3 undef) with | .int _ r0_3 => (match (cs0.toList.getD 4 undef) with | .int _ r0_4 => (match (cs0.toList.getD 5 undef) with | .int _ r0_5 => (match (cs0.toList.getD 6 undef) with | .slice r0_6a r0_6n r0_6c => (let r0_6 : Sl := ⟨r0_6a, r0_6n, r0_6c⟩; K r0_0 r0_1 r0_2 r0_3 r0_4 r0_5 r0_6 h) | _ => False) | _ => False) | _ => False) | _ => False) | _ => False) | _ => False) | _ => False) | _ => False
def q48 (K : ByteArray → Bool → Int → Int → Int → Int → Sl → HP) : Qt := retQ Tryd.prog Tryd.f48.results.toList [(.agg #[(.string (bs [])), (.bool false), (.int .i64 (0:Int)), (.int .i64 (0:Int)), (.int .i64 (0:Int)), (.int .i64 (0:Int)), (.slice none 0 0)])] (kv48 K)
abbrev mk48_3 (x0 : Option Addr) (x1:Int) (x4:Addr) (x5:Addr) (x7:Int) (x8:Int) : Fr := ([some (.pointer x0), some (.int .i64 x1), none, none, some (.pointer (some x4)), some (.pointer (some x5)), none, some (.int .i64 x7), some (.int .i64 x8)] ++ nn 101)
def T48_3 (x0 : Option Addr) (x1:Int) (x4:Addr) (x5:Addr) (x7:Int) (K : ByteArray → Bool → Int → Int → Int → Int → Sl → HP) (Kp:PK) (N1 : Fr → HP) (x8:Int) (h:Hp) : Prop :=
 If (decide (x8 < x7)) (
 NN x0 fun p91 =>
 Ld h (p91.add 3) (Value.int .i64) fun t94 =>
 If (t94 != (0:Int)) (
 Ld h x5 (Value.string) fun t96_0 =>
 Ld h (x5.add 1) (Value.bool) fun t96_1 =>
 Ld h (x5.add 2) (Value.int .i64) fun t96_2 =>
 Ld h (x5.add 3) (Value.int .i64) fun t96_3 =>
 Ld h (x5.add 4) (Value.int .i64) fun t96_4 =>
 Ld h (x5.add 5) (Value.int .i64) fun t96_5 =>
 Ld h (x5.add 6) (Sl.v) fun t96_6 =>
 St h x4 (.string t96_0) fun h1 =>
 St h1 (x4.add 1) (.bool t96_1) fun h2 =>
 St h2 (x4.add 2) (.int .i64 t96_2) fun h3 =>
 St h3 (x4.add 3) (.int .i64 t96_3) fun h4 =>
 St h4 (x4.add 4) (.int .i64 t96_4) fun h5 =>
 St h5 (x4.add 5) (.int .i64 t96_5) fun h6 =>
 St h6 (x4.add 6) (Sl.v t96_6) fun h7 =>
 Ld h7 x4 (Value.string) fun r0_0 =>
 Ld h7 (x4.add 1) (Value.bool) fun r0_1 =>
 Ld h7 (x4.add 2) (Value.int .i64) fun r0_2 =>
 Ld h7 (x4.add 3) (Value.int .i64) fun r0_3 =>
 Ld h7 (x4.add 4) (Value.int .i64) fun r0_4 =>
 Ld h7 (x4.add 5) (Value.int .i64) fun r0_5 =>
 Ld h7 (x4.add 6) (Sl.v) fun r0_6 =>
 K r0_0 r0_1 r0_2 r0_3 r0_4 r0_5 r0_6 h7) (
 Wr .i64 (x1 + (1:Int)) fun t99 =>
 Fn48 x0 t99 h (fun t100_0 t100_1 t100_2 t100_3 t100_4 t100_5 t100_6 h1 =>
 New h1 #[(.string (bs [])), (.bool false), (.int .i64 (0:Int)), (.int .i64 (0:Int)), (.int .i64 (0:Int)), (.int .i64 (0:Int)), (.slice none 0 0)] 63 fun a9 h2 =>
 St h2 a9 (.string t100_0) fun h3 =>
 St h3 (a9.add 1) (.bool t100_1) fun h4 =>
 St h4 (a9.add 2) (.int .i64 t100_2) fun h5 =>
 St h5 (a9.add 3) (.int .i64 t100_3) fun h6 =>
 St h6 (a9.add 4) (.int .i64 t100_4) fun h7 =>
 St h7 (a9.add 5) (.int .i64 t100_5) fun h8 =>
 St h8 (a9.add 6) (Sl.v t100_6) fun h9 =>
 Ld h9 ((x5.add 2).add 4) (Sl.v) fun t103 =>
 Ld h9 a9 (Value.string) fun t104_0 =>
 Ld h9 (a9.add 1) (Value.bool) fun t104_1 =>
 Ld h9 (a9.add 2) (Value.int .i64) fun t104_2 =>
 Ld h9 (a9.add 3) (Value.int .i64) fun t104_3 =>
 Ld h9 (a9.add 4) (Value.int .i64) fun t104_4 =>
 Ld h9 (a9.add 5) (Value.int .i64) fun t104_5 =>
 Ld h9 (a9.add 6) (Sl.v) fun t104_6 =>
 New h9 #[(.string t104_0), (.bool t104_1), (.int .i64 t104_2), (.int .i64 t104_3), (.int .i64 t104_4), (.int .i64 t104_5), (Sl.v t104_6)] 63 fun a105 h10 =>
 Ap h10 63 #[(.string (bs [])), (.bool false), (.int .i64 (0:Int)), (.int .i64 (0:Int)), (.int .i64 (0:Int)), (.int .i64 (0:Int)), (.slice none 0 0)] 7 80 t103 1 (rd h10 (some a105) (1 * 7)) fun t106 h11 =>
 St h11 ((x5.add 2).add 4) (Sl.v t106) fun h12 =>
 Wr .i64 (x8 + (1:Int)) fun t89 =>
 N1 (mk48_3 x0 x1 x4 x5 x7 t89) h12) Kp)) (
 Ld h x5 (Value.string) fun t109_0 =>
 Ld h (x5.add 1) (Value.bool) fun t109_1 =>
 Ld h (x5.add 2) (Value.int .i64) fun t109_2 =>
 Ld h (x5.add 3) (Value.int .i64) fun t109_3 =>
 Ld h (x5.add 4) (Value.int .i64) fun t109_4 =>
 Ld h (x5.add 5) (Value.int .i64) fun t109_5 =>
 Ld h (x5.add 6) (Sl.v) fun t109_6 =>
 St h x4 (.string t109_0) fun h1 =>
 St h1 (x4.add 1) (.bool t109_1) fun h2 =>
 St h2 (x4.add 2) (.int .i64 t109_2) fun h3 =>
 St h3 (x4.add 3) (.int .i64 t109_3) fun h4 =>
 St h4 (x4.add 4) (.int .i64 t109_4) fun h5 =>
 St h5 (x4.add 5) (.int .i64 t109_5) fun h6 =>
 St h6 (x4.add 6) (Sl.v t109_6) fun h7 =>
 Ld h7 x4 (Value.string) fun r0_0 =>
 Ld h7 (x4.add 1) (Value.bool) fun r0_1 =>
 Ld h7 (x4.add 2) (Value.int .i64) fun r0_2 =>
 Ld h7 (x4.add 3) (Value.int .i64) fun r0_3 =>
 Ld h7 (x4.add 4) (Value.int .i64) fun r0_4 =>
 Ld h7 (x4.add 5) (Value.int .i64) fun r0_5 =>
 Ld h7 (x4.add 6) (Sl.v) fun r0_6 =>
 K r0_0 r0_1 r0_2 r0_3 r0_4 r0_5 r0_6 h7)
def L48_3 (x0 : Option Addr) (x1:Int) (x4:Addr) (x5:Addr) (x7:Int) (K : ByteArray → Bool → Int → Int → Int → Int → Sl → HP) (Kp:PK) (x8:Int) (h:Hp) : Prop :=
 LoopH (fun N fr h => sem Tryd.prog ann48 (Dw ord48) none (sub [1, 1, 1, 1, 1, 1, 1, 1, 1, 1, 1, 0, 1, 0, 0] code48) (thenQ (fun fr' h' => N (Ann.find ann48 2030 fr') h') (ctxQ Tryd.prog ann48 (Dw ord48) none Kp [1, 1, 1, 1, 1, 1, 1, 1, 1, 1, 1, 0, 1, 0] code48 [] (q48 K))) Kp fr h) (mk48_3 x0 x1 x4 x5 x7 x8) h
theorem L48_3.rule {x0 : Option Addr} {x1:Int} {x4:Addr} {x5:Addr} {x7:Int} {K : ByteArray → Bool → Int → Int → Int → Int → Sl → HP} {Kp:PK} (I : Int → HP) (μ : Int → Hp → Nat) {x8:Int} {h:Hp} (h0 : I x8 h)
 (step : ∀ (x8:Int) (h:Hp), I x8 h → ∀ N1 : Fr → HP, (∀ (x8':Int) (h':Hp), I x8' h' → μ x8' h' < μ x8 h → N1 (mk48_3 x0 x1 x4 x5 x7 x8') h') → T48_3 x0 x1 x4 x5 x7 K Kp N1 x8 h) : L48_3 x0 x1 x4 x5 x7 K Kp x8 h :=
 loop_rule (σ := Int) (fun s => mk48_3 x0 x1 x4 x5 x7 s) (fun N s h => T48_3 x0 x1 x4 x5 x7 K Kp N s h) (fun N s h => by kernel_rfl) (fun s h => I s h) (fun s h => μ s h) (s0 := x8) h0 (fun s h hI N hN => step s h hI N (fun x8' h' hI' hl => hN x8' h' hI' hl))
def JT48_2 (x0 : Option Addr) (x1:Int) (x4:Addr) (x5:Addr) (x7:Int) (K : ByteArray → Bool → Int → Int → Int → Int → Sl → HP) (Kp:PK) (h:Hp) : Prop :=
 L48_3 x0 x1 x4 x5 x7 K Kp (0:Int) h
def J48_2 (x0 : Option Addr) (x1:Int) (x4:Addr) (x5:Addr) (x7:Int) (K : ByteArray → Bool → Int → Int → Int → Int → Sl → HP) (Kp:PK) (h:Hp) : Prop :=
 Joint (sem Tryd.prog ann48 (Dw ord48) none (sub [1, 1, 1, 1, 1, 1, 1, 1, 1, 1, 1] code48) (ctxQ Tryd.prog ann48 (Dw ord48) none Kp [1, 1, 1, 1, 1, 1, 1, 1, 1, 1, 1] code48 [] (q48 K)) Kp (([some (.pointer x0), some (.int .i64 x1), none, none, some (.pointer (some x4)), some (.pointer (some x5)), none, some (.int .i64 x7)] ++ nn 102)) h)
theorem J48_2.of {x0 : Option Addr} {x1:Int} {x4:Addr} {x5:Addr} {x7:Int} {K : ByteArray → Bool → Int → Int → Int → Int → Sl → HP} {Kp:PK} {h:Hp} (H : JT48_2 x0 x1 x4 x5 x7 K Kp h) : J48_2 x0 x1 x4 x5 x7 K Kp h :=
 Joint.mk (Eq.mp (by kernel_rfl) H)
def JT48_1 (x0 : Option Addr) (x1:Int) (x4:Addr) (x5:Addr) (K : ByteArray → Bool → Int → Int → Int → Int → Sl → HP) (Kp:PK) (h:Hp) : Prop :=
 Fn49 x0 (1:Int) h (fun t41 h1 =>
 St h1 x5 (.string t41) fun h2 =>
 Fn31 x0 (0:Int) (1:Int) h2 (fun t44 h3 =>
 St h3 (x5.add 1) (.bool (t44 == (1:Int))) fun h4 =>
 Fn31 x0 (1:Int) (20:Int) h4 (fun t49 h5 =>
 St h5 (x5.add 2) (.int .i64 t49) fun h6 =>
 Ld h6 (x5.add 2) (Value.int .i64) fun t54 =>
 If (t54 == (14:Int)) (
 Fn33 x0 (2:Int) h6 (fun t58 h7 =>
 St h7 ((x5.add 2).add 1) (.int .i64 t58) fun h8 =>
 J48_2 x0 x1 x4 x5 (0:Int) K Kp h8) Kp) (
 If (t54 == (16:Int)) (
 Fn33 x0 (2:Int) h6 (fun t64 h7 =>
 St h7 ((x5.add 2).add 1) (.int .i64 t64) fun h8 =>
 J48_2 x0 x1 x4 x5 (1:Int) K Kp h8) Kp) (
 If (t54 == (19:Int)) (
 Fn33 x0 (2:Int) h6 (fun t70 h7 =>
 St h7 ((x5.add 2).add 2) (.int .i64 t70) fun h8 =>
 Fn33 x0 (1:Int) h8 (fun t74 h9 =>
 St h9 ((x5.add 2).add 3) (.int .i64 t74) fun h10 =>
 J48_2 x0 x1 x4 x5 (1:Int) K Kp h10) Kp) Kp) (
 If (t54 == (17:Int)) (
 If (t54 == (17:Int)) (
 Fn33 x0 (1:Int) h6 (fun t81 h7 =>
 J48_2 x0 x1 x4 x5 t81 K Kp h7) Kp) (
 If (t54 == (15:Int)) (
 If (t54 == (15:Int)) (
 J48_2 x0 x1 x4 x5 (1:Int) K Kp h6) (
 J48_2 x0 x1 x4 x5 (0:Int) K Kp h6)) (
 If (t54 == (20:Int)) (
 J48_2 x0 x1 x4 x5 (1:Int) K Kp h6) (
 J48_2 x0 x1 x4 x5 (0:Int) K Kp h6)))) (
 If (t54 == (18:Int)) (
 Fn33 x0 (1:Int) h6 (fun t81 h7 =>
 J48_2 x0 x1 x4 x5 t81 K Kp h7) Kp) (
 If (t54 == (15:Int)) (
 If (t54 == (15:Int)) (
 J48_2 x0 x1 x4 x5 (1:Int) K Kp h6) (
 J48_2 x0 x1 x4 x5 (0:Int) K Kp h6)) (
 If (t54 == (20:Int)) (
 J48_2 x0 x1 x4 x5 (1:Int) K Kp h6) (
 J48_2 x0 x1 x4 x5 (0:Int) K Kp h6)))))))) Kp) Kp) Kp
def J48_1 (x0 : Option Addr) (x1:Int) (x4:Addr) (x5:Addr) (K : ByteArray → Bool → Int → Int → Int → Int → Sl → HP) (Kp:PK) (h:Hp) : Prop :=
 Joint (sem Tryd.prog ann48 (Dw ord48) none (sub [1, 1, 1, 1, 1] code48) (ctxQ Tryd.prog ann48 (Dw ord48) none Kp [1, 1, 1, 1, 1] code48 [] (q48 K)) Kp (([some (.pointer x0), some (.int .i64 x1), none, none, some (.pointer (some x4)), some (.pointer (some x5))] ++ nn 104)) h)
theorem J48_1.of {x0 : Option Addr} {x1:Int} {x4:Addr} {x5:Addr} {K : ByteArray → Bool → Int → Int → Int → Int → Sl → HP} {Kp:PK} {h:Hp} (H : JT48_1 x0 x1 x4 x5 K Kp h) : J48_1 x0 x1 x4 x5 K Kp h :=
 Joint.mk (Eq.mp (by kernel_rfl) H)
def S48 (r : Option Addr) (around:Int) (h:Hp) (K : ByteArray → Bool → Int → Int → Int → Int → Sl → HP) (Kp:PK) : Prop :=
 New h #[(.string (bs [])), (.bool false), (.int .i64 (0:Int)), (.int .i64 (0:Int)), (.int .i64 (0:Int)), (.int .i64 (0:Int)), (.slice none 0 0)] 63 fun a4 h1 =>
 New h1 #[(.string (bs [])), (.bool false), (.int .i64 (0:Int)), (.int .i64 (0:Int)), (.int .i64 (0:Int)), (.int .i64 (0:Int)), (.slice none 0 0)] 63 fun a5 h2 =>
 NN r fun p11 =>
 Ld h2 (p11.add 3) (Value.int .i64) fun t14 =>
 If (t14 != (0:Int)) (
 Ld h2 a5 (Value.string) fun t16_0 =>
 Ld h2 (a5.add 1) (Value.bool) fun t16_1 =>
 Ld h2 (a5.add 2) (Value.int .i64) fun t16_2 =>
 Ld h2 (a5.add 3) (Value.int .i64) fun t16_3 =>
 Ld h2 (a5.add 4) (Value.int .i64) fun t16_4 =>
 Ld h2 (a5.add 5) (Value.int .i64) fun t16_5 =>
 Ld h2 (a5.add 6) (Sl.v) fun t16_6 =>
 St h2 a4 (.string t16_0) fun h3 =>
 St h3 (a4.add 1) (.bool t16_1) fun h4 =>
 St h4 (a4.add 2) (.int .i64 t16_2) fun h5 =>
 St h5 (a4.add 3) (.int .i64 t16_3) fun h6 =>
 St h6 (a4.add 4) (.int .i64 t16_4) fun h7 =>
 St h7 (a4.add 5) (.int .i64 t16_5) fun h8 =>
 St h8 (a4.add 6) (Sl.v t16_6) fun h9 =>
 Ld h9 a4 (Value.string) fun r0_0 =>
 Ld h9 (a4.add 1) (Value.bool) fun r0_1 =>
 Ld h9 (a4.add 2) (Value.int .i64) fun r0_2 =>
 Ld h9 (a4.add 3) (Value.int .i64) fun r0_3 =>
 Ld h9 (a4.add 4) (Value.int .i64) fun r0_4 =>
 Ld h9 (a4.add 5) (Value.int .i64) fun r0_5 =>
 Ld h9 (a4.add 6) (Sl.v) fun r0_6 =>
 K r0_0 r0_1 r0_2 r0_3 r0_4 r0_5 r0_6 h9) (
 NN r fun p18 =>
 Ld h2 (p18.add 2) (Value.int .i64) fun t20 =>
 Wr .i64 (t20 + (1:Int)) fun t21 =>
 NN r fun p22 =>
 St h2 (p22.add 2) (.int .i64 t21) fun h3 =>
 NN r fun p25 =>
 Ld h3 (p25.add 2) (Value.int .i64) fun t27 =>
 If (decide (t27 > (256:Int))) (
 NN r fun p35 =>
 Ld h3 (p35.add 1) (Value.int .i64) fun t37 =>
 Fn35 r (50:Int) t37 h3 (fun h4 =>
 Ld h4 a5 (Value.string) fun t39_0 =>
 Ld h4 (a5.add 1) (Value.bool) fun t39_1 =>
 Ld h4 (a5.add 2) (Value.int .i64) fun t39_2 =>
 Ld h4 (a5.add 3) (Value.int .i64) fun t39_3 =>
 Ld h4 (a5.add 4) (Value.int .i64) fun t39_4 =>
 Ld h4 (a5.add 5) (Value.int .i64) fun t39_5 =>
 Ld h4 (a5.add 6) (Sl.v) fun t39_6 =>
 St h4 a4 (.string t39_0) fun h5 =>
 St h5 (a4.add 1) (.bool t39_1) fun h6 =>
 St h6 (a4.add 2) (.int .i64 t39_2) fun h7 =>
 St h7 (a4.add 3) (.int .i64 t39_3) fun h8 =>
 St h8 (a4.add 4) (.int .i64 t39_4) fun h9 =>
 St h9 (a4.add 5) (.int .i64 t39_5) fun h10 =>
 St h10 (a4.add 6) (Sl.v t39_6) fun h11 =>
 Ld h11 a4 (Value.string) fun r0_0 =>
 Ld h11 (a4.add 1) (Value.bool) fun r0_1 =>
 Ld h11 (a4.add 2) (Value.int .i64) fun r0_2 =>
 Ld h11 (a4.add 3) (Value.int .i64) fun r0_3 =>
 Ld h11 (a4.add 4) (Value.int .i64) fun r0_4 =>
 Ld h11 (a4.add 5) (Value.int .i64) fun r0_5 =>
 Ld h11 (a4.add 6) (Sl.v) fun r0_6 =>
 K r0_0 r0_1 r0_2 r0_3 r0_4 r0_5 r0_6 h11) Kp) (
 If (decide (around ≥ (64:Int))) (
 NN r fun p35 =>
 Ld h3 (p35.add 1) (Value.int .i64) fun t37 =>
 Fn35 r (50:Int) t37 h3 (fun h4 =>
 Ld h4 a5 (Value.string) fun t39_0 =>
 Ld h4 (a5.add 1) (Value.bool) fun t39_1 =>
 Ld h4 (a5.add 2) (Value.int .i64) fun t39_2 =>
 Ld h4 (a5.add 3) (Value.int .i64) fun t39_3 =>
 Ld h4 (a5.add 4) (Value.int .i64) fun t39_4 =>
 Ld h4 (a5.add 5) (Value.int .i64) fun t39_5 =>
 Ld h4 (a5.add 6) (Sl.v) fun t39_6 =>
 St h4 a4 (.string t39_0) fun h5 =>
 St h5 (a4.add 1) (.bool t39_1) fun h6 =>
 St h6 (a4.add 2) (.int .i64 t39_2) fun h7 =>
 St h7 (a4.add 3) (.int .i64 t39_3) fun h8 =>
 St h8 (a4.add 4) (.int .i64 t39_4) fun h9 =>
 St h9 (a4.add 5) (.int .i64 t39_5) fun h10 =>
 St h10 (a4.add 6) (Sl.v t39_6) fun h11 =>
 Ld h11 a4 (Value.string) fun r0_0 =>
 Ld h11 (a4.add 1) (Value.bool) fun r0_1 =>
 Ld h11 (a4.add 2) (Value.int .i64) fun r0_2 =>
 Ld h11 (a4.add 3) (Value.int .i64) fun r0_3 =>
 Ld h11 (a4.add 4) (Value.int .i64) fun r0_4 =>
 Ld h11 (a4.add 5) (Value.int .i64) fun r0_5 =>
 Ld h11 (a4.add 6) (Sl.v) fun r0_6 =>
 K r0_0 r0_1 r0_2 r0_3 r0_4 r0_5 r0_6 h11) Kp) (
 J48_1 r around a4 a5 K Kp h3)))
theorem Fn48.of {r : Option Addr} {around:Int} {h:Hp} {K : ByteArray → Bool → Int → Int → Int → Int → Sl → HP} {Kp:PK} (H : S48 r around h K Kp) : Fn48 r around h K Kp :=
 fn_of2 (P := Tryd.prog) (ann := ann48) (D := DrawSem Tryd.prog ord48) (drawOk _) (c := code48) (zs := [(.agg #[(.string (bs [])), (.bool false), (.int .i64 (0:Int)), (.int .i64 (0:Int)), (.int .i64 (0:Int)), (.int .i64 (0:Int)), (.slice none 0 0)])]) (args := [(.pointer r), (.int .i64 around)]) (Kv := kv48 K) (Kp := Kp) (h := h) Tryd.func48 (by kernel_rfl) H (by kernel_rfl) (by kernel_rfl)
/- ### 49: text -/
noncomputable def code49 : Code := Tryd.f49.body.getD .skip
def ann49 : Ann := []
def ord49 : List (Nat × OT × List Nat) := []
def kv49 (K : ByteArray → HP) : Value → HP := fun v h => match v with | .string r0 => (K r0 h) | _ => False
def S49 (r : Option Addr) (width:Int) (h:Hp) (K : ByteArray → HP) (Kp:PK) : Prop :=
 Fn33 r width h (fun t8 h1 =>
 Fn50 r t8 h1 (fun t11 h2 =>
 Bts h2 t11 fun t12 =>
 K t12 h2) Kp) Kp
theorem Fn49.of {r : Option Addr} {width:Int} {h:Hp} {K : ByteArray → HP} {Kp:PK} (H : S49 r width h K Kp) : Fn49 r width h K Kp :=
 fn_of2 (P := Tryd.prog) (ann := ann49) (D := DrawSem Tryd.prog ord49) (drawOk _) (c := code49) (zs := [(.string (bs []))]) (args := [(.pointer r), (.int .i64 width)]) (Kv := kv49 K) (Kp := Kp) (h := h) Tryd.func49 (by kernel_rfl) H (by kernel_rfl) (by kernel_rfl)
end Go.Proofs.YtfomkkdijjfpiaaDoor
