/- What the functions do, printed by program (gen.py) in the words of ShCore; each text is held against the loaded program by the kernel. -/
import Derived.Test.YtfomkkdijjfpiaaDoorKeepsF
set_option linter.unusedSimpArgs false
set_option linter.unusedVariables false
set_option maxRecDepth 100000
namespace Go.Proofs.YtfomkkdijjfpiaaDoor
open Go Go.Sh
/- ### 57: wrong -/
noncomputable def code57 : Code := Tryd.f57.body.getD .skip
def ann57 : Ann := [(1002900016, [7, 9, 48])]
def ord57 : List (Nat × OT × List Nat) := []
def kv57 (K : Int → HP) : Value → HP := fun v h => match v with | .int _ r0 => (K r0 h) | _ => False
def q57 (K : Int → HP) : Qt := retQ Tryd.prog Tryd.f57.results.toList [(.int .i64 (0:Int))] (kv57 K)
def JT57_1 (x7:Addr) (x9:Bool) (x48:Bool) (K : Int → HP) (Kp:PK) (h:Hp) : Prop :=
 If x48 (
 If x48 (
 K (36:Int) h) (
 K (0:Int) h)) (
 Ld h x7 (Value.int .i64) fun t62 =>
 If (t62 == (19:Int)) (
 Ld h (x7.add 4) (Sl.v) fun t66 =>
 Ix t66.a t66.n 7 (0:Int) fun a67 =>
 Ld h (a67.add 1) (Value.bool) fun t69 =>
 If t69 (
 K (36:Int) h) (
 If x9 (
 K (36:Int) h) (
 K (0:Int) h))) (
 K (0:Int) h))
def J57_1 (x7:Addr) (x9:Bool) (x48:Bool) (K : Int → HP) (Kp:PK) (h:Hp) : Prop :=
 Joint (sem Tryd.prog ann57 (Dw ord57) none (sub [1, 1, 1, 0, 0, 1, 1, 1, 1, 1, 1, 1, 1, 1, 1, 1, 1, 0, 1] code57) (ctxQ Tryd.prog ann57 (Dw ord57) none Kp [1, 1, 1, 0, 0, 1, 1, 1, 1, 1, 1, 1, 1, 1, 1, 1, 1, 0, 1] code57 [] (q57 K)) Kp (([none, none, none, none, none, none, none, some (.pointer (some x7)), none, some (.bool x9), none, none, none, none, none, none, none, none, none, none, none, none, none, none, none, none, none, none, none, none, none, none, none, none, none, none, none, none, none, none, none, none, none, none, none, none, none, none, some (.bool x48)] ++ nn 25)) h)
theorem J57_1.of {x7:Addr} {x9:Bool} {x48:Bool} {K : Int → HP} {Kp:PK} {h:Hp} (H : JT57_1 x7 x9 x48 K Kp h) : J57_1 x7 x9 x48 K Kp h :=
 Joint.mk (Eq.mp (by kernel_rfl) H)
def S57 (p_0:Sl) (p_1:Sl) (p_2 : ByteArray) (p_3:Bool) (p_4:Int) (p_5:Int) (p_6:Int) (p_7:Int) (p_8:Sl) (p_9:Bool) (ahead:Int) (ids : Option Nat) (h:Hp) (K : Int → HP) (Kp:PK) : Prop :=
 New h #[(Sl.v p_0), (Sl.v p_1), (.string p_2), (.bool p_3), (.int .i64 p_4), (.int .i64 p_5), (.int .i64 p_6), (.int .i64 p_7), (Sl.v p_8), (.bool p_9)] 104 fun a3 h1 =>
 Ld h1 ((a3.add 2).add 2) (Value.int .i64) fun t12_0 =>
 Ld h1 (((a3.add 2).add 2).add 1) (Value.int .i64) fun t12_1 =>
 Ld h1 (((a3.add 2).add 2).add 2) (Value.int .i64) fun t12_2 =>
 Ld h1 (((a3.add 2).add 2).add 3) (Value.int .i64) fun t12_3 =>
 Ld h1 (((a3.add 2).add 2).add 4) (Sl.v) fun t12_4 =>
 New h1 #[(.int .i64 (0:Int)), (.int .i64 (0:Int)), (.int .i64 (0:Int)), (.int .i64 (0:Int)), (.slice none 0 0)] 61 fun a7 h2 =>
 St h2 a7 (.int .i64 t12_0) fun h3 =>
 St h3 (a7.add 1) (.int .i64 t12_1) fun h4 =>
 St h4 (a7.add 2) (.int .i64 t12_2) fun h5 =>
 St h5 (a7.add 3) (.int .i64 t12_3) fun h6 =>
 St h6 (a7.add 4) (Sl.v t12_4) fun h7 =>
 Ld h7 (a7.add 2) (Value.int .i64) fun t16 =>
 Lk h7 ids (.int .i64) (.int .i64 t16) (.int .i64 (0:Int)) (Value.int .i64) fun t17 t17ok =>
 Ld h7 a3 (Sl.v) fun t22 =>
 If (decide ((t22.n:Int) > (64:Int))) (
 K (33:Int) h7) (
 If (decide (ahead ≥ (256:Int))) (
 K (34:Int) h7) (
 Ld h7 (a3.add 2) (Value.string) fun t31 =>
 Fn66 t31 h7 (fun t32 h8 =>
 If (!t32) (
 K (30:Int) h8) (
 Ld h8 (a3.add 1) (Sl.v) fun t36 =>
 Fn67 t36 (.func (.func 68) #[] #[(.pointer (some a3))]) h8 (fun t38 h9 =>
 If t38 (
 K (31:Int) h9) (
 Ld h9 a7 (Value.int .i64) fun t40_0 =>
 Ld h9 (a7.add 1) (Value.int .i64) fun t40_1 =>
 Ld h9 (a7.add 2) (Value.int .i64) fun t40_2 =>
 Ld h9 (a7.add 3) (Value.int .i64) fun t40_3 =>
 Ld h9 (a7.add 4) (Sl.v) fun t40_4 =>
 Fn69 t40_0 t40_1 t40_2 t40_3 t40_4 h9 (fun t41 h10 =>
 If (!t41) (
 K (32:Int) h10) (
 Ld h10 (a3.add 2) (Value.string) fun t45_0 =>
 Ld h10 ((a3.add 2).add 1) (Value.bool) fun t45_1 =>
 Ld h10 ((a3.add 2).add 2) (Value.int .i64) fun t45_2 =>
 Ld h10 ((a3.add 2).add 3) (Value.int .i64) fun t45_3 =>
 Ld h10 ((a3.add 2).add 4) (Value.int .i64) fun t45_4 =>
 Ld h10 ((a3.add 2).add 5) (Value.int .i64) fun t45_5 =>
 Ld h10 ((a3.add 2).add 6) (Sl.v) fun t45_6 =>
 Fn70 t45_0 t45_1 t45_2 t45_3 t45_4 t45_5 t45_6 h10 (fun t46 h11 =>
 If (!t46) (
 K (35:Int) h11) (
 Ld h11 (a3.add 9) (Value.bool) fun t50 =>
 If t50 (
 Ld h11 a7 (Value.int .i64) fun t53 =>
 If (t53 == (19:Int)) (
 J57_1 a7 t17ok true K Kp h11) (
 Ld h11 a7 (Value.int .i64) fun t57 =>
 J57_1 a7 t17ok (t57 == (20:Int)) K Kp h11)) (
 J57_1 a7 t17ok false K Kp h11))) Kp)) Kp)) Kp)) Kp))
theorem Fn57.of {p_0:Sl} {p_1:Sl} {p_2 : ByteArray} {p_3:Bool} {p_4:Int} {p_5:Int} {p_6:Int} {p_7:Int} {p_8:Sl} {p_9:Bool} {ahead:Int} {ids : Option Nat} {h:Hp} {K : Int → HP} {Kp:PK} (H : S57 p_0 p_1 p_2 p_3 p_4 p_5 p_6 p_7 p_8 p_9 ahead ids h K Kp) : Fn57 p_0 p_1 p_2 p_3 p_4 p_5 p_6 p_7 p_8 p_9 ahead ids h K Kp :=
 fn_of2 (P := Tryd.prog) (ann := ann57) (D := DrawSem Tryd.prog ord57) (drawOk _) (c := code57) (zs := [(.int .i64 (0:Int))]) (args := [(.agg #[(Sl.v p_0), (Sl.v p_1), (.string p_2), (.bool p_3), (.int .i64 p_4), (.int .i64 p_5), (.int .i64 p_6), (.int .i64 p_7), (Sl.v p_8), (.bool p_9)]), (.int .i64 ahead), (.map ids)]) (Kv := kv57 K) (Kp := Kp) (h := h) Tryd.func57 (by kernel_rfl) H (by kernel_rfl) (by kernel_rfl)
/- ### 58: field -/
noncomputable def code58 : Code := Tryd.f58.body.getD .skip
def ann58 : Ann := [(2000004, [0, 1, 4]), (2000018, [0, 1, 4, 5, 6]), (2000024, [0, 1, 4, 5, 6]), (2025, [0, 1, 4, 5, 73, 74]), (4100012, [0, 1, 4, 5, 6, 42, 43])]
def ord58 : List (Nat × OT × List Nat) := [(26, (OT.l [0, 1, 2, 3, 4, 5, 6, 7, 8, 9, 10, 11] .fin), [0, 1, 3, 0, 0, 16, 56, 120, 255, 511, 1023, 2047])]
def kv58 (K : ByteArray → Bool → Int → Int → Int → Int → Sl → HP) : Value → HP := fun v h => match v with | .agg cs0 => (match (cs0.toList.getD 0 undef) with | .string r0_0 => (match (cs0.toList.getD 1 undef) with | .bool r0_1 => (match (cs0.toList.getD 2 undef) with | .int _ r0_2 => (match (cs0.toList.getD 3 undef) with | .int _ r0_3 => (match (cs0.toList.getD 4 undef) with | .int _ r0_4 => (match (cs0.toList.getD 5 undef) with | .int _ r0_5 => (match (cs0.toList.getD 6 undef) with | .slice r0_6a r0_6n r0_6c => (let r0_6 : Sl := ⟨r0_6a, r0_6n, r0_6c⟩; K r0_0 r0_1 r0_2 r0_3 r0_4 r0_5 r0_6 h) | _ => False) | _ => False) | _ => False) | _ => False) | _ => False) | _ => False) | _ => False) | _ => False
def q58 (K : ByteArray → Bool → Int → Int → Int → Int → Sl → HP) : Qt := retQ Tryd.prog Tryd.f58.results.toList [(.agg #[(.string (bs [])), (.bool false), (.int .i64 (0:Int)), (.int .i64 (0:Int)), (.int .i64 (0:Int)), (.int .i64 (0:Int)), (.slice none 0 0)])] (kv58 K)
abbrev mk58_4 (x0 : Option Addr) (x1:Int) (x4:Addr) (x5:Addr) (x73:Int) (x74:Int) : Fr := ([some (.pointer x0), some (.int .i64 x1), none, none, some (.pointer (some x4)), some (.pointer (some x5)), none, none, none, none, none, none, none, none, none, none, none, none, none, none, none, none, none, none, none, none, none, none, none, none, none, none, none, none, none, none, none, none, none, none, none, none, none, none, none, none, none, none, none, none, none, none, none, none, none, none, none, none, none, none, none, none, none, none, none, none, none, none, none, none, none, none, none, some (.int .i64 x73), some (.int .i64 x74)] ++ nn 14)
def T58_4 (x0 : Option Addr) (x1:Int) (x4:Addr) (x5:Addr) (x73:Int) (K : ByteArray → Bool → Int → Int → Int → Int → Sl → HP) (Kp:PK) (N1 : Fr → HP) (x74:Int) (h:Hp) : Prop :=
 If (decide (x74 < x73)) (
 Ld h ((x5.add 2).add 4) (Sl.v) fun t78 =>
 Wr .i64 (x1 + (1:Int)) fun t81 =>
 Fn58 x0 t81 h (fun t82_0 t82_1 t82_2 t82_3 t82_4 t82_5 t82_6 h1 =>
 Keep h h1 ((x5.add 2).add 4) 1 <|
 New h1 #[(.string t82_0), (.bool t82_1), (.int .i64 t82_2), (.int .i64 t82_3), (.int .i64 t82_4), (.int .i64 t82_5), (Sl.v t82_6)] 63 fun a83 h2 =>
 Keep h1 h2 ((x5.add 2).add 4) 1 <|
 Ap h2 63 #[(.string (bs [])), (.bool false), (.int .i64 (0:Int)), (.int .i64 (0:Int)), (.int .i64 (0:Int)), (.int .i64 (0:Int)), (.slice none 0 0)] 7 80 t78 1 (rd h2 (some a83) (1 * 7)) fun t84 h3 =>
 St h3 ((x5.add 2).add 4) (Sl.v t84) fun h4 =>
 Wr .i64 (x74 + (1:Int)) fun t87 =>
 N1 (mk58_4 x0 x1 x4 x5 x73 t87) h4) Kp) (
 Ld h x5 (Value.string) fun t88_0 =>
 Ld h (x5.add 1) (Value.bool) fun t88_1 =>
 Ld h (x5.add 2) (Value.int .i64) fun t88_2 =>
 Ld h (x5.add 3) (Value.int .i64) fun t88_3 =>
 Ld h (x5.add 4) (Value.int .i64) fun t88_4 =>
 Ld h (x5.add 5) (Value.int .i64) fun t88_5 =>
 Ld h (x5.add 6) (Sl.v) fun t88_6 =>
 St h x4 (.string t88_0) fun h1 =>
 St h1 (x4.add 1) (.bool t88_1) fun h2 =>
 St h2 (x4.add 2) (.int .i64 t88_2) fun h3 =>
 St h3 (x4.add 3) (.int .i64 t88_3) fun h4 =>
 St h4 (x4.add 4) (.int .i64 t88_4) fun h5 =>
 St h5 (x4.add 5) (.int .i64 t88_5) fun h6 =>
 St h6 (x4.add 6) (Sl.v t88_6) fun h7 =>
 Ld h7 x4 (Value.string) fun r0_0 =>
 Ld h7 (x4.add 1) (Value.bool) fun r0_1 =>
 Ld h7 (x4.add 2) (Value.int .i64) fun r0_2 =>
 Ld h7 (x4.add 3) (Value.int .i64) fun r0_3 =>
 Ld h7 (x4.add 4) (Value.int .i64) fun r0_4 =>
 Ld h7 (x4.add 5) (Value.int .i64) fun r0_5 =>
 Ld h7 (x4.add 6) (Sl.v) fun r0_6 =>
 K r0_0 r0_1 r0_2 r0_3 r0_4 r0_5 r0_6 h7)
def L58_4 (x0 : Option Addr) (x1:Int) (x4:Addr) (x5:Addr) (x73:Int) (K : ByteArray → Bool → Int → Int → Int → Int → Sl → HP) (Kp:PK) (x74:Int) (h:Hp) : Prop :=
 LoopH (fun N fr h => sem Tryd.prog ann58 (Dw ord58) none (sub [1, 1, 1, 1, 1, 1, 1, 1, 1, 0, 1, 0, 0] code58) (thenQ (fun fr' h' => N (Ann.find ann58 2025 fr') h') (ctxQ Tryd.prog ann58 (Dw ord58) none Kp [1, 1, 1, 1, 1, 1, 1, 1, 1, 0, 1, 0] code58 [] (q58 K))) Kp fr h) (mk58_4 x0 x1 x4 x5 x73 x74) h
theorem L58_4.rule {x0 : Option Addr} {x1:Int} {x4:Addr} {x5:Addr} {x73:Int} {K : ByteArray → Bool → Int → Int → Int → Int → Sl → HP} {Kp:PK} (I : Int → HP) (μ : Int → Hp → Nat) {x74:Int} {h:Hp} (h0 : I x74 h)
 (step : ∀ (x74:Int) (h:Hp), I x74 h → ∀ N1 : Fr → HP, (∀ (x74':Int) (h':Hp), I x74' h' → μ x74' h' < μ x74 h → N1 (mk58_4 x0 x1 x4 x5 x73 x74') h') → T58_4 x0 x1 x4 x5 x73 K Kp N1 x74 h) : L58_4 x0 x1 x4 x5 x73 K Kp x74 h :=
 loop_rule (σ := Int) (fun s => mk58_4 x0 x1 x4 x5 x73 s) (fun N s h => T58_4 x0 x1 x4 x5 x73 K Kp N s h) (fun N s h => by kernel_rfl) (fun s h => I s h) (fun s h => μ s h) (s0 := x74) h0 (fun s h hI N hN => step s h hI N (fun x74' h' hI' hl => hN x74' h' hI' hl))
def JT58_3 (x0 : Option Addr) (x1:Int) (x4:Addr) (x5:Addr) (x6:Int) (K : ByteArray → Bool → Int → Int → Int → Int → Sl → HP) (Kp:PK) (h:Hp) : Prop :=
 L58_4 x0 x1 x4 x5 x6 K Kp (0:Int) h
def J58_3 (x0 : Option Addr) (x1:Int) (x4:Addr) (x5:Addr) (x6:Int) (K : ByteArray → Bool → Int → Int → Int → Int → Sl → HP) (Kp:PK) (h:Hp) : Prop :=
 Joint (sem Tryd.prog ann58 (Dw ord58) none (sub [1, 1, 1, 1, 1, 1, 1, 1, 1] code58) (ctxQ Tryd.prog ann58 (Dw ord58) none Kp [1, 1, 1, 1, 1, 1, 1, 1, 1] code58 [] (q58 K)) Kp (([some (.pointer x0), some (.int .i64 x1), none, none, some (.pointer (some x4)), some (.pointer (some x5)), some (.int .i64 x6)] ++ nn 82)) h)
theorem J58_3.of {x0 : Option Addr} {x1:Int} {x4:Addr} {x5:Addr} {x6:Int} {K : ByteArray → Bool → Int → Int → Int → Int → Sl → HP} {Kp:PK} {h:Hp} (H : JT58_3 x0 x1 x4 x5 x6 K Kp h) : J58_3 x0 x1 x4 x5 x6 K Kp h :=
 Joint.mk (Eq.mp (by kernel_rfl) H)
def JT58_2 (x0 : Option Addr) (x1:Int) (x4:Addr) (x5:Addr) (x6:Int) (K : ByteArray → Bool → Int → Int → Int → Int → Sl → HP) (Kp:PK) (h:Hp) : Prop :=
 Ld h (x5.add 2) (Value.int .i64) fun t67 =>
 If (t67 == (15:Int)) (
 If (t67 == (15:Int)) (
 J58_3 x0 x1 x4 x5 (1:Int) K Kp h) (
 J58_3 x0 x1 x4 x5 x6 K Kp h)) (
 If (t67 == (16:Int)) (
 If (t67 == (16:Int)) (
 J58_3 x0 x1 x4 x5 (1:Int) K Kp h) (
 J58_3 x0 x1 x4 x5 x6 K Kp h)) (
 If (t67 == (19:Int)) (
 If (t67 == (19:Int)) (
 J58_3 x0 x1 x4 x5 (1:Int) K Kp h) (
 J58_3 x0 x1 x4 x5 x6 K Kp h)) (
 If (t67 == (20:Int)) (
 J58_3 x0 x1 x4 x5 (1:Int) K Kp h) (
 J58_3 x0 x1 x4 x5 x6 K Kp h))))
def J58_2 (x0 : Option Addr) (x1:Int) (x4:Addr) (x5:Addr) (x6:Int) (K : ByteArray → Bool → Int → Int → Int → Int → Sl → HP) (Kp:PK) (h:Hp) : Prop :=
 Joint (sem Tryd.prog ann58 (Dw ord58) none (sub [1, 1, 1, 1, 1, 1, 1, 1] code58) (ctxQ Tryd.prog ann58 (Dw ord58) none Kp [1, 1, 1, 1, 1, 1, 1, 1] code58 [] (q58 K)) Kp (([some (.pointer x0), some (.int .i64 x1), none, none, some (.pointer (some x4)), some (.pointer (some x5)), some (.int .i64 x6)] ++ nn 82)) h)
theorem J58_2.of {x0 : Option Addr} {x1:Int} {x4:Addr} {x5:Addr} {x6:Int} {K : ByteArray → Bool → Int → Int → Int → Int → Sl → HP} {Kp:PK} {h:Hp} (H : JT58_2 x0 x1 x4 x5 x6 K Kp h) : J58_2 x0 x1 x4 x5 x6 K Kp h :=
 Joint.mk (Eq.mp (by kernel_rfl) H)
def JT58_5 (x0 : Option Addr) (x1:Int) (x4:Addr) (x5:Addr) (x6:Int) (x42:Int) (x43:Bool) (K : ByteArray → Bool → Int → Int → Int → Int → Sl → HP) (Kp:PK) (h:Hp) : Prop :=
 If x43 (
 Fn47 x0 (2:Int) h (fun t47 h1 =>
 St h1 ((x5.add 2).add 1) (.int .i64 t47) fun h2 =>
 J58_2 x0 x1 x4 x5 x6 K Kp h2) Kp) (
 If (x42 == (19:Int)) (
 Fn47 x0 (2:Int) h (fun t53 h1 =>
 St h1 ((x5.add 2).add 2) (.int .i64 t53) fun h2 =>
 Fn47 x0 (1:Int) h2 (fun t57 h3 =>
 St h3 ((x5.add 2).add 3) (.int .i64 t57) fun h4 =>
 J58_2 x0 x1 x4 x5 x6 K Kp h4) Kp) Kp) (
 If (x42 == (17:Int)) (
 If (x42 == (17:Int)) (
 Fn47 x0 (1:Int) h (fun t64 h1 =>
 J58_2 x0 x1 x4 x5 t64 K Kp h1) Kp) (
 J58_2 x0 x1 x4 x5 x6 K Kp h)) (
 If (x42 == (18:Int)) (
 Fn47 x0 (1:Int) h (fun t64 h1 =>
 J58_2 x0 x1 x4 x5 t64 K Kp h1) Kp) (
 J58_2 x0 x1 x4 x5 x6 K Kp h))))
def J58_5 (x0 : Option Addr) (x1:Int) (x4:Addr) (x5:Addr) (x6:Int) (x42:Int) (x43:Bool) (K : ByteArray → Bool → Int → Int → Int → Int → Sl → HP) (Kp:PK) (h:Hp) : Prop :=
 Joint (sem Tryd.prog ann58 (Dw ord58) none (sub [1, 1, 1, 1, 1, 1, 1, 0, 1, 0, 1] code58) (ctxQ Tryd.prog ann58 (Dw ord58) none Kp [1, 1, 1, 1, 1, 1, 1, 0, 1, 0, 1] code58 [] (q58 K)) Kp (([some (.pointer x0), some (.int .i64 x1), none, none, some (.pointer (some x4)), some (.pointer (some x5)), some (.int .i64 x6), none, none, none, none, none, none, none, none, none, none, none, none, none, none, none, none, none, none, none, none, none, none, none, none, none, none, none, none, none, none, none, none, none, none, none, some (.int .i64 x42), some (.bool x43)] ++ nn 45)) h)
theorem J58_5.of {x0 : Option Addr} {x1:Int} {x4:Addr} {x5:Addr} {x6:Int} {x42:Int} {x43:Bool} {K : ByteArray → Bool → Int → Int → Int → Int → Sl → HP} {Kp:PK} {h:Hp} (H : JT58_5 x0 x1 x4 x5 x6 x42 x43 K Kp h) : J58_5 x0 x1 x4 x5 x6 x42 x43 K Kp h :=
 Joint.mk (Eq.mp (by kernel_rfl) H)
def JT58_1 (x0 : Option Addr) (x1:Int) (x4:Addr) (K : ByteArray → Bool → Int → Int → Int → Int → Sl → HP) (Kp:PK) (h:Hp) : Prop :=
 Fn59 x0 (1:Int) h (fun t30 h1 =>
 New h1 #[(.string (bs [])), (.bool false), (.int .i64 (0:Int)), (.int .i64 (0:Int)), (.int .i64 (0:Int)), (.int .i64 (0:Int)), (.slice none 0 0)] 63 fun a5 h2 =>
 St h2 a5 (.string t30) fun h3 =>
 St h3 (a5.add 1) (.bool false) fun h4 =>
 St h4 (a5.add 2) (.int .i64 (0:Int)) fun h5 =>
 St h5 (a5.add 3) (.int .i64 (0:Int)) fun h6 =>
 St h6 (a5.add 4) (.int .i64 (0:Int)) fun h7 =>
 St h7 (a5.add 5) (.int .i64 (0:Int)) fun h8 =>
 St h8 (a5.add 6) (.slice none 0 0) fun h9 =>
 Fn45 x0 (0:Int) (1:Int) h9 (fun t33 h10 =>
 St h10 (a5.add 1) (.bool (t33 == (1:Int))) fun h11 =>
 Fn45 x0 (1:Int) (20:Int) h11 (fun t37 h12 =>
 St h12 (a5.add 2) (.int .i64 t37) fun h13 =>
 Ld h13 (a5.add 2) (Value.int .i64) fun t42 =>
 If (t42 == (14:Int)) (
 J58_5 x0 x1 x4 a5 (0:Int) t42 (t42 == (14:Int)) K Kp h13) (
 J58_5 x0 x1 x4 a5 (0:Int) t42 (t42 == (16:Int)) K Kp h13)) Kp) Kp) Kp
def J58_1 (x0 : Option Addr) (x1:Int) (x4:Addr) (K : ByteArray → Bool → Int → Int → Int → Int → Sl → HP) (Kp:PK) (h:Hp) : Prop :=
 Joint (sem Tryd.prog ann58 (Dw ord58) none (sub [1, 1, 1] code58) (ctxQ Tryd.prog ann58 (Dw ord58) none Kp [1, 1, 1] code58 [] (q58 K)) Kp (([some (.pointer x0), some (.int .i64 x1), none, none, some (.pointer (some x4))] ++ nn 84)) h)
theorem J58_1.of {x0 : Option Addr} {x1:Int} {x4:Addr} {K : ByteArray → Bool → Int → Int → Int → Int → Sl → HP} {Kp:PK} {h:Hp} (H : JT58_1 x0 x1 x4 K Kp h) : J58_1 x0 x1 x4 K Kp h :=
 Joint.mk (Eq.mp (by kernel_rfl) H)
def S58 (r : Option Addr) (around:Int) (h:Hp) (K : ByteArray → Bool → Int → Int → Int → Int → Sl → HP) (Kp:PK) : Prop :=
 New h #[(.string (bs [])), (.bool false), (.int .i64 (0:Int)), (.int .i64 (0:Int)), (.int .i64 (0:Int)), (.int .i64 (0:Int)), (.slice none 0 0)] 63 fun a4 h1 =>
 NN r fun p8 =>
 Ld h1 (p8.add 2) (Value.int .i64) fun t10 =>
 Wr .i64 (t10 + (1:Int)) fun t11 =>
 NN r fun p12 =>
 St h1 (p12.add 2) (.int .i64 t11) fun h2 =>
 NN r fun p15 =>
 Ld h2 (p15.add 2) (Value.int .i64) fun t17 =>
 If (decide (t17 > (256:Int))) (
 NN r fun p24 =>
 Ld h2 (p24.add 1) (Value.int .i64) fun t26 =>
 Kp [{ v := (.iface 69 (.agg #[(.int .i64 (50:Int)), (.int .i64 t26)])), recovered := false }] h2) (
 If (decide (around ≥ (64:Int))) (
 NN r fun p24 =>
 Ld h2 (p24.add 1) (Value.int .i64) fun t26 =>
 Kp [{ v := (.iface 69 (.agg #[(.int .i64 (50:Int)), (.int .i64 t26)])), recovered := false }] h2) (
 J58_1 r around a4 K Kp h2))
theorem Fn58.of {r : Option Addr} {around:Int} {h:Hp} {K : ByteArray → Bool → Int → Int → Int → Int → Sl → HP} {Kp:PK} (H : S58 r around h K Kp) : Fn58 r around h K Kp :=
 fn_of2 (P := Tryd.prog) (ann := ann58) (D := DrawSem Tryd.prog ord58) (drawOk _) (c := code58) (zs := [(.agg #[(.string (bs [])), (.bool false), (.int .i64 (0:Int)), (.int .i64 (0:Int)), (.int .i64 (0:Int)), (.int .i64 (0:Int)), (.slice none 0 0)])]) (args := [(.pointer r), (.int .i64 around)]) (Kv := kv58 K) (Kp := Kp) (h := h) Tryd.func58 (by kernel_rfl) H (by kernel_rfl) (by kernel_rfl)
/- ### 59: text -/
noncomputable def code59 : Code := Tryd.f59.body.getD .skip
def ann59 : Ann := []
def ord59 : List (Nat × OT × List Nat) := []
def kv59 (K : ByteArray → HP) : Value → HP := fun v h => match v with | .string r0 => (K r0 h) | _ => False
def S59 (r : Option Addr) (width:Int) (h:Hp) (K : ByteArray → HP) (Kp:PK) : Prop :=
 Fn47 r width h (fun t8 h1 =>
 Fn60 r t8 h1 (fun t9 h2 =>
 Bts h2 t9 fun t10 =>
 K t10 h2) Kp) Kp
theorem Fn59.of {r : Option Addr} {width:Int} {h:Hp} {K : ByteArray → HP} {Kp:PK} (H : S59 r width h K Kp) : Fn59 r width h K Kp :=
 fn_of2 (P := Tryd.prog) (ann := ann59) (D := DrawSem Tryd.prog ord59) (drawOk _) (c := code59) (zs := [(.string (bs []))]) (args := [(.pointer r), (.int .i64 width)]) (Kv := kv59 K) (Kp := Kp) (h := h) Tryd.func59 (by kernel_rfl) H (by kernel_rfl) (by kernel_rfl)
/- ### 60: take -/
noncomputable def code60 : Code := Tryd.f60.body.getD .skip
def ann60 : Ann := [(2000003, [0, 1])]
def ord60 : List (Nat × OT × List Nat) := [(4, (OT.l [0, 1, 2, 3, 4, 5, 6, 7, 8, 9, 10, 11, 12, 13, 14, 15] .fin), [0, 1, 3, 7, 0, 16, 48, 112, 0, 496, 0, 1024, 3072, 7168, 16383, 32767]), (1, (OT.l [0, 1, 2, 3, 4, 5, 6, 7, 8, 9, 10, 11] .fin), [0, 0, 2, 6, 14, 30, 0, 64, 192, 448, 1022, 2047])]
def kv60 (K : Sl → HP) : Value → HP := fun v h => match v with | .slice r0a r0n r0c => (let r0 : Sl := ⟨r0a, r0n, r0c⟩; K r0 h) | _ => False
def q60 (K : Sl → HP) : Qt := retQ Tryd.prog Tryd.f60.results.toList [(.slice none 0 0)] (kv60 K)
def JT60_1 (x0 : Option Addr) (x1:Int) (K : Sl → HP) (Kp:PK) (h:Hp) : Prop :=
 NN x0 fun p24 =>
 Ld h (p24.add 1) (Value.int .i64) fun t26 =>
 Wr .i64 (t26 + x1) fun t28 =>
 NN x0 fun p29 =>
 St h (p29.add 1) (.int .i64 t28) fun h1 =>
 NN x0 fun p32 =>
 Ld h1 p32 (Sl.v) fun t34 =>
 NN x0 fun p36 =>
 Ld h1 (p36.add 1) (Value.int .i64) fun t38 =>
 Wr .i64 (t38 - x1) fun t40 =>
 NN x0 fun p42 =>
 Ld h1 (p42.add 1) (Value.int .i64) fun t44 =>
 Slc t34 1 (some t40) (some t44) none fun t45 =>
 K t45 h1
def J60_1 (x0 : Option Addr) (x1:Int) (K : Sl → HP) (Kp:PK) (h:Hp) : Prop :=
 Joint (sem Tryd.prog ann60 (Dw ord60) none (sub [1, 1] code60) (ctxQ Tryd.prog ann60 (Dw ord60) none Kp [1, 1] code60 [] (q60 K)) Kp (([some (.pointer x0), some (.int .i64 x1)] ++ nn 44)) h)
theorem J60_1.of {x0 : Option Addr} {x1:Int} {K : Sl → HP} {Kp:PK} {h:Hp} (H : JT60_1 x0 x1 K Kp h) : J60_1 x0 x1 K Kp h :=
 Joint.mk (Eq.mp (by kernel_rfl) H)
def S60 (r : Option Addr) (n:Int) (h:Hp) (K : Sl → HP) (Kp:PK) : Prop :=
 NN r fun p7 =>
 Ld h p7 (Sl.v) fun t9 =>
 NN r fun p12 =>
 Ld h (p12.add 1) (Value.int .i64) fun t14 =>
 Wr .i64 ((t9.n:Int) - t14) fun t15 =>
 If (decide (n > t15)) (
 NN r fun p18 =>
 Ld h (p18.add 1) (Value.int .i64) fun t20 =>
 Kp [{ v := (.iface 69 (.agg #[(.int .i64 (51:Int)), (.int .i64 t20)])), recovered := false }] h) (
 J60_1 r n K Kp h)
theorem Fn60.of {r : Option Addr} {n:Int} {h:Hp} {K : Sl → HP} {Kp:PK} (H : S60 r n h K Kp) : Fn60 r n h K Kp :=
 fn_of2 (P := Tryd.prog) (ann := ann60) (D := DrawSem Tryd.prog ord60) (drawOk _) (c := code60) (zs := [(.slice none 0 0)]) (args := [(.pointer r), (.int .i64 n)]) (Kv := kv60 K) (Kp := Kp) (h := h) Tryd.func60 (by kernel_rfl) H (by kernel_rfl) (by kernel_rfl)
/- ### 61: named -/
noncomputable def code61 : Code := Tryd.f61.body.getD .skip
def ann61 : Ann := [(2000003, [0]), (2004, [0, 3]), (2000008, [0, 3, 4, 5]), (47006, [0, 3, 4, 29]), (47014, [0, 3, 4, 37])]
def ord61 : List (Nat × OT × List Nat) := []
def kv61 (K : Bool → HP) : Value → HP := fun v h => match v with | .bool r0 => (K r0 h) | _ => False
def q61 (K : Bool → HP) : Qt := retQ Tryd.prog Tryd.f61.results.toList [(.bool false)] (kv61 K)
abbrev mk61_2 (x0 : ByteArray) (x3:Int) : Fr := ([some (.string x0), none, none, some (.int .i64 x3)] ++ nn 54)
def JT61_3 (x0 : ByteArray) (x3:Int) (x4:Int) (x5:Bool) (N1 : Fr → HP) (K : Bool → HP) (Kp:PK) (h:Hp) : Prop :=
 If (decide (x4 ≥ (48:Int))) (
 If (!x5) (
 If (!(decide (x4 ≤ (57:Int)))) (
 K false h) (
 If (x3 == (0:Int)) (
 K false h) (
 Wr .i64 (x3 + (1:Int)) fun t20 =>
 N1 (mk61_2 x0 t20) h))) (
 Wr .i64 (x3 + (1:Int)) fun t20 =>
 N1 (mk61_2 x0 t20) h)) (
 If (!x5) (
 K false h) (
 Wr .i64 (x3 + (1:Int)) fun t20 =>
 N1 (mk61_2 x0 t20) h))
def J61_3 (x0 : ByteArray) (x3:Int) (x4:Int) (x5:Bool) (N1 : Fr → HP) (K : Bool → HP) (Kp:PK) (h:Hp) : Prop :=
 Joint (sem Tryd.prog ann61 (Dw ord61) none (sub [1, 1, 0, 1, 0, 0, 1, 0, 0, 1, 1] code61) (ctxQ Tryd.prog ann61 (Dw ord61) none Kp [1, 1, 0, 1, 0, 0, 1, 0, 0, 1, 1] code61 [N1] (q61 K)) Kp (([some (.string x0), none, none, some (.int .i64 x3), some (.int .u8 x4), some (.bool x5)] ++ nn 52)) h)
theorem J61_3.of {x0 : ByteArray} {x3:Int} {x4:Int} {x5:Bool} {N1 : Fr → HP} {K : Bool → HP} {Kp:PK} {h:Hp} (H : JT61_3 x0 x3 x4 x5 N1 K Kp h) : J61_3 x0 x3 x4 x5 N1 K Kp h :=
 Joint.mk (Eq.mp (by kernel_rfl) H)
def JT61_5 (x0 : ByteArray) (x3:Int) (x4:Int) (x37:Bool) (N1 : Fr → HP) (K : Bool → HP) (Kp:PK) (h:Hp) : Prop :=
 If x37 (
 J61_3 x0 x3 x4 true N1 K Kp h) (
 J61_3 x0 x3 x4 (x4 == (95:Int)) N1 K Kp h)
def J61_5 (x0 : ByteArray) (x3:Int) (x4:Int) (x37:Bool) (N1 : Fr → HP) (K : Bool → HP) (Kp:PK) (h:Hp) : Prop :=
 Joint (semOps Tryd.prog (Ann.reg 7 ann61) (regOps (sub [1, 1, 0, 1, 0, 0, 1, 0, 0, 1, 0] code61)) [14, 15, 16, 17, 18] (ctxQ Tryd.prog ann61 (Dw ord61) none Kp [1, 1, 0, 1, 0, 0, 1, 0, 0, 1, 0] code61 [N1] (q61 K) .normal) Kp (([some (.string x0), none, none, some (.int .i64 x3), some (.int .u8 x4), none, none, none, none, none, none, none, none, none, none, none, none, none, none, none, none, none, none, none, none, none, none, none, none, none, none, none, none, none, none, none, none, some (.bool x37)] ++ nn 20)) h)
theorem J61_5.of {x0 : ByteArray} {x3:Int} {x4:Int} {x37:Bool} {N1 : Fr → HP} {K : Bool → HP} {Kp:PK} {h:Hp} (H : JT61_5 x0 x3 x4 x37 N1 K Kp h) : J61_5 x0 x3 x4 x37 N1 K Kp h :=
 Joint.mk (Eq.mp (by kernel_rfl) H)
def JT61_4 (x0 : ByteArray) (x3:Int) (x4:Int) (x29:Bool) (N1 : Fr → HP) (K : Bool → HP) (Kp:PK) (h:Hp) : Prop :=
 If x29 (
 J61_5 x0 x3 x4 true N1 K Kp h) (
 If (decide (x4 ≥ (65:Int))) (
 J61_5 x0 x3 x4 (decide (x4 ≤ (90:Int))) N1 K Kp h) (
 J61_5 x0 x3 x4 false N1 K Kp h))
def J61_4 (x0 : ByteArray) (x3:Int) (x4:Int) (x29:Bool) (N1 : Fr → HP) (K : Bool → HP) (Kp:PK) (h:Hp) : Prop :=
 Joint (semOps Tryd.prog (Ann.reg 7 ann61) (regOps (sub [1, 1, 0, 1, 0, 0, 1, 0, 0, 1, 0] code61)) [6, 7, 8, 9, 10, 11, 12, 13, 14, 15, 16, 17, 18] (ctxQ Tryd.prog ann61 (Dw ord61) none Kp [1, 1, 0, 1, 0, 0, 1, 0, 0, 1, 0] code61 [N1] (q61 K) .normal) Kp (([some (.string x0), none, none, some (.int .i64 x3), some (.int .u8 x4), none, none, none, none, none, none, none, none, none, none, none, none, none, none, none, none, none, none, none, none, none, none, none, none, some (.bool x29)] ++ nn 28)) h)
theorem J61_4.of {x0 : ByteArray} {x3:Int} {x4:Int} {x29:Bool} {N1 : Fr → HP} {K : Bool → HP} {Kp:PK} {h:Hp} (H : JT61_4 x0 x3 x4 x29 N1 K Kp h) : J61_4 x0 x3 x4 x29 N1 K Kp h :=
 Joint.mk (Eq.mp (by kernel_rfl) H)
def T61_2 (x0 : ByteArray) (K : Bool → HP) (Kp:PK) (N1 : Fr → HP) (x3:Int) (h:Hp) : Prop :=
 If (decide (x3 < (x0.size:Int))) (
 IxS x0 x3 fun t23 =>
 If (decide (t23 ≥ (97:Int))) (
 J61_4 x0 x3 t23 (decide (t23 ≤ (122:Int))) N1 K Kp h) (
 J61_4 x0 x3 t23 false N1 K Kp h)) (
 K true h)
def L61_2 (x0 : ByteArray) (K : Bool → HP) (Kp:PK) (x3:Int) (h:Hp) : Prop :=
 LoopH (fun N fr h => sem Tryd.prog ann61 (Dw ord61) none (sub [1, 1, 0, 1, 0, 0] code61) (thenQ (fun fr' h' => N (Ann.find ann61 2004 fr') h') (ctxQ Tryd.prog ann61 (Dw ord61) none Kp [1, 1, 0, 1, 0] code61 [] (q61 K))) Kp fr h) (mk61_2 x0 x3) h
theorem L61_2.rule {x0 : ByteArray} {K : Bool → HP} {Kp:PK} (I : Int → HP) (μ : Int → Hp → Nat) {x3:Int} {h:Hp} (h0 : I x3 h)
 (step : ∀ (x3:Int) (h:Hp), I x3 h → ∀ N1 : Fr → HP, (∀ (x3':Int) (h':Hp), I x3' h' → μ x3' h' < μ x3 h → N1 (mk61_2 x0 x3') h') → T61_2 x0 K Kp N1 x3 h) : L61_2 x0 K Kp x3 h :=
 loop_rule (σ := Int) (fun s => mk61_2 x0 s) (fun N s h => T61_2 x0 K Kp N s h) (fun N s h => by kernel_rfl) (fun s h => I s h) (fun s h => μ s h) (s0 := x3) h0 (fun s h hI N hN => step s h hI N (fun x3' h' hI' hl => hN x3' h' hI' hl))
def JT61_1 (x0 : ByteArray) (K : Bool → HP) (Kp:PK) (h:Hp) : Prop :=
 L61_2 x0 K Kp (0:Int) h
def J61_1 (x0 : ByteArray) (K : Bool → HP) (Kp:PK) (h:Hp) : Prop :=
 Joint (sem Tryd.prog ann61 (Dw ord61) none (sub [1, 1] code61) (ctxQ Tryd.prog ann61 (Dw ord61) none Kp [1, 1] code61 [] (q61 K)) Kp (([some (.string x0)] ++ nn 57)) h)
theorem J61_1.of {x0 : ByteArray} {K : Bool → HP} {Kp:PK} {h:Hp} (H : JT61_1 x0 K Kp h) : J61_1 x0 K Kp h :=
 Joint.mk (Eq.mp (by kernel_rfl) H)
def S61 (s : ByteArray) (h:Hp) (K : Bool → HP) (Kp:PK) : Prop :=
 If (decide ((s.size:Int) < (1:Int))) (
 K false h) (
 If (decide ((s.size:Int) > (48:Int))) (
 K false h) (
 J61_1 s K Kp h))
theorem Fn61.of {s : ByteArray} {h:Hp} {K : Bool → HP} {Kp:PK} (H : S61 s h K Kp) : Fn61 s h K Kp :=
 fn_of2 (P := Tryd.prog) (ann := ann61) (D := DrawSem Tryd.prog ord61) (drawOk _) (c := code61) (zs := [(.bool false)]) (args := [(.string s)]) (Kv := kv61 K) (Kp := Kp) (h := h) Tryd.func61 (by kernel_rfl) H (by kernel_rfl) (by kernel_rfl)
end Go.Proofs.YtfomkkdijjfpiaaDoor
