/- What the functions do, printed by program (gen.py) in the words of ShCore; each text is held against the loaded program by the kernel. -/
import Derived.Test.YtfomkkdijjfpiaaDoorKeepsF
set_option linter.unusedSimpArgs false
set_option linter.unusedVariables false
set_option maxRecDepth 100000
namespace Go.Proofs.YtfomkkdijjfpiaaDoor
open Go Go.Sh
/- ### 34: body -/
noncomputable def code34 : Code := Tryd.f34.body.getD .skip
def ann34 : Ann := [(2000013, [0, 3, 4]), (2015, [0, 3, 4, 5, 8]), (2005, [0, 3, 4, 5, 6])]
def ord34 : List (Nat × OT × List Nat) := []
def kv34 (K : Int → Sl → Sl → Int → Bool → Int → Int → Sl → Sl → HP) : Value → HP := fun v h => match v with | .agg cs0 => (match (cs0.toList.getD 0 undef) with | .int _ r0_0 => (match (cs0.toList.getD 1 undef) with | .slice r0_1a r0_1n r0_1c => (let r0_1 : Sl := ⟨r0_1a, r0_1n, r0_1c⟩; match (cs0.toList.getD 2 undef) with | .slice r0_2a r0_2n r0_2c => (let r0_2 : Sl := ⟨r0_2a, r0_2n, r0_2c⟩; match (cs0.toList.getD 3 undef) with | .int _ r0_3 => (match (cs0.toList.getD 4 undef) with | .bool r0_4 => (match (cs0.toList.getD 5 undef) with | .int _ r0_5 => (match (cs0.toList.getD 6 undef) with | .int _ r0_6 => (match (cs0.toList.getD 7 undef) with | .slice r0_7a r0_7n r0_7c => (let r0_7 : Sl := ⟨r0_7a, r0_7n, r0_7c⟩; match (cs0.toList.getD 8 undef) with | .slice r0_8a r0_8n r0_8c => (let r0_8 : Sl := ⟨r0_8a, r0_8n, r0_8c⟩; K r0_0 r0_1 r0_2 r0_3 r0_4 r0_5 r0_6 r0_7 r0_8 h) | _ => False) | _ => False) | _ => False) | _ => False) | _ => False) | _ => False) | _ => False) | _ => False) | _ => False) | _ => False
def q34 (K : Int → Sl → Sl → Int → Bool → Int → Int → Sl → Sl → HP) : Qt := retQ Tryd.prog Tryd.f34.results.toList [(.agg #[(.int .i64 (0:Int)), (.slice none 0 0), (.slice none 0 0), (.int .i64 (0:Int)), (.bool false), (.int .i64 (0:Int)), (.int .i64 (0:Int)), (.slice none 0 0), (.slice none 0 0)])] (kv34 K)
abbrev mk34_2 (x0 : Option Addr) (x3:Addr) (x4:Addr) (x5:Int) (x8:Int) : Fr := ([some (.pointer x0), none, none, some (.pointer (some x3)), some (.pointer (some x4)), some (.int .i64 x5), none, none, some (.int .i64 x8)] ++ nn 63)
def T34_2 (x0 : Option Addr) (x3:Addr) (x4:Addr) (x5:Int) (K : Int → Sl → Sl → Int → Bool → Int → Int → Sl → Sl → HP) (Kp:PK) (N1 : Fr → HP) (x8:Int) (h:Hp) : Prop :=
 If (decide (x8 < x5)) (
 NN x0 fun p50 =>
 Ld h (p50.add 3) (Value.int .i64) fun t53 =>
 If (t53 != (0:Int)) (
 Ld h x3 (Value.int .i64) fun t55_0 =>
 Ld h (x3.add 1) (Sl.v) fun t55_1 =>
 Ld h (x3.add 2) (Sl.v) fun t55_2 =>
 Ld h (x3.add 3) (Value.int .i64) fun t55_3 =>
 Ld h (x3.add 4) (Value.bool) fun t55_4 =>
 Ld h (x3.add 5) (Value.int .i64) fun t55_5 =>
 Ld h (x3.add 6) (Value.int .i64) fun t55_6 =>
 Ld h (x3.add 7) (Sl.v) fun t55_7 =>
 Ld h (x3.add 8) (Sl.v) fun t55_8 =>
 St h x4 (.int .i64 t55_0) fun h1 =>
 St h1 (x4.add 1) (Sl.v t55_1) fun h2 =>
 St h2 (x4.add 2) (Sl.v t55_2) fun h3 =>
 St h3 (x4.add 3) (.int .i64 t55_3) fun h4 =>
 St h4 (x4.add 4) (.bool t55_4) fun h5 =>
 St h5 (x4.add 5) (.int .i64 t55_5) fun h6 =>
 St h6 (x4.add 6) (.int .i64 t55_6) fun h7 =>
 St h7 (x4.add 7) (Sl.v t55_7) fun h8 =>
 St h8 (x4.add 8) (Sl.v t55_8) fun h9 =>
 Ld h9 x4 (Value.int .i64) fun r0_0 =>
 Ld h9 (x4.add 1) (Sl.v) fun r0_1 =>
 Ld h9 (x4.add 2) (Sl.v) fun r0_2 =>
 Ld h9 (x4.add 3) (Value.int .i64) fun r0_3 =>
 Ld h9 (x4.add 4) (Value.bool) fun r0_4 =>
 Ld h9 (x4.add 5) (Value.int .i64) fun r0_5 =>
 Ld h9 (x4.add 6) (Value.int .i64) fun r0_6 =>
 Ld h9 (x4.add 7) (Sl.v) fun r0_7 =>
 Ld h9 (x4.add 8) (Sl.v) fun r0_8 =>
 K r0_0 r0_1 r0_2 r0_3 r0_4 r0_5 r0_6 r0_7 r0_8 h9) (
 New h #[(.int .i64 (0:Int)), (.int .i64 (0:Int)), (.int .i64 (0:Int))] 57 fun a9 h1 =>
 Fn33 x0 (4:Int) h1 (fun t57 h2 =>
 St h2 a9 (.int .i64 t57) fun h3 =>
 Fn33 x0 (4:Int) h3 (fun t60 h4 =>
 St h4 (a9.add 1) (.int .i64 t60) fun h5 =>
 Fn33 x0 (4:Int) h5 (fun t63 h6 =>
 St h6 (a9.add 2) (.int .i64 t63) fun h7 =>
 Ld h7 (x3.add 8) (Sl.v) fun t66 =>
 Ld h7 a9 (Value.int .i64) fun t67_0 =>
 Ld h7 (a9.add 1) (Value.int .i64) fun t67_1 =>
 Ld h7 (a9.add 2) (Value.int .i64) fun t67_2 =>
 New h7 #[(.int .i64 t67_0), (.int .i64 t67_1), (.int .i64 t67_2)] 57 fun a68 h8 =>
 Ap h8 57 #[(.int .i64 (0:Int)), (.int .i64 (0:Int)), (.int .i64 (0:Int))] 3 24 t66 1 (rd h8 (some a68) (1 * 3)) fun t69 h9 =>
 St h9 (x3.add 8) (Sl.v t69) fun h10 =>
 Wr .i64 (x8 + (1:Int)) fun t48 =>
 N1 (mk34_2 x0 x3 x4 x5 t48) h10) Kp) Kp) Kp)) (
 Ld h x3 (Value.int .i64) fun t71_0 =>
 Ld h (x3.add 1) (Sl.v) fun t71_1 =>
 Ld h (x3.add 2) (Sl.v) fun t71_2 =>
 Ld h (x3.add 3) (Value.int .i64) fun t71_3 =>
 Ld h (x3.add 4) (Value.bool) fun t71_4 =>
 Ld h (x3.add 5) (Value.int .i64) fun t71_5 =>
 Ld h (x3.add 6) (Value.int .i64) fun t71_6 =>
 Ld h (x3.add 7) (Sl.v) fun t71_7 =>
 Ld h (x3.add 8) (Sl.v) fun t71_8 =>
 St h x4 (.int .i64 t71_0) fun h1 =>
 St h1 (x4.add 1) (Sl.v t71_1) fun h2 =>
 St h2 (x4.add 2) (Sl.v t71_2) fun h3 =>
 St h3 (x4.add 3) (.int .i64 t71_3) fun h4 =>
 St h4 (x4.add 4) (.bool t71_4) fun h5 =>
 St h5 (x4.add 5) (.int .i64 t71_5) fun h6 =>
 St h6 (x4.add 6) (.int .i64 t71_6) fun h7 =>
 St h7 (x4.add 7) (Sl.v t71_7) fun h8 =>
 St h8 (x4.add 8) (Sl.v t71_8) fun h9 =>
 Ld h9 x4 (Value.int .i64) fun r0_0 =>
 Ld h9 (x4.add 1) (Sl.v) fun r0_1 =>
 Ld h9 (x4.add 2) (Sl.v) fun r0_2 =>
 Ld h9 (x4.add 3) (Value.int .i64) fun r0_3 =>
 Ld h9 (x4.add 4) (Value.bool) fun r0_4 =>
 Ld h9 (x4.add 5) (Value.int .i64) fun r0_5 =>
 Ld h9 (x4.add 6) (Value.int .i64) fun r0_6 =>
 Ld h9 (x4.add 7) (Sl.v) fun r0_7 =>
 Ld h9 (x4.add 8) (Sl.v) fun r0_8 =>
 K r0_0 r0_1 r0_2 r0_3 r0_4 r0_5 r0_6 r0_7 r0_8 h9)
def L34_2 (x0 : Option Addr) (x3:Addr) (x4:Addr) (x5:Int) (K : Int → Sl → Sl → Int → Bool → Int → Int → Sl → Sl → HP) (Kp:PK) (x8:Int) (h:Hp) : Prop :=
 LoopH (fun N fr h => sem Tryd.prog ann34 (Dw ord34) none (sub [1, 1, 1, 1, 1, 1, 0, 1, 0, 0] code34) (thenQ (fun fr' h' => N (Ann.find ann34 2015 fr') h') (ctxQ Tryd.prog ann34 (Dw ord34) none Kp [1, 1, 1, 1, 1, 1, 0, 1, 0] code34 [] (q34 K))) Kp fr h) (mk34_2 x0 x3 x4 x5 x8) h
theorem L34_2.rule {x0 : Option Addr} {x3:Addr} {x4:Addr} {x5:Int} {K : Int → Sl → Sl → Int → Bool → Int → Int → Sl → Sl → HP} {Kp:PK} (I : Int → HP) (μ : Int → Hp → Nat) {x8:Int} {h:Hp} (h0 : I x8 h)
 (step : ∀ (x8:Int) (h:Hp), I x8 h → ∀ N1 : Fr → HP, (∀ (x8':Int) (h':Hp), I x8' h' → μ x8' h' < μ x8 h → N1 (mk34_2 x0 x3 x4 x5 x8') h') → T34_2 x0 x3 x4 x5 K Kp N1 x8 h) : L34_2 x0 x3 x4 x5 K Kp x8 h :=
 loop_rule (σ := Int) (fun s => mk34_2 x0 x3 x4 x5 s) (fun N s h => T34_2 x0 x3 x4 x5 K Kp N s h) (fun N s h => by kernel_rfl) (fun s h => I s h) (fun s h => μ s h) (s0 := x8) h0 (fun s h hI N hN => step s h hI N (fun x8' h' hI' hl => hN x8' h' hI' hl))
def JT34_1 (x0 : Option Addr) (x3:Addr) (x4:Addr) (K : Int → Sl → Sl → Int → Bool → Int → Int → Sl → Sl → HP) (Kp:PK) (h:Hp) : Prop :=
 Fn33 x0 (2:Int) h (fun t43 h1 =>
 L34_2 x0 x3 x4 t43 K Kp (0:Int) h1) Kp
def J34_1 (x0 : Option Addr) (x3:Addr) (x4:Addr) (K : Int → Sl → Sl → Int → Bool → Int → Int → Sl → Sl → HP) (Kp:PK) (h:Hp) : Prop :=
 Joint (sem Tryd.prog ann34 (Dw ord34) none (sub [1, 1, 1, 1, 1] code34) (ctxQ Tryd.prog ann34 (Dw ord34) none Kp [1, 1, 1, 1, 1] code34 [] (q34 K)) Kp (([some (.pointer x0), none, none, some (.pointer (some x3)), some (.pointer (some x4))] ++ nn 67)) h)
theorem J34_1.of {x0 : Option Addr} {x3:Addr} {x4:Addr} {K : Int → Sl → Sl → Int → Bool → Int → Int → Sl → Sl → HP} {Kp:PK} {h:Hp} (H : JT34_1 x0 x3 x4 K Kp h) : J34_1 x0 x3 x4 K Kp h :=
 Joint.mk (Eq.mp (by kernel_rfl) H)
abbrev mk34_3 (x0 : Option Addr) (x3:Addr) (x4:Addr) (x5:Int) (x6:Int) : Fr := ([some (.pointer x0), none, none, some (.pointer (some x3)), some (.pointer (some x4)), some (.int .i64 x5), some (.int .i64 x6)] ++ nn 65)
def T34_3 (x0 : Option Addr) (x3:Addr) (x4:Addr) (x5:Int) (K : Int → Sl → Sl → Int → Bool → Int → Int → Sl → Sl → HP) (Kp:PK) (N1 : Fr → HP) (x6:Int) (h:Hp) : Prop :=
 If (decide (x6 < x5)) (
 NN x0 fun p24 =>
 Ld h (p24.add 3) (Value.int .i64) fun t27 =>
 If (t27 != (0:Int)) (
 Ld h x3 (Value.int .i64) fun t29_0 =>
 Ld h (x3.add 1) (Sl.v) fun t29_1 =>
 Ld h (x3.add 2) (Sl.v) fun t29_2 =>
 Ld h (x3.add 3) (Value.int .i64) fun t29_3 =>
 Ld h (x3.add 4) (Value.bool) fun t29_4 =>
 Ld h (x3.add 5) (Value.int .i64) fun t29_5 =>
 Ld h (x3.add 6) (Value.int .i64) fun t29_6 =>
 Ld h (x3.add 7) (Sl.v) fun t29_7 =>
 Ld h (x3.add 8) (Sl.v) fun t29_8 =>
 St h x4 (.int .i64 t29_0) fun h1 =>
 St h1 (x4.add 1) (Sl.v t29_1) fun h2 =>
 St h2 (x4.add 2) (Sl.v t29_2) fun h3 =>
 St h3 (x4.add 3) (.int .i64 t29_3) fun h4 =>
 St h4 (x4.add 4) (.bool t29_4) fun h5 =>
 St h5 (x4.add 5) (.int .i64 t29_5) fun h6 =>
 St h6 (x4.add 6) (.int .i64 t29_6) fun h7 =>
 St h7 (x4.add 7) (Sl.v t29_7) fun h8 =>
 St h8 (x4.add 8) (Sl.v t29_8) fun h9 =>
 Ld h9 x4 (Value.int .i64) fun r0_0 =>
 Ld h9 (x4.add 1) (Sl.v) fun r0_1 =>
 Ld h9 (x4.add 2) (Sl.v) fun r0_2 =>
 Ld h9 (x4.add 3) (Value.int .i64) fun r0_3 =>
 Ld h9 (x4.add 4) (Value.bool) fun r0_4 =>
 Ld h9 (x4.add 5) (Value.int .i64) fun r0_5 =>
 Ld h9 (x4.add 6) (Value.int .i64) fun r0_6 =>
 Ld h9 (x4.add 7) (Sl.v) fun r0_7 =>
 Ld h9 (x4.add 8) (Sl.v) fun r0_8 =>
 K r0_0 r0_1 r0_2 r0_3 r0_4 r0_5 r0_6 r0_7 r0_8 h9) (
 New h #[(.int .i64 (0:Int)), (.int .i64 (0:Int))] 55 fun a7 h1 =>
 Fn33 x0 (4:Int) h1 (fun t31 h2 =>
 St h2 a7 (.int .i64 t31) fun h3 =>
 Fn33 x0 (4:Int) h3 (fun t34 h4 =>
 St h4 (a7.add 1) (.int .i64 t34) fun h5 =>
 Ld h5 (x3.add 7) (Sl.v) fun t37 =>
 Ld h5 a7 (Value.int .i64) fun t38_0 =>
 Ld h5 (a7.add 1) (Value.int .i64) fun t38_1 =>
 New h5 #[(.int .i64 t38_0), (.int .i64 t38_1)] 55 fun a39 h6 =>
 Ap h6 55 #[(.int .i64 (0:Int)), (.int .i64 (0:Int))] 2 16 t37 1 (rd h6 (some a39) (1 * 2)) fun t40 h7 =>
 St h7 (x3.add 7) (Sl.v t40) fun h8 =>
 Wr .i64 (x6 + (1:Int)) fun t22 =>
 N1 (mk34_3 x0 x3 x4 x5 t22) h8) Kp) Kp)) (
 J34_1 x0 x3 x4 K Kp h)
def L34_3 (x0 : Option Addr) (x3:Addr) (x4:Addr) (x5:Int) (K : Int → Sl → Sl → Int → Bool → Int → Int → Sl → Sl → HP) (Kp:PK) (x6:Int) (h:Hp) : Prop :=
 LoopH (fun N fr h => sem Tryd.prog ann34 (Dw ord34) none (sub [1, 1, 1, 1, 0, 1, 0, 0] code34) (thenQ (fun fr' h' => N (Ann.find ann34 2005 fr') h') (ctxQ Tryd.prog ann34 (Dw ord34) none Kp [1, 1, 1, 1, 0, 1, 0] code34 [] (q34 K))) Kp fr h) (mk34_3 x0 x3 x4 x5 x6) h
theorem L34_3.rule {x0 : Option Addr} {x3:Addr} {x4:Addr} {x5:Int} {K : Int → Sl → Sl → Int → Bool → Int → Int → Sl → Sl → HP} {Kp:PK} (I : Int → HP) (μ : Int → Hp → Nat) {x6:Int} {h:Hp} (h0 : I x6 h)
 (step : ∀ (x6:Int) (h:Hp), I x6 h → ∀ N1 : Fr → HP, (∀ (x6':Int) (h':Hp), I x6' h' → μ x6' h' < μ x6 h → N1 (mk34_3 x0 x3 x4 x5 x6') h') → T34_3 x0 x3 x4 x5 K Kp N1 x6 h) : L34_3 x0 x3 x4 x5 K Kp x6 h :=
 loop_rule (σ := Int) (fun s => mk34_3 x0 x3 x4 x5 s) (fun N s h => T34_3 x0 x3 x4 x5 K Kp N s h) (fun N s h => by kernel_rfl) (fun s h => I s h) (fun s h => μ s h) (s0 := x6) h0 (fun s h hI N hN => step s h hI N (fun x6' h' hI' hl => hN x6' h' hI' hl))
def S34 (r : Option Addr) (hv_0:Int) (hv_1:Sl) (hv_2:Sl) (hv_3:Int) (hv_4:Bool) (hv_5:Int) (hv_6:Int) (hv_7:Sl) (hv_8:Sl) (h:Hp) (K : Int → Sl → Sl → Int → Bool → Int → Int → Sl → Sl → HP) (Kp:PK) : Prop :=
 New h #[(.int .i64 hv_0), (Sl.v hv_1), (Sl.v hv_2), (.int .i64 hv_3), (.bool hv_4), (.int .i64 hv_5), (.int .i64 hv_6), (Sl.v hv_7), (Sl.v hv_8)] 29 fun a3 h1 =>
 New h1 #[(.int .i64 (0:Int)), (.slice none 0 0), (.slice none 0 0), (.int .i64 (0:Int)), (.bool false), (.int .i64 (0:Int)), (.int .i64 (0:Int)), (.slice none 0 0), (.slice none 0 0)] 29 fun a4 h2 =>
 Fn33 r (4:Int) h2 (fun t11 h3 =>
 St h3 (a3.add 5) (.int .i64 t11) fun h4 =>
 Fn33 r (1:Int) h4 (fun t14 h5 =>
 St h5 (a3.add 6) (.int .i64 t14) fun h6 =>
 Fn33 r (2:Int) h6 (fun t17 h7 =>
 L34_3 r a3 a4 t17 K Kp (0:Int) h7) Kp) Kp) Kp
theorem Fn34.of {r : Option Addr} {hv_0:Int} {hv_1:Sl} {hv_2:Sl} {hv_3:Int} {hv_4:Bool} {hv_5:Int} {hv_6:Int} {hv_7:Sl} {hv_8:Sl} {h:Hp} {K : Int → Sl → Sl → Int → Bool → Int → Int → Sl → Sl → HP} {Kp:PK} (H : S34 r hv_0 hv_1 hv_2 hv_3 hv_4 hv_5 hv_6 hv_7 hv_8 h K Kp) : Fn34 r hv_0 hv_1 hv_2 hv_3 hv_4 hv_5 hv_6 hv_7 hv_8 h K Kp :=
 fn_of2 (P := Tryd.prog) (ann := ann34) (D := DrawSem Tryd.prog ord34) (drawOk _) (c := code34) (zs := [(.agg #[(.int .i64 (0:Int)), (.slice none 0 0), (.slice none 0 0), (.int .i64 (0:Int)), (.bool false), (.int .i64 (0:Int)), (.int .i64 (0:Int)), (.slice none 0 0), (.slice none 0 0)])]) (args := [(.pointer r), (.agg #[(.int .i64 hv_0), (Sl.v hv_1), (Sl.v hv_2), (.int .i64 hv_3), (.bool hv_4), (.int .i64 hv_5), (.int .i64 hv_6), (Sl.v hv_7), (Sl.v hv_8)])]) (Kv := kv34 K) (Kp := Kp) (h := h) Tryd.func34 (by kernel_rfl) H (by kernel_rfl) (by kernel_rfl)
/- ### 35: wrong -/
noncomputable def code35 : Code := Tryd.f35.body.getD .skip
def ann35 : Ann := []
def ord35 : List (Nat × OT × List Nat) := []
def kv35 (K:HP) : Value → HP := fun _ h => K h
def S35 (r : Option Addr) (e:Int) (atv:Int) (h:Hp) (K:HP) (Kp:PK) : Prop :=
 NN r fun p7 =>
 Ld h (p7.add 3) (Value.int .i64) fun t10 =>
 If (t10 == (0:Int)) (
 NN r fun p16 =>
 St h (p16.add 3) (.int .i64 e) fun h1 =>
 St h1 ((p16.add 3).add 1) (.slice none 0 0) fun h2 =>
 St h2 ((p16.add 3).add 2) (.int .i64 atv) fun h3 =>
 K  h3) (
 K  h)
theorem Fn35.of {r : Option Addr} {e:Int} {atv:Int} {h:Hp} {K:HP} {Kp:PK} (H : S35 r e atv h K Kp) : Fn35 r e atv h K Kp :=
 fn_of2 (P := Tryd.prog) (ann := ann35) (D := DrawSem Tryd.prog ord35) (drawOk _) (c := code35) (zs := []) (args := [(.pointer r), (.int .i64 e), (.int .i64 atv)]) (Kv := kv35 K) (Kp := Kp) (h := h) Tryd.func35 (by kernel_rfl) H (by kernel_rfl) (by kernel_rfl)
/- ### 36: sameFields -/
noncomputable def code36 : Code := Tryd.f36.body.getD .skip
def ann36 : Ann := [(2004, [0, 1, 5]), (2000007, [0, 1, 5, 6, 7]), (2000009, [0, 1, 5, 6, 7, 67, 68, 69, 70, 71, 72, 73]), (47012, [0, 1, 5, 6, 7, 38]), (47021, [0, 1, 5, 6, 7, 47]), (47030, [0, 1, 5, 6, 7, 56]), (47039, [0, 1, 5, 6, 7, 65])]
def ord36 : List (Nat × OT × List Nat) := [(6, (OT.l [0, 1, 2, 3, 4, 5, 6, 7] (.alt (OT.l [8, 9, 10, 11] .fin) (OT.l [9, 8, 10, 11] .fin))), [0, 0, 3, 7, 0, 0, 48, 112, 0, 0, 783, 2047])]
def kv36 (K : Bool → HP) : Value → HP := fun v h => match v with | .bool r0 => (K r0 h) | _ => False
def q36 (K : Bool → HP) : Qt := retQ Tryd.prog Tryd.f36.results.toList [(.bool false)] (kv36 K)
abbrev mk36_1 (x0:Sl) (x1:Sl) (x5:Int) : Fr := ([some (Sl.v x0), some (Sl.v x1), none, none, none, some (.int .i64 x5)] ++ nn 77)
def JT36_3 (x0:Sl) (x1:Sl) (x5:Int) (x6:Addr) (x7:Addr) (x67:Addr) (x68:Addr) (x69:Int) (x70:Addr) (x71:Addr) (x72:Int) (x73:Bool) (N1 : Fr → HP) (K : Bool → HP) (Kp:PK) (h:Hp) : Prop :=
 Ld h ((x6.add 2).add 4) (Sl.v) fun t77 =>
 Ld h ((x7.add 2).add 4) (Sl.v) fun t80 =>
 Fn36 t77 t80 h (fun t81 h1 =>
 If (!t81) (
 K false h1) (
 Wr .i64 (x5 + (1:Int)) fun t18 =>
 N1 (mk36_1 x0 x1 t18) h1)) Kp
def J36_3 (x0:Sl) (x1:Sl) (x5:Int) (x6:Addr) (x7:Addr) (x67:Addr) (x68:Addr) (x69:Int) (x70:Addr) (x71:Addr) (x72:Int) (x73:Bool) (N1 : Fr → HP) (K : Bool → HP) (Kp:PK) (h:Hp) : Prop :=
 Joint (sem Tryd.prog ann36 (Dw ord36) none (sub [1, 1, 0, 1, 0, 0, 1, 0, 0, 1, 1] code36) (ctxQ Tryd.prog ann36 (Dw ord36) none Kp [1, 1, 0, 1, 0, 0, 1, 0, 0, 1, 1] code36 [N1] (q36 K)) Kp (([some (Sl.v x0), some (Sl.v x1), none, none, none, some (.int .i64 x5), some (.pointer (some x6)), some (.pointer (some x7)), none, none, none, none, none, none, none, none, none, none, none, none, none, none, none, none, none, none, none, none, none, none, none, none, none, none, none, none, none, none, none, none, none, none, none, none, none, none, none, none, none, none, none, none, none, none, none, none, none, none, none, none, none, none, none, none, none, none, none, some (.pointer (some x67)), some (.pointer (some x68)), some (.int .i64 x69), some (.pointer (some x70)), some (.pointer (some x71)), some (.int .i64 x72), some (.bool x73)] ++ nn 9)) h)
theorem J36_3.of {x0:Sl} {x1:Sl} {x5:Int} {x6:Addr} {x7:Addr} {x67:Addr} {x68:Addr} {x69:Int} {x70:Addr} {x71:Addr} {x72:Int} {x73:Bool} {N1 : Fr → HP} {K : Bool → HP} {Kp:PK} {h:Hp} (H : JT36_3 x0 x1 x5 x6 x7 x67 x68 x69 x70 x71 x72 x73 N1 K Kp h) : J36_3 x0 x1 x5 x6 x7 x67 x68 x69 x70 x71 x72 x73 N1 K Kp h :=
 Joint.mk (Eq.mp (by kernel_rfl) H)
def JT36_7 (x0:Sl) (x1:Sl) (x5:Int) (x6:Addr) (x7:Addr) (x65:Bool) (N1 : Fr → HP) (K : Bool → HP) (Kp:PK) (h:Hp) : Prop :=
 If x65 (
 K false h) (
 Ld h ((x6.add 2).add 3) (Value.int .i64) fun t69 =>
 Ld h ((x7.add 2).add 3) (Value.int .i64) fun t72 =>
 If (t69 != t72) (
 K false h) (
 J36_3 x0 x1 x5 x6 x7 (x6.add 2) ((x6.add 2).add 3) t69 (x7.add 2) ((x7.add 2).add 3) t72 (t69 != t72) N1 K Kp h))
def J36_7 (x0:Sl) (x1:Sl) (x5:Int) (x6:Addr) (x7:Addr) (x65:Bool) (N1 : Fr → HP) (K : Bool → HP) (Kp:PK) (h:Hp) : Prop :=
 Joint (semOps Tryd.prog (Ann.reg 7 ann36) (regOps (sub [1, 1, 0, 1, 0, 0, 1, 0, 0, 1, 0, 0] code36)) [39, 40, 41, 42, 43, 44, 45, 46, 47] (ctxQ Tryd.prog ann36 (Dw ord36) none Kp [1, 1, 0, 1, 0, 0, 1, 0, 0, 1, 0, 0] code36 [N1] (q36 K) .normal) Kp (([some (Sl.v x0), some (Sl.v x1), none, none, none, some (.int .i64 x5), some (.pointer (some x6)), some (.pointer (some x7)), none, none, none, none, none, none, none, none, none, none, none, none, none, none, none, none, none, none, none, none, none, none, none, none, none, none, none, none, none, none, none, none, none, none, none, none, none, none, none, none, none, none, none, none, none, none, none, none, none, none, none, none, none, none, none, none, none, some (.bool x65)] ++ nn 17)) h)
theorem J36_7.of {x0:Sl} {x1:Sl} {x5:Int} {x6:Addr} {x7:Addr} {x65:Bool} {N1 : Fr → HP} {K : Bool → HP} {Kp:PK} {h:Hp} (H : JT36_7 x0 x1 x5 x6 x7 x65 N1 K Kp h) : J36_7 x0 x1 x5 x6 x7 x65 N1 K Kp h :=
 Joint.mk (Eq.mp (by kernel_rfl) H)
def JT36_6 (x0:Sl) (x1:Sl) (x5:Int) (x6:Addr) (x7:Addr) (x56:Bool) (N1 : Fr → HP) (K : Bool → HP) (Kp:PK) (h:Hp) : Prop :=
 If x56 (
 J36_7 x0 x1 x5 x6 x7 true N1 K Kp h) (
 Ld h ((x6.add 2).add 2) (Value.int .i64) fun t60 =>
 Ld h ((x7.add 2).add 2) (Value.int .i64) fun t63 =>
 J36_7 x0 x1 x5 x6 x7 (t60 != t63) N1 K Kp h)
def J36_6 (x0:Sl) (x1:Sl) (x5:Int) (x6:Addr) (x7:Addr) (x56:Bool) (N1 : Fr → HP) (K : Bool → HP) (Kp:PK) (h:Hp) : Prop :=
 Joint (semOps Tryd.prog (Ann.reg 7 ann36) (regOps (sub [1, 1, 0, 1, 0, 0, 1, 0, 0, 1, 0, 0] code36)) [30, 31, 32, 33, 34, 35, 36, 37, 38, 39, 40, 41, 42, 43, 44, 45, 46, 47] (ctxQ Tryd.prog ann36 (Dw ord36) none Kp [1, 1, 0, 1, 0, 0, 1, 0, 0, 1, 0, 0] code36 [N1] (q36 K) .normal) Kp (([some (Sl.v x0), some (Sl.v x1), none, none, none, some (.int .i64 x5), some (.pointer (some x6)), some (.pointer (some x7)), none, none, none, none, none, none, none, none, none, none, none, none, none, none, none, none, none, none, none, none, none, none, none, none, none, none, none, none, none, none, none, none, none, none, none, none, none, none, none, none, none, none, none, none, none, none, none, none, some (.bool x56)] ++ nn 26)) h)
theorem J36_6.of {x0:Sl} {x1:Sl} {x5:Int} {x6:Addr} {x7:Addr} {x56:Bool} {N1 : Fr → HP} {K : Bool → HP} {Kp:PK} {h:Hp} (H : JT36_6 x0 x1 x5 x6 x7 x56 N1 K Kp h) : J36_6 x0 x1 x5 x6 x7 x56 N1 K Kp h :=
 Joint.mk (Eq.mp (by kernel_rfl) H)
def JT36_5 (x0:Sl) (x1:Sl) (x5:Int) (x6:Addr) (x7:Addr) (x47:Bool) (N1 : Fr → HP) (K : Bool → HP) (Kp:PK) (h:Hp) : Prop :=
 If x47 (
 J36_6 x0 x1 x5 x6 x7 true N1 K Kp h) (
 Ld h ((x6.add 2).add 1) (Value.int .i64) fun t51 =>
 Ld h ((x7.add 2).add 1) (Value.int .i64) fun t54 =>
 J36_6 x0 x1 x5 x6 x7 (t51 != t54) N1 K Kp h)
def J36_5 (x0:Sl) (x1:Sl) (x5:Int) (x6:Addr) (x7:Addr) (x47:Bool) (N1 : Fr → HP) (K : Bool → HP) (Kp:PK) (h:Hp) : Prop :=
 Joint (semOps Tryd.prog (Ann.reg 7 ann36) (regOps (sub [1, 1, 0, 1, 0, 0, 1, 0, 0, 1, 0, 0] code36)) [21, 22, 23, 24, 25, 26, 27, 28, 29, 30, 31, 32, 33, 34, 35, 36, 37, 38, 39, 40, 41, 42, 43, 44, 45, 46, 47] (ctxQ Tryd.prog ann36 (Dw ord36) none Kp [1, 1, 0, 1, 0, 0, 1, 0, 0, 1, 0, 0] code36 [N1] (q36 K) .normal) Kp (([some (Sl.v x0), some (Sl.v x1), none, none, none, some (.int .i64 x5), some (.pointer (some x6)), some (.pointer (some x7)), none, none, none, none, none, none, none, none, none, none, none, none, none, none, none, none, none, none, none, none, none, none, none, none, none, none, none, none, none, none, none, none, none, none, none, none, none, none, none, some (.bool x47)] ++ nn 35)) h)
theorem J36_5.of {x0:Sl} {x1:Sl} {x5:Int} {x6:Addr} {x7:Addr} {x47:Bool} {N1 : Fr → HP} {K : Bool → HP} {Kp:PK} {h:Hp} (H : JT36_5 x0 x1 x5 x6 x7 x47 N1 K Kp h) : J36_5 x0 x1 x5 x6 x7 x47 N1 K Kp h :=
 Joint.mk (Eq.mp (by kernel_rfl) H)
def JT36_4 (x0:Sl) (x1:Sl) (x5:Int) (x6:Addr) (x7:Addr) (x38:Bool) (N1 : Fr → HP) (K : Bool → HP) (Kp:PK) (h:Hp) : Prop :=
 If x38 (
 J36_5 x0 x1 x5 x6 x7 true N1 K Kp h) (
 Ld h (x6.add 2) (Value.int .i64) fun t42 =>
 Ld h (x7.add 2) (Value.int .i64) fun t45 =>
 J36_5 x0 x1 x5 x6 x7 (t42 != t45) N1 K Kp h)
def J36_4 (x0:Sl) (x1:Sl) (x5:Int) (x6:Addr) (x7:Addr) (x38:Bool) (N1 : Fr → HP) (K : Bool → HP) (Kp:PK) (h:Hp) : Prop :=
 Joint (semOps Tryd.prog (Ann.reg 7 ann36) (regOps (sub [1, 1, 0, 1, 0, 0, 1, 0, 0, 1, 0, 0] code36)) [12, 13, 14, 15, 16, 17, 18, 19, 20, 21, 22, 23, 24, 25, 26, 27, 28, 29, 30, 31, 32, 33, 34, 35, 36, 37, 38, 39, 40, 41, 42, 43, 44, 45, 46, 47] (ctxQ Tryd.prog ann36 (Dw ord36) none Kp [1, 1, 0, 1, 0, 0, 1, 0, 0, 1, 0, 0] code36 [N1] (q36 K) .normal) Kp (([some (Sl.v x0), some (Sl.v x1), none, none, none, some (.int .i64 x5), some (.pointer (some x6)), some (.pointer (some x7)), none, none, none, none, none, none, none, none, none, none, none, none, none, none, none, none, none, none, none, none, none, none, none, none, none, none, none, none, none, none, some (.bool x38)] ++ nn 44)) h)
theorem J36_4.of {x0:Sl} {x1:Sl} {x5:Int} {x6:Addr} {x7:Addr} {x38:Bool} {N1 : Fr → HP} {K : Bool → HP} {Kp:PK} {h:Hp} (H : JT36_4 x0 x1 x5 x6 x7 x38 N1 K Kp h) : J36_4 x0 x1 x5 x6 x7 x38 N1 K Kp h :=
 Joint.mk (Eq.mp (by kernel_rfl) H)
def JT36_2 (x0:Sl) (x1:Sl) (x5:Int) (x6:Addr) (x7:Addr) (N1 : Fr → HP) (K : Bool → HP) (Kp:PK) (h:Hp) : Prop :=
 Ld h x6 (Value.string) fun t28 =>
 Ld h x7 (Value.string) fun t30 =>
 If (!(t28.toList == t30.toList)) (
 J36_4 x0 x1 x5 x6 x7 true N1 K Kp h) (
 Ld h (x6.add 1) (Value.bool) fun t34 =>
 Ld h (x7.add 1) (Value.bool) fun t36 =>
 J36_4 x0 x1 x5 x6 x7 (!(t34 == t36)) N1 K Kp h)
def J36_2 (x0:Sl) (x1:Sl) (x5:Int) (x6:Addr) (x7:Addr) (N1 : Fr → HP) (K : Bool → HP) (Kp:PK) (h:Hp) : Prop :=
 Joint (sem Tryd.prog ann36 (Dw ord36) none (sub [1, 1, 0, 1, 0, 0, 1, 0, 0, 1] code36) (ctxQ Tryd.prog ann36 (Dw ord36) none Kp [1, 1, 0, 1, 0, 0, 1, 0, 0, 1] code36 [N1] (q36 K)) Kp (([some (Sl.v x0), some (Sl.v x1), none, none, none, some (.int .i64 x5), some (.pointer (some x6)), some (.pointer (some x7))] ++ nn 75)) h)
theorem J36_2.of {x0:Sl} {x1:Sl} {x5:Int} {x6:Addr} {x7:Addr} {N1 : Fr → HP} {K : Bool → HP} {Kp:PK} {h:Hp} (H : JT36_2 x0 x1 x5 x6 x7 N1 K Kp h) : J36_2 x0 x1 x5 x6 x7 N1 K Kp h :=
 Joint.mk (Eq.mp (by kernel_rfl) H)
def T36_1 (x0:Sl) (x1:Sl) (K : Bool → HP) (Kp:PK) (N1 : Fr → HP) (x5:Int) (h:Hp) : Prop :=
 If (decide (x5 < (x0.n:Int))) (
 Ix x0.a x0.n 7 x5 fun a21 =>
 Ld h a21 (Value.string) fun t22_0 =>
 Ld h (a21.add 1) (Value.bool) fun t22_1 =>
 Ld h (a21.add 2) (Value.int .i64) fun t22_2 =>
 Ld h (a21.add 3) (Value.int .i64) fun t22_3 =>
 Ld h (a21.add 4) (Value.int .i64) fun t22_4 =>
 Ld h (a21.add 5) (Value.int .i64) fun t22_5 =>
 Ld h (a21.add 6) (Sl.v) fun t22_6 =>
 Ix x1.a x1.n 7 x5 fun a25 =>
 Ld h a25 (Value.string) fun t26_0 =>
 Ld h (a25.add 1) (Value.bool) fun t26_1 =>
 Ld h (a25.add 2) (Value.int .i64) fun t26_2 =>
 Ld h (a25.add 3) (Value.int .i64) fun t26_3 =>
 Ld h (a25.add 4) (Value.int .i64) fun t26_4 =>
 Ld h (a25.add 5) (Value.int .i64) fun t26_5 =>
 Ld h (a25.add 6) (Sl.v) fun t26_6 =>
 (
 New h #[(.string (bs [])), (.bool false), (.int .i64 (0:Int)), (.int .i64 (0:Int)), (.int .i64 (0:Int)), (.int .i64 (0:Int)), (.slice none 0 0)] 63 fun a6 h1 =>
 Keep h h1 a25 7 <|
 Keep h h1 a21 7 <|
 New h1 #[(.string (bs [])), (.bool false), (.int .i64 (0:Int)), (.int .i64 (0:Int)), (.int .i64 (0:Int)), (.int .i64 (0:Int)), (.slice none 0 0)] 63 fun a7 h2 =>
 Keep h1 h2 a25 7 <|
 Keep h1 h2 a21 7 <|
 St h2 a6 (.string t22_0) fun h3 =>
 St h3 (a6.add 1) (.bool t22_1) fun h4 =>
 St h4 (a6.add 2) (.int .i64 t22_2) fun h5 =>
 St h5 (a6.add 3) (.int .i64 t22_3) fun h6 =>
 St h6 (a6.add 4) (.int .i64 t22_4) fun h7 =>
 St h7 (a6.add 5) (.int .i64 t22_5) fun h8 =>
 St h8 (a6.add 6) (Sl.v t22_6) fun h9 =>
 Keep h2 h9 a25 7 <|
 St h9 a7 (.string t26_0) fun h10 =>
 St h10 (a7.add 1) (.bool t26_1) fun h11 =>
 St h11 (a7.add 2) (.int .i64 t26_2) fun h12 =>
 St h12 (a7.add 3) (.int .i64 t26_3) fun h13 =>
 St h13 (a7.add 4) (.int .i64 t26_4) fun h14 =>
 St h14 (a7.add 5) (.int .i64 t26_5) fun h15 =>
 St h15 (a7.add 6) (Sl.v t26_6) fun h16 =>
 J36_2 x0 x1 x5 a6 a7 N1 K Kp h16) ∧ (
 New h #[(.string (bs [])), (.bool false), (.int .i64 (0:Int)), (.int .i64 (0:Int)), (.int .i64 (0:Int)), (.int .i64 (0:Int)), (.slice none 0 0)] 63 fun a7 h1 =>
 Keep h h1 a25 7 <|
 Keep h h1 a21 7 <|
 New h1 #[(.string (bs [])), (.bool false), (.int .i64 (0:Int)), (.int .i64 (0:Int)), (.int .i64 (0:Int)), (.int .i64 (0:Int)), (.slice none 0 0)] 63 fun a6 h2 =>
 Keep h1 h2 a25 7 <|
 Keep h1 h2 a21 7 <|
 St h2 a6 (.string t22_0) fun h3 =>
 St h3 (a6.add 1) (.bool t22_1) fun h4 =>
 St h4 (a6.add 2) (.int .i64 t22_2) fun h5 =>
 St h5 (a6.add 3) (.int .i64 t22_3) fun h6 =>
 St h6 (a6.add 4) (.int .i64 t22_4) fun h7 =>
 St h7 (a6.add 5) (.int .i64 t22_5) fun h8 =>
 St h8 (a6.add 6) (Sl.v t22_6) fun h9 =>
 Keep h2 h9 a25 7 <|
 St h9 a7 (.string t26_0) fun h10 =>
 St h10 (a7.add 1) (.bool t26_1) fun h11 =>
 St h11 (a7.add 2) (.int .i64 t26_2) fun h12 =>
 St h12 (a7.add 3) (.int .i64 t26_3) fun h13 =>
 St h13 (a7.add 4) (.int .i64 t26_4) fun h14 =>
 St h14 (a7.add 5) (.int .i64 t26_5) fun h15 =>
 St h15 (a7.add 6) (Sl.v t26_6) fun h16 =>
 J36_2 x0 x1 x5 a6 a7 N1 K Kp h16)) (
 K true h)
def L36_1 (x0:Sl) (x1:Sl) (K : Bool → HP) (Kp:PK) (x5:Int) (h:Hp) : Prop :=
 LoopH (fun N fr h => sem Tryd.prog ann36 (Dw ord36) none (sub [1, 1, 0, 1, 0, 0] code36) (thenQ (fun fr' h' => N (Ann.find ann36 2004 fr') h') (ctxQ Tryd.prog ann36 (Dw ord36) none Kp [1, 1, 0, 1, 0] code36 [] (q36 K))) Kp fr h) (mk36_1 x0 x1 x5) h
theorem L36_1.rule {x0:Sl} {x1:Sl} {K : Bool → HP} {Kp:PK} (I : Int → HP) (μ : Int → Hp → Nat) {x5:Int} {h:Hp} (h0 : I x5 h)
 (step : ∀ (x5:Int) (h:Hp), I x5 h → ∀ N1 : Fr → HP, (∀ (x5':Int) (h':Hp), I x5' h' → μ x5' h' < μ x5 h → N1 (mk36_1 x0 x1 x5') h') → T36_1 x0 x1 K Kp N1 x5 h) : L36_1 x0 x1 K Kp x5 h :=
 loop_rule (σ := Int) (fun s => mk36_1 x0 x1 s) (fun N s h => T36_1 x0 x1 K Kp N s h) (fun N s h => by kernel_rfl) (fun s h => I s h) (fun s h => μ s h) (s0 := x5) h0 (fun s h hI N hN => step s h hI N (fun x5' h' hI' hl => hN x5' h' hI' hl))
def S36 (a:Sl) (b:Sl) (h:Hp) (K : Bool → HP) (Kp:PK) : Prop :=
 If ((a.n:Int) != (b.n:Int)) (
 K false h) (
 L36_1 a b K Kp (0:Int) h)
theorem Fn36.of {a:Sl} {b:Sl} {h:Hp} {K : Bool → HP} {Kp:PK} (H : S36 a b h K Kp) : Fn36 a b h K Kp :=
 fn_of2 (P := Tryd.prog) (ann := ann36) (D := DrawSem Tryd.prog ord36) (drawOk _) (c := code36) (zs := [(.bool false)]) (args := [(Sl.v a), (Sl.v b)]) (Kv := kv36 K) (Kp := Kp) (h := h) Tryd.func36 (by kernel_rfl) H (by kernel_rfl) (by kernel_rfl)
/- ### 37: SchemaMay -/
noncomputable def code37 : Code := Tryd.f37.body.getD .skip
def ann37 : Ann := [(2000003, [1]), (2000008, [1]), (2013, [1, 5, 6]), (2004, [1, 3])]
def ord37 : List (Nat × OT × List Nat) := []
def kv37 (K : Bool → HP) : Value → HP := fun v h => match v with | .bool r0 => (K r0 h) | _ => False
def q37 (K : Bool → HP) : Qt := retQ Tryd.prog Tryd.f37.results.toList [(.bool false)] (kv37 K)
abbrev mk37_3 (x1:Addr) (x5:Addr) (x6:Int) : Fr := ([none, some (.pointer (some x1)), none, none, none, some (.pointer (some x5)), some (.int .i64 x6)] ++ nn 58)
def T37_3 (x1:Addr) (x5:Addr) (K : Bool → HP) (Kp:PK) (N1 : Fr → HP) (x6:Int) (h:Hp) : Prop :=
 Ld h x1 (Sl.v) fun t51 =>
 If (decide (x6 < (t51.n:Int))) (
 Ld h x1 (Sl.v) fun t58 =>
 Ix t58.a t58.n 7 x6 fun a60 =>
 Ld h a60 (Value.string) fun t61_0 =>
 Ld h (a60.add 1) (Value.bool) fun t61_1 =>
 Ld h (a60.add 2) (Value.int .i64) fun t61_2 =>
 Ld h (a60.add 3) (Value.int .i64) fun t61_3 =>
 Ld h (a60.add 4) (Value.int .i64) fun t61_4 =>
 Ld h (a60.add 5) (Value.int .i64) fun t61_5 =>
 Ld h (a60.add 6) (Sl.v) fun t61_6 =>
 Fn52 (some x5) t61_0 t61_1 t61_2 t61_3 t61_4 t61_5 t61_6 (1:Int) false h (fun t62 h1 =>
 If (!t62) (
 K false h1) (
 Wr .i64 (x6 + (1:Int)) fun t55 =>
 N1 (mk37_3 x1 x5 t55) h1)) Kp) (
 K true h)
def L37_3 (x1:Addr) (x5:Addr) (K : Bool → HP) (Kp:PK) (x6:Int) (h:Hp) : Prop :=
 LoopH (fun N fr h => sem Tryd.prog ann37 (Dw ord37) none (sub [1, 1, 1, 1, 1, 1, 0, 1, 0, 0] code37) (thenQ (fun fr' h' => N (Ann.find ann37 2013 fr') h') (ctxQ Tryd.prog ann37 (Dw ord37) none Kp [1, 1, 1, 1, 1, 1, 0, 1, 0] code37 [] (q37 K))) Kp fr h) (mk37_3 x1 x5 x6) h
theorem L37_3.rule {x1:Addr} {x5:Addr} {K : Bool → HP} {Kp:PK} (I : Int → HP) (μ : Int → Hp → Nat) {x6:Int} {h:Hp} (h0 : I x6 h)
 (step : ∀ (x6:Int) (h:Hp), I x6 h → ∀ N1 : Fr → HP, (∀ (x6':Int) (h':Hp), I x6' h' → μ x6' h' < μ x6 h → N1 (mk37_3 x1 x5 x6') h') → T37_3 x1 x5 K Kp N1 x6 h) : L37_3 x1 x5 K Kp x6 h :=
 loop_rule (σ := Int) (fun s => mk37_3 x1 x5 s) (fun N s h => T37_3 x1 x5 K Kp N s h) (fun N s h => by kernel_rfl) (fun s h => I s h) (fun s h => μ s h) (s0 := x6) h0 (fun s h hI N hN => step s h hI N (fun x6' h' hI' hl => hN x6' h' hI' hl))
def JT37_2 (x1:Addr) (K : Bool → HP) (Kp:PK) (h:Hp) : Prop :=
 Ld h x1 (Sl.v) fun t43 =>
 Fn51 t43 h (fun t44 h1 =>
 If (!t44) (
 K false h1) (
 New h1 #[(.int .i64 (0:Int)), (.slice none 0 0)] 96 fun a48 h2 =>
 L37_3 x1 a48 K Kp (0:Int) h2)) Kp
def J37_2 (x1:Addr) (K : Bool → HP) (Kp:PK) (h:Hp) : Prop :=
 Joint (sem Tryd.prog ann37 (Dw ord37) none (sub [1, 1, 1] code37) (ctxQ Tryd.prog ann37 (Dw ord37) none Kp [1, 1, 1] code37 [] (q37 K)) Kp (([none, some (.pointer (some x1))] ++ nn 63)) h)
theorem J37_2.of {x1:Addr} {K : Bool → HP} {Kp:PK} {h:Hp} (H : JT37_2 x1 K Kp h) : J37_2 x1 K Kp h :=
 Joint.mk (Eq.mp (by kernel_rfl) H)
abbrev mk37_4 (x1:Addr) (x3:Int) : Fr := ([none, some (.pointer (some x1)), none, some (.int .i64 x3)] ++ nn 61)
def T37_4 (x1:Addr) (K : Bool → HP) (Kp:PK) (N1 : Fr → HP) (x3:Int) (h:Hp) : Prop :=
 Ld h (x1.add 1) (Sl.v) fun t19 =>
 If (decide (x3 < (t19.n:Int))) (
 Ld h (x1.add 1) (Sl.v) fun t25 =>
 Ix t25.a t25.n 2 x3 fun a27 =>
 Ld h a27 (Value.string) fun t29 =>
 If (decide ((t29.size:Int) > (256:Int))) (
 K false h) (
 Ld h (x1.add 1) (Sl.v) fun t34 =>
 Ix t34.a t34.n 2 x3 fun a36 =>
 Ld h (a36.add 1) (Value.string) fun t38 =>
 If (decide ((t38.size:Int) > (256:Int))) (
 K false h) (
 Wr .i64 (x3 + (1:Int)) fun t23 =>
 N1 (mk37_4 x1 t23) h))) (
 J37_2 x1 K Kp h)
def L37_4 (x1:Addr) (K : Bool → HP) (Kp:PK) (x3:Int) (h:Hp) : Prop :=
 LoopH (fun N fr h => sem Tryd.prog ann37 (Dw ord37) none (sub [1, 1, 0, 1, 0, 0] code37) (thenQ (fun fr' h' => N (Ann.find ann37 2004 fr') h') (ctxQ Tryd.prog ann37 (Dw ord37) none Kp [1, 1, 0, 1, 0] code37 [] (q37 K))) Kp fr h) (mk37_4 x1 x3) h
theorem L37_4.rule {x1:Addr} {K : Bool → HP} {Kp:PK} (I : Int → HP) (μ : Int → Hp → Nat) {x3:Int} {h:Hp} (h0 : I x3 h)
 (step : ∀ (x3:Int) (h:Hp), I x3 h → ∀ N1 : Fr → HP, (∀ (x3':Int) (h':Hp), I x3' h' → μ x3' h' < μ x3 h → N1 (mk37_4 x1 x3') h') → T37_4 x1 K Kp N1 x3 h) : L37_4 x1 K Kp x3 h :=
 loop_rule (σ := Int) (fun s => mk37_4 x1 s) (fun N s h => T37_4 x1 K Kp N s h) (fun N s h => by kernel_rfl) (fun s h => I s h) (fun s h => μ s h) (s0 := x3) h0 (fun s h hI N hN => step s h hI N (fun x3' h' hI' hl => hN x3' h' hI' hl))
def JT37_1 (x1:Addr) (K : Bool → HP) (Kp:PK) (h:Hp) : Prop :=
 L37_4 x1 K Kp (0:Int) h
def J37_1 (x1:Addr) (K : Bool → HP) (Kp:PK) (h:Hp) : Prop :=
 Joint (sem Tryd.prog ann37 (Dw ord37) none (sub [1, 1] code37) (ctxQ Tryd.prog ann37 (Dw ord37) none Kp [1, 1] code37 [] (q37 K)) Kp (([none, some (.pointer (some x1))] ++ nn 63)) h)
theorem J37_1.of {x1:Addr} {K : Bool → HP} {Kp:PK} {h:Hp} (H : JT37_1 x1 K Kp h) : J37_1 x1 K Kp h :=
 Joint.mk (Eq.mp (by kernel_rfl) H)
def S37 (s_0:Sl) (s_1:Sl) (h:Hp) (K : Bool → HP) (Kp:PK) : Prop :=
 New h #[(Sl.v s_0), (Sl.v s_1)] 25 fun a1 h1 =>
 Ld h1 a1 (Sl.v) fun t8 =>
 If (decide ((t8.n:Int) > (32:Int))) (
 K false h1) (
 Ld h1 (a1.add 1) (Sl.v) fun t13 =>
 If (decide ((t13.n:Int) > (16:Int))) (
 K false h1) (
 J37_1 a1 K Kp h1))
theorem Fn37.of {s_0:Sl} {s_1:Sl} {h:Hp} {K : Bool → HP} {Kp:PK} (H : S37 s_0 s_1 h K Kp) : Fn37 s_0 s_1 h K Kp :=
 fn_of2 (P := Tryd.prog) (ann := ann37) (D := DrawSem Tryd.prog ord37) (drawOk _) (c := code37) (zs := [(.bool false)]) (args := [(.agg #[(Sl.v s_0), (Sl.v s_1)])]) (Kv := kv37 K) (Kp := Kp) (h := h) Tryd.func37 (by kernel_rfl) H (by kernel_rfl) (by kernel_rfl)
end Go.Proofs.YtfomkkdijjfpiaaDoor
