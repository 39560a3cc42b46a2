/- What the functions do, printed by program (gen.py) in the words of ShCore; each text is held against the loaded program by the kernel. -/
import Derived.Test.YtfomkkdijjfpiaaDoorKeepsF
set_option linter.unusedSimpArgs false
set_option linter.unusedVariables false
set_option maxRecDepth 100000
namespace Go.Proofs.YtfomkkdijjfpiaaDoor
open Go Go.Sh
/- ### 30: head -/
noncomputable def code30 : Code := Tryd.f30.body.getD .skip
def ann30 : Ann := [(2000011, [0, 2, 3]), (2000018, [0, 2, 3]), (2019, [0, 2, 3, 56, 57]), (2014, [0, 2, 3, 40, 41])]
def ord30 : List (Nat × OT × List Nat) := [(22, (OT.l [0, 1, 2, 3, 4, 5, 6, 7, 8, 9, 10] .fin), [0, 1, 0, 0, 0, 16, 60, 124, 255, 511, 1023]), (16, (OT.l [0, 1, 2, 3, 4, 5, 6, 7, 8, 9] .fin), [0, 1, 0, 0, 8, 28, 60, 127, 255, 511])]
def kv30 (K : Int → Sl → Sl → Int → Bool → Int → Int → Sl → Sl → HP) : Value → HP := fun v h => match v with | .agg cs0 => (match (cs0.toList.getD 0 undef) with | .int _ r0_0 => (match (cs0.toList.getD 1 undef) with | .slice r0_1a r0_1n r0_1c => (let r0_1 : Sl := ⟨r0_1a, r0_1n, r0_1c⟩; match (cs0.toList.getD 2 undef) with | .slice r0_2a r0_2n r0_2c => (let r0_2 : Sl := ⟨r0_2a, r0_2n, r0_2c⟩; match (cs0.toList.getD 3 undef) with | .int _ r0_3 => (match (cs0.toList.getD 4 undef) with | .bool r0_4 => (match (cs0.toList.getD 5 undef) with | .int _ r0_5 => (match (cs0.toList.getD 6 undef) with | .int _ r0_6 => (match (cs0.toList.getD 7 undef) with | .slice r0_7a r0_7n r0_7c => (let r0_7 : Sl := ⟨r0_7a, r0_7n, r0_7c⟩; match (cs0.toList.getD 8 undef) with | .slice r0_8a r0_8n r0_8c => (let r0_8 : Sl := ⟨r0_8a, r0_8n, r0_8c⟩; K r0_0 r0_1 r0_2 r0_3 r0_4 r0_5 r0_6 r0_7 r0_8 h) | _ => False) | _ => False) | _ => False) | _ => False) | _ => False) | _ => False) | _ => False) | _ => False) | _ => False) | _ => False
def q30 (K : Int → Sl → Sl → Int → Bool → Int → Int → Sl → Sl → HP) : Qt := retQ Tryd.prog Tryd.f30.results.toList [(.agg #[(.int .i64 (0:Int)), (.slice none 0 0), (.slice none 0 0), (.int .i64 (0:Int)), (.bool false), (.int .i64 (0:Int)), (.int .i64 (0:Int)), (.slice none 0 0), (.slice none 0 0)])] (kv30 K)
abbrev mk30_3 (x0 : Option Addr) (x2:Addr) (x3:Addr) (x56:Int) (x57:Int) : Fr := ([some (.pointer x0), none, some (.pointer (some x2)), some (.pointer (some x3)), none, none, none, none, none, none, none, none, none, none, none, none, none, none, none, none, none, none, none, none, none, none, none, none, none, none, none, none, none, none, none, none, none, none, none, none, none, none, none, none, none, none, none, none, none, none, none, none, none, none, none, none, some (.int .i64 x56), some (.int .i64 x57)] ++ nn 17)
def T30_3 (x0 : Option Addr) (x2:Addr) (x3:Addr) (x56:Int) (K : Int → Sl → Sl → Int → Bool → Int → Int → Sl → Sl → HP) (Kp:PK) (N1 : Fr → HP) (x57:Int) (h:Hp) : Prop :=
 If (decide (x57 < x56)) (
 Fn47 x0 (4:Int) h (fun t60 h1 =>
 Fn47 x0 (4:Int) h1 (fun t62 h2 =>
 Ld h2 (x3.add 8) (Sl.v) fun t64 =>
 Fn47 x0 (4:Int) h2 (fun t68 h3 =>
 Keep h2 h3 (x3.add 8) 1 <|
 New h3 #[(.int .i64 t60), (.int .i64 t62), (.int .i64 t68)] 57 fun a70 h4 =>
 Keep h3 h4 (x3.add 8) 1 <|
 Ap h4 57 #[(.int .i64 (0:Int)), (.int .i64 (0:Int)), (.int .i64 (0:Int))] 3 24 t64 1 (rd h4 (some a70) (1 * 3)) fun t71 h5 =>
 St h5 (x3.add 8) (Sl.v t71) fun h6 =>
 Wr .i64 (x57 + (1:Int)) fun t73 =>
 N1 (mk30_3 x0 x2 x3 x56 t73) h6) Kp) Kp) Kp) (
 Ld h x3 (Value.int .i64) fun t74_0 =>
 Ld h (x3.add 1) (Sl.v) fun t74_1 =>
 Ld h (x3.add 2) (Sl.v) fun t74_2 =>
 Ld h (x3.add 3) (Value.int .i64) fun t74_3 =>
 Ld h (x3.add 4) (Value.bool) fun t74_4 =>
 Ld h (x3.add 5) (Value.int .i64) fun t74_5 =>
 Ld h (x3.add 6) (Value.int .i64) fun t74_6 =>
 Ld h (x3.add 7) (Sl.v) fun t74_7 =>
 Ld h (x3.add 8) (Sl.v) fun t74_8 =>
 St h x2 (.int .i64 t74_0) fun h1 =>
 St h1 (x2.add 1) (Sl.v t74_1) fun h2 =>
 St h2 (x2.add 2) (Sl.v t74_2) fun h3 =>
 St h3 (x2.add 3) (.int .i64 t74_3) fun h4 =>
 St h4 (x2.add 4) (.bool t74_4) fun h5 =>
 St h5 (x2.add 5) (.int .i64 t74_5) fun h6 =>
 St h6 (x2.add 6) (.int .i64 t74_6) fun h7 =>
 St h7 (x2.add 7) (Sl.v t74_7) fun h8 =>
 St h8 (x2.add 8) (Sl.v t74_8) fun h9 =>
 Ld h9 x2 (Value.int .i64) fun r0_0 =>
 Ld h9 (x2.add 1) (Sl.v) fun r0_1 =>
 Ld h9 (x2.add 2) (Sl.v) fun r0_2 =>
 Ld h9 (x2.add 3) (Value.int .i64) fun r0_3 =>
 Ld h9 (x2.add 4) (Value.bool) fun r0_4 =>
 Ld h9 (x2.add 5) (Value.int .i64) fun r0_5 =>
 Ld h9 (x2.add 6) (Value.int .i64) fun r0_6 =>
 Ld h9 (x2.add 7) (Sl.v) fun r0_7 =>
 Ld h9 (x2.add 8) (Sl.v) fun r0_8 =>
 K r0_0 r0_1 r0_2 r0_3 r0_4 r0_5 r0_6 r0_7 r0_8 h9)
def L30_3 (x0 : Option Addr) (x2:Addr) (x3:Addr) (x56:Int) (K : Int → Sl → Sl → Int → Bool → Int → Int → Sl → Sl → HP) (Kp:PK) (x57:Int) (h:Hp) : Prop :=
 LoopH (fun N fr h => sem Tryd.prog ann30 (Dw ord30) none (sub [1, 1, 1, 1, 1, 1, 1, 1, 1, 1, 0, 1, 0, 0] code30) (thenQ (fun fr' h' => N (Ann.find ann30 2019 fr') h') (ctxQ Tryd.prog ann30 (Dw ord30) none Kp [1, 1, 1, 1, 1, 1, 1, 1, 1, 1, 0, 1, 0] code30 [] (q30 K))) Kp fr h) (mk30_3 x0 x2 x3 x56 x57) h
theorem L30_3.rule {x0 : Option Addr} {x2:Addr} {x3:Addr} {x56:Int} {K : Int → Sl → Sl → Int → Bool → Int → Int → Sl → Sl → HP} {Kp:PK} (I : Int → HP) (μ : Int → Hp → Nat) {x57:Int} {h:Hp} (h0 : I x57 h)
 (step : ∀ (x57:Int) (h:Hp), I x57 h → ∀ N1 : Fr → HP, (∀ (x57':Int) (h':Hp), I x57' h' → μ x57' h' < μ x57 h → N1 (mk30_3 x0 x2 x3 x56 x57') h') → T30_3 x0 x2 x3 x56 K Kp N1 x57 h) : L30_3 x0 x2 x3 x56 K Kp x57 h :=
 loop_rule (σ := Int) (fun s => mk30_3 x0 x2 x3 x56 s) (fun N s h => T30_3 x0 x2 x3 x56 K Kp N s h) (fun N s h => by kernel_rfl) (fun s h => I s h) (fun s h => μ s h) (s0 := x57) h0 (fun s h hI N hN => step s h hI N (fun x57' h' hI' hl => hN x57' h' hI' hl))
def JT30_2 (x0 : Option Addr) (x2:Addr) (x3:Addr) (K : Int → Sl → Sl → Int → Bool → Int → Int → Sl → Sl → HP) (Kp:PK) (h:Hp) : Prop :=
 Fn47 x0 (2:Int) h (fun t56 h1 =>
 L30_3 x0 x2 x3 t56 K Kp (0:Int) h1) Kp
def J30_2 (x0 : Option Addr) (x2:Addr) (x3:Addr) (K : Int → Sl → Sl → Int → Bool → Int → Int → Sl → Sl → HP) (Kp:PK) (h:Hp) : Prop :=
 Joint (sem Tryd.prog ann30 (Dw ord30) none (sub [1, 1, 1, 1, 1, 1, 1, 1, 1, 1] code30) (ctxQ Tryd.prog ann30 (Dw ord30) none Kp [1, 1, 1, 1, 1, 1, 1, 1, 1, 1] code30 [] (q30 K)) Kp (([some (.pointer x0), none, some (.pointer (some x2)), some (.pointer (some x3))] ++ nn 71)) h)
theorem J30_2.of {x0 : Option Addr} {x2:Addr} {x3:Addr} {K : Int → Sl → Sl → Int → Bool → Int → Int → Sl → Sl → HP} {Kp:PK} {h:Hp} (H : JT30_2 x0 x2 x3 K Kp h) : J30_2 x0 x2 x3 K Kp h :=
 Joint.mk (Eq.mp (by kernel_rfl) H)
abbrev mk30_4 (x0 : Option Addr) (x2:Addr) (x3:Addr) (x40:Int) (x41:Int) : Fr := ([some (.pointer x0), none, some (.pointer (some x2)), some (.pointer (some x3)), none, none, none, none, none, none, none, none, none, none, none, none, none, none, none, none, none, none, none, none, none, none, none, none, none, none, none, none, none, none, none, none, none, none, none, none, some (.int .i64 x40), some (.int .i64 x41)] ++ nn 33)
def T30_4 (x0 : Option Addr) (x2:Addr) (x3:Addr) (x40:Int) (K : Int → Sl → Sl → Int → Bool → Int → Int → Sl → Sl → HP) (Kp:PK) (N1 : Fr → HP) (x41:Int) (h:Hp) : Prop :=
 If (decide (x41 < x40)) (
 Fn47 x0 (4:Int) h (fun t44 h1 =>
 Ld h1 (x3.add 7) (Sl.v) fun t46 =>
 Fn47 x0 (4:Int) h1 (fun t49 h2 =>
 Keep h1 h2 (x3.add 7) 1 <|
 New h2 #[(.int .i64 t44), (.int .i64 t49)] 55 fun a51 h3 =>
 Keep h2 h3 (x3.add 7) 1 <|
 Ap h3 55 #[(.int .i64 (0:Int)), (.int .i64 (0:Int))] 2 16 t46 1 (rd h3 (some a51) (1 * 2)) fun t52 h4 =>
 St h4 (x3.add 7) (Sl.v t52) fun h5 =>
 Wr .i64 (x41 + (1:Int)) fun t54 =>
 N1 (mk30_4 x0 x2 x3 x40 t54) h5) Kp) Kp) (
 J30_2 x0 x2 x3 K Kp h)
def L30_4 (x0 : Option Addr) (x2:Addr) (x3:Addr) (x40:Int) (K : Int → Sl → Sl → Int → Bool → Int → Int → Sl → Sl → HP) (Kp:PK) (x41:Int) (h:Hp) : Prop :=
 LoopH (fun N fr h => sem Tryd.prog ann30 (Dw ord30) none (sub [1, 1, 1, 1, 1, 1, 1, 1, 1, 0, 1, 0, 0] code30) (thenQ (fun fr' h' => N (Ann.find ann30 2014 fr') h') (ctxQ Tryd.prog ann30 (Dw ord30) none Kp [1, 1, 1, 1, 1, 1, 1, 1, 1, 0, 1, 0] code30 [] (q30 K))) Kp fr h) (mk30_4 x0 x2 x3 x40 x41) h
theorem L30_4.rule {x0 : Option Addr} {x2:Addr} {x3:Addr} {x40:Int} {K : Int → Sl → Sl → Int → Bool → Int → Int → Sl → Sl → HP} {Kp:PK} (I : Int → HP) (μ : Int → Hp → Nat) {x41:Int} {h:Hp} (h0 : I x41 h)
 (step : ∀ (x41:Int) (h:Hp), I x41 h → ∀ N1 : Fr → HP, (∀ (x41':Int) (h':Hp), I x41' h' → μ x41' h' < μ x41 h → N1 (mk30_4 x0 x2 x3 x40 x41') h') → T30_4 x0 x2 x3 x40 K Kp N1 x41 h) : L30_4 x0 x2 x3 x40 K Kp x41 h :=
 loop_rule (σ := Int) (fun s => mk30_4 x0 x2 x3 x40 s) (fun N s h => T30_4 x0 x2 x3 x40 K Kp N s h) (fun N s h => by kernel_rfl) (fun s h => I s h) (fun s h => μ s h) (s0 := x41) h0 (fun s h hI N hN => step s h hI N (fun x41' h' hI' hl => hN x41' h' hI' hl))
def JT30_1 (x0 : Option Addr) (x2:Addr) (x3:Addr) (K : Int → Sl → Sl → Int → Bool → Int → Int → Sl → Sl → HP) (Kp:PK) (h:Hp) : Prop :=
 Fn47 x0 (4:Int) h (fun t34 h1 =>
 St h1 (x3.add 5) (.int .i64 t34) fun h2 =>
 Fn47 x0 (1:Int) h2 (fun t37 h3 =>
 St h3 (x3.add 6) (.int .i64 t37) fun h4 =>
 Fn47 x0 (2:Int) h4 (fun t40 h5 =>
 L30_4 x0 x2 x3 t40 K Kp (0:Int) h5) Kp) Kp) Kp
def J30_1 (x0 : Option Addr) (x2:Addr) (x3:Addr) (K : Int → Sl → Sl → Int → Bool → Int → Int → Sl → Sl → HP) (Kp:PK) (h:Hp) : Prop :=
 Joint (sem Tryd.prog ann30 (Dw ord30) none (sub [1, 1, 1, 1, 1, 1, 1] code30) (ctxQ Tryd.prog ann30 (Dw ord30) none Kp [1, 1, 1, 1, 1, 1, 1] code30 [] (q30 K)) Kp (([some (.pointer x0), none, some (.pointer (some x2)), some (.pointer (some x3))] ++ nn 71)) h)
theorem J30_1.of {x0 : Option Addr} {x2:Addr} {x3:Addr} {K : Int → Sl → Sl → Int → Bool → Int → Int → Sl → Sl → HP} {Kp:PK} {h:Hp} (H : JT30_1 x0 x2 x3 K Kp h) : J30_1 x0 x2 x3 K Kp h :=
 Joint.mk (Eq.mp (by kernel_rfl) H)
def S30 (r : Option Addr) (h:Hp) (K : Int → Sl → Sl → Int → Bool → Int → Int → Sl → Sl → HP) (Kp:PK) : Prop :=
 New h #[(.int .i64 (0:Int)), (.slice none 0 0), (.slice none 0 0), (.int .i64 (0:Int)), (.bool false), (.int .i64 (0:Int)), (.int .i64 (0:Int)), (.slice none 0 0), (.slice none 0 0)] 29 fun a2 h1 =>
 Fn45 r (1:Int) (3:Int) h1 (fun t8 h2 =>
 New h2 #[(.int .i64 (0:Int)), (.slice none 0 0), (.slice none 0 0), (.int .i64 (0:Int)), (.bool false), (.int .i64 (0:Int)), (.int .i64 (0:Int)), (.slice none 0 0), (.slice none 0 0)] 29 fun a3 h3 =>
 St h3 a3 (.int .i64 t8) fun h4 =>
 St h4 (a3.add 1) (.slice none 0 0) fun h5 =>
 St h5 (a3.add 2) (.slice none 0 0) fun h6 =>
 St h6 (a3.add 3) (.int .i64 (0:Int)) fun h7 =>
 St h7 (a3.add 4) (.bool false) fun h8 =>
 St h8 (a3.add 5) (.int .i64 (0:Int)) fun h9 =>
 St h9 (a3.add 6) (.int .i64 (0:Int)) fun h10 =>
 St h10 (a3.add 7) (.slice none 0 0) fun h11 =>
 St h11 (a3.add 8) (.slice none 0 0) fun h12 =>
 Fn45 r (1:Int) (1:Int) h12 (fun t11 h13 =>
 Fn45 r (0:Int) (0:Int) h13 (fun t13 h14 =>
 Fn45 r (0:Int) (0:Int) h14 (fun t15 h15 =>
 Ld h15 a3 (Value.int .i64) fun t17 =>
 If (t17 == (1:Int)) (
 Fn46 r h15 (fun t20_0 t20_1 h16 =>
 St h16 (a3.add 1) (Sl.v t20_0) fun h17 =>
 St h17 ((a3.add 1).add 1) (Sl.v t20_1) fun h18 =>
 Ld h18 a3 (Value.int .i64) fun t22_0 =>
 Ld h18 (a3.add 1) (Sl.v) fun t22_1 =>
 Ld h18 (a3.add 2) (Sl.v) fun t22_2 =>
 Ld h18 (a3.add 3) (Value.int .i64) fun t22_3 =>
 Ld h18 (a3.add 4) (Value.bool) fun t22_4 =>
 Ld h18 (a3.add 5) (Value.int .i64) fun t22_5 =>
 Ld h18 (a3.add 6) (Value.int .i64) fun t22_6 =>
 Ld h18 (a3.add 7) (Sl.v) fun t22_7 =>
 Ld h18 (a3.add 8) (Sl.v) fun t22_8 =>
 St h18 a2 (.int .i64 t22_0) fun h19 =>
 St h19 (a2.add 1) (Sl.v t22_1) fun h20 =>
 St h20 (a2.add 2) (Sl.v t22_2) fun h21 =>
 St h21 (a2.add 3) (.int .i64 t22_3) fun h22 =>
 St h22 (a2.add 4) (.bool t22_4) fun h23 =>
 St h23 (a2.add 5) (.int .i64 t22_5) fun h24 =>
 St h24 (a2.add 6) (.int .i64 t22_6) fun h25 =>
 St h25 (a2.add 7) (Sl.v t22_7) fun h26 =>
 St h26 (a2.add 8) (Sl.v t22_8) fun h27 =>
 Ld h27 a2 (Value.int .i64) fun r0_0 =>
 Ld h27 (a2.add 1) (Sl.v) fun r0_1 =>
 Ld h27 (a2.add 2) (Sl.v) fun r0_2 =>
 Ld h27 (a2.add 3) (Value.int .i64) fun r0_3 =>
 Ld h27 (a2.add 4) (Value.bool) fun r0_4 =>
 Ld h27 (a2.add 5) (Value.int .i64) fun r0_5 =>
 Ld h27 (a2.add 6) (Value.int .i64) fun r0_6 =>
 Ld h27 (a2.add 7) (Sl.v) fun r0_7 =>
 Ld h27 (a2.add 8) (Sl.v) fun r0_8 =>
 K r0_0 r0_1 r0_2 r0_3 r0_4 r0_5 r0_6 r0_7 r0_8 h27) Kp) (
 Ld h15 a3 (Value.int .i64) fun t24 =>
 If (t24 == (2:Int)) (
 Fn47 r (2:Int) h15 (fun t27 h16 =>
 St h16 (a3.add 3) (.int .i64 t27) fun h17 =>
 Fn45 r (0:Int) (1:Int) h17 (fun t30 h18 =>
 St h18 (a3.add 4) (.bool (t30 == (1:Int))) fun h19 =>
 J30_1 r a2 a3 K Kp h19) Kp) Kp) (
 J30_1 r a2 a3 K Kp h15))) Kp) Kp) Kp) Kp
theorem Fn30.of {r : Option Addr} {h:Hp} {K : Int → Sl → Sl → Int → Bool → Int → Int → Sl → Sl → HP} {Kp:PK} (H : S30 r h K Kp) : Fn30 r h K Kp :=
 fn_of2 (P := Tryd.prog) (ann := ann30) (D := DrawSem Tryd.prog ord30) (drawOk _) (c := code30) (zs := [(.agg #[(.int .i64 (0:Int)), (.slice none 0 0), (.slice none 0 0), (.int .i64 (0:Int)), (.bool false), (.int .i64 (0:Int)), (.int .i64 (0:Int)), (.slice none 0 0), (.slice none 0 0)])]) (args := [(.pointer r)]) (Kv := kv30 K) (Kp := Kp) (h := h) Tryd.func30 (by kernel_rfl) H (by kernel_rfl) (by kernel_rfl)
/- ### 31: within -/
noncomputable def code31 : Code := Tryd.f31.body.getD .skip
def ann31 : Ann := []
def ord31 : List (Nat × OT × List Nat) := []
def kv31 (K : Int → HP) : Value → HP := fun v h => match v with | .int _ r0 => (K r0 h) | _ => False
def S31 (r : Option Addr) (least:Int) (most:Int) (h:Hp) (K : Int → HP) (Kp:PK) : Prop :=
 NN r fun p10 =>
 Ld h (p10.add 1) (Value.int .i64) fun t12 =>
 Fn33 r (1:Int) h (fun t14 h1 =>
 NN r fun p16 =>
 Ld h1 (p16.add 3) (Value.int .i64) fun t19 =>
 If (t19 == (0:Int)) (
 If (decide (t14 < least)) (
 Fn35 r (8:Int) t12 h1 (fun h2 =>
 K t14 h2) Kp) (
 If (decide (t14 > most)) (
 Fn35 r (8:Int) t12 h1 (fun h2 =>
 K t14 h2) Kp) (
 K t14 h1))) (
 K t14 h1)) Kp
theorem Fn31.of {r : Option Addr} {least:Int} {most:Int} {h:Hp} {K : Int → HP} {Kp:PK} (H : S31 r least most h K Kp) : Fn31 r least most h K Kp :=
 fn_of2 (P := Tryd.prog) (ann := ann31) (D := DrawSem Tryd.prog ord31) (drawOk _) (c := code31) (zs := [(.int .i64 (0:Int))]) (args := [(.pointer r), (.int .i64 least), (.int .i64 most)]) (Kv := kv31 K) (Kp := Kp) (h := h) Tryd.func31 (by kernel_rfl) H (by kernel_rfl) (by kernel_rfl)
/- ### 32: schema -/
noncomputable def code32 : Code := Tryd.f32.body.getD .skip
def ann32 : Ann := [(2000010, [0, 2, 3]), (2012, [0, 2, 3, 4, 7]), (2004, [0, 2, 3, 4, 5])]
def ord32 : List (Nat × OT × List Nat) := []
def kv32 (K : Sl → Sl → HP) : Value → HP := fun v h => match v with | .agg cs0 => (match (cs0.toList.getD 0 undef) with | .slice r0_0a r0_0n r0_0c => (let r0_0 : Sl := ⟨r0_0a, r0_0n, r0_0c⟩; match (cs0.toList.getD 1 undef) with | .slice r0_1a r0_1n r0_1c => (let r0_1 : Sl := ⟨r0_1a, r0_1n, r0_1c⟩; K r0_0 r0_1 h) | _ => False) | _ => False) | _ => False
def q32 (K : Sl → Sl → HP) : Qt := retQ Tryd.prog Tryd.f32.results.toList [(.agg #[(.slice none 0 0), (.slice none 0 0)])] (kv32 K)
abbrev mk32_2 (x0 : Option Addr) (x2:Addr) (x3:Addr) (x4:Int) (x7:Int) : Fr := ([some (.pointer x0), none, some (.pointer (some x2)), some (.pointer (some x3)), some (.int .i64 x4), none, none, some (.int .i64 x7)] ++ nn 50)
def T32_2 (x0 : Option Addr) (x2:Addr) (x3:Addr) (x4:Int) (K : Sl → Sl → HP) (Kp:PK) (N1 : Fr → HP) (x7:Int) (h:Hp) : Prop :=
 If (decide (x7 < x4)) (
 NN x0 fun p39 =>
 Ld h (p39.add 3) (Value.int .i64) fun t42 =>
 If (t42 != (0:Int)) (
 Ld h x3 (Sl.v) fun t44_0 =>
 Ld h (x3.add 1) (Sl.v) fun t44_1 =>
 St h x2 (Sl.v t44_0) fun h1 =>
 St h1 (x2.add 1) (Sl.v t44_1) fun h2 =>
 Ld h2 x2 (Sl.v) fun r0_0 =>
 Ld h2 (x2.add 1) (Sl.v) fun r0_1 =>
 K r0_0 r0_1 h2) (
 New h #[(.string (bs [])), (.string (bs []))] 66 fun a8 h1 =>
 Fn49 x0 (2:Int) h1 (fun t46 h2 =>
 St h2 a8 (.string t46) fun h3 =>
 Fn49 x0 (2:Int) h3 (fun t49 h4 =>
 St h4 (a8.add 1) (.string t49) fun h5 =>
 Ld h5 (x3.add 1) (Sl.v) fun t52 =>
 Ld h5 a8 (Value.string) fun t53_0 =>
 Ld h5 (a8.add 1) (Value.string) fun t53_1 =>
 New h5 #[(.string t53_0), (.string t53_1)] 66 fun a54 h6 =>
 Ap h6 66 #[(.string (bs [])), (.string (bs []))] 2 32 t52 1 (rd h6 (some a54) (1 * 2)) fun t55 h7 =>
 St h7 (x3.add 1) (Sl.v t55) fun h8 =>
 Wr .i64 (x7 + (1:Int)) fun t37 =>
 N1 (mk32_2 x0 x2 x3 x4 t37) h8) Kp) Kp)) (
 Ld h x3 (Sl.v) fun t57_0 =>
 Ld h (x3.add 1) (Sl.v) fun t57_1 =>
 St h x2 (Sl.v t57_0) fun h1 =>
 St h1 (x2.add 1) (Sl.v t57_1) fun h2 =>
 Ld h2 x2 (Sl.v) fun r0_0 =>
 Ld h2 (x2.add 1) (Sl.v) fun r0_1 =>
 K r0_0 r0_1 h2)
def L32_2 (x0 : Option Addr) (x2:Addr) (x3:Addr) (x4:Int) (K : Sl → Sl → HP) (Kp:PK) (x7:Int) (h:Hp) : Prop :=
 LoopH (fun N fr h => sem Tryd.prog ann32 (Dw ord32) none (sub [1, 1, 1, 1, 1, 0, 1, 0, 0] code32) (thenQ (fun fr' h' => N (Ann.find ann32 2012 fr') h') (ctxQ Tryd.prog ann32 (Dw ord32) none Kp [1, 1, 1, 1, 1, 0, 1, 0] code32 [] (q32 K))) Kp fr h) (mk32_2 x0 x2 x3 x4 x7) h
theorem L32_2.rule {x0 : Option Addr} {x2:Addr} {x3:Addr} {x4:Int} {K : Sl → Sl → HP} {Kp:PK} (I : Int → HP) (μ : Int → Hp → Nat) {x7:Int} {h:Hp} (h0 : I x7 h)
 (step : ∀ (x7:Int) (h:Hp), I x7 h → ∀ N1 : Fr → HP, (∀ (x7':Int) (h':Hp), I x7' h' → μ x7' h' < μ x7 h → N1 (mk32_2 x0 x2 x3 x4 x7') h') → T32_2 x0 x2 x3 x4 K Kp N1 x7 h) : L32_2 x0 x2 x3 x4 K Kp x7 h :=
 loop_rule (σ := Int) (fun s => mk32_2 x0 x2 x3 x4 s) (fun N s h => T32_2 x0 x2 x3 x4 K Kp N s h) (fun N s h => by kernel_rfl) (fun s h => I s h) (fun s h => μ s h) (s0 := x7) h0 (fun s h hI N hN => step s h hI N (fun x7' h' hI' hl => hN x7' h' hI' hl))
def JT32_1 (x0 : Option Addr) (x2:Addr) (x3:Addr) (K : Sl → Sl → HP) (Kp:PK) (h:Hp) : Prop :=
 Fn33 x0 (2:Int) h (fun t32 h1 =>
 L32_2 x0 x2 x3 t32 K Kp (0:Int) h1) Kp
def J32_1 (x0 : Option Addr) (x2:Addr) (x3:Addr) (K : Sl → Sl → HP) (Kp:PK) (h:Hp) : Prop :=
 Joint (sem Tryd.prog ann32 (Dw ord32) none (sub [1, 1, 1, 1] code32) (ctxQ Tryd.prog ann32 (Dw ord32) none Kp [1, 1, 1, 1] code32 [] (q32 K)) Kp (([some (.pointer x0), none, some (.pointer (some x2)), some (.pointer (some x3))] ++ nn 54)) h)
theorem J32_1.of {x0 : Option Addr} {x2:Addr} {x3:Addr} {K : Sl → Sl → HP} {Kp:PK} {h:Hp} (H : JT32_1 x0 x2 x3 K Kp h) : J32_1 x0 x2 x3 K Kp h :=
 Joint.mk (Eq.mp (by kernel_rfl) H)
abbrev mk32_3 (x0 : Option Addr) (x2:Addr) (x3:Addr) (x4:Int) (x5:Int) : Fr := ([some (.pointer x0), none, some (.pointer (some x2)), some (.pointer (some x3)), some (.int .i64 x4), some (.int .i64 x5)] ++ nn 52)
def T32_3 (x0 : Option Addr) (x2:Addr) (x3:Addr) (x4:Int) (K : Sl → Sl → HP) (Kp:PK) (N1 : Fr → HP) (x5:Int) (h:Hp) : Prop :=
 If (decide (x5 < x4)) (
 NN x0 fun p17 =>
 Ld h (p17.add 3) (Value.int .i64) fun t20 =>
 If (t20 != (0:Int)) (
 Ld h x3 (Sl.v) fun t22_0 =>
 Ld h (x3.add 1) (Sl.v) fun t22_1 =>
 St h x2 (Sl.v t22_0) fun h1 =>
 St h1 (x2.add 1) (Sl.v t22_1) fun h2 =>
 Ld h2 x2 (Sl.v) fun r0_0 =>
 Ld h2 (x2.add 1) (Sl.v) fun r0_1 =>
 K r0_0 r0_1 h2) (
 Fn48 x0 (0:Int) h (fun t24_0 t24_1 t24_2 t24_3 t24_4 t24_5 t24_6 h1 =>
 New h1 #[(.string (bs [])), (.bool false), (.int .i64 (0:Int)), (.int .i64 (0:Int)), (.int .i64 (0:Int)), (.int .i64 (0:Int)), (.slice none 0 0)] 63 fun a6 h2 =>
 St h2 a6 (.string t24_0) fun h3 =>
 St h3 (a6.add 1) (.bool t24_1) fun h4 =>
 St h4 (a6.add 2) (.int .i64 t24_2) fun h5 =>
 St h5 (a6.add 3) (.int .i64 t24_3) fun h6 =>
 St h6 (a6.add 4) (.int .i64 t24_4) fun h7 =>
 St h7 (a6.add 5) (.int .i64 t24_5) fun h8 =>
 St h8 (a6.add 6) (Sl.v t24_6) fun h9 =>
 Ld h9 x3 (Sl.v) fun t26 =>
 Ld h9 a6 (Value.string) fun t27_0 =>
 Ld h9 (a6.add 1) (Value.bool) fun t27_1 =>
 Ld h9 (a6.add 2) (Value.int .i64) fun t27_2 =>
 Ld h9 (a6.add 3) (Value.int .i64) fun t27_3 =>
 Ld h9 (a6.add 4) (Value.int .i64) fun t27_4 =>
 Ld h9 (a6.add 5) (Value.int .i64) fun t27_5 =>
 Ld h9 (a6.add 6) (Sl.v) fun t27_6 =>
 New h9 #[(.string t27_0), (.bool t27_1), (.int .i64 t27_2), (.int .i64 t27_3), (.int .i64 t27_4), (.int .i64 t27_5), (Sl.v t27_6)] 63 fun a28 h10 =>
 Ap h10 63 #[(.string (bs [])), (.bool false), (.int .i64 (0:Int)), (.int .i64 (0:Int)), (.int .i64 (0:Int)), (.int .i64 (0:Int)), (.slice none 0 0)] 7 80 t26 1 (rd h10 (some a28) (1 * 7)) fun t29 h11 =>
 St h11 x3 (Sl.v t29) fun h12 =>
 Wr .i64 (x5 + (1:Int)) fun t15 =>
 N1 (mk32_3 x0 x2 x3 x4 t15) h12) Kp)) (
 J32_1 x0 x2 x3 K Kp h)
def L32_3 (x0 : Option Addr) (x2:Addr) (x3:Addr) (x4:Int) (K : Sl → Sl → HP) (Kp:PK) (x5:Int) (h:Hp) : Prop :=
 LoopH (fun N fr h => sem Tryd.prog ann32 (Dw ord32) none (sub [1, 1, 1, 0, 1, 0, 0] code32) (thenQ (fun fr' h' => N (Ann.find ann32 2004 fr') h') (ctxQ Tryd.prog ann32 (Dw ord32) none Kp [1, 1, 1, 0, 1, 0] code32 [] (q32 K))) Kp fr h) (mk32_3 x0 x2 x3 x4 x5) h
theorem L32_3.rule {x0 : Option Addr} {x2:Addr} {x3:Addr} {x4:Int} {K : Sl → Sl → HP} {Kp:PK} (I : Int → HP) (μ : Int → Hp → Nat) {x5:Int} {h:Hp} (h0 : I x5 h)
 (step : ∀ (x5:Int) (h:Hp), I x5 h → ∀ N1 : Fr → HP, (∀ (x5':Int) (h':Hp), I x5' h' → μ x5' h' < μ x5 h → N1 (mk32_3 x0 x2 x3 x4 x5') h') → T32_3 x0 x2 x3 x4 K Kp N1 x5 h) : L32_3 x0 x2 x3 x4 K Kp x5 h :=
 loop_rule (σ := Int) (fun s => mk32_3 x0 x2 x3 x4 s) (fun N s h => T32_3 x0 x2 x3 x4 K Kp N s h) (fun N s h => by kernel_rfl) (fun s h => I s h) (fun s h => μ s h) (s0 := x5) h0 (fun s h hI N hN => step s h hI N (fun x5' h' hI' hl => hN x5' h' hI' hl))
def S32 (r : Option Addr) (h:Hp) (K : Sl → Sl → HP) (Kp:PK) : Prop :=
 New h #[(.slice none 0 0), (.slice none 0 0)] 25 fun a2 h1 =>
 New h1 #[(.slice none 0 0), (.slice none 0 0)] 25 fun a3 h2 =>
 Fn33 r (2:Int) h2 (fun t10 h3 =>
 L32_3 r a2 a3 t10 K Kp (0:Int) h3) Kp
theorem Fn32.of {r : Option Addr} {h:Hp} {K : Sl → Sl → HP} {Kp:PK} (H : S32 r h K Kp) : Fn32 r h K Kp :=
 fn_of2 (P := Tryd.prog) (ann := ann32) (D := DrawSem Tryd.prog ord32) (drawOk _) (c := code32) (zs := [(.agg #[(.slice none 0 0), (.slice none 0 0)])]) (args := [(.pointer r)]) (Kv := kv32 K) (Kp := Kp) (h := h) Tryd.func32 (by kernel_rfl) H (by kernel_rfl) (by kernel_rfl)
/- ### 33: number -/
noncomputable def code33 : Code := Tryd.f33.body.getD .skip
def ann33 : Ann := [(2004, [5, 6, 7])]
def ord33 : List (Nat × OT × List Nat) := []
def kv33 (K : Int → HP) : Value → HP := fun v h => match v with | .int _ r0 => (K r0 h) | _ => False
def q33 (K : Int → HP) : Qt := retQ Tryd.prog Tryd.f33.results.toList [(.int .i64 (0:Int))] (kv33 K)
abbrev mk33_1 (x5:Sl) (x6:Int) (x7:Int) : Fr := ([none, none, none, none, none, some (Sl.v x5), some (.int .i64 x6), some (.int .i64 x7)] ++ nn 19)
def T33_1 (x5:Sl) (K : Int → HP) (Kp:PK) (N1 : Fr → HP) (x6:Int) (x7:Int) (h:Hp) : Prop :=
 If (decide (x7 ≥ (0:Int))) (
 Wr .i64 ((256:Int) * x6) fun t19 =>
 Ix x5.a x5.n 1 x7 fun a22 =>
 Ld h a22 (Value.int .u8) fun t23 =>
 Wr .i64 t23 fun t24 =>
 Wr .i64 (t19 + t24) fun t25 =>
 Wr .i64 (x7 - (1:Int)) fun t17 =>
 N1 (mk33_1 x5 t25 t17) h) (
 K x6 h)
def L33_1 (x5:Sl) (K : Int → HP) (Kp:PK) (x6:Int) (x7:Int) (h:Hp) : Prop :=
 LoopH (fun N fr h => sem Tryd.prog ann33 (Dw ord33) none (sub [1, 1, 1, 0, 1, 0, 0] code33) (thenQ (fun fr' h' => N (Ann.find ann33 2004 fr') h') (ctxQ Tryd.prog ann33 (Dw ord33) none Kp [1, 1, 1, 0, 1, 0] code33 [] (q33 K))) Kp fr h) (mk33_1 x5 x6 x7) h
theorem L33_1.rule {x5:Sl} {K : Int → HP} {Kp:PK} (I : Int → Int → HP) (μ : Int → Int → Hp → Nat) {x6:Int} {x7:Int} {h:Hp} (h0 : I x6 x7 h)
 (step : ∀ (x6:Int) (x7:Int) (h:Hp), I x6 x7 h → ∀ N1 : Fr → HP, (∀ (x6':Int) (x7':Int) (h':Hp), I x6' x7' h' → μ x6' x7' h' < μ x6 x7 h → N1 (mk33_1 x5 x6' x7') h') → T33_1 x5 K Kp N1 x6 x7 h) : L33_1 x5 K Kp x6 x7 h :=
 loop_rule (σ := Int × Int) (fun s => mk33_1 x5 s.1 s.2) (fun N s h => T33_1 x5 K Kp N s.1 s.2 h) (fun N s h => by kernel_rfl) (fun s h => I s.1 s.2 h) (fun s h => μ s.1 s.2 h) (s0 := ⟨x6, x7⟩) h0 (fun s h hI N hN => step s.1 s.2 h hI N (fun x6' x7' h' hI' hl => hN ⟨x6', x7'⟩ h' hI' hl))
def S33 (r : Option Addr) (width:Int) (h:Hp) (K : Int → HP) (Kp:PK) : Prop :=
 Fn50 r width h (fun t10 h1 =>
 Wr .i64 ((t10.n:Int) - (1:Int)) fun t13 =>
 L33_1 t10 K Kp (0:Int) t13 h1) Kp
theorem Fn33.of {r : Option Addr} {width:Int} {h:Hp} {K : Int → HP} {Kp:PK} (H : S33 r width h K Kp) : Fn33 r width h K Kp :=
 fn_of2 (P := Tryd.prog) (ann := ann33) (D := DrawSem Tryd.prog ord33) (drawOk _) (c := code33) (zs := [(.int .i64 (0:Int))]) (args := [(.pointer r), (.int .i64 width)]) (Kv := kv33 K) (Kp := Kp) (h := h) Tryd.func33 (by kernel_rfl) H (by kernel_rfl) (by kernel_rfl)
end Go.Proofs.YtfomkkdijjfpiaaDoor
