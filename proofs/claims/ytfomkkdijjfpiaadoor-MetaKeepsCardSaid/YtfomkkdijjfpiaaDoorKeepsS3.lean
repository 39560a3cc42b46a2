/- What the functions do, printed by program (gen.py) in the words of ShCore; each text is held against the loaded program by the kernel. -/
import Derived.Test.YtfomkkdijjfpiaaDoorKeepsF
set_option linter.unusedSimpArgs false
set_option linter.unusedVariables false
set_option maxRecDepth 100000
namespace Go.Proofs.YtfomkkdijjfpiaaDoor
open Go Go.Sh
/- ### 9: Put -/
noncomputable def code9 : Code := Tryd.f9.body.getD .skip
def ann9 : Ann := [(2000018, [1, 5]), (2000021, [1, 5]), (2000029, [1, 5]), (2031, [1, 5, 9]), (2025, [1, 5, 8]), (2000011, [1, 5]), (2013, [1, 5, 7]), (2008, [1, 5, 6])]
def ord9 : List (Nat × OT × List Nat) := []
def kv9 (K : Sl → Int → HP) : Value → HP := fun v h => match v with | .tuple us => (let vs := us.toList; match (vs.getD 0 undef) with | .slice r0a r0n r0c => (let r0 : Sl := ⟨r0a, r0n, r0c⟩; match (vs.getD 1 undef) with | .int _ r1 => (K r0 r1 h) | _ => False) | _ => False) | _ => False
def q9 (K : Sl → Int → HP) : Qt := retQ Tryd.prog Tryd.f9.results.toList [(.slice none 0 0), (.int .i64 (0:Int))] (kv9 K)
abbrev mk9_4 (x1:Addr) (x5:Sl) (x9:Int) : Fr := ([none, some (.pointer (some x1)), none, none, none, some (Sl.v x5), none, none, none, some (.int .i64 x9)] ++ nn 150)
def T9_4 (x1:Addr) (K : Sl → Int → HP) (Kp:PK) (N1 : Fr → HP) (x5:Sl) (x9:Int) (h:Hp) : Prop :=
 Ld h (x1.add 8) (Sl.v) fun t130 =>
 If (decide (x9 < (t130.n:Int))) (
 Ld h (x1.add 8) (Sl.v) fun t137 =>
 Ix t137.a t137.n 3 x9 fun a139 =>
 Ld h a139 (Value.int .i64) fun t141 =>
 Fn25 x5 t141 (4:Int) h (fun t142 h1 =>
 Ld h1 (x1.add 8) (Sl.v) fun t145 =>
 Ix t145.a t145.n 3 x9 fun a147 =>
 Ld h1 (a147.add 1) (Value.int .i64) fun t149 =>
 Fn25 t142 t149 (4:Int) h1 (fun t150 h2 =>
 Ld h2 (x1.add 8) (Sl.v) fun t153 =>
 Ix t153.a t153.n 3 x9 fun a155 =>
 Ld h2 (a155.add 2) (Value.int .i64) fun t157 =>
 Fn25 t150 t157 (4:Int) h2 (fun t158 h3 =>
 Wr .i64 (x9 + (1:Int)) fun t134 =>
 N1 (mk9_4 x1 t158 t134) h3) Kp) Kp) Kp) (
 K x5 (0:Int) h)
def L9_4 (x1:Addr) (K : Sl → Int → HP) (Kp:PK) (x5:Sl) (x9:Int) (h:Hp) : Prop :=
 LoopH (fun N fr h => sem Tryd.prog ann9 (Dw ord9) none (sub [1, 1, 1, 1, 1, 1, 1, 1, 1, 1, 1, 0, 1, 0, 0] code9) (thenQ (fun fr' h' => N (Ann.find ann9 2031 fr') h') (ctxQ Tryd.prog ann9 (Dw ord9) none Kp [1, 1, 1, 1, 1, 1, 1, 1, 1, 1, 1, 0, 1, 0] code9 [] (q9 K))) Kp fr h) (mk9_4 x1 x5 x9) h
theorem L9_4.rule {x1:Addr} {K : Sl → Int → HP} {Kp:PK} (I : Sl → Int → HP) (μ : Sl → Int → Hp → Nat) {x5:Sl} {x9:Int} {h:Hp} (h0 : I x5 x9 h)
 (step : ∀ (x5:Sl) (x9:Int) (h:Hp), I x5 x9 h → ∀ N1 : Fr → HP, (∀ (x5':Sl) (x9':Int) (h':Hp), I x5' x9' h' → μ x5' x9' h' < μ x5 x9 h → N1 (mk9_4 x1 x5' x9') h') → T9_4 x1 K Kp N1 x5 x9 h) : L9_4 x1 K Kp x5 x9 h :=
 loop_rule (σ := Sl × Int) (fun s => mk9_4 x1 s.1 s.2) (fun N s h => T9_4 x1 K Kp N s.1 s.2 h) (fun N s h => by kernel_rfl) (fun s h => I s.1 s.2 h) (fun s h => μ s.1 s.2 h) (s0 := ⟨x5, x9⟩) h0 (fun s h hI N hN => step s.1 s.2 h hI N (fun x5' x9' h' hI' hl => hN ⟨x5', x9'⟩ h' hI' hl))
def JT9_3 (x1:Addr) (x5:Sl) (K : Sl → Int → HP) (Kp:PK) (h:Hp) : Prop :=
 Ld h (x1.add 8) (Sl.v) fun t125 =>
 Fn25 x5 (t125.n:Int) (2:Int) h (fun t127 h1 =>
 L9_4 x1 K Kp t127 (0:Int) h1) Kp
def J9_3 (x1:Addr) (x5:Sl) (K : Sl → Int → HP) (Kp:PK) (h:Hp) : Prop :=
 Joint (sem Tryd.prog ann9 (Dw ord9) none (sub [1, 1, 1, 1, 1, 1, 1, 1, 1, 1] code9) (ctxQ Tryd.prog ann9 (Dw ord9) none Kp [1, 1, 1, 1, 1, 1, 1, 1, 1, 1] code9 [] (q9 K)) Kp (([none, some (.pointer (some x1)), none, none, none, some (Sl.v x5)] ++ nn 154)) h)
theorem J9_3.of {x1:Addr} {x5:Sl} {K : Sl → Int → HP} {Kp:PK} {h:Hp} (H : JT9_3 x1 x5 K Kp h) : J9_3 x1 x5 K Kp h :=
 Joint.mk (Eq.mp (by kernel_rfl) H)
abbrev mk9_5 (x1:Addr) (x5:Sl) (x8:Int) : Fr := ([none, some (.pointer (some x1)), none, none, none, some (Sl.v x5), none, none, some (.int .i64 x8)] ++ nn 151)
def T9_5 (x1:Addr) (K : Sl → Int → HP) (Kp:PK) (N1 : Fr → HP) (x5:Sl) (x8:Int) (h:Hp) : Prop :=
 Ld h (x1.add 7) (Sl.v) fun t102 =>
 If (decide (x8 < (t102.n:Int))) (
 Ld h (x1.add 7) (Sl.v) fun t109 =>
 Ix t109.a t109.n 2 x8 fun a111 =>
 Ld h a111 (Value.int .i64) fun t113 =>
 Fn25 x5 t113 (4:Int) h (fun t114 h1 =>
 Ld h1 (x1.add 7) (Sl.v) fun t117 =>
 Ix t117.a t117.n 2 x8 fun a119 =>
 Ld h1 (a119.add 1) (Value.int .i64) fun t121 =>
 Fn25 t114 t121 (4:Int) h1 (fun t122 h2 =>
 Wr .i64 (x8 + (1:Int)) fun t106 =>
 N1 (mk9_5 x1 t122 t106) h2) Kp) Kp) (
 J9_3 x1 x5 K Kp h)
def L9_5 (x1:Addr) (K : Sl → Int → HP) (Kp:PK) (x5:Sl) (x8:Int) (h:Hp) : Prop :=
 LoopH (fun N fr h => sem Tryd.prog ann9 (Dw ord9) none (sub [1, 1, 1, 1, 1, 1, 1, 1, 1, 0, 1, 0, 0] code9) (thenQ (fun fr' h' => N (Ann.find ann9 2025 fr') h') (ctxQ Tryd.prog ann9 (Dw ord9) none Kp [1, 1, 1, 1, 1, 1, 1, 1, 1, 0, 1, 0] code9 [] (q9 K))) Kp fr h) (mk9_5 x1 x5 x8) h
theorem L9_5.rule {x1:Addr} {K : Sl → Int → HP} {Kp:PK} (I : Sl → Int → HP) (μ : Sl → Int → Hp → Nat) {x5:Sl} {x8:Int} {h:Hp} (h0 : I x5 x8 h)
 (step : ∀ (x5:Sl) (x8:Int) (h:Hp), I x5 x8 h → ∀ N1 : Fr → HP, (∀ (x5':Sl) (x8':Int) (h':Hp), I x5' x8' h' → μ x5' x8' h' < μ x5 x8 h → N1 (mk9_5 x1 x5' x8') h') → T9_5 x1 K Kp N1 x5 x8 h) : L9_5 x1 K Kp x5 x8 h :=
 loop_rule (σ := Sl × Int) (fun s => mk9_5 x1 s.1 s.2) (fun N s h => T9_5 x1 K Kp N s.1 s.2 h) (fun N s h => by kernel_rfl) (fun s h => I s.1 s.2 h) (fun s h => μ s.1 s.2 h) (s0 := ⟨x5, x8⟩) h0 (fun s h hI N hN => step s.1 s.2 h hI N (fun x5' x8' h' hI' hl => hN ⟨x5', x8'⟩ h' hI' hl))
def JT9_2 (x1:Addr) (x5:Sl) (K : Sl → Int → HP) (Kp:PK) (h:Hp) : Prop :=
 Ld h (x1.add 5) (Value.int .i64) fun t89 =>
 Fn25 x5 t89 (4:Int) h (fun t90 h1 =>
 Ld h1 (x1.add 6) (Value.int .i64) fun t93 =>
 Fn25 t90 t93 (1:Int) h1 (fun t94 h2 =>
 Ld h2 (x1.add 7) (Sl.v) fun t97 =>
 Fn25 t94 (t97.n:Int) (2:Int) h2 (fun t99 h3 =>
 L9_5 x1 K Kp t99 (0:Int) h3) Kp) Kp) Kp
def J9_2 (x1:Addr) (x5:Sl) (K : Sl → Int → HP) (Kp:PK) (h:Hp) : Prop :=
 Joint (sem Tryd.prog ann9 (Dw ord9) none (sub [1, 1, 1, 1, 1, 1] code9) (ctxQ Tryd.prog ann9 (Dw ord9) none Kp [1, 1, 1, 1, 1, 1] code9 [] (q9 K)) Kp (([none, some (.pointer (some x1)), none, none, none, some (Sl.v x5)] ++ nn 154)) h)
theorem J9_2.of {x1:Addr} {x5:Sl} {K : Sl → Int → HP} {Kp:PK} {h:Hp} (H : JT9_2 x1 x5 K Kp h) : J9_2 x1 x5 K Kp h :=
 Joint.mk (Eq.mp (by kernel_rfl) H)
def JT9_1 (x1:Addr) (x5:Sl) (K : Sl → Int → HP) (Kp:PK) (h:Hp) : Prop :=
 Ld h x1 (Value.int .i64) fun t77 =>
 If (t77 == (2:Int)) (
 Ld h (x1.add 3) (Value.int .i64) fun t81 =>
 Fn25 x5 t81 (2:Int) h (fun t82 h1 =>
 Ld h1 (x1.add 4) (Value.bool) fun t85 =>
 Fn28 t82 t85 h1 (fun t86 h2 =>
 J9_2 x1 t86 K Kp h2) Kp) Kp) (
 J9_2 x1 x5 K Kp h)
def J9_1 (x1:Addr) (x5:Sl) (K : Sl → Int → HP) (Kp:PK) (h:Hp) : Prop :=
 Joint (sem Tryd.prog ann9 (Dw ord9) none (sub [1, 1, 1, 1, 1] code9) (ctxQ Tryd.prog ann9 (Dw ord9) none Kp [1, 1, 1, 1, 1] code9 [] (q9 K)) Kp (([none, some (.pointer (some x1)), none, none, none, some (Sl.v x5)] ++ nn 154)) h)
theorem J9_1.of {x1:Addr} {x5:Sl} {K : Sl → Int → HP} {Kp:PK} {h:Hp} (H : JT9_1 x1 x5 K Kp h) : J9_1 x1 x5 K Kp h :=
 Joint.mk (Eq.mp (by kernel_rfl) H)
abbrev mk9_7 (x1:Addr) (x5:Sl) (x7:Int) : Fr := ([none, some (.pointer (some x1)), none, none, none, some (Sl.v x5), none, some (.int .i64 x7)] ++ nn 152)
def T9_7 (x1:Addr) (K : Sl → Int → HP) (Kp:PK) (N1 : Fr → HP) (x5:Sl) (x7:Int) (h:Hp) : Prop :=
 Ld h ((x1.add 1).add 1) (Sl.v) fun t52 =>
 If (decide (x7 < (t52.n:Int))) (
 Ld h ((x1.add 1).add 1) (Sl.v) fun t60 =>
 Ix t60.a t60.n 2 x7 fun a62 =>
 Ld h a62 (Value.string) fun t64 =>
 Fn27 x5 t64 (2:Int) h (fun t65 h1 =>
 Ld h1 ((x1.add 1).add 1) (Sl.v) fun t69 =>
 Ix t69.a t69.n 2 x7 fun a71 =>
 Ld h1 (a71.add 1) (Value.string) fun t73 =>
 Fn27 t65 t73 (2:Int) h1 (fun t74 h2 =>
 Wr .i64 (x7 + (1:Int)) fun t56 =>
 N1 (mk9_7 x1 t74 t56) h2) Kp) Kp) (
 K x5 (0:Int) h)
def L9_7 (x1:Addr) (K : Sl → Int → HP) (Kp:PK) (x5:Sl) (x7:Int) (h:Hp) : Prop :=
 LoopH (fun N fr h => sem Tryd.prog ann9 (Dw ord9) none (sub [1, 1, 1, 1, 0, 1, 0, 1, 1, 1, 0, 1, 0, 0] code9) (thenQ (fun fr' h' => N (Ann.find ann9 2013 fr') h') (ctxQ Tryd.prog ann9 (Dw ord9) none Kp [1, 1, 1, 1, 0, 1, 0, 1, 1, 1, 0, 1, 0] code9 [] (q9 K))) Kp fr h) (mk9_7 x1 x5 x7) h
theorem L9_7.rule {x1:Addr} {K : Sl → Int → HP} {Kp:PK} (I : Sl → Int → HP) (μ : Sl → Int → Hp → Nat) {x5:Sl} {x7:Int} {h:Hp} (h0 : I x5 x7 h)
 (step : ∀ (x5:Sl) (x7:Int) (h:Hp), I x5 x7 h → ∀ N1 : Fr → HP, (∀ (x5':Sl) (x7':Int) (h':Hp), I x5' x7' h' → μ x5' x7' h' < μ x5 x7 h → N1 (mk9_7 x1 x5' x7') h') → T9_7 x1 K Kp N1 x5 x7 h) : L9_7 x1 K Kp x5 x7 h :=
 loop_rule (σ := Sl × Int) (fun s => mk9_7 x1 s.1 s.2) (fun N s h => T9_7 x1 K Kp N s.1 s.2 h) (fun N s h => by kernel_rfl) (fun s h => I s.1 s.2 h) (fun s h => μ s.1 s.2 h) (s0 := ⟨x5, x7⟩) h0 (fun s h hI N hN => step s.1 s.2 h hI N (fun x5' x7' h' hI' hl => hN ⟨x5', x7'⟩ h' hI' hl))
def JT9_6 (x1:Addr) (x5:Sl) (K : Sl → Int → HP) (Kp:PK) (h:Hp) : Prop :=
 Ld h ((x1.add 1).add 1) (Sl.v) fun t46 =>
 Fn25 x5 (t46.n:Int) (2:Int) h (fun t48 h1 =>
 L9_7 x1 K Kp t48 (0:Int) h1) Kp
def J9_6 (x1:Addr) (x5:Sl) (K : Sl → Int → HP) (Kp:PK) (h:Hp) : Prop :=
 Joint (sem Tryd.prog ann9 (Dw ord9) none (sub [1, 1, 1, 1, 0, 1, 0, 1, 1] code9) (ctxQ Tryd.prog ann9 (Dw ord9) none Kp [1, 1, 1, 1, 0, 1, 0, 1, 1] code9 [] (q9 K)) Kp (([none, some (.pointer (some x1)), none, none, none, some (Sl.v x5)] ++ nn 154)) h)
theorem J9_6.of {x1:Addr} {x5:Sl} {K : Sl → Int → HP} {Kp:PK} {h:Hp} (H : JT9_6 x1 x5 K Kp h) : J9_6 x1 x5 K Kp h :=
 Joint.mk (Eq.mp (by kernel_rfl) H)
abbrev mk9_8 (x1:Addr) (x5:Sl) (x6:Int) : Fr := ([none, some (.pointer (some x1)), none, none, none, some (Sl.v x5), some (.int .i64 x6)] ++ nn 153)
def T9_8 (x1:Addr) (K : Sl → Int → HP) (Kp:PK) (N1 : Fr → HP) (x5:Sl) (x6:Int) (h:Hp) : Prop :=
 Ld h (x1.add 1) (Sl.v) fun t30 =>
 If (decide (x6 < (t30.n:Int))) (
 Ld h (x1.add 1) (Sl.v) fun t38 =>
 Ix t38.a t38.n 7 x6 fun a40 =>
 Ld h a40 (Value.string) fun t41_0 =>
 Ld h (a40.add 1) (Value.bool) fun t41_1 =>
 Ld h (a40.add 2) (Value.int .i64) fun t41_2 =>
 Ld h (a40.add 3) (Value.int .i64) fun t41_3 =>
 Ld h (a40.add 4) (Value.int .i64) fun t41_4 =>
 Ld h (a40.add 5) (Value.int .i64) fun t41_5 =>
 Ld h (a40.add 6) (Sl.v) fun t41_6 =>
 Fn26 x5 t41_0 t41_1 t41_2 t41_3 t41_4 t41_5 t41_6 h (fun t42 h1 =>
 Wr .i64 (x6 + (1:Int)) fun t34 =>
 N1 (mk9_8 x1 t42 t34) h1) Kp) (
 J9_6 x1 x5 K Kp h)
def L9_8 (x1:Addr) (K : Sl → Int → HP) (Kp:PK) (x5:Sl) (x6:Int) (h:Hp) : Prop :=
 LoopH (fun N fr h => sem Tryd.prog ann9 (Dw ord9) none (sub [1, 1, 1, 1, 0, 1, 0, 1, 0, 1, 0, 0] code9) (thenQ (fun fr' h' => N (Ann.find ann9 2008 fr') h') (ctxQ Tryd.prog ann9 (Dw ord9) none Kp [1, 1, 1, 1, 0, 1, 0, 1, 0, 1, 0] code9 [] (q9 K))) Kp fr h) (mk9_8 x1 x5 x6) h
theorem L9_8.rule {x1:Addr} {K : Sl → Int → HP} {Kp:PK} (I : Sl → Int → HP) (μ : Sl → Int → Hp → Nat) {x5:Sl} {x6:Int} {h:Hp} (h0 : I x5 x6 h)
 (step : ∀ (x5:Sl) (x6:Int) (h:Hp), I x5 x6 h → ∀ N1 : Fr → HP, (∀ (x5':Sl) (x6':Int) (h':Hp), I x5' x6' h' → μ x5' x6' h' < μ x5 x6 h → N1 (mk9_8 x1 x5' x6') h') → T9_8 x1 K Kp N1 x5 x6 h) : L9_8 x1 K Kp x5 x6 h :=
 loop_rule (σ := Sl × Int) (fun s => mk9_8 x1 s.1 s.2) (fun N s h => T9_8 x1 K Kp N s.1 s.2 h) (fun N s h => by kernel_rfl) (fun s h => I s.1 s.2 h) (fun s h => μ s.1 s.2 h) (s0 := ⟨x5, x6⟩) h0 (fun s h hI N hN => step s.1 s.2 h hI N (fun x5' x6' h' hI' hl => hN ⟨x5', x6'⟩ h' hI' hl))
def S9 (hv_0:Int) (hv_1:Sl) (hv_2:Sl) (hv_3:Int) (hv_4:Bool) (hv_5:Int) (hv_6:Int) (hv_7:Sl) (hv_8:Sl) (h:Hp) (K : Sl → Int → HP) (Kp:PK) : Prop :=
 New h #[(.int .i64 hv_0), (Sl.v hv_1), (Sl.v hv_2), (.int .i64 hv_3), (.bool hv_4), (.int .i64 hv_5), (.int .i64 hv_6), (Sl.v hv_7), (Sl.v hv_8)] 29 fun a1 h1 =>
 Ld h1 a1 (Value.int .i64) fun t10_0 =>
 Ld h1 (a1.add 1) (Sl.v) fun t10_1 =>
 Ld h1 (a1.add 2) (Sl.v) fun t10_2 =>
 Ld h1 (a1.add 3) (Value.int .i64) fun t10_3 =>
 Ld h1 (a1.add 4) (Value.bool) fun t10_4 =>
 Ld h1 (a1.add 5) (Value.int .i64) fun t10_5 =>
 Ld h1 (a1.add 6) (Value.int .i64) fun t10_6 =>
 Ld h1 (a1.add 7) (Sl.v) fun t10_7 =>
 Ld h1 (a1.add 8) (Sl.v) fun t10_8 =>
 Fn16 t10_0 t10_1 t10_2 t10_3 t10_4 t10_5 t10_6 t10_7 t10_8 h1 (fun t11 h2 =>
 If (!t11) (
 K (⟨none, 0, 0⟩:Sl) (50:Int) h2) (
 Ld h2 a1 (Value.int .i64) fun t15 =>
 Wr .u8 t15 fun t16 =>
 New h2 #[(.int .u8 t16), (.int .u8 (1:Int)), (.int .u8 (0:Int)), (.int .u8 (0:Int))] 5 fun a17 h3 =>
 Ld h3 a1 (Value.int .i64) fun t19 =>
 If (t19 == (1:Int)) (
 Ld h3 (a1.add 1) (Sl.v) fun t24 =>
 Fn25 (⟨some a17, 4, 4⟩:Sl) (t24.n:Int) (2:Int) h3 (fun t26 h4 =>
 L9_8 a1 K Kp t26 (0:Int) h4) Kp) (
 J9_1 a1 (⟨some a17, 4, 4⟩:Sl) K Kp h3))) Kp
theorem Fn9.of {hv_0:Int} {hv_1:Sl} {hv_2:Sl} {hv_3:Int} {hv_4:Bool} {hv_5:Int} {hv_6:Int} {hv_7:Sl} {hv_8:Sl} {h:Hp} {K : Sl → Int → HP} {Kp:PK} (H : S9 hv_0 hv_1 hv_2 hv_3 hv_4 hv_5 hv_6 hv_7 hv_8 h K Kp) : Fn9 hv_0 hv_1 hv_2 hv_3 hv_4 hv_5 hv_6 hv_7 hv_8 h K Kp :=
 fn_of2 (P := Tryd.prog) (ann := ann9) (D := DrawSem Tryd.prog ord9) (drawOk _) (c := code9) (zs := [(.slice none 0 0), (.int .i64 (0:Int))]) (args := [(.agg #[(.int .i64 hv_0), (Sl.v hv_1), (Sl.v hv_2), (.int .i64 hv_3), (.bool hv_4), (.int .i64 hv_5), (.int .i64 hv_6), (Sl.v hv_7), (Sl.v hv_8)])]) (Kv := kv9 K) (Kp := Kp) (h := h) Tryd.func9 (by kernel_rfl) H (by kernel_rfl) (by kernel_rfl)
/- ### 10: sameBytes -/
noncomputable def code10 : Code := Tryd.f10.body.getD .skip
def ann10 : Ann := [(2004, [0, 1, 5])]
def ord10 : List (Nat × OT × List Nat) := [(6, (OT.l [0, 1, 2, 3, 4, 5, 6, 7, 8] .fin), [0, 0, 3, 7, 0, 0, 48, 112, 255])]
def kv10 (K : Bool → HP) : Value → HP := fun v h => match v with | .bool r0 => (K r0 h) | _ => False
def q10 (K : Bool → HP) : Qt := retQ Tryd.prog Tryd.f10.results.toList [(.bool false)] (kv10 K)
abbrev mk10_1 (x0:Sl) (x1:Sl) (x5:Int) : Fr := ([some (Sl.v x0), some (Sl.v x1), none, none, none, some (.int .i64 x5)] ++ nn 20)
def T10_1 (x0:Sl) (x1:Sl) (K : Bool → HP) (Kp:PK) (N1 : Fr → HP) (x5:Int) (h:Hp) : Prop :=
 If (decide (x5 < (x0.n:Int))) (
 Ix x0.a x0.n 1 x5 fun a19 =>
 Ld h a19 (Value.int .u8) fun t20 =>
 Ix x1.a x1.n 1 x5 fun a23 =>
 Ld h a23 (Value.int .u8) fun t24 =>
 If (t20 != t24) (
 K false h) (
 Wr .i64 (x5 + (1:Int)) fun t16 =>
 N1 (mk10_1 x0 x1 t16) h)) (
 K true h)
def L10_1 (x0:Sl) (x1:Sl) (K : Bool → HP) (Kp:PK) (x5:Int) (h:Hp) : Prop :=
 LoopH (fun N fr h => sem Tryd.prog ann10 (Dw ord10) none (sub [1, 1, 0, 1, 0, 0] code10) (thenQ (fun fr' h' => N (Ann.find ann10 2004 fr') h') (ctxQ Tryd.prog ann10 (Dw ord10) none Kp [1, 1, 0, 1, 0] code10 [] (q10 K))) Kp fr h) (mk10_1 x0 x1 x5) h
theorem L10_1.rule {x0:Sl} {x1:Sl} {K : Bool → HP} {Kp:PK} (I : Int → HP) (μ : Int → Hp → Nat) {x5:Int} {h:Hp} (h0 : I x5 h)
 (step : ∀ (x5:Int) (h:Hp), I x5 h → ∀ N1 : Fr → HP, (∀ (x5':Int) (h':Hp), I x5' h' → μ x5' h' < μ x5 h → N1 (mk10_1 x0 x1 x5') h') → T10_1 x0 x1 K Kp N1 x5 h) : L10_1 x0 x1 K Kp x5 h :=
 loop_rule (σ := Int) (fun s => mk10_1 x0 x1 s) (fun N s h => T10_1 x0 x1 K Kp N s h) (fun N s h => by kernel_rfl) (fun s h => I s h) (fun s h => μ s h) (s0 := x5) h0 (fun s h hI N hN => step s h hI N (fun x5' h' hI' hl => hN x5' h' hI' hl))
def S10 (a:Sl) (b:Sl) (h:Hp) (K : Bool → HP) (Kp:PK) : Prop :=
 If ((a.n:Int) != (b.n:Int)) (
 K false h) (
 L10_1 a b K Kp (0:Int) h)
theorem Fn10.of {a:Sl} {b:Sl} {h:Hp} {K : Bool → HP} {Kp:PK} (H : S10 a b h K Kp) : Fn10 a b h K Kp :=
 fn_of2 (P := Tryd.prog) (ann := ann10) (D := DrawSem Tryd.prog ord10) (drawOk _) (c := code10) (zs := [(.bool false)]) (args := [(Sl.v a), (Sl.v b)]) (Kv := kv10 K) (Kp := Kp) (h := h) Tryd.func10 (by kernel_rfl) H (by kernel_rfl) (by kernel_rfl)
/- ### 11: fixed -/
noncomputable def code11 : Code := Tryd.f11.body.getD .skip
def ann11 : Ann := []
def ord11 : List (Nat × OT × List Nat) := []
def kv11 (K : Bool → HP) : Value → HP := fun v h => match v with | .bool r0 => (K r0 h) | _ => False
def S11 (h:Hp) (K : Bool → HP) (Kp:PK) : Prop :=
 Fn8 (1:Int) (⟨none, 0, 0⟩:Sl) (⟨none, 0, 0⟩:Sl) (0:Int) false (0:Int) (0:Int) (⟨none, 0, 0⟩:Sl) (⟨none, 0, 0⟩:Sl) h (fun t5_0 t5_1 h1 =>
 If (t5_1 == (0:Int)) (
 New h1 #[(.int .u8 (1:Int)), (.int .u8 (1:Int)), (.int .u8 (0:Int)), (.int .u8 (0:Int)), (.int .u8 (0:Int)), (.int .u8 (0:Int)), (.int .u8 (0:Int)), (.int .u8 (0:Int))] 5 fun a12 h2 =>
 Fn10 t5_0 (⟨some a12, 8, 8⟩:Sl) h2 (fun t13 h3 =>
 K t13 h3) Kp) (
 K false h1)) Kp
theorem Fn11.of {h:Hp} {K : Bool → HP} {Kp:PK} (H : S11  h K Kp) : Fn11  h K Kp :=
 fn_of2 (P := Tryd.prog) (ann := ann11) (D := DrawSem Tryd.prog ord11) (drawOk _) (c := code11) (zs := [(.bool false)]) (args := []) (Kv := kv11 K) (Kp := Kp) (h := h) Tryd.func11 (by kernel_rfl) H (by kernel_rfl) (by kernel_rfl)
/- ### 13: Get -/
noncomputable def code13 : Code := Tryd.f13.body.getD .skip
def ann13 : Ann := [(2000017, [0, 2, 3, 4, 5]), (2000019, [2, 3, 4, 5]), (2000023, [2, 3, 4, 5])]
def ord13 : List (Nat × OT × List Nat) := [(24, (OT.l [0, 1, 2, 3, 4, 5, 6] .fin), [0, 0, 2, 6, 14, 1, 63])]
def kv13 (K : Int → Sl → Sl → Int → Bool → Int → Int → Sl → Sl → Int → Sl → Int → HP) : Value → HP := fun v h => match v with | .tuple us => (let vs := us.toList; match (vs.getD 0 undef) with | .agg cs0 => (match (cs0.toList.getD 0 undef) with | .int _ r0_0 => (match (cs0.toList.getD 1 undef) with | .slice r0_1a r0_1n r0_1c => (let r0_1 : Sl := ⟨r0_1a, r0_1n, r0_1c⟩; match (cs0.toList.getD 2 undef) with | .slice r0_2a r0_2n r0_2c => (let r0_2 : Sl := ⟨r0_2a, r0_2n, r0_2c⟩; match (cs0.toList.getD 3 undef) with | .int _ r0_3 => (match (cs0.toList.getD 4 undef) with | .bool r0_4 => (match (cs0.toList.getD 5 undef) with | .int _ r0_5 => (match (cs0.toList.getD 6 undef) with | .int _ r0_6 => (match (cs0.toList.getD 7 undef) with | .slice r0_7a r0_7n r0_7c => (let r0_7 : Sl := ⟨r0_7a, r0_7n, r0_7c⟩; match (cs0.toList.getD 8 undef) with | .slice r0_8a r0_8n r0_8c => (let r0_8 : Sl := ⟨r0_8a, r0_8n, r0_8c⟩; match (vs.getD 1 undef) with | .agg cs1 => (match (cs1.toList.getD 0 undef) with | .int _ r1_0 => (match (cs1.toList.getD 1 undef) with | .slice r1_1a r1_1n r1_1c => (let r1_1 : Sl := ⟨r1_1a, r1_1n, r1_1c⟩; match (cs1.toList.getD 2 undef) with | .int _ r1_2 => (K r0_0 r0_1 r0_2 r0_3 r0_4 r0_5 r0_6 r0_7 r0_8 r1_0 r1_1 r1_2 h) | _ => False) | _ => False) | _ => False) | _ => False) | _ => False) | _ => False) | _ => False) | _ => False) | _ => False) | _ => False) | _ => False) | _ => False) | _ => False) | _ => False) | _ => False
def q13 (K : Int → Sl → Sl → Int → Bool → Int → Int → Sl → Sl → Int → Sl → Int → HP) : Qt := retQ Tryd.prog Tryd.f13.results.toList [(.agg #[(.int .i64 (0:Int)), (.slice none 0 0), (.slice none 0 0), (.int .i64 (0:Int)), (.bool false), (.int .i64 (0:Int)), (.int .i64 (0:Int)), (.slice none 0 0), (.slice none 0 0)]), (.agg #[(.int .i64 (0:Int)), (.slice none 0 0), (.int .i64 (0:Int))])] (kv13 K)
def JT13_3 (x2:Addr) (x3:Addr) (x4:Addr) (x5:Addr) (K : Int → Sl → Sl → Int → Bool → Int → Int → Sl → Sl → Int → Sl → Int → HP) (Kp:PK) (h:Hp) : Prop :=
 Ld h (x4.add 3) (Value.int .i64) fun t82 =>
 If (t82 != (0:Int)) (
 Ld h (x4.add 3) (Value.int .i64) fun t88_0 =>
 Ld h ((x4.add 3).add 1) (Sl.v) fun t88_1 =>
 Ld h ((x4.add 3).add 2) (Value.int .i64) fun t88_2 =>
 St h x2 (.int .i64 (0:Int)) fun h1 =>
 St h1 (x2.add 1) (.slice none 0 0) fun h2 =>
 St h2 (x2.add 2) (.slice none 0 0) fun h3 =>
 St h3 (x2.add 3) (.int .i64 (0:Int)) fun h4 =>
 St h4 (x2.add 4) (.bool false) fun h5 =>
 St h5 (x2.add 5) (.int .i64 (0:Int)) fun h6 =>
 St h6 (x2.add 6) (.int .i64 (0:Int)) fun h7 =>
 St h7 (x2.add 7) (.slice none 0 0) fun h8 =>
 St h8 (x2.add 8) (.slice none 0 0) fun h9 =>
 Keep h h9 (x4.add 3) 3 <|
 St h9 x3 (.int .i64 t88_0) fun h10 =>
 St h10 (x3.add 1) (Sl.v t88_1) fun h11 =>
 St h11 (x3.add 2) (.int .i64 t88_2) fun h12 =>
 Ld h12 x2 (Value.int .i64) fun r0_0 =>
 Ld h12 (x2.add 1) (Sl.v) fun r0_1 =>
 Ld h12 (x2.add 2) (Sl.v) fun r0_2 =>
 Ld h12 (x2.add 3) (Value.int .i64) fun r0_3 =>
 Ld h12 (x2.add 4) (Value.bool) fun r0_4 =>
 Ld h12 (x2.add 5) (Value.int .i64) fun r0_5 =>
 Ld h12 (x2.add 6) (Value.int .i64) fun r0_6 =>
 Ld h12 (x2.add 7) (Sl.v) fun r0_7 =>
 Ld h12 (x2.add 8) (Sl.v) fun r0_8 =>
 Ld h12 x3 (Value.int .i64) fun r1_0 =>
 Ld h12 (x3.add 1) (Sl.v) fun r1_1 =>
 Ld h12 (x3.add 2) (Value.int .i64) fun r1_2 =>
 K r0_0 r0_1 r0_2 r0_3 r0_4 r0_5 r0_6 r0_7 r0_8 r1_0 r1_1 r1_2 h12) (
 Ld h x5 (Value.int .i64) fun t89_0 =>
 Ld h (x5.add 1) (Sl.v) fun t89_1 =>
 Ld h (x5.add 2) (Sl.v) fun t89_2 =>
 Ld h (x5.add 3) (Value.int .i64) fun t89_3 =>
 Ld h (x5.add 4) (Value.bool) fun t89_4 =>
 Ld h (x5.add 5) (Value.int .i64) fun t89_5 =>
 Ld h (x5.add 6) (Value.int .i64) fun t89_6 =>
 Ld h (x5.add 7) (Sl.v) fun t89_7 =>
 Ld h (x5.add 8) (Sl.v) fun t89_8 =>
 St h x2 (.int .i64 t89_0) fun h1 =>
 St h1 (x2.add 1) (Sl.v t89_1) fun h2 =>
 St h2 (x2.add 2) (Sl.v t89_2) fun h3 =>
 St h3 (x2.add 3) (.int .i64 t89_3) fun h4 =>
 St h4 (x2.add 4) (.bool t89_4) fun h5 =>
 St h5 (x2.add 5) (.int .i64 t89_5) fun h6 =>
 St h6 (x2.add 6) (.int .i64 t89_6) fun h7 =>
 St h7 (x2.add 7) (Sl.v t89_7) fun h8 =>
 St h8 (x2.add 8) (Sl.v t89_8) fun h9 =>
 St h9 x3 (.int .i64 (0:Int)) fun h10 =>
 St h10 (x3.add 1) (.slice none 0 0) fun h11 =>
 St h11 (x3.add 2) (.int .i64 (0:Int)) fun h12 =>
 Ld h12 x2 (Value.int .i64) fun r0_0 =>
 Ld h12 (x2.add 1) (Sl.v) fun r0_1 =>
 Ld h12 (x2.add 2) (Sl.v) fun r0_2 =>
 Ld h12 (x2.add 3) (Value.int .i64) fun r0_3 =>
 Ld h12 (x2.add 4) (Value.bool) fun r0_4 =>
 Ld h12 (x2.add 5) (Value.int .i64) fun r0_5 =>
 Ld h12 (x2.add 6) (Value.int .i64) fun r0_6 =>
 Ld h12 (x2.add 7) (Sl.v) fun r0_7 =>
 Ld h12 (x2.add 8) (Sl.v) fun r0_8 =>
 Ld h12 x3 (Value.int .i64) fun r1_0 =>
 Ld h12 (x3.add 1) (Sl.v) fun r1_1 =>
 Ld h12 (x3.add 2) (Value.int .i64) fun r1_2 =>
 K r0_0 r0_1 r0_2 r0_3 r0_4 r0_5 r0_6 r0_7 r0_8 r1_0 r1_1 r1_2 h12)
def J13_3 (x2:Addr) (x3:Addr) (x4:Addr) (x5:Addr) (K : Int → Sl → Sl → Int → Bool → Int → Int → Sl → Sl → Int → Sl → Int → HP) (Kp:PK) (h:Hp) : Prop :=
 Joint (sem Tryd.prog ann13 (Dw ord13) none (sub [1, 1, 1, 1, 1, 1, 1, 1, 1, 1] code13) (ctxQ Tryd.prog ann13 (Dw ord13) none Kp [1, 1, 1, 1, 1, 1, 1, 1, 1, 1] code13 [] (q13 K)) Kp (([none, none, some (.pointer (some x2)), some (.pointer (some x3)), some (.pointer (some x4)), some (.pointer (some x5))] ++ nn 85)) h)
theorem J13_3.of {x2:Addr} {x3:Addr} {x4:Addr} {x5:Addr} {K : Int → Sl → Sl → Int → Bool → Int → Int → Sl → Sl → Int → Sl → Int → HP} {Kp:PK} {h:Hp} (H : JT13_3 x2 x3 x4 x5 K Kp h) : J13_3 x2 x3 x4 x5 K Kp h :=
 Joint.mk (Eq.mp (by kernel_rfl) H)
def JT13_2 (x2:Addr) (x3:Addr) (x4:Addr) (x5:Addr) (K : Int → Sl → Sl → Int → Bool → Int → Int → Sl → Sl → Int → Sl → Int → HP) (Kp:PK) (h:Hp) : Prop :=
 Ld h (x4.add 3) (Value.int .i64) fun t70 =>
 If (t70 == (0:Int)) (
 Ld h x5 (Value.int .i64) fun t72_0 =>
 Ld h (x5.add 1) (Sl.v) fun t72_1 =>
 Ld h (x5.add 2) (Sl.v) fun t72_2 =>
 Ld h (x5.add 3) (Value.int .i64) fun t72_3 =>
 Ld h (x5.add 4) (Value.bool) fun t72_4 =>
 Ld h (x5.add 5) (Value.int .i64) fun t72_5 =>
 Ld h (x5.add 6) (Value.int .i64) fun t72_6 =>
 Ld h (x5.add 7) (Sl.v) fun t72_7 =>
 Ld h (x5.add 8) (Sl.v) fun t72_8 =>
 Fn16 t72_0 t72_1 t72_2 t72_3 t72_4 t72_5 t72_6 t72_7 t72_8 h (fun t73 h1 =>
 If (!t73) (
 Fn35 (some x4) (50:Int) (0:Int) h1 (fun h2 =>
 J13_3 x2 x3 x4 x5 K Kp h2) Kp) (
 J13_3 x2 x3 x4 x5 K Kp h1)) Kp) (
 J13_3 x2 x3 x4 x5 K Kp h)
def J13_2 (x2:Addr) (x3:Addr) (x4:Addr) (x5:Addr) (K : Int → Sl → Sl → Int → Bool → Int → Int → Sl → Sl → Int → Sl → Int → HP) (Kp:PK) (h:Hp) : Prop :=
 Joint (sem Tryd.prog ann13 (Dw ord13) none (sub [1, 1, 1, 1, 1, 1, 1, 1, 1] code13) (ctxQ Tryd.prog ann13 (Dw ord13) none Kp [1, 1, 1, 1, 1, 1, 1, 1, 1] code13 [] (q13 K)) Kp (([none, none, some (.pointer (some x2)), some (.pointer (some x3)), some (.pointer (some x4)), some (.pointer (some x5))] ++ nn 85)) h)
theorem J13_2.of {x2:Addr} {x3:Addr} {x4:Addr} {x5:Addr} {K : Int → Sl → Sl → Int → Bool → Int → Int → Sl → Sl → Int → Sl → Int → HP} {Kp:PK} {h:Hp} (H : JT13_2 x2 x3 x4 x5 K Kp h) : J13_2 x2 x3 x4 x5 K Kp h :=
 Joint.mk (Eq.mp (by kernel_rfl) H)
def JT13_1 (x0:Sl) (x2:Addr) (x3:Addr) (x4:Addr) (x5:Addr) (K : Int → Sl → Sl → Int → Bool → Int → Int → Sl → Sl → Int → Sl → Int → HP) (Kp:PK) (h:Hp) : Prop :=
 Ld h (x4.add 3) (Value.int .i64) fun t49 =>
 If (t49 == (0:Int)) (
 Ld h (x4.add 1) (Value.int .i64) fun t55 =>
 If (decide (t55 < (x0.n:Int))) (
 Ld h (x4.add 1) (Value.int .i64) fun t64 =>
 Fn35 (some x4) (52:Int) t64 h (fun h1 =>
 J13_2 x2 x3 x4 x5 K Kp h1) Kp) (
 J13_2 x2 x3 x4 x5 K Kp h)) (
 J13_2 x2 x3 x4 x5 K Kp h)
def J13_1 (x0:Sl) (x2:Addr) (x3:Addr) (x4:Addr) (x5:Addr) (K : Int → Sl → Sl → Int → Bool → Int → Int → Sl → Sl → Int → Sl → Int → HP) (Kp:PK) (h:Hp) : Prop :=
 Joint (sem Tryd.prog ann13 (Dw ord13) none (sub [1, 1, 1, 1, 1, 1, 1, 1] code13) (ctxQ Tryd.prog ann13 (Dw ord13) none Kp [1, 1, 1, 1, 1, 1, 1, 1] code13 [] (q13 K)) Kp (([some (Sl.v x0), none, some (.pointer (some x2)), some (.pointer (some x3)), some (.pointer (some x4)), some (.pointer (some x5))] ++ nn 85)) h)
theorem J13_1.of {x0:Sl} {x2:Addr} {x3:Addr} {x4:Addr} {x5:Addr} {K : Int → Sl → Sl → Int → Bool → Int → Int → Sl → Sl → Int → Sl → Int → HP} {Kp:PK} {h:Hp} (H : JT13_1 x0 x2 x3 x4 x5 K Kp h) : J13_1 x0 x2 x3 x4 x5 K Kp h :=
 Joint.mk (Eq.mp (by kernel_rfl) H)
def S13 (b:Sl) (h:Hp) (K : Int → Sl → Sl → Int → Bool → Int → Int → Sl → Sl → Int → Sl → Int → HP) (Kp:PK) : Prop :=
 New h #[(.int .i64 (0:Int)), (.slice none 0 0), (.slice none 0 0), (.int .i64 (0:Int)), (.bool false), (.int .i64 (0:Int)), (.int .i64 (0:Int)), (.slice none 0 0), (.slice none 0 0)] 29 fun a2 h1 =>
 New h1 #[(.int .i64 (0:Int)), (.slice none 0 0), (.int .i64 (0:Int))] 39 fun a3 h2 =>
 New h2 #[(Sl.v b), (.int .i64 (0:Int)), (.int .i64 (0:Int)), (.int .i64 (0:Int)), (.slice none 0 0), (.int .i64 (0:Int))] 77 fun a10 h3 =>
 New h3 #[(.int .i64 (0:Int)), (.slice none 0 0), (.slice none 0 0), (.int .i64 (0:Int)), (.bool false), (.int .i64 (0:Int)), (.int .i64 (0:Int)), (.slice none 0 0), (.slice none 0 0)] 29 fun a5 h4 =>
 Fn31 (some a10) (1:Int) (3:Int) h4 (fun t12 h5 =>
 St h5 a5 (.int .i64 t12) fun h6 =>
 Fn31 (some a10) (1:Int) (1:Int) h6 (fun t15 h7 =>
 Fn31 (some a10) (0:Int) (0:Int) h7 (fun t17 h8 =>
 Fn31 (some a10) (0:Int) (0:Int) h8 (fun t19 h9 =>
 Ld h9 a5 (Value.int .i64) fun t21 =>
 If (t21 == (1:Int)) (
 Fn32 (some a10) h9 (fun t25_0 t25_1 h10 =>
 St h10 (a5.add 1) (Sl.v t25_0) fun h11 =>
 St h11 ((a5.add 1).add 1) (Sl.v t25_1) fun h12 =>
 J13_1 b a2 a3 a10 a5 K Kp h12) Kp) (
 If (t21 == (2:Int)) (
 Fn33 (some a10) (2:Int) h9 (fun t30 h10 =>
 St h10 (a5.add 3) (.int .i64 t30) fun h11 =>
 Fn31 (some a10) (0:Int) (1:Int) h11 (fun t33 h12 =>
 St h12 (a5.add 4) (.bool (t33 == (1:Int))) fun h13 =>
 Ld h13 a5 (Value.int .i64) fun t38_0 =>
 Ld h13 (a5.add 1) (Sl.v) fun t38_1 =>
 Ld h13 (a5.add 2) (Sl.v) fun t38_2 =>
 Ld h13 (a5.add 3) (Value.int .i64) fun t38_3 =>
 Ld h13 (a5.add 4) (Value.bool) fun t38_4 =>
 Ld h13 (a5.add 5) (Value.int .i64) fun t38_5 =>
 Ld h13 (a5.add 6) (Value.int .i64) fun t38_6 =>
 Ld h13 (a5.add 7) (Sl.v) fun t38_7 =>
 Ld h13 (a5.add 8) (Sl.v) fun t38_8 =>
 Fn34 (some a10) t38_0 t38_1 t38_2 t38_3 t38_4 t38_5 t38_6 t38_7 t38_8 h13 (fun t39_0 t39_1 t39_2 t39_3 t39_4 t39_5 t39_6 t39_7 t39_8 h14 =>
 St h14 a5 (.int .i64 t39_0) fun h15 =>
 St h15 (a5.add 1) (Sl.v t39_1) fun h16 =>
 St h16 (a5.add 2) (Sl.v t39_2) fun h17 =>
 St h17 (a5.add 3) (.int .i64 t39_3) fun h18 =>
 St h18 (a5.add 4) (.bool t39_4) fun h19 =>
 St h19 (a5.add 5) (.int .i64 t39_5) fun h20 =>
 St h20 (a5.add 6) (.int .i64 t39_6) fun h21 =>
 St h21 (a5.add 7) (Sl.v t39_7) fun h22 =>
 St h22 (a5.add 8) (Sl.v t39_8) fun h23 =>
 J13_1 b a2 a3 a10 a5 K Kp h23) Kp) Kp) Kp) (
 If (t21 == (3:Int)) (
 Ld h9 a5 (Value.int .i64) fun t43_0 =>
 Ld h9 (a5.add 1) (Sl.v) fun t43_1 =>
 Ld h9 (a5.add 2) (Sl.v) fun t43_2 =>
 Ld h9 (a5.add 3) (Value.int .i64) fun t43_3 =>
 Ld h9 (a5.add 4) (Value.bool) fun t43_4 =>
 Ld h9 (a5.add 5) (Value.int .i64) fun t43_5 =>
 Ld h9 (a5.add 6) (Value.int .i64) fun t43_6 =>
 Ld h9 (a5.add 7) (Sl.v) fun t43_7 =>
 Ld h9 (a5.add 8) (Sl.v) fun t43_8 =>
 Fn34 (some a10) t43_0 t43_1 t43_2 t43_3 t43_4 t43_5 t43_6 t43_7 t43_8 h9 (fun t44_0 t44_1 t44_2 t44_3 t44_4 t44_5 t44_6 t44_7 t44_8 h10 =>
 St h10 a5 (.int .i64 t44_0) fun h11 =>
 St h11 (a5.add 1) (Sl.v t44_1) fun h12 =>
 St h12 (a5.add 2) (Sl.v t44_2) fun h13 =>
 St h13 (a5.add 3) (.int .i64 t44_3) fun h14 =>
 St h14 (a5.add 4) (.bool t44_4) fun h15 =>
 St h15 (a5.add 5) (.int .i64 t44_5) fun h16 =>
 St h16 (a5.add 6) (.int .i64 t44_6) fun h17 =>
 St h17 (a5.add 7) (Sl.v t44_7) fun h18 =>
 St h18 (a5.add 8) (Sl.v t44_8) fun h19 =>
 J13_1 b a2 a3 a10 a5 K Kp h19) Kp) (
 J13_1 b a2 a3 a10 a5 K Kp h9)))) Kp) Kp) Kp) Kp
theorem Fn13.of {b:Sl} {h:Hp} {K : Int → Sl → Sl → Int → Bool → Int → Int → Sl → Sl → Int → Sl → Int → HP} {Kp:PK} (H : S13 b h K Kp) : Fn13 b h K Kp :=
 fn_of2 (P := Tryd.prog) (ann := ann13) (D := DrawSem Tryd.prog ord13) (drawOk _) (c := code13) (zs := [(.agg #[(.int .i64 (0:Int)), (.slice none 0 0), (.slice none 0 0), (.int .i64 (0:Int)), (.bool false), (.int .i64 (0:Int)), (.int .i64 (0:Int)), (.slice none 0 0), (.slice none 0 0)]), (.agg #[(.int .i64 (0:Int)), (.slice none 0 0), (.int .i64 (0:Int))])]) (args := [(Sl.v b)]) (Kv := kv13 K) (Kp := Kp) (h := h) Tryd.func13 (by kernel_rfl) H (by kernel_rfl) (by kernel_rfl)
end Go.Proofs.YtfomkkdijjfpiaaDoor
