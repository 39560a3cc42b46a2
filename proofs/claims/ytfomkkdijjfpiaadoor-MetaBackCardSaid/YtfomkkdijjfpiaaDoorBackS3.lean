/- What the functions do, printed by program (gen.py) in the words of ShCore; each text is held against the loaded program by the kernel. -/
import Derived.Test.YtfomkkdijjfpiaaDoorF
set_option linter.unusedSimpArgs false
set_option linter.unusedVariables false
set_option maxRecDepth 100000
namespace Go.Proofs.YtfomkkdijjfpiaaDoor
open Go Go.Sh
/- ### 9: Put -/

noncomputable def code9 : Code := Tryd.f9.body.getD .skip

def ann9 : Ann := [(2000018, [1, 5]), (2000021, [1, 5]), (2000029, [1, 5]), (2031, [1, 5, 9]), (2025, [1, 5, 8]), (2000011, [1, 5]), (2013, [1, 5, 7]), (2008, [1, 5, 6])]

def ord9 : List (Nat × OT × List Nat) := []

def kv9 (K : Sl → Int → Hp → Prop) : Value → Hp → Prop := fun v h => match v with | .tuple us => (let vs := us.toList; match (vs.getD 0 undef) with | .slice r0a r0n r0c => (let r0 : Sl := ⟨r0a, r0n, r0c⟩; match (vs.getD 1 undef) with | .int _ r1 => (K r0 r1 h) | _ => False) | _ => False) | _ => False

def q9 (K : Sl → Int → Hp → Prop) : Qt := retQ Tryd.prog Tryd.f9.results.toList [(.slice none 0 0), (.int .i64 (0 : Int))] (kv9 K)

abbrev mk9_4 (x1 : Addr) (x5 : Sl) (x9 : Int) : Fr := [none, some (.pointer (some x1)), none, none, none, some (Sl.v x5), none, none, none, some (.int .i64 x9), none, none, none, none, none, none, none, none, none, none, none, none, none, none, none, none, none, none, none, none, none, none, none, none, none, none, none, none, none, none, none, none, none, none, none, none, none, none, none, none, none, none, none, none, none, none, none, none, none, none, none, none, none, none, none, none, none, none, none, none, none, none, none, none, none, none, none, none, none, none, none, none, none, none, none, none, none, none, none, none, none, none, none, none, none, none, none, none, none, none, none, none, none, none, none, none, none, none, none, none, none, none, none, none, none, none, none, none, none, none, none, none, none, none, none, none, none, none, none, none, none, none, none, none, none, none, none, none, none, none, none, none, none, none, none, none, none, none, none, none, none, none, none, none, none, none, none, none, none, none]

def T9_4 (x1 : Addr) (K : Sl → Int → Hp → Prop) (Kp : List PanicEntry → Hp → Prop) (N1 : Fr → Hp → Prop) (x5 : Sl) (x9 : Int) (h : Hp) : Prop :=
  Ld h (x1.add 8) (Sl.v) fun t130 =>
  If (decide (x9 < (t130.n : Int))) (
    Ld h (x1.add 8) (Sl.v) fun t137 =>
    Ix t137.a t137.n 3 x9 fun a139 =>
    Ld h a139 (Value.int .i64) fun t141 =>
    Fn25 x5 t141 (4 : Int) h (fun t142 h1 =>
      Ld h1 (x1.add 8) (Sl.v) fun t145 =>
      Ix t145.a t145.n 3 x9 fun a147 =>
      Ld h1 (a147.add 1) (Value.int .i64) fun t149 =>
      Fn25 t142 t149 (4 : Int) h1 (fun t150 h2 =>
        Ld h2 (x1.add 8) (Sl.v) fun t153 =>
        Ix t153.a t153.n 3 x9 fun a155 =>
        Ld h2 (a155.add 2) (Value.int .i64) fun t157 =>
        Fn25 t150 t157 (4 : Int) h2 (fun t158 h3 =>
          Wr .i64 (x9 + (1 : Int)) fun t134 =>
          N1 (mk9_4 x1 t158 t134) h3) Kp) Kp) Kp) (
    K x5 (0 : Int) h)

def L9_4 (x1 : Addr) (K : Sl → Int → Hp → Prop) (Kp : List PanicEntry → Hp → Prop) (x5 : Sl) (x9 : Int) (h : Hp) : Prop :=
  LoopH (fun N fr h => sem Tryd.prog ann9 (DrawSem Tryd.prog ord9) none (sub [1, 1, 1, 1, 1, 1, 1, 1, 1, 1, 1, 0, 1, 0, 0] code9) (thenQ (fun fr' h' => N (Ann.find ann9 2031 fr') h') (ctxQ Tryd.prog ann9 (DrawSem Tryd.prog ord9) none Kp [1, 1, 1, 1, 1, 1, 1, 1, 1, 1, 1, 0, 1, 0] code9 [] (q9 K))) Kp fr h) (mk9_4 x1 x5 x9) h

theorem L9_4.rule {x1 : Addr} {K : Sl → Int → Hp → Prop} {Kp : List PanicEntry → Hp → Prop} (I : Sl → Int → Hp → Prop) (μ : Sl → Int → Hp → Nat) {x5 : Sl} {x9 : Int} {h : Hp} (h0 : I x5 x9 h)
    (step : ∀ (x5 : Sl) (x9 : Int) (h : Hp), I x5 x9 h → ∀ N1 : Fr → Hp → Prop, (∀ (x5' : Sl) (x9' : Int) (h' : Hp), I x5' x9' h' → μ x5' x9' h' < μ x5 x9 h → N1 (mk9_4 x1 x5' x9') h') → T9_4 x1 K Kp N1 x5 x9 h) : L9_4 x1 K Kp x5 x9 h :=
  loop_rule (σ := Sl × Int) (fun s => mk9_4 x1 s.1 s.2) (fun N s h => T9_4 x1 K Kp N s.1 s.2 h) (fun N s h => by kernel_rfl) (fun s h => I s.1 s.2 h) (fun s h => μ s.1 s.2 h) (s0 := ⟨x5, x9⟩) h0 (fun s h hI N hN => step s.1 s.2 h hI N (fun x5' x9' h' hI' hl => hN ⟨x5', x9'⟩ h' hI' hl))

def JT9_3 (x1 : Addr) (x5 : Sl) (K : Sl → Int → Hp → Prop) (Kp : List PanicEntry → Hp → Prop) (h : Hp) : Prop :=
  Ld h (x1.add 8) (Sl.v) fun t125 =>
  Fn25 x5 (t125.n : Int) (2 : Int) h (fun t127 h1 =>
    L9_4 x1 K Kp t127 (0 : Int) h1) Kp

def J9_3 (x1 : Addr) (x5 : Sl) (K : Sl → Int → Hp → Prop) (Kp : List PanicEntry → Hp → Prop) (h : Hp) : Prop :=
  Joint (sem Tryd.prog ann9 (DrawSem Tryd.prog ord9) none (sub [1, 1, 1, 1, 1, 1, 1, 1, 1, 1] code9) (ctxQ Tryd.prog ann9 (DrawSem Tryd.prog ord9) none Kp [1, 1, 1, 1, 1, 1, 1, 1, 1, 1] code9 [] (q9 K)) Kp ([none, some (.pointer (some x1)), none, none, none, some (Sl.v x5), none, none, none, none, none, none, none, none, none, none, none, none, none, none, none, none, none, none, none, none, none, none, none, none, none, none, none, none, none, none, none, none, none, none, none, none, none, none, none, none, none, none, none, none, none, none, none, none, none, none, none, none, none, none, none, none, none, none, none, none, none, none, none, none, none, none, none, none, none, none, none, none, none, none, none, none, none, none, none, none, none, none, none, none, none, none, none, none, none, none, none, none, none, none, none, none, none, none, none, none, none, none, none, none, none, none, none, none, none, none, none, none, none, none, none, none, none, none, none, none, none, none, none, none, none, none, none, none, none, none, none, none, none, none, none, none, none, none, none, none, none, none, none, none, none, none, none, none, none, none, none, none, none, none]) h)

theorem J9_3.of {x1 : Addr} {x5 : Sl} {K : Sl → Int → Hp → Prop} {Kp : List PanicEntry → Hp → Prop} {h : Hp} (H : JT9_3 x1 x5 K Kp h) : J9_3 x1 x5 K Kp h :=
  Joint.mk (Eq.mp (by kernel_rfl) H)

abbrev mk9_5 (x1 : Addr) (x5 : Sl) (x8 : Int) : Fr := [none, some (.pointer (some x1)), none, none, none, some (Sl.v x5), none, none, some (.int .i64 x8), none, none, none, none, none, none, none, none, none, none, none, none, none, none, none, none, none, none, none, none, none, none, none, none, none, none, none, none, none, none, none, none, none, none, none, none, none, none, none, none, none, none, none, none, none, none, none, none, none, none, none, none, none, none, none, none, none, none, none, none, none, none, none, none, none, none, none, none, none, none, none, none, none, none, none, none, none, none, none, none, none, none, none, none, none, none, none, none, none, none, none, none, none, none, none, none, none, none, none, none, none, none, none, none, none, none, none, none, none, none, none, none, none, none, none, none, none, none, none, none, none, none, none, none, none, none, none, none, none, none, none, none, none, none, none, none, none, none, none, none, none, none, none, none, none, none, none, none, none, none, none]

def T9_5 (x1 : Addr) (K : Sl → Int → Hp → Prop) (Kp : List PanicEntry → Hp → Prop) (N1 : Fr → Hp → Prop) (x5 : Sl) (x8 : Int) (h : Hp) : Prop :=
  Ld h (x1.add 7) (Sl.v) fun t102 =>
  If (decide (x8 < (t102.n : Int))) (
    Ld h (x1.add 7) (Sl.v) fun t109 =>
    Ix t109.a t109.n 2 x8 fun a111 =>
    Ld h a111 (Value.int .i64) fun t113 =>
    Fn25 x5 t113 (4 : Int) h (fun t114 h1 =>
      Ld h1 (x1.add 7) (Sl.v) fun t117 =>
      Ix t117.a t117.n 2 x8 fun a119 =>
      Ld h1 (a119.add 1) (Value.int .i64) fun t121 =>
      Fn25 t114 t121 (4 : Int) h1 (fun t122 h2 =>
        Wr .i64 (x8 + (1 : Int)) fun t106 =>
        N1 (mk9_5 x1 t122 t106) h2) Kp) Kp) (
    J9_3 x1 x5 K Kp h)

def L9_5 (x1 : Addr) (K : Sl → Int → Hp → Prop) (Kp : List PanicEntry → Hp → Prop) (x5 : Sl) (x8 : Int) (h : Hp) : Prop :=
  LoopH (fun N fr h => sem Tryd.prog ann9 (DrawSem Tryd.prog ord9) none (sub [1, 1, 1, 1, 1, 1, 1, 1, 1, 0, 1, 0, 0] code9) (thenQ (fun fr' h' => N (Ann.find ann9 2025 fr') h') (ctxQ Tryd.prog ann9 (DrawSem Tryd.prog ord9) none Kp [1, 1, 1, 1, 1, 1, 1, 1, 1, 0, 1, 0] code9 [] (q9 K))) Kp fr h) (mk9_5 x1 x5 x8) h

theorem L9_5.rule {x1 : Addr} {K : Sl → Int → Hp → Prop} {Kp : List PanicEntry → Hp → Prop} (I : Sl → Int → Hp → Prop) (μ : Sl → Int → Hp → Nat) {x5 : Sl} {x8 : Int} {h : Hp} (h0 : I x5 x8 h)
    (step : ∀ (x5 : Sl) (x8 : Int) (h : Hp), I x5 x8 h → ∀ N1 : Fr → Hp → Prop, (∀ (x5' : Sl) (x8' : Int) (h' : Hp), I x5' x8' h' → μ x5' x8' h' < μ x5 x8 h → N1 (mk9_5 x1 x5' x8') h') → T9_5 x1 K Kp N1 x5 x8 h) : L9_5 x1 K Kp x5 x8 h :=
  loop_rule (σ := Sl × Int) (fun s => mk9_5 x1 s.1 s.2) (fun N s h => T9_5 x1 K Kp N s.1 s.2 h) (fun N s h => by kernel_rfl) (fun s h => I s.1 s.2 h) (fun s h => μ s.1 s.2 h) (s0 := ⟨x5, x8⟩) h0 (fun s h hI N hN => step s.1 s.2 h hI N (fun x5' x8' h' hI' hl => hN ⟨x5', x8'⟩ h' hI' hl))

def JT9_2 (x1 : Addr) (x5 : Sl) (K : Sl → Int → Hp → Prop) (Kp : List PanicEntry → Hp → Prop) (h : Hp) : Prop :=
  Ld h (x1.add 5) (Value.int .i64) fun t89 =>
  Fn25 x5 t89 (4 : Int) h (fun t90 h1 =>
    Ld h1 (x1.add 6) (Value.int .i64) fun t93 =>
    Fn25 t90 t93 (1 : Int) h1 (fun t94 h2 =>
      Ld h2 (x1.add 7) (Sl.v) fun t97 =>
      Fn25 t94 (t97.n : Int) (2 : Int) h2 (fun t99 h3 =>
        L9_5 x1 K Kp t99 (0 : Int) h3) Kp) Kp) Kp

def J9_2 (x1 : Addr) (x5 : Sl) (K : Sl → Int → Hp → Prop) (Kp : List PanicEntry → Hp → Prop) (h : Hp) : Prop :=
  Joint (sem Tryd.prog ann9 (DrawSem Tryd.prog ord9) none (sub [1, 1, 1, 1, 1, 1] code9) (ctxQ Tryd.prog ann9 (DrawSem Tryd.prog ord9) none Kp [1, 1, 1, 1, 1, 1] code9 [] (q9 K)) Kp ([none, some (.pointer (some x1)), none, none, none, some (Sl.v x5), none, none, none, none, none, none, none, none, none, none, none, none, none, none, none, none, none, none, none, none, none, none, none, none, none, none, none, none, none, none, none, none, none, none, none, none, none, none, none, none, none, none, none, none, none, none, none, none, none, none, none, none, none, none, none, none, none, none, none, none, none, none, none, none, none, none, none, none, none, none, none, none, none, none, none, none, none, none, none, none, none, none, none, none, none, none, none, none, none, none, none, none, none, none, none, none, none, none, none, none, none, none, none, none, none, none, none, none, none, none, none, none, none, none, none, none, none, none, none, none, none, none, none, none, none, none, none, none, none, none, none, none, none, none, none, none, none, none, none, none, none, none, none, none, none, none, none, none, none, none, none, none, none, none]) h)

theorem J9_2.of {x1 : Addr} {x5 : Sl} {K : Sl → Int → Hp → Prop} {Kp : List PanicEntry → Hp → Prop} {h : Hp} (H : JT9_2 x1 x5 K Kp h) : J9_2 x1 x5 K Kp h :=
  Joint.mk (Eq.mp (by kernel_rfl) H)

def JT9_1 (x1 : Addr) (x5 : Sl) (K : Sl → Int → Hp → Prop) (Kp : List PanicEntry → Hp → Prop) (h : Hp) : Prop :=
  Ld h x1 (Value.int .i64) fun t77 =>
  If (t77 == (2 : Int)) (
    Ld h (x1.add 3) (Value.int .i64) fun t81 =>
    Fn25 x5 t81 (2 : Int) h (fun t82 h1 =>
      Ld h1 (x1.add 4) (Value.bool) fun t85 =>
      Fn28 t82 t85 h1 (fun t86 h2 =>
        J9_2 x1 t86 K Kp h2) Kp) Kp) (
    J9_2 x1 x5 K Kp h)

def J9_1 (x1 : Addr) (x5 : Sl) (K : Sl → Int → Hp → Prop) (Kp : List PanicEntry → Hp → Prop) (h : Hp) : Prop :=
  Joint (sem Tryd.prog ann9 (DrawSem Tryd.prog ord9) none (sub [1, 1, 1, 1, 1] code9) (ctxQ Tryd.prog ann9 (DrawSem Tryd.prog ord9) none Kp [1, 1, 1, 1, 1] code9 [] (q9 K)) Kp ([none, some (.pointer (some x1)), none, none, none, some (Sl.v x5), none, none, none, none, none, none, none, none, none, none, none, none, none, none, none, none, none, none, none, none, none, none, none, none, none, none, none, none, none, none, none, none, none, none, none, none, none, none, none, none, none, none, none, none, none, none, none, none, none, none, none, none, none, none, none, none, none, none, none, none, none, none, none, none, none, none, none, none, none, none, none, none, none, none, none, none, none, none, none, none, none, none, none, none, none, none, none, none, none, none, none, none, none, none, none, none, none, none, none, none, none, none, none, none, none, none, none, none, none, none, none, none, none, none, none, none, none, none, none, none, none, none, none, none, none, none, none, none, none, none, none, none, none, none, none, none, none, none, none, none, none, none, none, none, none, none, none, none, none, none, none, none, none, none]) h)

theorem J9_1.of {x1 : Addr} {x5 : Sl} {K : Sl → Int → Hp → Prop} {Kp : List PanicEntry → Hp → Prop} {h : Hp} (H : JT9_1 x1 x5 K Kp h) : J9_1 x1 x5 K Kp h :=
  Joint.mk (Eq.mp (by kernel_rfl) H)

abbrev mk9_7 (x1 : Addr) (x5 : Sl) (x7 : Int) : Fr := [none, some (.pointer (some x1)), none, none, none, some (Sl.v x5), none, some (.int .i64 x7), none, none, none, none, none, none, none, none, none, none, none, none, none, none, none, none, none, none, none, none, none, none, none, none, none, none, none, none, none, none, none, none, none, none, none, none, none, none, none, none, none, none, none, none, none, none, none, none, none, none, none, none, none, none, none, none, none, none, none, none, none, none, none, none, none, none, none, none, none, none, none, none, none, none, none, none, none, none, none, none, none, none, none, none, none, none, none, none, none, none, none, none, none, none, none, none, none, none, none, none, none, none, none, none, none, none, none, none, none, none, none, none, none, none, none, none, none, none, none, none, none, none, none, none, none, none, none, none, none, none, none, none, none, none, none, none, none, none, none, none, none, none, none, none, none, none, none, none, none, none, none, none]

def T9_7 (x1 : Addr) (K : Sl → Int → Hp → Prop) (Kp : List PanicEntry → Hp → Prop) (N1 : Fr → Hp → Prop) (x5 : Sl) (x7 : Int) (h : Hp) : Prop :=
  Ld h ((x1.add 1).add 1) (Sl.v) fun t52 =>
  If (decide (x7 < (t52.n : Int))) (
    Ld h ((x1.add 1).add 1) (Sl.v) fun t60 =>
    Ix t60.a t60.n 2 x7 fun a62 =>
    Ld h a62 (Value.string) fun t64 =>
    Fn27 x5 t64 (2 : Int) h (fun t65 h1 =>
      Ld h1 ((x1.add 1).add 1) (Sl.v) fun t69 =>
      Ix t69.a t69.n 2 x7 fun a71 =>
      Ld h1 (a71.add 1) (Value.string) fun t73 =>
      Fn27 t65 t73 (2 : Int) h1 (fun t74 h2 =>
        Wr .i64 (x7 + (1 : Int)) fun t56 =>
        N1 (mk9_7 x1 t74 t56) h2) Kp) Kp) (
    K x5 (0 : Int) h)

def L9_7 (x1 : Addr) (K : Sl → Int → Hp → Prop) (Kp : List PanicEntry → Hp → Prop) (x5 : Sl) (x7 : Int) (h : Hp) : Prop :=
  LoopH (fun N fr h => sem Tryd.prog ann9 (DrawSem Tryd.prog ord9) none (sub [1, 1, 1, 1, 0, 1, 0, 1, 1, 1, 0, 1, 0, 0] code9) (thenQ (fun fr' h' => N (Ann.find ann9 2013 fr') h') (ctxQ Tryd.prog ann9 (DrawSem Tryd.prog ord9) none Kp [1, 1, 1, 1, 0, 1, 0, 1, 1, 1, 0, 1, 0] code9 [] (q9 K))) Kp fr h) (mk9_7 x1 x5 x7) h

theorem L9_7.rule {x1 : Addr} {K : Sl → Int → Hp → Prop} {Kp : List PanicEntry → Hp → Prop} (I : Sl → Int → Hp → Prop) (μ : Sl → Int → Hp → Nat) {x5 : Sl} {x7 : Int} {h : Hp} (h0 : I x5 x7 h)
    (step : ∀ (x5 : Sl) (x7 : Int) (h : Hp), I x5 x7 h → ∀ N1 : Fr → Hp → Prop, (∀ (x5' : Sl) (x7' : Int) (h' : Hp), I x5' x7' h' → μ x5' x7' h' < μ x5 x7 h → N1 (mk9_7 x1 x5' x7') h') → T9_7 x1 K Kp N1 x5 x7 h) : L9_7 x1 K Kp x5 x7 h :=
  loop_rule (σ := Sl × Int) (fun s => mk9_7 x1 s.1 s.2) (fun N s h => T9_7 x1 K Kp N s.1 s.2 h) (fun N s h => by kernel_rfl) (fun s h => I s.1 s.2 h) (fun s h => μ s.1 s.2 h) (s0 := ⟨x5, x7⟩) h0 (fun s h hI N hN => step s.1 s.2 h hI N (fun x5' x7' h' hI' hl => hN ⟨x5', x7'⟩ h' hI' hl))

def JT9_6 (x1 : Addr) (x5 : Sl) (K : Sl → Int → Hp → Prop) (Kp : List PanicEntry → Hp → Prop) (h : Hp) : Prop :=
  Ld h ((x1.add 1).add 1) (Sl.v) fun t46 =>
  Fn25 x5 (t46.n : Int) (2 : Int) h (fun t48 h1 =>
    L9_7 x1 K Kp t48 (0 : Int) h1) Kp

def J9_6 (x1 : Addr) (x5 : Sl) (K : Sl → Int → Hp → Prop) (Kp : List PanicEntry → Hp → Prop) (h : Hp) : Prop :=
  Joint (sem Tryd.prog ann9 (DrawSem Tryd.prog ord9) none (sub [1, 1, 1, 1, 0, 1, 0, 1, 1] code9) (ctxQ Tryd.prog ann9 (DrawSem Tryd.prog ord9) none Kp [1, 1, 1, 1, 0, 1, 0, 1, 1] code9 [] (q9 K)) Kp ([none, some (.pointer (some x1)), none, none, none, some (Sl.v x5), none, none, none, none, none, none, none, none, none, none, none, none, none, none, none, none, none, none, none, none, none, none, none, none, none, none, none, none, none, none, none, none, none, none, none, none, none, none, none, none, none, none, none, none, none, none, none, none, none, none, none, none, none, none, none, none, none, none, none, none, none, none, none, none, none, none, none, none, none, none, none, none, none, none, none, none, none, none, none, none, none, none, none, none, none, none, none, none, none, none, none, none, none, none, none, none, none, none, none, none, none, none, none, none, none, none, none, none, none, none, none, none, none, none, none, none, none, none, none, none, none, none, none, none, none, none, none, none, none, none, none, none, none, none, none, none, none, none, none, none, none, none, none, none, none, none, none, none, none, none, none, none, none, none]) h)

theorem J9_6.of {x1 : Addr} {x5 : Sl} {K : Sl → Int → Hp → Prop} {Kp : List PanicEntry → Hp → Prop} {h : Hp} (H : JT9_6 x1 x5 K Kp h) : J9_6 x1 x5 K Kp h :=
  Joint.mk (Eq.mp (by kernel_rfl) H)

abbrev mk9_8 (x1 : Addr) (x5 : Sl) (x6 : Int) : Fr := [none, some (.pointer (some x1)), none, none, none, some (Sl.v x5), some (.int .i64 x6), none, none, none, none, none, none, none, none, none, none, none, none, none, none, none, none, none, none, none, none, none, none, none, none, none, none, none, none, none, none, none, none, none, none, none, none, none, none, none, none, none, none, none, none, none, none, none, none, none, none, none, none, none, none, none, none, none, none, none, none, none, none, none, none, none, none, none, none, none, none, none, none, none, none, none, none, none, none, none, none, none, none, none, none, none, none, none, none, none, none, none, none, none, none, none, none, none, none, none, none, none, none, none, none, none, none, none, none, none, none, none, none, none, none, none, none, none, none, none, none, none, none, none, none, none, none, none, none, none, none, none, none, none, none, none, none, none, none, none, none, none, none, none, none, none, none, none, none, none, none, none, none, none]

def T9_8 (x1 : Addr) (K : Sl → Int → Hp → Prop) (Kp : List PanicEntry → Hp → Prop) (N1 : Fr → Hp → Prop) (x5 : Sl) (x6 : Int) (h : Hp) : Prop :=
  Ld h (x1.add 1) (Sl.v) fun t30 =>
  If (decide (x6 < (t30.n : Int))) (
    Ld h (x1.add 1) (Sl.v) fun t38 =>
    Ix t38.a t38.n 7 x6 fun a40 =>
    Ld h a40 (Value.string) fun t41_0 =>
    Ld h (a40.add 1) (Value.bool) fun t41_1 =>
    Ld h (a40.add 2) (Value.int .i64) fun t41_2 =>
    Ld h (a40.add 3) (Value.int .i64) fun t41_3 =>
    Ld h (a40.add 4) (Value.int .i64) fun t41_4 =>
    Ld h (a40.add 5) (Value.int .i64) fun t41_5 =>
    Ld h (a40.add 6) (Sl.v) fun t41_6 =>
    Fn26 x5 t41_0 t41_1 t41_2 t41_3 t41_4 t41_5 t41_6 h (fun t42 h1 =>
      Wr .i64 (x6 + (1 : Int)) fun t34 =>
      N1 (mk9_8 x1 t42 t34) h1) Kp) (
    J9_6 x1 x5 K Kp h)

def L9_8 (x1 : Addr) (K : Sl → Int → Hp → Prop) (Kp : List PanicEntry → Hp → Prop) (x5 : Sl) (x6 : Int) (h : Hp) : Prop :=
  LoopH (fun N fr h => sem Tryd.prog ann9 (DrawSem Tryd.prog ord9) none (sub [1, 1, 1, 1, 0, 1, 0, 1, 0, 1, 0, 0] code9) (thenQ (fun fr' h' => N (Ann.find ann9 2008 fr') h') (ctxQ Tryd.prog ann9 (DrawSem Tryd.prog ord9) none Kp [1, 1, 1, 1, 0, 1, 0, 1, 0, 1, 0] code9 [] (q9 K))) Kp fr h) (mk9_8 x1 x5 x6) h

theorem L9_8.rule {x1 : Addr} {K : Sl → Int → Hp → Prop} {Kp : List PanicEntry → Hp → Prop} (I : Sl → Int → Hp → Prop) (μ : Sl → Int → Hp → Nat) {x5 : Sl} {x6 : Int} {h : Hp} (h0 : I x5 x6 h)
    (step : ∀ (x5 : Sl) (x6 : Int) (h : Hp), I x5 x6 h → ∀ N1 : Fr → Hp → Prop, (∀ (x5' : Sl) (x6' : Int) (h' : Hp), I x5' x6' h' → μ x5' x6' h' < μ x5 x6 h → N1 (mk9_8 x1 x5' x6') h') → T9_8 x1 K Kp N1 x5 x6 h) : L9_8 x1 K Kp x5 x6 h :=
  loop_rule (σ := Sl × Int) (fun s => mk9_8 x1 s.1 s.2) (fun N s h => T9_8 x1 K Kp N s.1 s.2 h) (fun N s h => by kernel_rfl) (fun s h => I s.1 s.2 h) (fun s h => μ s.1 s.2 h) (s0 := ⟨x5, x6⟩) h0 (fun s h hI N hN => step s.1 s.2 h hI N (fun x5' x6' h' hI' hl => hN ⟨x5', x6'⟩ h' hI' hl))

def S9 (hv_0 : Int) (hv_1 : Sl) (hv_2 : Sl) (hv_3 : Int) (hv_4 : Bool) (hv_5 : Int) (hv_6 : Int) (hv_7 : Sl) (hv_8 : Sl) (h : Hp) (K : Sl → Int → Hp → Prop) (Kp : List PanicEntry → Hp → Prop) : Prop :=
  New h #[(.int .i64 hv_0), (Sl.v hv_1), (Sl.v hv_2), (.int .i64 hv_3), (.bool hv_4), (.int .i64 hv_5), (.int .i64 hv_6), (Sl.v hv_7), (Sl.v hv_8)] 29 fun a1 h1 =>
  Ld h1 a1 (Value.int .i64) fun t10_0 =>
  Ld h1 (a1.add 1) (Sl.v) fun t10_1 =>
  Ld h1 (a1.add 2) (Sl.v) fun t10_2 =>
  Ld h1 (a1.add 3) (Value.int .i64) fun t10_3 =>
  Ld h1 (a1.add 4) (Value.bool) fun t10_4 =>
  Ld h1 (a1.add 5) (Value.int .i64) fun t10_5 =>
  Ld h1 (a1.add 6) (Value.int .i64) fun t10_6 =>
  Ld h1 (a1.add 7) (Sl.v) fun t10_7 =>
  Ld h1 (a1.add 8) (Sl.v) fun t10_8 =>
  Fn16 t10_0 t10_1 t10_2 t10_3 t10_4 t10_5 t10_6 t10_7 t10_8 h1 (fun t11 h2 =>
    If (!t11) (
      K (⟨none, 0, 0⟩ : Sl) (50 : Int) h2) (
      Ld h2 a1 (Value.int .i64) fun t15 =>
      Wr .u8 t15 fun t16 =>
      New h2 #[(.int .u8 t16), (.int .u8 (1 : Int)), (.int .u8 (0 : Int)), (.int .u8 (0 : Int))] 5 fun a17 h3 =>
      Ld h3 a1 (Value.int .i64) fun t19 =>
      If (t19 == (1 : Int)) (
        Ld h3 (a1.add 1) (Sl.v) fun t24 =>
        Fn25 (⟨some a17, 4, 4⟩ : Sl) (t24.n : Int) (2 : Int) h3 (fun t26 h4 =>
          L9_8 a1 K Kp t26 (0 : Int) h4) Kp) (
        J9_1 a1 (⟨some a17, 4, 4⟩ : Sl) K Kp h3))) Kp

theorem Fn9.of {hv_0 : Int} {hv_1 : Sl} {hv_2 : Sl} {hv_3 : Int} {hv_4 : Bool} {hv_5 : Int} {hv_6 : Int} {hv_7 : Sl} {hv_8 : Sl} {h : Hp} {K : Sl → Int → Hp → Prop} {Kp : List PanicEntry → Hp → Prop} (H : S9 hv_0 hv_1 hv_2 hv_3 hv_4 hv_5 hv_6 hv_7 hv_8 h K Kp) : Fn9 hv_0 hv_1 hv_2 hv_3 hv_4 hv_5 hv_6 hv_7 hv_8 h K Kp :=
  fn_of2 (P := Tryd.prog) (ann := ann9) (D := DrawSem Tryd.prog ord9) (drawOk _) (c := code9) (zs := [(.slice none 0 0), (.int .i64 (0 : Int))]) (args := [(.agg #[(.int .i64 hv_0), (Sl.v hv_1), (Sl.v hv_2), (.int .i64 hv_3), (.bool hv_4), (.int .i64 hv_5), (.int .i64 hv_6), (Sl.v hv_7), (Sl.v hv_8)])]) (Kv := kv9 K) (Kp := Kp) (h := h) Tryd.func9 (by kernel_rfl) H (by kernel_rfl) (by kernel_rfl)

/- ### 10: sameBytes -/

noncomputable def code10 : Code := Tryd.f10.body.getD .skip

def ann10 : Ann := [(2004, [0, 1, 5])]

def ord10 : List (Nat × OT × List Nat) := [(6, (OT.l [0, 1, 2, 3, 4, 5, 6, 7, 8] .fin), [0, 0, 3, 7, 0, 0, 48, 112, 255])]

def kv10 (K : Bool → Hp → Prop) : Value → Hp → Prop := fun v h => match v with | .bool r0 => (K r0 h) | _ => False

def q10 (K : Bool → Hp → Prop) : Qt := retQ Tryd.prog Tryd.f10.results.toList [(.bool false)] (kv10 K)

abbrev mk10_1 (x0 : Sl) (x1 : Sl) (x5 : Int) : Fr := [some (Sl.v x0), some (Sl.v x1), none, none, none, some (.int .i64 x5), none, none, none, none, none, none, none, none, none, none, none, none, none, none, none, none, none, none, none, none]

def T10_1 (x0 : Sl) (x1 : Sl) (K : Bool → Hp → Prop) (Kp : List PanicEntry → Hp → Prop) (N1 : Fr → Hp → Prop) (x5 : Int) (h : Hp) : Prop :=
  If (decide (x5 < (x0.n : Int))) (
    Ix x0.a x0.n 1 x5 fun a19 =>
    Ld h a19 (Value.int .u8) fun t20 =>
    Ix x1.a x1.n 1 x5 fun a23 =>
    Ld h a23 (Value.int .u8) fun t24 =>
    If (t20 != t24) (
      K false h) (
      Wr .i64 (x5 + (1 : Int)) fun t16 =>
      N1 (mk10_1 x0 x1 t16) h)) (
    K true h)

def L10_1 (x0 : Sl) (x1 : Sl) (K : Bool → Hp → Prop) (Kp : List PanicEntry → Hp → Prop) (x5 : Int) (h : Hp) : Prop :=
  LoopH (fun N fr h => sem Tryd.prog ann10 (DrawSem Tryd.prog ord10) none (sub [1, 1, 0, 1, 0, 0] code10) (thenQ (fun fr' h' => N (Ann.find ann10 2004 fr') h') (ctxQ Tryd.prog ann10 (DrawSem Tryd.prog ord10) none Kp [1, 1, 0, 1, 0] code10 [] (q10 K))) Kp fr h) (mk10_1 x0 x1 x5) h

theorem L10_1.rule {x0 : Sl} {x1 : Sl} {K : Bool → Hp → Prop} {Kp : List PanicEntry → Hp → Prop} (I : Int → Hp → Prop) (μ : Int → Hp → Nat) {x5 : Int} {h : Hp} (h0 : I x5 h)
    (step : ∀ (x5 : Int) (h : Hp), I x5 h → ∀ N1 : Fr → Hp → Prop, (∀ (x5' : Int) (h' : Hp), I x5' h' → μ x5' h' < μ x5 h → N1 (mk10_1 x0 x1 x5') h') → T10_1 x0 x1 K Kp N1 x5 h) : L10_1 x0 x1 K Kp x5 h :=
  loop_rule (σ := Int) (fun s => mk10_1 x0 x1 s) (fun N s h => T10_1 x0 x1 K Kp N s h) (fun N s h => by kernel_rfl) (fun s h => I s h) (fun s h => μ s h) (s0 := x5) h0 (fun s h hI N hN => step s h hI N (fun x5' h' hI' hl => hN x5' h' hI' hl))

def S10 (a : Sl) (b : Sl) (h : Hp) (K : Bool → Hp → Prop) (Kp : List PanicEntry → Hp → Prop) : Prop :=
  If ((a.n : Int) != (b.n : Int)) (
    K false h) (
    L10_1 a b K Kp (0 : Int) h)

theorem Fn10.of {a : Sl} {b : Sl} {h : Hp} {K : Bool → Hp → Prop} {Kp : List PanicEntry → Hp → Prop} (H : S10 a b h K Kp) : Fn10 a b h K Kp :=
  fn_of2 (P := Tryd.prog) (ann := ann10) (D := DrawSem Tryd.prog ord10) (drawOk _) (c := code10) (zs := [(.bool false)]) (args := [(Sl.v a), (Sl.v b)]) (Kv := kv10 K) (Kp := Kp) (h := h) Tryd.func10 (by kernel_rfl) H (by kernel_rfl) (by kernel_rfl)

/- ### 11: fixed -/

noncomputable def code11 : Code := Tryd.f11.body.getD .skip

def ann11 : Ann := []

def ord11 : List (Nat × OT × List Nat) := []

def kv11 (K : Bool → Hp → Prop) : Value → Hp → Prop := fun v h => match v with | .bool r0 => (K r0 h) | _ => False

def q11 (K : Bool → Hp → Prop) : Qt := retQ Tryd.prog Tryd.f11.results.toList [(.bool false)] (kv11 K)

def S11 (h : Hp) (K : Bool → Hp → Prop) (Kp : List PanicEntry → Hp → Prop) : Prop :=
  Fn8 (1 : Int) (⟨none, 0, 0⟩ : Sl) (⟨none, 0, 0⟩ : Sl) (0 : Int) false (0 : Int) (0 : Int) (⟨none, 0, 0⟩ : Sl) (⟨none, 0, 0⟩ : Sl) h (fun t5_0 t5_1 h1 =>
    If (t5_1 == (0 : Int)) (
      New h1 #[(.int .u8 (1 : Int)), (.int .u8 (1 : Int)), (.int .u8 (0 : Int)), (.int .u8 (0 : Int)), (.int .u8 (0 : Int)), (.int .u8 (0 : Int)), (.int .u8 (0 : Int)), (.int .u8 (0 : Int))] 5 fun a12 h2 =>
      Fn10 t5_0 (⟨some a12, 8, 8⟩ : Sl) h2 (fun t13 h3 =>
        K t13 h3) Kp) (
      K false h1)) Kp

theorem Fn11.of {h : Hp} {K : Bool → Hp → Prop} {Kp : List PanicEntry → Hp → Prop} (H : S11  h K Kp) : Fn11  h K Kp :=
  fn_of2 (P := Tryd.prog) (ann := ann11) (D := DrawSem Tryd.prog ord11) (drawOk _) (c := code11) (zs := [(.bool false)]) (args := []) (Kv := kv11 K) (Kp := Kp) (h := h) Tryd.func11 (by kernel_rfl) H (by kernel_rfl) (by kernel_rfl)

end Go.Proofs.YtfomkkdijjfpiaaDoor
