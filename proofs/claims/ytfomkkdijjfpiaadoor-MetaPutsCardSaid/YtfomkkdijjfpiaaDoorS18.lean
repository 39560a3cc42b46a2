/- What the functions do, printed by program (gen.py) in the words of ShCore; each text is held against the loaded program by the kernel. -/
import Derived.Test.YtfomkkdijjfpiaaDoorF
set_option linter.unusedSimpArgs false
set_option linter.unusedVariables false
set_option maxRecDepth 100000
namespace Go.Proofs.YtfomkkdijjfpiaaDoor
open Go Go.Sh
/-! ### 72: slices.IndexFunc[[]colonnade/api.Field,colonnade/api.Field] -/

noncomputable def code72 : Code := Tryd.f72.body.getD .skip

def ann72 : Ann := [(2002, [0, 1, 7, 8])]

def ord72 : List (Nat × OT × List Nat) := []

def kv72 (K : Int → Hp → Prop) : Value → Hp → Prop := fun v h => match v with | .int _ r0 => (K r0 h) | _ => False

def q72 (K : Int → Hp → Prop) : Qt := retQ Tryd.prog Tryd.f72.results.toList [(.int .i64 (0 : Int))] (kv72 K)

abbrev mk72_1 (x0 : Sl) (x1 : Value) (x7 : Int) (x8 : Int) : Fr := [some (Sl.v x0), some x1, none, none, none, none, none, some (.int .i64 x7), some (.int .i64 x8), none, none, none, none, none, none, none, none, none, none]

def T72_1 (x0 : Sl) (x1 : Value) (x7 : Int) (K : Int → Hp → Prop) (Kp : List PanicEntry → Hp → Prop) (N1 : Fr → Hp → Prop) (x8 : Int) (h : Hp) : Prop :=
  If (decide (x8 < x7)) (
    Ix x0.a x0.n 7 x8 fun a14 =>
    Ld h a14 (Value.string) fun t15_0 =>
    Ld h (a14.add 1) (Value.bool) fun t15_1 =>
    Ld h (a14.add 2) (Value.int .i64) fun t15_2 =>
    Ld h (a14.add 3) (Value.int .i64) fun t15_3 =>
    Ld h (a14.add 4) (Value.int .i64) fun t15_4 =>
    Ld h (a14.add 5) (Value.int .i64) fun t15_5 =>
    Ld h (a14.add 6) (Sl.v) fun t15_6 =>
    CallV Tryd.prog x1 [(.agg #[(.string t15_0), (.bool t15_1), (.int .i64 t15_2), (.int .i64 t15_3), (.int .i64 t15_4), (.int .i64 t15_5), (Sl.v t15_6)])] h (fun r h1 => ∃ t16 : Bool, r = (.bool t16) ∧
      If t16 (
        K x8 h1) (
        Wr .i64 (x8 + (1 : Int)) fun t18 =>
        N1 (mk72_1 x0 x1 x7 t18) h1)) Kp) (
    K (-1 : Int) h)

def L72_1 (x0 : Sl) (x1 : Value) (x7 : Int) (K : Int → Hp → Prop) (Kp : List PanicEntry → Hp → Prop) (x8 : Int) (h : Hp) : Prop :=
  LoopH (fun N fr h => sem Tryd.prog ann72 (DrawSem Tryd.prog ord72) none (sub [1, 0, 1, 0, 0] code72) (thenQ (fun fr' h' => N (Ann.find ann72 2002 fr') h') (ctxQ Tryd.prog ann72 (DrawSem Tryd.prog ord72) none Kp [1, 0, 1, 0] code72 [] (q72 K))) Kp fr h) (mk72_1 x0 x1 x7 x8) h

theorem L72_1.rule {x0 : Sl} {x1 : Value} {x7 : Int} {K : Int → Hp → Prop} {Kp : List PanicEntry → Hp → Prop} (I : Int → Hp → Prop) (μ : Int → Hp → Nat) {x8 : Int} {h : Hp} (h0 : I x8 h)
    (step : ∀ (x8 : Int) (h : Hp), I x8 h → ∀ N1 : Fr → Hp → Prop, (∀ (x8' : Int) (h' : Hp), I x8' h' → μ x8' h' < μ x8 h → N1 (mk72_1 x0 x1 x7 x8') h') → T72_1 x0 x1 x7 K Kp N1 x8 h) : L72_1 x0 x1 x7 K Kp x8 h :=
  loop_rule (σ := Int) (fun s => mk72_1 x0 x1 x7 s) (fun N s h => T72_1 x0 x1 x7 K Kp N s h) (fun N s h => by kernel_rfl) (fun s h => I s h) (fun s h => μ s h) (s0 := x8) h0 (fun s h hI N hN => step s h hI N (fun x8' h' hI' hl => hN x8' h' hI' hl))

def S72 (s : Sl) (f : Value) (h : Hp) (K : Int → Hp → Prop) (Kp : List PanicEntry → Hp → Prop) : Prop :=
  L72_1 s f (s.n : Int) K Kp (0 : Int) h

theorem Fn72.of {s : Sl} {f : Value} {h : Hp} {K : Int → Hp → Prop} {Kp : List PanicEntry → Hp → Prop} (H : S72 s f h K Kp) : Fn72 s f h K Kp :=
  fn_of2 (P := Tryd.prog) (ann := ann72) (D := DrawSem Tryd.prog ord72) (drawOk _) (c := code72) (zs := [(.int .i64 (0 : Int))]) (args := [(Sl.v s), f]) (Kv := kv72 K) (Kp := Kp) (h := h) Tryd.func72 (by kernel_rfl) H (by kernel_rfl) (by kernel_rfl)

/-! ### 73: colonnade/kind.known -/

noncomputable def code73 : Code := Tryd.f73.body.getD .skip

def ann73 : Ann := []

def ord73 : List (Nat × OT × List Nat) := []

def kv73 (K : Bool → Hp → Prop) : Value → Hp → Prop := fun v h => match v with | .bool r0 => (K r0 h) | _ => False

def q73 (K : Bool → Hp → Prop) : Qt := retQ Tryd.prog Tryd.f73.results.toList [(.bool false)] (kv73 K)

def S73 (kind : Int) (h : Hp) (K : Bool → Hp → Prop) (Kp : List PanicEntry → Hp → Prop) : Prop :=
  If (decide (kind ≥ (1 : Int))) (
    K (decide (kind ≤ (20 : Int))) h) (
    K false h)

theorem Fn73.of {kind : Int} {h : Hp} {K : Bool → Hp → Prop} {Kp : List PanicEntry → Hp → Prop} (H : S73 kind h K Kp) : Fn73 kind h K Kp :=
  fn_of2 (P := Tryd.prog) (ann := ann73) (D := DrawSem Tryd.prog ord73) (drawOk _) (c := code73) (zs := [(.bool false)]) (args := [(.int .i64 kind)]) (Kv := kv73 K) (Kp := Kp) (h := h) Tryd.func73 (by kernel_rfl) H (by kernel_rfl) (by kernel_rfl)

end Go.Proofs.YtfomkkdijjfpiaaDoor
