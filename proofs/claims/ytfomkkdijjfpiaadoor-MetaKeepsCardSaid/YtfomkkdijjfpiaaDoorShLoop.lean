/- Words for the printed texts of functions: places in code, contexts, the rule of a loop. -/
import Derived.Test.YtfomkkdijjfpiaaDoorShDraw
set_option linter.unusedVariables false
set_option linter.unusedSimpArgs false
namespace Go.Sh
variable {P : Program}
def sub : List Nat → Code → Code
  | [], c => c
  | 0 :: p, .seq x _ => sub p x
  | _ :: p, .seq _ y => sub p y
  | 0 :: p, .cond _ x _ => sub p x
  | _ :: p, .cond _ _ y => sub p y
  | _ :: p, .block _ x => sub p x
  | _ :: p, .loop x => sub p x
  | 0 :: p, .rangeFunc _ _ x _ => sub p x
  | _ :: p, .rangeFunc _ _ _ y => sub p y
  | _, c => c
def ctxQ (P : Program) (ann : Ann) (D : Nat → Array Oper → (Fr → Hp → Prop) → (List PanicEntry → Hp → Prop) → Fr → Hp → Prop) (rd : Option Nat) (Kp : List PanicEntry → Hp → Prop) :
    List Nat → Code → List (Fr → Hp → Prop) → Qt → Qt
  | 0 :: p, .seq x y, Ns, Q => ctxQ P ann D rd Kp p x Ns (thenQ (fun fr' h' => ann.at (joinId y) fr' fun fr'' => sem P ann D rd y Q Kp fr'' h') Q)
  | _ :: p, .seq _ y, Ns, Q => ctxQ P ann D rd Kp p y Ns Q
  | 0 :: p, .cond _ x _, Ns, Q => ctxQ P ann D rd Kp p x Ns Q
  | _ :: p, .cond _ _ y, Ns, Q => ctxQ P ann D rd Kp p y Ns Q
  | _ :: p, .block id x, Ns, Q => ctxQ P ann D rd Kp p x Ns (blockQ id Q)
  | _ :: p, .loop x, N :: Ns, Q => ctxQ P ann D rd Kp p x Ns (thenQ (fun fr' h' => N (ann.find (firstId x + 2000) fr') h') Q)
  | _, _, _, Q => Q
theorem loop_rule {σ : Type} {B : (Fr → Hp → Prop) → Fr → Hp → Prop} (mk : σ → Fr) (T : (Fr → Hp → Prop) → σ → Hp → Prop) (hT : ∀ N s h, T N s h = B N (mk s) h) (I : σ → Hp → Prop) (μ : σ → Hp → Nat) {s0 : σ} {h : Hp}
    (h0 : I s0 h) (step : ∀ s h, I s h → ∀ N : Fr → Hp → Prop, (∀ s' h', I s' h' → μ s' h' < μ s h → N (mk s') h') → T N s h) : LoopH B (mk s0) h := by
  have key : ∀ n s h, I s h → μ s h < n → iterN B n (mk s) h := by
    intro n
    induction n with
    | zero => intro s h _ hlt; omega
    | succ n ih =>
      intro s h hI hlt
      show B (iterN B n) (mk s) h
      rw [← hT]
      exact step s h hI _ fun s' h' hI' hlt' => ih s' h' hI' (by omega)
  exact ⟨_, key _ s0 h h0 (Nat.lt_succ_self _)⟩
def bs (l : List UInt8) : ByteArray := ⟨l.toArray⟩
def Lt {α : Type} (x : α) (K : α → Prop) : Prop := K x
def Keep (h h' : Hp) (a : Addr) (n : Nat) (X : Prop) : Prop := KeepAt h h' a n ∧ X
end Go.Sh
