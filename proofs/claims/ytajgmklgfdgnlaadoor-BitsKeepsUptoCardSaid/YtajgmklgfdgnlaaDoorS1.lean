/- What the functions do, printed by program (gen.py) in the words of ShCore; each text is held against the loaded program by the kernel. -/
import Derived.Test.YtajgmklgfdgnlaaDoorF
set_option linter.unusedVariables false
set_option maxRecDepth 100000
namespace Go.Proofs.YtajgmklgfdgnlaaDoor
open Go Go.Sh
/-! ### 3: colonnade/colonnadelaw02.BitsRuns -/

noncomputable def code3 : Code := Tryd.f3.body.getD .skip

def ann3 : Ann := [(2, [2, 3, 4, 5, 6]), (9, [2, 6, 7, 9]), (19, [2, 6, 7, 9, 11]), (21, [2, 7, 9, 11]), (38, [2, 7, 11]), (4023, [2, 7, 9, 11, 92]), (27, [2, 7, 9, 11]), (35, [2, 7, 11, 16]), (4029, [2, 7, 11, 16, 117]), (33, [2, 7, 11, 16]), (4013, [2, 6, 7, 9, 11, 53]), (2006, [2, 6, 7, 8, 9, 10])]

def ord3 : List (Nat × List Nat × List Nat) := [(1, [0, 1, 2, 3, 4, 5, 6, 7, 8, 9, 10, 11, 12], [0, 1, 0, 4, 0, 16, 0, 64, 0, 259, 783, 1855, 4095])]

def kv3 (K : Bool → Hp → Prop) : Value → Hp → Prop := fun v h => match v with | .bool r0 => (K r0 h) | _ => False

def q3 (K : Bool → Hp → Prop) : Qt := retQ Tryd.prog Tryd.f3.results.toList [(.bool false)] (kv3 K)

def JT3_5 (x2 : Addr) (x7 : Addr) (x11 : Addr) (K : Bool → Hp → Prop) (Kp : List PanicEntry → Hp → Prop) (h : Hp) : Prop :=
  Ld h x11 (Value.int .i64) fun t160 =>
  Ld h x7 (Sl.v) fun t161 =>
  If (t160 == (t161.n : Int)) (
    Fn9  h (fun t165 h1 =>
      St h1 x2 (.bool t165) fun h2 =>
      Ld h2 x2 (Value.bool) fun r0 =>
      K r0 h2) Kp) (
    St h x2 (.bool false) fun h1 =>
    Ld h1 x2 (Value.bool) fun r0 =>
    K r0 h1)

def J3_5 (x2 : Addr) (x7 : Addr) (x11 : Addr) (K : Bool → Hp → Prop) (Kp : List PanicEntry → Hp → Prop) (h : Hp) : Prop :=
  sem Tryd.prog ann3 (DrawSem Tryd.prog ord3) none (sub [1, 1, 1, 1, 1, 1, 1, 1, 1, 1, 1, 1] code3) (ctxQ Tryd.prog ann3 (DrawSem Tryd.prog ord3) none Kp [1, 1, 1, 1, 1, 1, 1, 1, 1, 1, 1, 1] code3 [] (q3 K)) Kp ([none, none, some (.pointer (some x2)), none, none, none, none, some (.pointer (some x7)), none, none, none, some (.pointer (some x11)), none, none, none, none, none, none, none, none, none, none, none, none, none, none, none, none, none, none, none, none, none, none, none, none, none, none, none, none, none, none, none, none, none, none, none, none, none, none, none, none, none, none, none, none, none, none, none, none, none, none, none, none, none, none, none, none, none, none, none, none, none, none, none, none, none, none, none, none, none, none, none, none, none, none, none, none, none, none, none, none, none, none, none, none, none, none, none, none, none, none, none, none, none, none, none, none, none, none, none, none, none, none, none, none, none, none, none, none, none, none, none, none, none, none, none, none, none, none, none, none, none, none, none, none, none, none, none, none, none, none, none, none, none, none, none, none, none, none, none, none, none, none, none, none, none, none, none, none, none, none, none, none, none, none, none]) h

theorem J3_5.of {x2 : Addr} {x7 : Addr} {x11 : Addr} {K : Bool → Hp → Prop} {Kp : List PanicEntry → Hp → Prop} {h : Hp} (H : JT3_5 x2 x7 x11 K Kp h) : J3_5 x2 x7 x11 K Kp h :=
  Eq.mp (by kernel_rfl) H

def JT3_8 (x2 : Addr) (x7 : Addr) (x11 : Addr) (x16 : Addr) (lb : Nat) (NB : Hp → Prop) (XB : Code → Hp → Prop) (h : Hp) : Prop :=
  Ld h x11 (Value.int .i64) fun t150 =>
  If (t150 == (0 : Int)) (
    Ld h x16 (Value.int .i64) fun t153 =>
    Ld h x7 (Sl.v) fun t154 =>
    If (t153 != (t154.n : Int)) (
      St h x2 (.bool false) fun h1 =>
      XB .ret h1) (
      Ld h x11 (Value.int .i64) fun t158 =>
      Wr .i64 (t158 + (1 : Int)) fun t159 =>
      St h x11 (.int .i64 t159) fun h1 =>
      NB h1)) (
    Ld h x11 (Value.int .i64) fun t158 =>
    Wr .i64 (t158 + (1 : Int)) fun t159 =>
    St h x11 (.int .i64 t159) fun h1 =>
    NB h1)

def J3_8 (x2 : Addr) (x7 : Addr) (x11 : Addr) (x16 : Addr) (lb : Nat) (NB : Hp → Prop) (XB : Code → Hp → Prop) (h : Hp) : Prop :=
  sem Tryd.prog ann3 (DrawSem Tryd.prog ord3) (some lb) (sub [0, 1, 1, 1] (sub [1, 1, 1, 1, 1, 1, 1, 1, 1, 1, 1, 0, 1, 0, 1] code3)) (ctxQ Tryd.prog ann3 (DrawSem Tryd.prog ord3) (some lb) NoP [0, 1, 1, 1] (sub [1, 1, 1, 1, 1, 1, 1, 1, 1, 1, 1, 0, 1, 0, 1] code3) [] (roundQ NB XB)) NoP ([none, none, some (.pointer (some x2)), none, none, none, none, some (.pointer (some x7)), none, none, none, some (.pointer (some x11)), none, none, none, none, some (.pointer (some x16)), none, none, none, none, none, none, none, none, none, none, none, none, none, none, none, none, none, none, none, none, none, none, none, none, none, none, none, none, none, none, none, none, none, none, none, none, none, none, none, none, none, none, none, none, none, none, none, none, none, none, none, none, none, none, none, none, none, none, none, none, none, none, none, none, none, none, none, none, none, none, none, none, none, none, none, none, none, none, none, none, none, none, none, none, none, none, none, none, none, none, none, none, none, none, none, none, none, none, none, none, none, none, none, none, none, none, none, none, none, none, none, none, none, none, none, none, none, none, none, none, none, none, none, none, none, none, none, none, none, none, none, none, none, none, none, none, none, none, none, none, none, none, none, none, none, none, none, none, none, none]) h

theorem J3_8.of {x2 : Addr} {x7 : Addr} {x11 : Addr} {x16 : Addr} {lb : Nat} {NB : Hp → Prop} {XB : Code → Hp → Prop} {h : Hp} (H : JT3_8 x2 x7 x11 x16 lb NB XB h) : J3_8 x2 x7 x11 x16 lb NB XB h :=
  Eq.mp (by kernel_rfl) H

def JT3_10 (x2 : Addr) (x7 : Addr) (x11 : Addr) (x16 : Addr) (lb : Nat) (NB : Hp → Prop) (XB : Code → Hp → Prop) (h : Hp) : Prop :=
  Ld h x16 (Value.int .i64) fun t142 =>
  Wr .i64 (t142 + (1 : Int)) fun t143 =>
  St h x16 (.int .i64 t143) fun h1 =>
  Ld h1 x16 (Value.int .i64) fun t144 =>
  If (decide (t144 > (3 : Int))) (
    Ld h1 x11 (Value.int .i64) fun t147 =>
    If (decide (t147 > (0 : Int))) (
      XB (.exit 6) h1) (
      NB h1)) (
    NB h1)

def J3_10 (x2 : Addr) (x7 : Addr) (x11 : Addr) (x16 : Addr) (lb : Nat) (NB : Hp → Prop) (XB : Code → Hp → Prop) (h : Hp) : Prop :=
  sem Tryd.prog ann3 (DrawSem Tryd.prog ord3) (some lb) (sub [0, 1] (sub [0, 1, 1, 0, 1, 0, 1] (sub [1, 1, 1, 1, 1, 1, 1, 1, 1, 1, 1, 0, 1, 0, 1] code3))) (ctxQ Tryd.prog ann3 (DrawSem Tryd.prog ord3) (some lb) NoP [0, 1] (sub [0, 1, 1, 0, 1, 0, 1] (sub [1, 1, 1, 1, 1, 1, 1, 1, 1, 1, 1, 0, 1, 0, 1] code3)) [] (roundQ NB XB)) NoP ([none, none, some (.pointer (some x2)), none, none, none, none, some (.pointer (some x7)), none, none, none, some (.pointer (some x11)), none, none, none, none, some (.pointer (some x16)), none, none, none, none, none, none, none, none, none, none, none, none, none, none, none, none, none, none, none, none, none, none, none, none, none, none, none, none, none, none, none, none, none, none, none, none, none, none, none, none, none, none, none, none, none, none, none, none, none, none, none, none, none, none, none, none, none, none, none, none, none, none, none, none, none, none, none, none, none, none, none, none, none, none, none, none, none, none, none, none, none, none, none, none, none, none, none, none, none, none, none, none, none, none, none, none, none, none, none, none, none, none, none, none, none, none, none, none, none, none, none, none, none, none, none, none, none, none, none, none, none, none, none, none, none, none, none, none, none, none, none, none, none, none, none, none, none, none, none, none, none, none, none, none, none, none, none, none, none, none]) h

theorem J3_10.of {x2 : Addr} {x7 : Addr} {x11 : Addr} {x16 : Addr} {lb : Nat} {NB : Hp → Prop} {XB : Code → Hp → Prop} {h : Hp} (H : JT3_10 x2 x7 x11 x16 lb NB XB h) : J3_10 x2 x7 x11 x16 lb NB XB h :=
  Eq.mp (by kernel_rfl) H

def RT3_9 (x2 : Addr) (x7 : Addr) (x11 : Addr) (x16 : Addr) (x117 : Value) (lb : Nat) (NB : Hp → Prop) (XB : Code → Hp → Prop) (y118 : Int) (y119 : Int) (h : Hp) : Prop :=
  Busy lb h h fun h1 =>
  Ld h1 x16 (Value.int .i64) fun t120 =>
  Ld h1 x7 (Sl.v) fun t121 =>
  If (decide (t120 ≥ (t121.n : Int))) (
    St h1 x2 (.bool false) fun h2 =>
    XB .ret h2) (
    Ld h1 x7 (Sl.v) fun t125 =>
    Ld h1 x16 (Value.int .i64) fun t126 =>
    Ix t125.a t125.n 2 t126 fun a127 =>
    Ld h1 a127 (Value.int .i64) fun t129 =>
    If (t129 != y118) (
      St h1 x2 (.bool false) fun h2 =>
      XB .ret h2) (
      Ld h1 x7 (Sl.v) fun t134 =>
      Ld h1 x16 (Value.int .i64) fun t135 =>
      Ix t134.a t134.n 2 t135 fun a136 =>
      Ld h1 (a136.add 1) (Value.int .i64) fun t138 =>
      If (t138 != y119) (
        St h1 x2 (.bool false) fun h2 =>
        XB .ret h2) (
        J3_10 x2 x7 x11 x16 lb NB XB h1)))

def R3_9 (x2 : Addr) (x7 : Addr) (x11 : Addr) (x16 : Addr) (x117 : Value) (lb : Nat) (NB : Hp → Prop) (XB : Code → Hp → Prop) (h : Hp) : Prop :=
  sem Tryd.prog ann3 (DrawSem Tryd.prog ord3) (some lb) (sub [0, 1, 1, 0, 1, 0] (sub [1, 1, 1, 1, 1, 1, 1, 1, 1, 1, 1, 0, 1, 0, 1] code3)) (ctxQ Tryd.prog ann3 (DrawSem Tryd.prog ord3) (some lb) NoP [0, 1, 1, 0, 1, 0] (sub [1, 1, 1, 1, 1, 1, 1, 1, 1, 1, 1, 0, 1, 0, 1] code3) [] (roundQ NB XB)) NoP ([none, none, some (.pointer (some x2)), none, none, none, none, some (.pointer (some x7)), none, none, none, some (.pointer (some x11)), none, none, none, none, some (.pointer (some x16)), none, none, none, none, none, none, none, none, none, none, none, none, none, none, none, none, none, none, none, none, none, none, none, none, none, none, none, none, none, none, none, none, none, none, none, none, none, none, none, none, none, none, none, none, none, none, none, none, none, none, none, none, none, none, none, none, none, none, none, none, none, none, none, none, none, none, none, none, none, none, none, none, none, none, none, none, none, none, none, none, none, none, none, none, none, none, none, none, none, none, none, none, none, none, none, none, none, none, none, none, some x117, none, none, none, none, none, none, none, none, none, none, none, none, none, none, none, none, none, none, none, none, none, none, none, none, none, none, none, none, none, none, none, none, none, none, none, none, none, none, none, none, none, none, none, none, none, none, none, none, none]) h

def RD3_9 (x2 : Addr) (x7 : Addr) (x11 : Addr) (x16 : Addr) (x117 : Value) (lb : Nat) (NB : Hp → Prop) (XB : Code → Hp → Prop) (h : Hp) : Prop :=
  J3_8 x2 x7 x11 x16 lb NB XB h

def RX3_9_6 (x2 : Addr) (x7 : Addr) (x11 : Addr) (x16 : Addr) (x117 : Value) (lb : Nat) (NB : Hp → Prop) (XB : Code → Hp → Prop) (h : Hp) : Prop :=
  J3_8 x2 x7 x11 x16 lb NB XB h

def RX3_9_ret (x2 : Addr) (x7 : Addr) (x11 : Addr) (x16 : Addr) (x117 : Value) (lb : Nat) (NB : Hp → Prop) (XB : Code → Hp → Prop) (h : Hp) : Prop :=
  XB .ret h

theorem R3_9.rule {x2 : Addr} {x7 : Addr} {x11 : Addr} {x16 : Addr} {x117 : Value} {lb : Nat} {NB : Hp → Prop} {XB : Code → Hp → Prop} {h : Hp} {α : Type} {xs : List α} (e0 : α → Int) (e1 : α → Int) {Pre : Hp → Prop} (hit : Iter Tryd.prog x117 xs (fun y => [(.int .i64 (e0 y)), (.int .i64 (e1 y))]) Pre) (hrd : ∃ r0, h[lb]? = some (.loop r0)) (I : List α → Hp → Prop) (I_6 : List α → Hp → Prop) (I_ret : List α → Hp → Prop) (h0 : I [] h)
    (hG : ∀ pre h1 h2, Grw h1 h2 → I pre h1 → I pre h2) (hI : ∀ l pre h1 h2, h.size ≤ l → Tw l h1 h2 → I pre h1 → I pre h2) (hPre : ∀ pre h1, I pre h1 → Pre h1) (hG_6 : ∀ pre h1 h2, Grw h1 h2 → I_6 pre h1 → I_6 pre h2) (hI_6 : ∀ l pre h1 h2, h.size ≤ l → Tw l h1 h2 → I_6 pre h1 → I_6 pre h2) (hG_ret : ∀ pre h1 h2, Grw h1 h2 → I_ret pre h1 → I_ret pre h2) (hI_ret : ∀ l pre h1 h2, h.size ≤ l → Tw l h1 h2 → I_ret pre h1 → I_ret pre h2) 
    (hbody : ∀ l pre y suf h1, xs = pre ++ y :: suf → h.size ≤ l → (∃ r, h1[l]? = some (.loop r)) → I pre h1 → ∀ (N : Hp → Prop) (X : Code → Hp → Prop), (∀ h' h2, Tw l h1 h' → h2[l]? = h'[l]? → I (pre ++ [y]) h2 → N h2) → (∀ h' h2, Tw l h1 h' → h2[l]? = h'[l]? → I_6 (pre ++ [y]) h2 → X (.exit 6) h2) → (∀ h' h2, Tw l h1 h' → h2[l]? = h'[l]? → I_ret (pre ++ [y]) h2 → X .ret h2) → RT3_9 x2 x7 x11 x16 x117 l N X (e0 y) (e1 y) h1)
    (done : ∀ h2, I xs h2 → RD3_9 x2 x7 x11 x16 x117 lb NB XB h2) (stop_6 : ∀ pre suf h2, xs = pre ++ suf → I_6 pre h2 → RX3_9_6 x2 x7 x11 x16 x117 lb NB XB h2) (stop_ret : ∀ pre suf h2, xs = pre ++ suf → I_ret pre h2 → RX3_9_ret x2 x7 x11 x16 x117 lb NB XB h2) : R3_9 x2 x7 x11 x16 x117 lb NB XB h :=
  Eq.mp (by kernel_rfl) (range_rule (P := Tryd.prog) (ann := ann3) (D := (DrawSem Tryd.prog ord3)) (fun _ => drawOk _) (rd := (some lb)) (g := .tmp 117) (ps := #[118, 119]) (assign := sub [0, 1, 1, 0, 1, 0, 0] (sub [1, 1, 1, 1, 1, 1, 1, 1, 1, 1, 1, 0, 1, 0, 1] code3)) (body := sub [0, 1, 1, 0, 1, 0, 1] (sub [1, 1, 1, 1, 1, 1, 1, 1, 1, 1, 1, 0, 1, 0, 1] code3)) (Q := ctxQ Tryd.prog ann3 (DrawSem Tryd.prog ord3) (some lb) NoP [0, 1, 1, 0, 1, 0] (sub [1, 1, 1, 1, 1, 1, 1, 1, 1, 1, 1, 0, 1, 0, 1] code3) [] (roundQ NB XB)) (Kp := NoP) (fr := [none, none, some (.pointer (some x2)), none, none, none, none, some (.pointer (some x7)), none, none, none, some (.pointer (some x11)), none, none, none, none, some (.pointer (some x16)), none, none, none, none, none, none, none, none, none, none, none, none, none, none, none, none, none, none, none, none, none, none, none, none, none, none, none, none, none, none, none, none, none, none, none, none, none, none, none, none, none, none, none, none, none, none, none, none, none, none, none, none, none, none, none, none, none, none, none, none, none, none, none, none, none, none, none, none, none, none, none, none, none, none, none, none, none, none, none, none, none, none, none, none, none, none, none, none, none, none, none, none, none, none, none, none, none, none, none, none, some x117, none, none, none, none, none, none, none, none, none, none, none, none, none, none, none, none, none, none, none, none, none, none, none, none, none, none, none, none, none, none, none, none, none, none, none, none, none, none, none, none, none, none, none, none, none, none, none, none, none]) (h := h) (fv := x117) (by kernel_rfl)
    hit (fun _ => rfl) hrd I (fun c => match c with | .ret => I_ret | .exit id => (if id = 6 then I_6 else fun _ _ => False) | _ => fun _ _ => False) h0 hG (by intro c pre h1 h2 hg hi; revert hi; cases c with
      | ret => exact hG_ret pre h1 h2 hg
      | exit id => dsimp only; by_cases hid0 : id = 6; (· subst hid0; rw [if_pos rfl]; exact hG_6 pre h1 h2 hg); (rw [if_neg hid0]; exact fun hi => hi.elim)
      | _ => exact fun hi => hi.elim) hI (by intro l c pre h1 h2 hl ht hi; revert hi; cases c with
      | ret => exact hI_ret l pre h1 h2 hl ht
      | exit id => dsimp only; by_cases hid0 : id = 6; (· subst hid0; rw [if_pos rfl]; exact hI_6 l pre h1 h2 hl ht); (rw [if_neg hid0]; exact fun hi => hi.elim)
      | _ => exact fun hi => hi.elim) hPre
    (by
      intro l pre y suf h1 e1 e2 e3 e4 N X hN hX
      exact Eq.mp (by kernel_rfl) (hbody l pre y suf h1 e1 e2 e3 e4 N X hN (hX (.exit 6)) (hX .ret)))
    (fun h2 hi => Eq.mp (by kernel_rfl) (done h2 hi)) (by
      intro c pre suf h2 e1 hi
      cases c with
      | ret => exact Eq.mp (by kernel_rfl) (stop_ret pre suf h2 e1 hi)
      | exit id => dsimp only at hi; by_cases hid0 : id = 6; (· subst hid0; rw [if_pos rfl] at hi; exact Eq.mp (by kernel_rfl) (stop_6 pre suf h2 e1 hi)); (rw [if_neg hid0] at hi; exact hi.elim)
      | _ => exact hi.elim))

def JT3_7 (x2 : Addr) (x7 : Addr) (x9 : Addr) (x11 : Addr) (lb : Nat) (NB : Hp → Prop) (XB : Code → Hp → Prop) (h : Hp) : Prop :=
  New h #[(.int .i64 (0 : Int))] 3 fun a16 h1 =>
  St h1 a16 (.int .i64 (0 : Int)) fun h2 =>
  Ld h2 x9 (id) fun t117 =>
  R3_9 x2 x7 x11 a16 t117 lb NB XB h2

def J3_7 (x2 : Addr) (x7 : Addr) (x9 : Addr) (x11 : Addr) (lb : Nat) (NB : Hp → Prop) (XB : Code → Hp → Prop) (h : Hp) : Prop :=
  sem Tryd.prog ann3 (DrawSem Tryd.prog ord3) (some lb) (sub [0, 1] (sub [1, 1, 1, 1, 1, 1, 1, 1, 1, 1, 1, 0, 1, 0, 1] code3)) (ctxQ Tryd.prog ann3 (DrawSem Tryd.prog ord3) (some lb) NoP [0, 1] (sub [1, 1, 1, 1, 1, 1, 1, 1, 1, 1, 1, 0, 1, 0, 1] code3) [] (roundQ NB XB)) NoP ([none, none, some (.pointer (some x2)), none, none, none, none, some (.pointer (some x7)), none, some (.pointer (some x9)), none, some (.pointer (some x11)), none, none, none, none, none, none, none, none, none, none, none, none, none, none, none, none, none, none, none, none, none, none, none, none, none, none, none, none, none, none, none, none, none, none, none, none, none, none, none, none, none, none, none, none, none, none, none, none, none, none, none, none, none, none, none, none, none, none, none, none, none, none, none, none, none, none, none, none, none, none, none, none, none, none, none, none, none, none, none, none, none, none, none, none, none, none, none, none, none, none, none, none, none, none, none, none, none, none, none, none, none, none, none, none, none, none, none, none, none, none, none, none, none, none, none, none, none, none, none, none, none, none, none, none, none, none, none, none, none, none, none, none, none, none, none, none, none, none, none, none, none, none, none, none, none, none, none, none, none, none, none, none, none, none, none]) h

theorem J3_7.of {x2 : Addr} {x7 : Addr} {x9 : Addr} {x11 : Addr} {lb : Nat} {NB : Hp → Prop} {XB : Code → Hp → Prop} {h : Hp} (H : JT3_7 x2 x7 x9 x11 lb NB XB h) : J3_7 x2 x7 x9 x11 lb NB XB h :=
  Eq.mp (by kernel_rfl) H

def RT3_6 (x2 : Addr) (x7 : Addr) (x9 : Addr) (x11 : Addr) (x92 : Value) (lb : Nat) (NB : Hp → Prop) (XB : Code → Hp → Prop) (y93 : Int) (y94 : Int) (h : Hp) : Prop :=
  Busy lb h h fun h1 =>
  Ld h1 x11 (Value.int .i64) fun t95 =>
  Ld h1 x7 (Sl.v) fun t96 =>
  If (decide (t95 ≥ (t96.n : Int))) (
    St h1 x2 (.bool false) fun h2 =>
    XB .ret h2) (
    Ld h1 x7 (Sl.v) fun t100 =>
    Ld h1 x11 (Value.int .i64) fun t101 =>
    Ix t100.a t100.n 2 t101 fun a102 =>
    Ld h1 a102 (Value.int .i64) fun t104 =>
    If (t104 != y93) (
      St h1 x2 (.bool false) fun h2 =>
      XB .ret h2) (
      Ld h1 x7 (Sl.v) fun t109 =>
      Ld h1 x11 (Value.int .i64) fun t110 =>
      Ix t109.a t109.n 2 t110 fun a111 =>
      Ld h1 (a111.add 1) (Value.int .i64) fun t113 =>
      If (t113 != y94) (
        St h1 x2 (.bool false) fun h2 =>
        XB .ret h2) (
        J3_7 x2 x7 x9 x11 lb NB XB h1)))

def R3_6 (x2 : Addr) (x7 : Addr) (x9 : Addr) (x11 : Addr) (x92 : Value) (K : Bool → Hp → Prop) (Kp : List PanicEntry → Hp → Prop) (h : Hp) : Prop :=
  sem Tryd.prog ann3 (DrawSem Tryd.prog ord3) none (sub [1, 1, 1, 1, 1, 1, 1, 1, 1, 1, 1, 0, 1, 0] code3) (ctxQ Tryd.prog ann3 (DrawSem Tryd.prog ord3) none Kp [1, 1, 1, 1, 1, 1, 1, 1, 1, 1, 1, 0, 1, 0] code3 [] (q3 K)) Kp ([none, none, some (.pointer (some x2)), none, none, none, none, some (.pointer (some x7)), none, some (.pointer (some x9)), none, some (.pointer (some x11)), none, none, none, none, none, none, none, none, none, none, none, none, none, none, none, none, none, none, none, none, none, none, none, none, none, none, none, none, none, none, none, none, none, none, none, none, none, none, none, none, none, none, none, none, none, none, none, none, none, none, none, none, none, none, none, none, none, none, none, none, none, none, none, none, none, none, none, none, none, none, none, none, none, none, none, none, none, none, none, none, some x92, none, none, none, none, none, none, none, none, none, none, none, none, none, none, none, none, none, none, none, none, none, none, none, none, none, none, none, none, none, none, none, none, none, none, none, none, none, none, none, none, none, none, none, none, none, none, none, none, none, none, none, none, none, none, none, none, none, none, none, none, none, none, none, none, none, none, none, none, none, none, none, none, none, none]) h

def RD3_6 (x2 : Addr) (x7 : Addr) (x9 : Addr) (x11 : Addr) (x92 : Value) (K : Bool → Hp → Prop) (Kp : List PanicEntry → Hp → Prop) (h : Hp) : Prop :=
  J3_5 x2 x7 x11 K Kp h

def RX3_6_ret (x2 : Addr) (x7 : Addr) (x9 : Addr) (x11 : Addr) (x92 : Value) (K : Bool → Hp → Prop) (Kp : List PanicEntry → Hp → Prop) (h : Hp) : Prop :=
  Ld h x2 (Value.bool) fun r0 =>
  K r0 h

theorem R3_6.rule {x2 : Addr} {x7 : Addr} {x9 : Addr} {x11 : Addr} {x92 : Value} {K : Bool → Hp → Prop} {Kp : List PanicEntry → Hp → Prop} {h : Hp} {α : Type} {xs : List α} (e0 : α → Int) (e1 : α → Int) {Pre : Hp → Prop} (hit : Iter Tryd.prog x92 xs (fun y => [(.int .i64 (e0 y)), (.int .i64 (e1 y))]) Pre) (I : List α → Hp → Prop) (I_ret : List α → Hp → Prop) (h0 : I [] h)
    (hG : ∀ pre h1 h2, Grw h1 h2 → I pre h1 → I pre h2) (hI : ∀ l pre h1 h2, h.size ≤ l → Tw l h1 h2 → I pre h1 → I pre h2) (hPre : ∀ pre h1, I pre h1 → Pre h1) (hG_ret : ∀ pre h1 h2, Grw h1 h2 → I_ret pre h1 → I_ret pre h2) (hI_ret : ∀ l pre h1 h2, h.size ≤ l → Tw l h1 h2 → I_ret pre h1 → I_ret pre h2) 
    (hbody : ∀ l pre y suf h1, xs = pre ++ y :: suf → h.size ≤ l → (∃ r, h1[l]? = some (.loop r)) → I pre h1 → ∀ (N : Hp → Prop) (X : Code → Hp → Prop), (∀ h' h2, Tw l h1 h' → h2[l]? = h'[l]? → I (pre ++ [y]) h2 → N h2) → (∀ h' h2, Tw l h1 h' → h2[l]? = h'[l]? → I_ret (pre ++ [y]) h2 → X .ret h2) → RT3_6 x2 x7 x9 x11 x92 l N X (e0 y) (e1 y) h1)
    (done : ∀ h2, I xs h2 → RD3_6 x2 x7 x9 x11 x92 K Kp h2) (stop_ret : ∀ pre suf h2, xs = pre ++ suf → I_ret pre h2 → RX3_6_ret x2 x7 x9 x11 x92 K Kp h2) : R3_6 x2 x7 x9 x11 x92 K Kp h :=
  Eq.mp (by kernel_rfl) (range_rule (P := Tryd.prog) (ann := ann3) (D := (DrawSem Tryd.prog ord3)) (fun _ => drawOk _) (rd := none) (g := .tmp 92) (ps := #[93, 94]) (assign := sub [1, 1, 1, 1, 1, 1, 1, 1, 1, 1, 1, 0, 1, 0, 0] code3) (body := sub [1, 1, 1, 1, 1, 1, 1, 1, 1, 1, 1, 0, 1, 0, 1] code3) (Q := ctxQ Tryd.prog ann3 (DrawSem Tryd.prog ord3) none Kp [1, 1, 1, 1, 1, 1, 1, 1, 1, 1, 1, 0, 1, 0] code3 [] (q3 K)) (Kp := Kp) (fr := [none, none, some (.pointer (some x2)), none, none, none, none, some (.pointer (some x7)), none, some (.pointer (some x9)), none, some (.pointer (some x11)), none, none, none, none, none, none, none, none, none, none, none, none, none, none, none, none, none, none, none, none, none, none, none, none, none, none, none, none, none, none, none, none, none, none, none, none, none, none, none, none, none, none, none, none, none, none, none, none, none, none, none, none, none, none, none, none, none, none, none, none, none, none, none, none, none, none, none, none, none, none, none, none, none, none, none, none, none, none, none, none, some x92, none, none, none, none, none, none, none, none, none, none, none, none, none, none, none, none, none, none, none, none, none, none, none, none, none, none, none, none, none, none, none, none, none, none, none, none, none, none, none, none, none, none, none, none, none, none, none, none, none, none, none, none, none, none, none, none, none, none, none, none, none, none, none, none, none, none, none, none, none, none, none, none, none, none]) (h := h) (fv := x92) (by kernel_rfl)
    hit (fun _ => rfl) trivial I (fun c => match c with | .ret => I_ret | _ => fun _ _ => False) h0 hG (by intro c pre h1 h2 hg hi; revert hi; cases c with
      | ret => exact hG_ret pre h1 h2 hg
      | _ => exact fun hi => hi.elim) hI (by intro l c pre h1 h2 hl ht hi; revert hi; cases c with
      | ret => exact hI_ret l pre h1 h2 hl ht
      | _ => exact fun hi => hi.elim) hPre
    (by
      intro l pre y suf h1 e1 e2 e3 e4 N X hN hX
      exact Eq.mp (by kernel_rfl) (hbody l pre y suf h1 e1 e2 e3 e4 N X hN (hX .ret)))
    (fun h2 hi => Eq.mp (by kernel_rfl) (done h2 hi)) (by
      intro c pre suf h2 e1 hi
      cases c with
      | ret => exact Eq.mp (by kernel_rfl) (stop_ret pre suf h2 e1 hi)
      | _ => exact hi.elim))

def JT3_4 (x2 : Addr) (x7 : Addr) (x9 : Addr) (x11 : Addr) (K : Bool → Hp → Prop) (Kp : List PanicEntry → Hp → Prop) (h : Hp) : Prop :=
  St h x11 (.int .i64 (0 : Int)) fun h1 =>
  Ld h1 x9 (id) fun t92 =>
  R3_6 x2 x7 x9 x11 t92 K Kp h1

def J3_4 (x2 : Addr) (x7 : Addr) (x9 : Addr) (x11 : Addr) (K : Bool → Hp → Prop) (Kp : List PanicEntry → Hp → Prop) (h : Hp) : Prop :=
  sem Tryd.prog ann3 (DrawSem Tryd.prog ord3) none (sub [1, 1, 1, 1, 1, 1, 1, 1, 1, 1] code3) (ctxQ Tryd.prog ann3 (DrawSem Tryd.prog ord3) none Kp [1, 1, 1, 1, 1, 1, 1, 1, 1, 1] code3 [] (q3 K)) Kp ([none, none, some (.pointer (some x2)), none, none, none, none, some (.pointer (some x7)), none, some (.pointer (some x9)), none, some (.pointer (some x11)), none, none, none, none, none, none, none, none, none, none, none, none, none, none, none, none, none, none, none, none, none, none, none, none, none, none, none, none, none, none, none, none, none, none, none, none, none, none, none, none, none, none, none, none, none, none, none, none, none, none, none, none, none, none, none, none, none, none, none, none, none, none, none, none, none, none, none, none, none, none, none, none, none, none, none, none, none, none, none, none, none, none, none, none, none, none, none, none, none, none, none, none, none, none, none, none, none, none, none, none, none, none, none, none, none, none, none, none, none, none, none, none, none, none, none, none, none, none, none, none, none, none, none, none, none, none, none, none, none, none, none, none, none, none, none, none, none, none, none, none, none, none, none, none, none, none, none, none, none, none, none, none, none, none, none]) h

theorem J3_4.of {x2 : Addr} {x7 : Addr} {x9 : Addr} {x11 : Addr} {K : Bool → Hp → Prop} {Kp : List PanicEntry → Hp → Prop} {h : Hp} (H : JT3_4 x2 x7 x9 x11 K Kp h) : J3_4 x2 x7 x9 x11 K Kp h :=
  Eq.mp (by kernel_rfl) H

def JT3_3 (x2 : Addr) (x6 : Addr) (x7 : Addr) (x9 : Addr) (x11 : Addr) (K : Bool → Hp → Prop) (Kp : List PanicEntry → Hp → Prop) (h : Hp) : Prop :=
  Ld h x11 (Value.int .i64) fun t83 =>
  Ld h x7 (Sl.v) fun t84 =>
  If (t83 != (t84.n : Int)) (
    Ld h x11 (Value.int .i64) fun t88 =>
    Ld h x6 (Value.int .i64) fun t89 =>
    If (t88 != t89) (
      St h x2 (.bool false) fun h1 =>
      Ld h1 x2 (Value.bool) fun r0 =>
      K r0 h1) (
      J3_4 x2 x7 x9 x11 K Kp h)) (
    J3_4 x2 x7 x9 x11 K Kp h)

def J3_3 (x2 : Addr) (x6 : Addr) (x7 : Addr) (x9 : Addr) (x11 : Addr) (K : Bool → Hp → Prop) (Kp : List PanicEntry → Hp → Prop) (h : Hp) : Prop :=
  sem Tryd.prog ann3 (DrawSem Tryd.prog ord3) none (sub [1, 1, 1, 1, 1, 1, 1, 1, 1] code3) (ctxQ Tryd.prog ann3 (DrawSem Tryd.prog ord3) none Kp [1, 1, 1, 1, 1, 1, 1, 1, 1] code3 [] (q3 K)) Kp ([none, none, some (.pointer (some x2)), none, none, none, some (.pointer (some x6)), some (.pointer (some x7)), none, some (.pointer (some x9)), none, some (.pointer (some x11)), none, none, none, none, none, none, none, none, none, none, none, none, none, none, none, none, none, none, none, none, none, none, none, none, none, none, none, none, none, none, none, none, none, none, none, none, none, none, none, none, none, none, none, none, none, none, none, none, none, none, none, none, none, none, none, none, none, none, none, none, none, none, none, none, none, none, none, none, none, none, none, none, none, none, none, none, none, none, none, none, none, none, none, none, none, none, none, none, none, none, none, none, none, none, none, none, none, none, none, none, none, none, none, none, none, none, none, none, none, none, none, none, none, none, none, none, none, none, none, none, none, none, none, none, none, none, none, none, none, none, none, none, none, none, none, none, none, none, none, none, none, none, none, none, none, none, none, none, none, none, none, none, none, none, none]) h

theorem J3_3.of {x2 : Addr} {x6 : Addr} {x7 : Addr} {x9 : Addr} {x11 : Addr} {K : Bool → Hp → Prop} {Kp : List PanicEntry → Hp → Prop} {h : Hp} (H : JT3_3 x2 x6 x7 x9 x11 K Kp h) : J3_3 x2 x6 x7 x9 x11 K Kp h :=
  Eq.mp (by kernel_rfl) H

def RT3_11 (x2 : Addr) (x6 : Addr) (x7 : Addr) (x9 : Addr) (x11 : Addr) (x53 : Value) (lb : Nat) (NB : Hp → Prop) (XB : Code → Hp → Prop) (y54 : Int) (y55 : Int) (h : Hp) : Prop :=
  Busy lb h h fun h1 =>
  Ld h1 x11 (Value.int .i64) fun t56 =>
  Ld h1 x7 (Sl.v) fun t57 =>
  If (decide (t56 ≥ (t57.n : Int))) (
    St h1 x2 (.bool false) fun h2 =>
    XB .ret h2) (
    Ld h1 x7 (Sl.v) fun t61 =>
    Ld h1 x11 (Value.int .i64) fun t62 =>
    Ix t61.a t61.n 2 t62 fun a63 =>
    Ld h1 a63 (Value.int .i64) fun t65 =>
    If (t65 != y54) (
      St h1 x2 (.bool false) fun h2 =>
      XB .ret h2) (
      Ld h1 x7 (Sl.v) fun t70 =>
      Ld h1 x11 (Value.int .i64) fun t71 =>
      Ix t70.a t70.n 2 t71 fun a72 =>
      Ld h1 (a72.add 1) (Value.int .i64) fun t74 =>
      If (t74 != y55) (
        St h1 x2 (.bool false) fun h2 =>
        XB .ret h2) (
        Ld h1 x11 (Value.int .i64) fun t78 =>
        Wr .i64 (t78 + (1 : Int)) fun t79 =>
        St h1 x11 (.int .i64 t79) fun h2 =>
        Ld h2 x11 (Value.int .i64) fun t80 =>
        Ld h2 x6 (Value.int .i64) fun t81 =>
        If (t80 == t81) (
          XB (.exit 2) h2) (
          NB h2))))

def R3_11 (x2 : Addr) (x6 : Addr) (x7 : Addr) (x9 : Addr) (x11 : Addr) (x53 : Value) (K : Bool → Hp → Prop) (Kp : List PanicEntry → Hp → Prop) (h : Hp) : Prop :=
  sem Tryd.prog ann3 (DrawSem Tryd.prog ord3) none (sub [1, 1, 1, 1, 1, 1, 1, 1, 0, 1, 0] code3) (ctxQ Tryd.prog ann3 (DrawSem Tryd.prog ord3) none Kp [1, 1, 1, 1, 1, 1, 1, 1, 0, 1, 0] code3 [] (q3 K)) Kp ([none, none, some (.pointer (some x2)), none, none, none, some (.pointer (some x6)), some (.pointer (some x7)), none, some (.pointer (some x9)), none, some (.pointer (some x11)), none, none, none, none, none, none, none, none, none, none, none, none, none, none, none, none, none, none, none, none, none, none, none, none, none, none, none, none, none, none, none, none, none, none, none, none, none, none, none, none, none, some x53, none, none, none, none, none, none, none, none, none, none, none, none, none, none, none, none, none, none, none, none, none, none, none, none, none, none, none, none, none, none, none, none, none, none, none, none, none, none, none, none, none, none, none, none, none, none, none, none, none, none, none, none, none, none, none, none, none, none, none, none, none, none, none, none, none, none, none, none, none, none, none, none, none, none, none, none, none, none, none, none, none, none, none, none, none, none, none, none, none, none, none, none, none, none, none, none, none, none, none, none, none, none, none, none, none, none, none, none, none, none, none, none, none]) h

def RD3_11 (x2 : Addr) (x6 : Addr) (x7 : Addr) (x9 : Addr) (x11 : Addr) (x53 : Value) (K : Bool → Hp → Prop) (Kp : List PanicEntry → Hp → Prop) (h : Hp) : Prop :=
  J3_3 x2 x6 x7 x9 x11 K Kp h

def RX3_11_2 (x2 : Addr) (x6 : Addr) (x7 : Addr) (x9 : Addr) (x11 : Addr) (x53 : Value) (K : Bool → Hp → Prop) (Kp : List PanicEntry → Hp → Prop) (h : Hp) : Prop :=
  J3_3 x2 x6 x7 x9 x11 K Kp h

def RX3_11_ret (x2 : Addr) (x6 : Addr) (x7 : Addr) (x9 : Addr) (x11 : Addr) (x53 : Value) (K : Bool → Hp → Prop) (Kp : List PanicEntry → Hp → Prop) (h : Hp) : Prop :=
  Ld h x2 (Value.bool) fun r0 =>
  K r0 h

theorem R3_11.rule {x2 : Addr} {x6 : Addr} {x7 : Addr} {x9 : Addr} {x11 : Addr} {x53 : Value} {K : Bool → Hp → Prop} {Kp : List PanicEntry → Hp → Prop} {h : Hp} {α : Type} {xs : List α} (e0 : α → Int) (e1 : α → Int) {Pre : Hp → Prop} (hit : Iter Tryd.prog x53 xs (fun y => [(.int .i64 (e0 y)), (.int .i64 (e1 y))]) Pre) (I : List α → Hp → Prop) (I_2 : List α → Hp → Prop) (I_ret : List α → Hp → Prop) (h0 : I [] h)
    (hG : ∀ pre h1 h2, Grw h1 h2 → I pre h1 → I pre h2) (hI : ∀ l pre h1 h2, h.size ≤ l → Tw l h1 h2 → I pre h1 → I pre h2) (hPre : ∀ pre h1, I pre h1 → Pre h1) (hG_2 : ∀ pre h1 h2, Grw h1 h2 → I_2 pre h1 → I_2 pre h2) (hI_2 : ∀ l pre h1 h2, h.size ≤ l → Tw l h1 h2 → I_2 pre h1 → I_2 pre h2) (hG_ret : ∀ pre h1 h2, Grw h1 h2 → I_ret pre h1 → I_ret pre h2) (hI_ret : ∀ l pre h1 h2, h.size ≤ l → Tw l h1 h2 → I_ret pre h1 → I_ret pre h2) 
    (hbody : ∀ l pre y suf h1, xs = pre ++ y :: suf → h.size ≤ l → (∃ r, h1[l]? = some (.loop r)) → I pre h1 → ∀ (N : Hp → Prop) (X : Code → Hp → Prop), (∀ h' h2, Tw l h1 h' → h2[l]? = h'[l]? → I (pre ++ [y]) h2 → N h2) → (∀ h' h2, Tw l h1 h' → h2[l]? = h'[l]? → I_2 (pre ++ [y]) h2 → X (.exit 2) h2) → (∀ h' h2, Tw l h1 h' → h2[l]? = h'[l]? → I_ret (pre ++ [y]) h2 → X .ret h2) → RT3_11 x2 x6 x7 x9 x11 x53 l N X (e0 y) (e1 y) h1)
    (done : ∀ h2, I xs h2 → RD3_11 x2 x6 x7 x9 x11 x53 K Kp h2) (stop_2 : ∀ pre suf h2, xs = pre ++ suf → I_2 pre h2 → RX3_11_2 x2 x6 x7 x9 x11 x53 K Kp h2) (stop_ret : ∀ pre suf h2, xs = pre ++ suf → I_ret pre h2 → RX3_11_ret x2 x6 x7 x9 x11 x53 K Kp h2) : R3_11 x2 x6 x7 x9 x11 x53 K Kp h :=
  Eq.mp (by kernel_rfl) (range_rule (P := Tryd.prog) (ann := ann3) (D := (DrawSem Tryd.prog ord3)) (fun _ => drawOk _) (rd := none) (g := .tmp 53) (ps := #[54, 55]) (assign := sub [1, 1, 1, 1, 1, 1, 1, 1, 0, 1, 0, 0] code3) (body := sub [1, 1, 1, 1, 1, 1, 1, 1, 0, 1, 0, 1] code3) (Q := ctxQ Tryd.prog ann3 (DrawSem Tryd.prog ord3) none Kp [1, 1, 1, 1, 1, 1, 1, 1, 0, 1, 0] code3 [] (q3 K)) (Kp := Kp) (fr := [none, none, some (.pointer (some x2)), none, none, none, some (.pointer (some x6)), some (.pointer (some x7)), none, some (.pointer (some x9)), none, some (.pointer (some x11)), none, none, none, none, none, none, none, none, none, none, none, none, none, none, none, none, none, none, none, none, none, none, none, none, none, none, none, none, none, none, none, none, none, none, none, none, none, none, none, none, none, some x53, none, none, none, none, none, none, none, none, none, none, none, none, none, none, none, none, none, none, none, none, none, none, none, none, none, none, none, none, none, none, none, none, none, none, none, none, none, none, none, none, none, none, none, none, none, none, none, none, none, none, none, none, none, none, none, none, none, none, none, none, none, none, none, none, none, none, none, none, none, none, none, none, none, none, none, none, none, none, none, none, none, none, none, none, none, none, none, none, none, none, none, none, none, none, none, none, none, none, none, none, none, none, none, none, none, none, none, none, none, none, none, none, none]) (h := h) (fv := x53) (by kernel_rfl)
    hit (fun _ => rfl) trivial I (fun c => match c with | .ret => I_ret | .exit id => (if id = 2 then I_2 else fun _ _ => False) | _ => fun _ _ => False) h0 hG (by intro c pre h1 h2 hg hi; revert hi; cases c with
      | ret => exact hG_ret pre h1 h2 hg
      | exit id => dsimp only; by_cases hid0 : id = 2; (· subst hid0; rw [if_pos rfl]; exact hG_2 pre h1 h2 hg); (rw [if_neg hid0]; exact fun hi => hi.elim)
      | _ => exact fun hi => hi.elim) hI (by intro l c pre h1 h2 hl ht hi; revert hi; cases c with
      | ret => exact hI_ret l pre h1 h2 hl ht
      | exit id => dsimp only; by_cases hid0 : id = 2; (· subst hid0; rw [if_pos rfl]; exact hI_2 l pre h1 h2 hl ht); (rw [if_neg hid0]; exact fun hi => hi.elim)
      | _ => exact fun hi => hi.elim) hPre
    (by
      intro l pre y suf h1 e1 e2 e3 e4 N X hN hX
      exact Eq.mp (by kernel_rfl) (hbody l pre y suf h1 e1 e2 e3 e4 N X hN (hX (.exit 2)) (hX .ret)))
    (fun h2 hi => Eq.mp (by kernel_rfl) (done h2 hi)) (by
      intro c pre suf h2 e1 hi
      cases c with
      | ret => exact Eq.mp (by kernel_rfl) (stop_ret pre suf h2 e1 hi)
      | exit id => dsimp only at hi; by_cases hid0 : id = 2; (· subst hid0; rw [if_pos rfl] at hi; exact Eq.mp (by kernel_rfl) (stop_2 pre suf h2 e1 hi)); (rw [if_neg hid0] at hi; exact hi.elim)
      | _ => exact hi.elim))

def JT3_2 (x2 : Addr) (x6 : Addr) (x7 : Addr) (x9 : Addr) (K : Bool → Hp → Prop) (Kp : List PanicEntry → Hp → Prop) (h : Hp) : Prop :=
  Ld h x9 (id) fun t51 =>
  FnNil t51 fun t52 =>
  If t52 (
    St h x2 (.bool false) fun h1 =>
    Ld h1 x2 (Value.bool) fun r0 =>
    K r0 h1) (
    New h #[(.int .i64 (0 : Int))] 3 fun a11 h1 =>
    St h1 a11 (.int .i64 (0 : Int)) fun h2 =>
    Ld h2 x9 (id) fun t53 =>
    R3_11 x2 x6 x7 x9 a11 t53 K Kp h2)

def J3_2 (x2 : Addr) (x6 : Addr) (x7 : Addr) (x9 : Addr) (K : Bool → Hp → Prop) (Kp : List PanicEntry → Hp → Prop) (h : Hp) : Prop :=
  sem Tryd.prog ann3 (DrawSem Tryd.prog ord3) none (sub [1, 1, 1, 1, 1, 1] code3) (ctxQ Tryd.prog ann3 (DrawSem Tryd.prog ord3) none Kp [1, 1, 1, 1, 1, 1] code3 [] (q3 K)) Kp ([none, none, some (.pointer (some x2)), none, none, none, some (.pointer (some x6)), some (.pointer (some x7)), none, some (.pointer (some x9)), none, none, none, none, none, none, none, none, none, none, none, none, none, none, none, none, none, none, none, none, none, none, none, none, none, none, none, none, none, none, none, none, none, none, none, none, none, none, none, none, none, none, none, none, none, none, none, none, none, none, none, none, none, none, none, none, none, none, none, none, none, none, none, none, none, none, none, none, none, none, none, none, none, none, none, none, none, none, none, none, none, none, none, none, none, none, none, none, none, none, none, none, none, none, none, none, none, none, none, none, none, none, none, none, none, none, none, none, none, none, none, none, none, none, none, none, none, none, none, none, none, none, none, none, none, none, none, none, none, none, none, none, none, none, none, none, none, none, none, none, none, none, none, none, none, none, none, none, none, none, none, none, none, none, none, none, none]) h

theorem J3_2.of {x2 : Addr} {x6 : Addr} {x7 : Addr} {x9 : Addr} {K : Bool → Hp → Prop} {Kp : List PanicEntry → Hp → Prop} {h : Hp} (H : JT3_2 x2 x6 x7 x9 K Kp h) : J3_2 x2 x6 x7 x9 K Kp h :=
  Eq.mp (by kernel_rfl) H

abbrev mk3_12 (x2 : Addr) (x6 : Addr) (x7 : Addr) (x8 : Sl) (x9 : Addr) (x10 : Int) : Fr := [none, none, some (.pointer (some x2)), none, none, none, some (.pointer (some x6)), some (.pointer (some x7)), some (Sl.v x8), some (.pointer (some x9)), some (.int .i64 x10), none, none, none, none, none, none, none, none, none, none, none, none, none, none, none, none, none, none, none, none, none, none, none, none, none, none, none, none, none, none, none, none, none, none, none, none, none, none, none, none, none, none, none, none, none, none, none, none, none, none, none, none, none, none, none, none, none, none, none, none, none, none, none, none, none, none, none, none, none, none, none, none, none, none, none, none, none, none, none, none, none, none, none, none, none, none, none, none, none, none, none, none, none, none, none, none, none, none, none, none, none, none, none, none, none, none, none, none, none, none, none, none, none, none, none, none, none, none, none, none, none, none, none, none, none, none, none, none, none, none, none, none, none, none, none, none, none, none, none, none, none, none, none, none, none, none, none, none, none, none, none, none, none, none, none, none]

def T3_12 (x2 : Addr) (x6 : Addr) (x7 : Addr) (x8 : Sl) (x9 : Addr) (K : Bool → Hp → Prop) (Kp : List PanicEntry → Hp → Prop) (N1 : Fr → Hp → Prop) (x10 : Int) (h : Hp) : Prop :=
  If (decide (x10 < (x8.n : Int))) (
    Ix x8.a x8.n 1 x10 fun a47 =>
    Ld h a47 (Value.int .u8) fun t48 =>
    Lt (bitsV .xor .u8 (if IntKind.signed .u8 then -1 else IntKind.max .u8) t48) fun t49 =>
    Ix x8.a x8.n 1 x10 fun a50 =>
    St h a50 (.int .u8 t49) fun h1 =>
    Wr .i64 (x10 + (1 : Int)) fun t42 =>
    N1 (mk3_12 x2 x6 x7 x8 x9 t42) h1) (
    J3_2 x2 x6 x7 x9 K Kp h)

def L3_12 (x2 : Addr) (x6 : Addr) (x7 : Addr) (x8 : Sl) (x9 : Addr) (K : Bool → Hp → Prop) (Kp : List PanicEntry → Hp → Prop) (x10 : Int) (h : Hp) : Prop :=
  LoopH (fun N fr h => sem Tryd.prog ann3 (DrawSem Tryd.prog ord3) none (sub [1, 1, 1, 1, 1, 0, 1, 0, 0] code3) (thenQ (fun fr' h' => N (Ann.find ann3 2006 fr') h') (ctxQ Tryd.prog ann3 (DrawSem Tryd.prog ord3) none Kp [1, 1, 1, 1, 1, 0, 1, 0] code3 [] (q3 K))) Kp fr h) (mk3_12 x2 x6 x7 x8 x9 x10) h

theorem L3_12.rule {x2 : Addr} {x6 : Addr} {x7 : Addr} {x8 : Sl} {x9 : Addr} {K : Bool → Hp → Prop} {Kp : List PanicEntry → Hp → Prop} (I : Int → Hp → Prop) (μ : Int → Hp → Nat) {x10 : Int} {h : Hp} (h0 : I x10 h)
    (step : ∀ (x10 : Int) (h : Hp), I x10 h → ∀ N1 : Fr → Hp → Prop, (∀ (x10' : Int) (h' : Hp), I x10' h' → μ x10' h' < μ x10 h → N1 (mk3_12 x2 x6 x7 x8 x9 x10') h') → T3_12 x2 x6 x7 x8 x9 K Kp N1 x10 h) : L3_12 x2 x6 x7 x8 x9 K Kp x10 h :=
  loop_rule (σ := Int) (fun s => mk3_12 x2 x6 x7 x8 x9 s) (fun N s h => T3_12 x2 x6 x7 x8 x9 K Kp N s h) (fun N s h => by kernel_rfl) (fun s h => I s h) (fun s h => μ s h) (s0 := x10) h0 (fun s h hI N hN => step s h hI N (fun x10' h' hI' hl => hN x10' h' hI' hl))

def JT3_1 (x2 : Addr) (x3 : Sl) (x4 : Int) (x5 : Int) (x6 : Addr) (K : Bool → Hp → Prop) (Kp : List PanicEntry → Hp → Prop) (h : Hp) : Prop :=
  Fn7 x3 x4 x5 h (fun t30 h1 =>
    New h1 #[(.slice none 0 0)] 25 fun a7 h2 =>
    St h2 a7 (Sl.v t30) fun h3 =>
    Ap h3 5 #[(.int .u8 (0 : Int))] 1 1 (⟨none, 0, 0⟩ : Sl) x3.n (rd h3 x3.a (x3.n * 1)) fun t32 h4 =>
    Fn8 t32 x4 x5 h4 (fun t36 h5 =>
      New h5 #[(.nilFunc)] 28 fun a9 h6 =>
      NA t36 <|
      St h6 a9 t36 fun h7 =>
      L3_12 x2 x6 a7 t32 a9 K Kp (0 : Int) h7) Kp) Kp

def J3_1 (x2 : Addr) (x3 : Sl) (x4 : Int) (x5 : Int) (x6 : Addr) (K : Bool → Hp → Prop) (Kp : List PanicEntry → Hp → Prop) (h : Hp) : Prop :=
  sem Tryd.prog ann3 (DrawSem Tryd.prog ord3) none (sub [1, 1] code3) (ctxQ Tryd.prog ann3 (DrawSem Tryd.prog ord3) none Kp [1, 1] code3 [] (q3 K)) Kp ([none, none, some (.pointer (some x2)), some (Sl.v x3), some (.int .i64 x4), some (.int .i64 x5), some (.pointer (some x6)), none, none, none, none, none, none, none, none, none, none, none, none, none, none, none, none, none, none, none, none, none, none, none, none, none, none, none, none, none, none, none, none, none, none, none, none, none, none, none, none, none, none, none, none, none, none, none, none, none, none, none, none, none, none, none, none, none, none, none, none, none, none, none, none, none, none, none, none, none, none, none, none, none, none, none, none, none, none, none, none, none, none, none, none, none, none, none, none, none, none, none, none, none, none, none, none, none, none, none, none, none, none, none, none, none, none, none, none, none, none, none, none, none, none, none, none, none, none, none, none, none, none, none, none, none, none, none, none, none, none, none, none, none, none, none, none, none, none, none, none, none, none, none, none, none, none, none, none, none, none, none, none, none, none, none, none, none, none, none, none]) h

theorem J3_1.of {x2 : Addr} {x3 : Sl} {x4 : Int} {x5 : Int} {x6 : Addr} {K : Bool → Hp → Prop} {Kp : List PanicEntry → Hp → Prop} {h : Hp} (H : JT3_1 x2 x3 x4 x5 x6 K Kp h) : J3_1 x2 x3 x4 x5 x6 K Kp h :=
  Eq.mp (by kernel_rfl) H

def S3 (p_0 : Sl) (p_1 : Sl) (p_2 : Int) (p_3 : Int) (p_4 : Int) (h : Hp) (K : Bool → Hp → Prop) (Kp : List PanicEntry → Hp → Prop) : Prop :=
  New h #[(Sl.v p_0), (Sl.v p_1), (.int .i64 p_2), (.int .i64 p_3), (.int .i64 p_4)] 24 fun a1 h1 =>
  New h1 #[(.bool false)] 4 fun a2 h2 =>
  Ld h2 a1 (Sl.v) fun t20 =>
  Ld h2 (a1.add 2) (Value.int .i64) fun t22 =>
  Ld h2 (a1.add 3) (Value.int .i64) fun t24 =>
  Ld h2 (a1.add 4) (Value.int .i64) fun t26 =>
  New h2 #[(.int .i64 (0 : Int))] 3 fun a6 h3 =>
  Keep h2 h3 (a1.add 4) 1 <|
  Keep h2 h3 (a1.add 3) 1 <|
  Keep h2 h3 (a1.add 2) 1 <|
  Keep h2 h3 a1 1 <|
  St h3 a6 (.int .i64 t26) fun h4 =>
  J3_1 a2 t20 t22 t24 a6 K Kp h4

theorem Fn3.of {p_0 : Sl} {p_1 : Sl} {p_2 : Int} {p_3 : Int} {p_4 : Int} {h : Hp} {K : Bool → Hp → Prop} {Kp : List PanicEntry → Hp → Prop} (H : S3 p_0 p_1 p_2 p_3 p_4 h K Kp) : Fn3 p_0 p_1 p_2 p_3 p_4 h K Kp :=
  Eq.mp (by kernel_rfl) (fn_of (P := Tryd.prog) (ann := ann3) (D := DrawSem Tryd.prog ord3) (drawOk _) (c := code3) (zs := [(.bool false)]) (args := [(.agg #[(Sl.v p_0), (Sl.v p_1), (.int .i64 p_2), (.int .i64 p_3), (.int .i64 p_4)])]) (Kv := kv3 K) (Kp := Kp) (h := h) Tryd.func3 (by kernel_rfl) (Eq.mp (by kernel_rfl) H))

end Go.Proofs.YtajgmklgfdgnlaaDoor
