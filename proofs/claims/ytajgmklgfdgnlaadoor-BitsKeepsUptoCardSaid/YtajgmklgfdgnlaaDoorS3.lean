/- What the functions do, printed by program (gen.py) in the words of ShCore; each text is held against the loaded program by the kernel. -/
import Derived.Test.YtajgmklgfdgnlaaDoorF
set_option linter.unusedVariables false
set_option maxRecDepth 100000
namespace Go.Proofs.YtajgmklgfdgnlaaDoor
open Go Go.Sh
/-! ### 7: colonnade/colonnaderef02.Runs -/

noncomputable def code7 : Code := Tryd.f7.body.getD .skip

def ann7 : Ann := [(2006, [7, 9, 10]), (20040, [7, 9, 10, 40])]

def ord7 : List (Nat × List Nat × List Nat) := []

def kv7 (K : Sl → Hp → Prop) : Value → Hp → Prop := fun v h => match v with | .slice r0a r0n r0c => (let r0 : Sl := ⟨r0a, r0n, r0c⟩; K r0 h) | _ => False

def q7 (K : Sl → Hp → Prop) : Qt := retQ Tryd.prog Tryd.f7.results.toList [(.slice none 0 0)] (kv7 K)

abbrev mk7_1 (x7 : Sl) (x9 : Sl) (x10 : Int) : Fr := [none, none, none, none, none, none, none, some (Sl.v x7), none, some (Sl.v x9), some (.int .i64 x10), none, none, none, none, none, none, none, none, none, none, none, none, none, none, none, none, none, none, none, none, none, none, none, none, none, none, none, none, none, none, none, none, none, none, none, none, none, none, none, none, none, none, none, none, none, none]

def JT7_2 (x7 : Sl) (x9 : Sl) (x10 : Int) (x40 : Bool) (N1 : Fr → Hp → Prop) (K : Sl → Hp → Prop) (Kp : List PanicEntry → Hp → Prop) (h : Hp) : Prop :=
  If x40 (
    Wr .i64 ((x9.n : Int) - (1 : Int)) fun t44 =>
    Ix x9.a x9.n 2 t44 fun a45 =>
    Ld h (a45.add 1) (Value.int .i64) fun t47 =>
    Wr .i64 (t47 + (1 : Int)) fun t48 =>
    Ix x9.a x9.n 2 t44 fun a49 =>
    St h (a49.add 1) (.int .i64 t48) fun h1 =>
    Wr .i64 (x10 + (1 : Int)) fun t26 =>
    N1 (mk7_1 x7 x9 t26) h1) (
    New h #[(.int .i64 x10), (.int .i64 (1 : Int))] 31 fun a54 h1 =>
    Ap h1 31 #[(.int .i64 (0 : Int)), (.int .i64 (0 : Int))] 2 16 x9 1 (rd h1 (some a54) (1 * 2)) fun t55 h2 =>
    Wr .i64 (x10 + (1 : Int)) fun t26 =>
    N1 (mk7_1 x7 t55 t26) h2)

def J7_2 (x7 : Sl) (x9 : Sl) (x10 : Int) (x40 : Bool) (N1 : Fr → Hp → Prop) (K : Sl → Hp → Prop) (Kp : List PanicEntry → Hp → Prop) (h : Hp) : Prop :=
  sem Tryd.prog ann7 (DrawSem Tryd.prog ord7) none (sub [1, 1, 1, 1, 0, 1, 0, 0, 1, 0, 0, 1, 1] code7) (ctxQ Tryd.prog ann7 (DrawSem Tryd.prog ord7) none Kp [1, 1, 1, 1, 0, 1, 0, 0, 1, 0, 0, 1, 1] code7 [N1] (q7 K)) Kp ([none, none, none, none, none, none, none, some (Sl.v x7), none, some (Sl.v x9), some (.int .i64 x10), none, none, none, none, none, none, none, none, none, none, none, none, none, none, none, none, none, none, none, none, none, none, none, none, none, none, none, none, none, some (.bool x40), none, none, none, none, none, none, none, none, none, none, none, none, none, none, none, none]) h

theorem J7_2.of {x7 : Sl} {x9 : Sl} {x10 : Int} {x40 : Bool} {N1 : Fr → Hp → Prop} {K : Sl → Hp → Prop} {Kp : List PanicEntry → Hp → Prop} {h : Hp} (H : JT7_2 x7 x9 x10 x40 N1 K Kp h) : J7_2 x7 x9 x10 x40 N1 K Kp h :=
  Eq.mp (by kernel_rfl) H

def T7_1 (x7 : Sl) (K : Sl → Hp → Prop) (Kp : List PanicEntry → Hp → Prop) (N1 : Fr → Hp → Prop) (x9 : Sl) (x10 : Int) (h : Hp) : Prop :=
  If (decide (x10 < (x7.n : Int))) (
    Ix x7.a x7.n 1 x10 fun a29 =>
    Ld h a29 (Value.bool) fun t30 =>
    If (!t30) (
      Wr .i64 (x10 + (1 : Int)) fun t26 =>
      N1 (mk7_1 x7 x9 t26) h) (
      If (decide (x10 > (0 : Int))) (
        Wr .i64 (x10 - (1 : Int)) fun t37 =>
        Ix x7.a x7.n 1 t37 fun a38 =>
        Ld h a38 (Value.bool) fun t39 =>
        J7_2 x7 x9 x10 t39 N1 K Kp h) (
        J7_2 x7 x9 x10 false N1 K Kp h))) (
    K x9 h)

def L7_1 (x7 : Sl) (K : Sl → Hp → Prop) (Kp : List PanicEntry → Hp → Prop) (x9 : Sl) (x10 : Int) (h : Hp) : Prop :=
  LoopH (fun N fr h => sem Tryd.prog ann7 (DrawSem Tryd.prog ord7) none (sub [1, 1, 1, 1, 0, 1, 0, 0] code7) (thenQ (fun fr' h' => N (Ann.find ann7 2006 fr') h') (ctxQ Tryd.prog ann7 (DrawSem Tryd.prog ord7) none Kp [1, 1, 1, 1, 0, 1, 0] code7 [] (q7 K))) Kp fr h) (mk7_1 x7 x9 x10) h

theorem L7_1.rule {x7 : Sl} {K : Sl → Hp → Prop} {Kp : List PanicEntry → Hp → Prop} (I : Sl → Int → Hp → Prop) (μ : Sl → Int → Hp → Nat) {x9 : Sl} {x10 : Int} {h : Hp} (h0 : I x9 x10 h)
    (step : ∀ (x9 : Sl) (x10 : Int) (h : Hp), I x9 x10 h → ∀ N1 : Fr → Hp → Prop, (∀ (x9' : Sl) (x10' : Int) (h' : Hp), I x9' x10' h' → μ x9' x10' h' < μ x9 x10 h → N1 (mk7_1 x7 x9' x10') h') → T7_1 x7 K Kp N1 x9 x10 h) : L7_1 x7 K Kp x9 x10 h :=
  loop_rule (σ := Sl × Int) (fun s => mk7_1 x7 s.1 s.2) (fun N s h => T7_1 x7 K Kp N s.1 s.2 h) (fun N s h => by kernel_rfl) (fun s h => I s.1 s.2 h) (fun s h => μ s.1 s.2 h) (s0 := ⟨x9, x10⟩) h0 (fun s h hI N hN => step s.1 s.2 h hI N (fun x9' x10' h' hI' hl => hN ⟨x9', x10'⟩ h' hI' hl))

def S7 (b : Sl) (fromv : Int) (n : Int) (h : Hp) (K : Sl → Hp → Prop) (Kp : List PanicEntry → Hp → Prop) : Prop :=
  Fn26 b fromv n h (fun t15_0 t15_1 h1 =>
    If (t15_1 != (0 : Int)) (
      K (⟨none, 0, 0⟩ : Sl) h1) (
      New h1 #[] 31 fun a20 h2 =>
      L7_1 t15_0 K Kp (⟨some a20, 0, 0⟩ : Sl) (0 : Int) h2)) Kp

theorem Fn7.of {b : Sl} {fromv : Int} {n : Int} {h : Hp} {K : Sl → Hp → Prop} {Kp : List PanicEntry → Hp → Prop} (H : S7 b fromv n h K Kp) : Fn7 b fromv n h K Kp :=
  Eq.mp (by kernel_rfl) (fn_of (P := Tryd.prog) (ann := ann7) (D := DrawSem Tryd.prog ord7) (drawOk _) (c := code7) (zs := [(.slice none 0 0)]) (args := [(Sl.v b), (.int .i64 fromv), (.int .i64 n)]) (Kv := kv7 K) (Kp := Kp) (h := h) Tryd.func7 (by kernel_rfl) (Eq.mp (by kernel_rfl) H))

/-! ### 8: colonnade/bits.Runs -/

noncomputable def code8 : Code := Tryd.f8.body.getD .skip

def ann8 : Ann := []

def ord8 : List (Nat × List Nat × List Nat) := []

def kv8 (K : Value → Hp → Prop) : Value → Hp → Prop := fun v h => let r0 := v; K r0 h

def q8 (K : Value → Hp → Prop) : Qt := retQ Tryd.prog Tryd.f8.results.toList [(.nilFunc)] (kv8 K)

def S8 (b : Sl) (fromv : Int) (n : Int) (h : Hp) (K : Value → Hp → Prop) (Kp : List PanicEntry → Hp → Prop) : Prop :=
  Fn20 b fromv n h (fun t13_0 t13_1 h1 =>
    If (t13_1 != (0 : Int)) (
      K (.func (.func 27) #[] #[]) h1) (
      Fn28 t13_0 (0 : Int) n h1 (fun t20 h2 =>
        K t20 h2) Kp)) Kp

theorem Fn8.of {b : Sl} {fromv : Int} {n : Int} {h : Hp} {K : Value → Hp → Prop} {Kp : List PanicEntry → Hp → Prop} (H : S8 b fromv n h K Kp) : Fn8 b fromv n h K Kp :=
  Eq.mp (by kernel_rfl) (fn_of (P := Tryd.prog) (ann := ann8) (D := DrawSem Tryd.prog ord8) (drawOk _) (c := code8) (zs := [(.nilFunc)]) (args := [(Sl.v b), (.int .i64 fromv), (.int .i64 n)]) (Kv := kv8 K) (Kp := Kp) (h := h) Tryd.func8 (by kernel_rfl) (Eq.mp (by kernel_rfl) H))

/-! ### 9: colonnade/colonnadelaw02.fixed -/

noncomputable def code9 : Code := Tryd.f9.body.getD .skip

def ann9 : Ann := []

def ord9 : List (Nat × List Nat × List Nat) := []

def kv9 (K : Bool → Hp → Prop) : Value → Hp → Prop := fun v h => match v with | .bool r0 => (K r0 h) | _ => False

def q9 (K : Bool → Hp → Prop) : Qt := retQ Tryd.prog Tryd.f9.results.toList [(.bool false)] (kv9 K)

def S9 (h : Hp) (K : Bool → Hp → Prop) (Kp : List PanicEntry → Hp → Prop) : Prop :=
  New h #[(.int .u8 (246 : Int)), (.int .u8 (1 : Int))] 5 fun a4 h1 =>
  Fn19 (⟨some a4, 2, 2⟩ : Sl) (4 : Int) (5 : Int) h1 (fun t5_0 t5_1 h2 =>
    If (t5_0 == (5 : Int)) (
      K (t5_1 == (0 : Int)) h2) (
      K false h2)) Kp

theorem Fn9.of {h : Hp} {K : Bool → Hp → Prop} {Kp : List PanicEntry → Hp → Prop} (H : S9  h K Kp) : Fn9  h K Kp :=
  Eq.mp (by kernel_rfl) (fn_of (P := Tryd.prog) (ann := ann9) (D := DrawSem Tryd.prog ord9) (drawOk _) (c := code9) (zs := [(.bool false)]) (args := []) (Kv := kv9 K) (Kp := Kp) (h := h) Tryd.func9 (by kernel_rfl) (Eq.mp (by kernel_rfl) H))

/-! ### 10: colonnade/colonnadelaw02.ask -/

noncomputable def code10 : Code := Tryd.f10.body.getD .skip

def ann10 : Ann := [(4028, [2, 3, 140])]

def ord10 : List (Nat × List Nat × List Nat) := []

def kv10 (K : Int → Int → Bool → Sl → Sl → Sl → Hp → Prop) : Value → Hp → Prop := fun v h => match v with | .agg cs0 => (match (cs0.toList.getD 0 undef) with | .int _ r0_0 => (match (cs0.toList.getD 1 undef) with | .int _ r0_1 => (match (cs0.toList.getD 2 undef) with | .bool r0_2 => (match (cs0.toList.getD 3 undef) with | .slice r0_3a r0_3n r0_3c => (let r0_3 : Sl := ⟨r0_3a, r0_3n, r0_3c⟩; match (cs0.toList.getD 4 undef) with | .slice r0_4a r0_4n r0_4c => (let r0_4 : Sl := ⟨r0_4a, r0_4n, r0_4c⟩; match (cs0.toList.getD 5 undef) with | .slice r0_5a r0_5n r0_5c => (let r0_5 : Sl := ⟨r0_5a, r0_5n, r0_5c⟩; K r0_0 r0_1 r0_2 r0_3 r0_4 r0_5 h) | _ => False) | _ => False) | _ => False) | _ => False) | _ => False) | _ => False) | _ => False

def q10 (K : Int → Int → Bool → Sl → Sl → Sl → Hp → Prop) : Qt := retQ Tryd.prog Tryd.f10.results.toList [(.agg #[(.int .i64 (0 : Int)), (.int .i64 (0 : Int)), (.bool false), (.slice none 0 0), (.slice none 0 0), (.slice none 0 0)])] (kv10 K)

def RT10_1 (x2 : Addr) (x3 : Addr) (x140 : Value) (lb : Nat) (NB : Hp → Prop) (XB : Code → Hp → Prop) (y141 : Int) (y142 : Int) (h : Hp) : Prop :=
  Busy lb h h fun h1 =>
  Ld h1 (x3.add 5) (Sl.v) fun t144 =>
  New h1 #[(.int .i64 y141), (.int .i64 y142)] 3 fun a147 h2 =>
  Ap h2 3 #[(.int .i64 (0 : Int))] 1 8 t144 2 (rd h2 (some a147) (2 * 1)) fun t148 h3 =>
  St h3 (x3.add 5) (Sl.v t148) fun h4 =>
  NB h4

def R10_1 (x2 : Addr) (x3 : Addr) (x140 : Value) (K : Int → Int → Bool → Sl → Sl → Sl → Hp → Prop) (Kp : List PanicEntry → Hp → Prop) (h : Hp) : Prop :=
  sem Tryd.prog ann10 (DrawSem Tryd.prog ord10) none (sub [1, 1, 0, 1, 0, 1, 1, 1, 1, 1, 1, 1, 1, 1, 1, 1, 1, 1, 1, 1, 1, 1, 1, 1, 0, 1, 1, 1, 0] code10) (ctxQ Tryd.prog ann10 (DrawSem Tryd.prog ord10) none Kp [1, 1, 0, 1, 0, 1, 1, 1, 1, 1, 1, 1, 1, 1, 1, 1, 1, 1, 1, 1, 1, 1, 1, 1, 0, 1, 1, 1, 0] code10 [] (q10 K)) Kp ([none, none, some (.pointer (some x2)), some (.pointer (some x3)), none, none, none, none, none, none, none, none, none, none, none, none, none, none, none, none, none, none, none, none, none, none, none, none, none, none, none, none, none, none, none, none, none, none, none, none, none, none, none, none, none, none, none, none, none, none, none, none, none, none, none, none, none, none, none, none, none, none, none, none, none, none, none, none, none, none, none, none, none, none, none, none, none, none, none, none, none, none, none, none, none, none, none, none, none, none, none, none, none, none, none, none, none, none, none, none, none, none, none, none, none, none, none, none, none, none, none, none, none, none, none, none, none, none, none, none, none, none, none, none, none, none, none, none, none, none, none, none, none, none, none, none, none, none, none, none, some x140, none, none, none, none, none, none, none, none, none, none, none, none, none, none, none, none, none, none, none, none, none, none, none, none, none, none, none, none, none, none, none, none, none, none, none, none, none, none]) h

def RD10_1 (x2 : Addr) (x3 : Addr) (x140 : Value) (K : Int → Int → Bool → Sl → Sl → Sl → Hp → Prop) (Kp : List PanicEntry → Hp → Prop) (h : Hp) : Prop :=
  Ld h x3 (Value.int .i64) fun t178_0 =>
  Ld h (x3.add 1) (Value.int .i64) fun t178_1 =>
  Ld h (x3.add 2) (Value.bool) fun t178_2 =>
  Ld h (x3.add 3) (Sl.v) fun t178_3 =>
  Ld h (x3.add 4) (Sl.v) fun t178_4 =>
  Ld h (x3.add 5) (Sl.v) fun t178_5 =>
  St h x2 (.int .i64 t178_0) fun h1 =>
  St h1 (x2.add 1) (.int .i64 t178_1) fun h2 =>
  St h2 (x2.add 2) (.bool t178_2) fun h3 =>
  St h3 (x2.add 3) (Sl.v t178_3) fun h4 =>
  St h4 (x2.add 4) (Sl.v t178_4) fun h5 =>
  St h5 (x2.add 5) (Sl.v t178_5) fun h6 =>
  Ld h6 x2 (Value.int .i64) fun r0_0 =>
  Ld h6 (x2.add 1) (Value.int .i64) fun r0_1 =>
  Ld h6 (x2.add 2) (Value.bool) fun r0_2 =>
  Ld h6 (x2.add 3) (Sl.v) fun r0_3 =>
  Ld h6 (x2.add 4) (Sl.v) fun r0_4 =>
  Ld h6 (x2.add 5) (Sl.v) fun r0_5 =>
  K r0_0 r0_1 r0_2 r0_3 r0_4 r0_5 h6

theorem R10_1.rule {x2 : Addr} {x3 : Addr} {x140 : Value} {K : Int → Int → Bool → Sl → Sl → Sl → Hp → Prop} {Kp : List PanicEntry → Hp → Prop} {h : Hp} {α : Type} {xs : List α} (e0 : α → Int) (e1 : α → Int) {Pre : Hp → Prop} (hit : Iter Tryd.prog x140 xs (fun y => [(.int .i64 (e0 y)), (.int .i64 (e1 y))]) Pre) (I : List α → Hp → Prop) (h0 : I [] h)
    (hG : ∀ pre h1 h2, Grw h1 h2 → I pre h1 → I pre h2) (hI : ∀ l pre h1 h2, h.size ≤ l → Tw l h1 h2 → I pre h1 → I pre h2) (hPre : ∀ pre h1, I pre h1 → Pre h1) 
    (hbody : ∀ l pre y suf h1, xs = pre ++ y :: suf → h.size ≤ l → (∃ r, h1[l]? = some (.loop r)) → I pre h1 → ∀ (N : Hp → Prop) (X : Code → Hp → Prop), (∀ h' h2, Tw l h1 h' → h2[l]? = h'[l]? → I (pre ++ [y]) h2 → N h2) → RT10_1 x2 x3 x140 l N X (e0 y) (e1 y) h1)
    (done : ∀ h2, I xs h2 → RD10_1 x2 x3 x140 K Kp h2) : R10_1 x2 x3 x140 K Kp h :=
  Eq.mp (by kernel_rfl) (range_rule (P := Tryd.prog) (ann := ann10) (D := (DrawSem Tryd.prog ord10)) (fun _ => drawOk _) (rd := none) (g := .tmp 140) (ps := #[141, 142]) (assign := sub [1, 1, 0, 1, 0, 1, 1, 1, 1, 1, 1, 1, 1, 1, 1, 1, 1, 1, 1, 1, 1, 1, 1, 1, 0, 1, 1, 1, 0, 0] code10) (body := sub [1, 1, 0, 1, 0, 1, 1, 1, 1, 1, 1, 1, 1, 1, 1, 1, 1, 1, 1, 1, 1, 1, 1, 1, 0, 1, 1, 1, 0, 1] code10) (Q := ctxQ Tryd.prog ann10 (DrawSem Tryd.prog ord10) none Kp [1, 1, 0, 1, 0, 1, 1, 1, 1, 1, 1, 1, 1, 1, 1, 1, 1, 1, 1, 1, 1, 1, 1, 1, 0, 1, 1, 1, 0] code10 [] (q10 K)) (Kp := Kp) (fr := [none, none, some (.pointer (some x2)), some (.pointer (some x3)), none, none, none, none, none, none, none, none, none, none, none, none, none, none, none, none, none, none, none, none, none, none, none, none, none, none, none, none, none, none, none, none, none, none, none, none, none, none, none, none, none, none, none, none, none, none, none, none, none, none, none, none, none, none, none, none, none, none, none, none, none, none, none, none, none, none, none, none, none, none, none, none, none, none, none, none, none, none, none, none, none, none, none, none, none, none, none, none, none, none, none, none, none, none, none, none, none, none, none, none, none, none, none, none, none, none, none, none, none, none, none, none, none, none, none, none, none, none, none, none, none, none, none, none, none, none, none, none, none, none, none, none, none, none, none, none, some x140, none, none, none, none, none, none, none, none, none, none, none, none, none, none, none, none, none, none, none, none, none, none, none, none, none, none, none, none, none, none, none, none, none, none, none, none, none, none]) (h := h) (fv := x140) (by kernel_rfl)
    hit (fun _ => rfl) trivial I (fun c => match c with | _ => fun _ _ => False) h0 hG (by intro c pre h1 h2 hg hi; revert hi; cases c <;> exact fun hi => hi.elim) hI (by intro l c pre h1 h2 hl ht hi; revert hi; cases c <;> exact fun hi => hi.elim) hPre
    (by
      intro l pre y suf h1 e1 e2 e3 e4 N X hN hX
      exact Eq.mp (by kernel_rfl) (hbody l pre y suf h1 e1 e2 e3 e4 N X hN ))
    (fun h2 hi => Eq.mp (by kernel_rfl) (done h2 hi)) (by
      intro c pre suf h2 e1 hi
      cases c <;> exact hi.elim))

def S10 (o_0 : Int) (o_1 : Sl) (o_2 : Sl) (o_3 : Sl) (o_4 : Int) (o_5 : Int) (o_6 : Int) (o_7 : Bool) (h : Hp) (K : Int → Int → Bool → Sl → Sl → Sl → Hp → Prop) (Kp : List PanicEntry → Hp → Prop) : Prop :=
  New h #[(.int .i64 o_0), (Sl.v o_1), (Sl.v o_2), (Sl.v o_3), (.int .i64 o_4), (.int .i64 o_5), (.int .i64 o_6), (.bool o_7)] 42 fun a1 h1 =>
  New h1 #[(.int .i64 (0 : Int)), (.int .i64 (0 : Int)), (.bool false), (.slice none 0 0), (.slice none 0 0), (.slice none 0 0)] 39 fun a2 h2 =>
  New h2 #[(.int .i64 (0 : Int)), (.int .i64 (0 : Int)), (.bool false), (.slice none 0 0), (.slice none 0 0), (.slice none 0 0)] 39 fun a3 h3 =>
  Ld h3 a1 (Value.int .i64) fun t8 =>
  If (t8 == (1 : Int)) (
    Ld h3 (a1.add 1) (Sl.v) fun t17 =>
    Ld h3 (a1.add 5) (Value.int .i64) fun t19 =>
    Fn29 t17 t19 h3 (fun t20_0 t20_1 h4 =>
      St h4 (a3.add 2) (.bool t20_0) fun h5 =>
      St h5 a3 (.int .i64 t20_1) fun h6 =>
      Ld h6 a3 (Value.int .i64) fun t178_0 =>
      Ld h6 (a3.add 1) (Value.int .i64) fun t178_1 =>
      Ld h6 (a3.add 2) (Value.bool) fun t178_2 =>
      Ld h6 (a3.add 3) (Sl.v) fun t178_3 =>
      Ld h6 (a3.add 4) (Sl.v) fun t178_4 =>
      Ld h6 (a3.add 5) (Sl.v) fun t178_5 =>
      St h6 a2 (.int .i64 t178_0) fun h7 =>
      St h7 (a2.add 1) (.int .i64 t178_1) fun h8 =>
      St h8 (a2.add 2) (.bool t178_2) fun h9 =>
      St h9 (a2.add 3) (Sl.v t178_3) fun h10 =>
      St h10 (a2.add 4) (Sl.v t178_4) fun h11 =>
      St h11 (a2.add 5) (Sl.v t178_5) fun h12 =>
      Ld h12 a2 (Value.int .i64) fun r0_0 =>
      Ld h12 (a2.add 1) (Value.int .i64) fun r0_1 =>
      Ld h12 (a2.add 2) (Value.bool) fun r0_2 =>
      Ld h12 (a2.add 3) (Sl.v) fun r0_3 =>
      Ld h12 (a2.add 4) (Sl.v) fun r0_4 =>
      Ld h12 (a2.add 5) (Sl.v) fun r0_5 =>
      K r0_0 r0_1 r0_2 r0_3 r0_4 r0_5 h12) Kp) (
    If (t8 == (2 : Int)) (
      Ld h3 (a1.add 1) (Sl.v) fun t29 =>
      Ld h3 (a1.add 4) (Value.int .i64) fun t31 =>
      Ld h3 (a1.add 5) (Value.int .i64) fun t33 =>
      Fn19 t29 t31 t33 h3 (fun t34_0 t34_1 h4 =>
        St h4 (a3.add 1) (.int .i64 t34_0) fun h5 =>
        St h5 a3 (.int .i64 t34_1) fun h6 =>
        Ld h6 a3 (Value.int .i64) fun t178_0 =>
        Ld h6 (a3.add 1) (Value.int .i64) fun t178_1 =>
        Ld h6 (a3.add 2) (Value.bool) fun t178_2 =>
        Ld h6 (a3.add 3) (Sl.v) fun t178_3 =>
        Ld h6 (a3.add 4) (Sl.v) fun t178_4 =>
        Ld h6 (a3.add 5) (Sl.v) fun t178_5 =>
        St h6 a2 (.int .i64 t178_0) fun h7 =>
        St h7 (a2.add 1) (.int .i64 t178_1) fun h8 =>
        St h8 (a2.add 2) (.bool t178_2) fun h9 =>
        St h9 (a2.add 3) (Sl.v t178_3) fun h10 =>
        St h10 (a2.add 4) (Sl.v t178_4) fun h11 =>
        St h11 (a2.add 5) (Sl.v t178_5) fun h12 =>
        Ld h12 a2 (Value.int .i64) fun r0_0 =>
        Ld h12 (a2.add 1) (Value.int .i64) fun r0_1 =>
        Ld h12 (a2.add 2) (Value.bool) fun r0_2 =>
        Ld h12 (a2.add 3) (Sl.v) fun r0_3 =>
        Ld h12 (a2.add 4) (Sl.v) fun r0_4 =>
        Ld h12 (a2.add 5) (Sl.v) fun r0_5 =>
        K r0_0 r0_1 r0_2 r0_3 r0_4 r0_5 h12) Kp) (
      If (t8 == (3 : Int)) (
        Ld h3 (a1.add 3) (Sl.v) fun t42 =>
        Fn24 t42 h3 (fun t43 h4 =>
          St h4 (a3.add 3) (Sl.v t43) fun h5 =>
          Ld h5 a3 (Value.int .i64) fun t178_0 =>
          Ld h5 (a3.add 1) (Value.int .i64) fun t178_1 =>
          Ld h5 (a3.add 2) (Value.bool) fun t178_2 =>
          Ld h5 (a3.add 3) (Sl.v) fun t178_3 =>
          Ld h5 (a3.add 4) (Sl.v) fun t178_4 =>
          Ld h5 (a3.add 5) (Sl.v) fun t178_5 =>
          St h5 a2 (.int .i64 t178_0) fun h6 =>
          St h6 (a2.add 1) (.int .i64 t178_1) fun h7 =>
          St h7 (a2.add 2) (.bool t178_2) fun h8 =>
          St h8 (a2.add 3) (Sl.v t178_3) fun h9 =>
          St h9 (a2.add 4) (Sl.v t178_4) fun h10 =>
          St h10 (a2.add 5) (Sl.v t178_5) fun h11 =>
          Ld h11 a2 (Value.int .i64) fun r0_0 =>
          Ld h11 (a2.add 1) (Value.int .i64) fun r0_1 =>
          Ld h11 (a2.add 2) (Value.bool) fun r0_2 =>
          Ld h11 (a2.add 3) (Sl.v) fun r0_3 =>
          Ld h11 (a2.add 4) (Sl.v) fun r0_4 =>
          Ld h11 (a2.add 5) (Sl.v) fun r0_5 =>
          K r0_0 r0_1 r0_2 r0_3 r0_4 r0_5 h11) Kp) (
        If (t8 == (4 : Int)) (
          Ld h3 (a1.add 1) (Sl.v) fun t49 =>
          Ld h3 (a1.add 4) (Value.int .i64) fun t51 =>
          Ld h3 (a1.add 5) (Value.int .i64) fun t53 =>
          Fn18 t49 t51 t53 h3 (fun t54_0 t54_1 h4 =>
            St h4 (a3.add 4) (Sl.v t54_0) fun h5 =>
            St h5 a3 (.int .i64 t54_1) fun h6 =>
            Ld h6 a3 (Value.int .i64) fun t178_0 =>
            Ld h6 (a3.add 1) (Value.int .i64) fun t178_1 =>
            Ld h6 (a3.add 2) (Value.bool) fun t178_2 =>
            Ld h6 (a3.add 3) (Sl.v) fun t178_3 =>
            Ld h6 (a3.add 4) (Sl.v) fun t178_4 =>
            Ld h6 (a3.add 5) (Sl.v) fun t178_5 =>
            St h6 a2 (.int .i64 t178_0) fun h7 =>
            St h7 (a2.add 1) (.int .i64 t178_1) fun h8 =>
            St h8 (a2.add 2) (.bool t178_2) fun h9 =>
            St h9 (a2.add 3) (Sl.v t178_3) fun h10 =>
            St h10 (a2.add 4) (Sl.v t178_4) fun h11 =>
            St h11 (a2.add 5) (Sl.v t178_5) fun h12 =>
            Ld h12 a2 (Value.int .i64) fun r0_0 =>
            Ld h12 (a2.add 1) (Value.int .i64) fun r0_1 =>
            Ld h12 (a2.add 2) (Value.bool) fun r0_2 =>
            Ld h12 (a2.add 3) (Sl.v) fun r0_3 =>
            Ld h12 (a2.add 4) (Sl.v) fun r0_4 =>
            Ld h12 (a2.add 5) (Sl.v) fun r0_5 =>
            K r0_0 r0_1 r0_2 r0_3 r0_4 r0_5 h12) Kp) (
          If (t8 == (5 : Int)) (
            Ld h3 (a1.add 1) (Sl.v) fun t63 =>
            Ld h3 (a1.add 4) (Value.int .i64) fun t65 =>
            Ld h3 (a1.add 5) (Value.int .i64) fun t67 =>
            Fn20 t63 t65 t67 h3 (fun t68_0 t68_1 h4 =>
              St h4 (a3.add 3) (Sl.v t68_0) fun h5 =>
              St h5 a3 (.int .i64 t68_1) fun h6 =>
              Ld h6 a3 (Value.int .i64) fun t178_0 =>
              Ld h6 (a3.add 1) (Value.int .i64) fun t178_1 =>
              Ld h6 (a3.add 2) (Value.bool) fun t178_2 =>
              Ld h6 (a3.add 3) (Sl.v) fun t178_3 =>
              Ld h6 (a3.add 4) (Sl.v) fun t178_4 =>
              Ld h6 (a3.add 5) (Sl.v) fun t178_5 =>
              St h6 a2 (.int .i64 t178_0) fun h7 =>
              St h7 (a2.add 1) (.int .i64 t178_1) fun h8 =>
              St h8 (a2.add 2) (.bool t178_2) fun h9 =>
              St h9 (a2.add 3) (Sl.v t178_3) fun h10 =>
              St h10 (a2.add 4) (Sl.v t178_4) fun h11 =>
              St h11 (a2.add 5) (Sl.v t178_5) fun h12 =>
              Ld h12 a2 (Value.int .i64) fun r0_0 =>
              Ld h12 (a2.add 1) (Value.int .i64) fun r0_1 =>
              Ld h12 (a2.add 2) (Value.bool) fun r0_2 =>
              Ld h12 (a2.add 3) (Sl.v) fun r0_3 =>
              Ld h12 (a2.add 4) (Sl.v) fun r0_4 =>
              Ld h12 (a2.add 5) (Sl.v) fun r0_5 =>
              K r0_0 r0_1 r0_2 r0_3 r0_4 r0_5 h12) Kp) (
            If (t8 == (6 : Int)) (
              Ld h3 (a1.add 1) (Sl.v) fun t77 =>
              Ld h3 (a1.add 2) (Sl.v) fun t79 =>
              Ld h3 (a1.add 5) (Value.int .i64) fun t81 =>
              Fn30 t77 t79 t81 h3 (fun t82_0 t82_1 h4 =>
                St h4 (a3.add 3) (Sl.v t82_0) fun h5 =>
                St h5 a3 (.int .i64 t82_1) fun h6 =>
                Ld h6 a3 (Value.int .i64) fun t178_0 =>
                Ld h6 (a3.add 1) (Value.int .i64) fun t178_1 =>
                Ld h6 (a3.add 2) (Value.bool) fun t178_2 =>
                Ld h6 (a3.add 3) (Sl.v) fun t178_3 =>
                Ld h6 (a3.add 4) (Sl.v) fun t178_4 =>
                Ld h6 (a3.add 5) (Sl.v) fun t178_5 =>
                St h6 a2 (.int .i64 t178_0) fun h7 =>
                St h7 (a2.add 1) (.int .i64 t178_1) fun h8 =>
                St h8 (a2.add 2) (.bool t178_2) fun h9 =>
                St h9 (a2.add 3) (Sl.v t178_3) fun h10 =>
                St h10 (a2.add 4) (Sl.v t178_4) fun h11 =>
                St h11 (a2.add 5) (Sl.v t178_5) fun h12 =>
                Ld h12 a2 (Value.int .i64) fun r0_0 =>
                Ld h12 (a2.add 1) (Value.int .i64) fun r0_1 =>
                Ld h12 (a2.add 2) (Value.bool) fun r0_2 =>
                Ld h12 (a2.add 3) (Sl.v) fun r0_3 =>
                Ld h12 (a2.add 4) (Sl.v) fun r0_4 =>
                Ld h12 (a2.add 5) (Sl.v) fun r0_5 =>
                K r0_0 r0_1 r0_2 r0_3 r0_4 r0_5 h12) Kp) (
              If (t8 == (7 : Int)) (
                Ld h3 (a1.add 1) (Sl.v) fun t91 =>
                Ld h3 (a1.add 2) (Sl.v) fun t93 =>
                Ld h3 (a1.add 5) (Value.int .i64) fun t95 =>
                Fn31 t91 t93 t95 h3 (fun t96_0 t96_1 h4 =>
                  St h4 (a3.add 3) (Sl.v t96_0) fun h5 =>
                  St h5 a3 (.int .i64 t96_1) fun h6 =>
                  Ld h6 a3 (Value.int .i64) fun t178_0 =>
                  Ld h6 (a3.add 1) (Value.int .i64) fun t178_1 =>
                  Ld h6 (a3.add 2) (Value.bool) fun t178_2 =>
                  Ld h6 (a3.add 3) (Sl.v) fun t178_3 =>
                  Ld h6 (a3.add 4) (Sl.v) fun t178_4 =>
                  Ld h6 (a3.add 5) (Sl.v) fun t178_5 =>
                  St h6 a2 (.int .i64 t178_0) fun h7 =>
                  St h7 (a2.add 1) (.int .i64 t178_1) fun h8 =>
                  St h8 (a2.add 2) (.bool t178_2) fun h9 =>
                  St h9 (a2.add 3) (Sl.v t178_3) fun h10 =>
                  St h10 (a2.add 4) (Sl.v t178_4) fun h11 =>
                  St h11 (a2.add 5) (Sl.v t178_5) fun h12 =>
                  Ld h12 a2 (Value.int .i64) fun r0_0 =>
                  Ld h12 (a2.add 1) (Value.int .i64) fun r0_1 =>
                  Ld h12 (a2.add 2) (Value.bool) fun r0_2 =>
                  Ld h12 (a2.add 3) (Sl.v) fun r0_3 =>
                  Ld h12 (a2.add 4) (Sl.v) fun r0_4 =>
                  Ld h12 (a2.add 5) (Sl.v) fun r0_5 =>
                  K r0_0 r0_1 r0_2 r0_3 r0_4 r0_5 h12) Kp) (
                If (t8 == (8 : Int)) (
                  Ld h3 (a1.add 1) (Sl.v) fun t105 =>
                  Ld h3 (a1.add 2) (Sl.v) fun t107 =>
                  Ld h3 (a1.add 5) (Value.int .i64) fun t109 =>
                  Fn32 t105 t107 t109 h3 (fun t110_0 t110_1 h4 =>
                    St h4 (a3.add 3) (Sl.v t110_0) fun h5 =>
                    St h5 a3 (.int .i64 t110_1) fun h6 =>
                    Ld h6 a3 (Value.int .i64) fun t178_0 =>
                    Ld h6 (a3.add 1) (Value.int .i64) fun t178_1 =>
                    Ld h6 (a3.add 2) (Value.bool) fun t178_2 =>
                    Ld h6 (a3.add 3) (Sl.v) fun t178_3 =>
                    Ld h6 (a3.add 4) (Sl.v) fun t178_4 =>
                    Ld h6 (a3.add 5) (Sl.v) fun t178_5 =>
                    St h6 a2 (.int .i64 t178_0) fun h7 =>
                    St h7 (a2.add 1) (.int .i64 t178_1) fun h8 =>
                    St h8 (a2.add 2) (.bool t178_2) fun h9 =>
                    St h9 (a2.add 3) (Sl.v t178_3) fun h10 =>
                    St h10 (a2.add 4) (Sl.v t178_4) fun h11 =>
                    St h11 (a2.add 5) (Sl.v t178_5) fun h12 =>
                    Ld h12 a2 (Value.int .i64) fun r0_0 =>
                    Ld h12 (a2.add 1) (Value.int .i64) fun r0_1 =>
                    Ld h12 (a2.add 2) (Value.bool) fun r0_2 =>
                    Ld h12 (a2.add 3) (Sl.v) fun r0_3 =>
                    Ld h12 (a2.add 4) (Sl.v) fun r0_4 =>
                    Ld h12 (a2.add 5) (Sl.v) fun r0_5 =>
                    K r0_0 r0_1 r0_2 r0_3 r0_4 r0_5 h12) Kp) (
                  If (t8 == (9 : Int)) (
                    Ld h3 (a1.add 1) (Sl.v) fun t119 =>
                    Ld h3 (a1.add 5) (Value.int .i64) fun t121 =>
                    Fn33 t119 t121 h3 (fun t122_0 t122_1 h4 =>
                      St h4 (a3.add 3) (Sl.v t122_0) fun h5 =>
                      St h5 a3 (.int .i64 t122_1) fun h6 =>
                      Ld h6 a3 (Value.int .i64) fun t178_0 =>
                      Ld h6 (a3.add 1) (Value.int .i64) fun t178_1 =>
                      Ld h6 (a3.add 2) (Value.bool) fun t178_2 =>
                      Ld h6 (a3.add 3) (Sl.v) fun t178_3 =>
                      Ld h6 (a3.add 4) (Sl.v) fun t178_4 =>
                      Ld h6 (a3.add 5) (Sl.v) fun t178_5 =>
                      St h6 a2 (.int .i64 t178_0) fun h7 =>
                      St h7 (a2.add 1) (.int .i64 t178_1) fun h8 =>
                      St h8 (a2.add 2) (.bool t178_2) fun h9 =>
                      St h9 (a2.add 3) (Sl.v t178_3) fun h10 =>
                      St h10 (a2.add 4) (Sl.v t178_4) fun h11 =>
                      St h11 (a2.add 5) (Sl.v t178_5) fun h12 =>
                      Ld h12 a2 (Value.int .i64) fun r0_0 =>
                      Ld h12 (a2.add 1) (Value.int .i64) fun r0_1 =>
                      Ld h12 (a2.add 2) (Value.bool) fun r0_2 =>
                      Ld h12 (a2.add 3) (Sl.v) fun r0_3 =>
                      Ld h12 (a2.add 4) (Sl.v) fun r0_4 =>
                      Ld h12 (a2.add 5) (Sl.v) fun r0_5 =>
                      K r0_0 r0_1 r0_2 r0_3 r0_4 r0_5 h12) Kp) (
                    If (t8 == (10 : Int)) (
                      Ld h3 (a1.add 1) (Sl.v) fun t130 =>
                      Ld h3 (a1.add 4) (Value.int .i64) fun t132 =>
                      Ld h3 (a1.add 5) (Value.int .i64) fun t134 =>
                      Fn8 t130 t132 t134 h3 (fun t135 h4 =>
                        FnNil t135 fun t137 =>
                        If t137 (
                          St h4 a3 (.int .i64 (-1 : Int)) fun h5 =>
                          Ld h5 a3 (Value.int .i64) fun t139_0 =>
                          Ld h5 (a3.add 1) (Value.int .i64) fun t139_1 =>
                          Ld h5 (a3.add 2) (Value.bool) fun t139_2 =>
                          Ld h5 (a3.add 3) (Sl.v) fun t139_3 =>
                          Ld h5 (a3.add 4) (Sl.v) fun t139_4 =>
                          Ld h5 (a3.add 5) (Sl.v) fun t139_5 =>
                          St h5 a2 (.int .i64 t139_0) fun h6 =>
                          St h6 (a2.add 1) (.int .i64 t139_1) fun h7 =>
                          St h7 (a2.add 2) (.bool t139_2) fun h8 =>
                          St h8 (a2.add 3) (Sl.v t139_3) fun h9 =>
                          St h9 (a2.add 4) (Sl.v t139_4) fun h10 =>
                          St h10 (a2.add 5) (Sl.v t139_5) fun h11 =>
                          Ld h11 a2 (Value.int .i64) fun r0_0 =>
                          Ld h11 (a2.add 1) (Value.int .i64) fun r0_1 =>
                          Ld h11 (a2.add 2) (Value.bool) fun r0_2 =>
                          Ld h11 (a2.add 3) (Sl.v) fun r0_3 =>
                          Ld h11 (a2.add 4) (Sl.v) fun r0_4 =>
                          Ld h11 (a2.add 5) (Sl.v) fun r0_5 =>
                          K r0_0 r0_1 r0_2 r0_3 r0_4 r0_5 h11) (
                          R10_1 a2 a3 t135 K Kp h4)) Kp) (
                      If (t8 == (11 : Int)) (
                        Ld h3 (a1.add 1) (Sl.v) fun t153 =>
                        Ld h3 (a1.add 4) (Value.int .i64) fun t155 =>
                        Ld h3 (a1.add 5) (Value.int .i64) fun t157 =>
                        Ld h3 (a1.add 7) (Value.bool) fun t159 =>
                        Fn21 t153 t155 t157 t159 h3 (fun t160 h4 =>
                          St h4 (a3.add 1) (.int .i64 t160) fun h5 =>
                          Ld h5 a3 (Value.int .i64) fun t178_0 =>
                          Ld h5 (a3.add 1) (Value.int .i64) fun t178_1 =>
                          Ld h5 (a3.add 2) (Value.bool) fun t178_2 =>
                          Ld h5 (a3.add 3) (Sl.v) fun t178_3 =>
                          Ld h5 (a3.add 4) (Sl.v) fun t178_4 =>
                          Ld h5 (a3.add 5) (Sl.v) fun t178_5 =>
                          St h5 a2 (.int .i64 t178_0) fun h6 =>
                          St h6 (a2.add 1) (.int .i64 t178_1) fun h7 =>
                          St h7 (a2.add 2) (.bool t178_2) fun h8 =>
                          St h8 (a2.add 3) (Sl.v t178_3) fun h9 =>
                          St h9 (a2.add 4) (Sl.v t178_4) fun h10 =>
                          St h10 (a2.add 5) (Sl.v t178_5) fun h11 =>
                          Ld h11 a2 (Value.int .i64) fun r0_0 =>
                          Ld h11 (a2.add 1) (Value.int .i64) fun r0_1 =>
                          Ld h11 (a2.add 2) (Value.bool) fun r0_2 =>
                          Ld h11 (a2.add 3) (Sl.v) fun r0_3 =>
                          Ld h11 (a2.add 4) (Sl.v) fun r0_4 =>
                          Ld h11 (a2.add 5) (Sl.v) fun r0_5 =>
                          K r0_0 r0_1 r0_2 r0_3 r0_4 r0_5 h11) Kp) (
                        If (t8 == (12 : Int)) (
                          Ld h3 (a1.add 1) (Sl.v) fun t166 =>
                          Ld h3 (a1.add 4) (Value.int .i64) fun t168 =>
                          Ld h3 (a1.add 5) (Value.int .i64) fun t170 =>
                          Ld h3 (a1.add 6) (Value.int .i64) fun t172 =>
                          Fn34 t166 t168 t170 t172 h3 (fun t173_0 t173_1 h4 =>
                            St h4 (a3.add 1) (.int .i64 t173_0) fun h5 =>
                            St h5 a3 (.int .i64 t173_1) fun h6 =>
                            Ld h6 a3 (Value.int .i64) fun t178_0 =>
                            Ld h6 (a3.add 1) (Value.int .i64) fun t178_1 =>
                            Ld h6 (a3.add 2) (Value.bool) fun t178_2 =>
                            Ld h6 (a3.add 3) (Sl.v) fun t178_3 =>
                            Ld h6 (a3.add 4) (Sl.v) fun t178_4 =>
                            Ld h6 (a3.add 5) (Sl.v) fun t178_5 =>
                            St h6 a2 (.int .i64 t178_0) fun h7 =>
                            St h7 (a2.add 1) (.int .i64 t178_1) fun h8 =>
                            St h8 (a2.add 2) (.bool t178_2) fun h9 =>
                            St h9 (a2.add 3) (Sl.v t178_3) fun h10 =>
                            St h10 (a2.add 4) (Sl.v t178_4) fun h11 =>
                            St h11 (a2.add 5) (Sl.v t178_5) fun h12 =>
                            Ld h12 a2 (Value.int .i64) fun r0_0 =>
                            Ld h12 (a2.add 1) (Value.int .i64) fun r0_1 =>
                            Ld h12 (a2.add 2) (Value.bool) fun r0_2 =>
                            Ld h12 (a2.add 3) (Sl.v) fun r0_3 =>
                            Ld h12 (a2.add 4) (Sl.v) fun r0_4 =>
                            Ld h12 (a2.add 5) (Sl.v) fun r0_5 =>
                            K r0_0 r0_1 r0_2 r0_3 r0_4 r0_5 h12) Kp) (
                          Ld h3 (a1.add 5) (Value.int .i64) fun t10 =>
                          Fn22 t10 h3 (fun t11 h4 =>
                            St h4 (a3.add 1) (.int .i64 t11) fun h5 =>
                            Ld h5 a3 (Value.int .i64) fun t178_0 =>
                            Ld h5 (a3.add 1) (Value.int .i64) fun t178_1 =>
                            Ld h5 (a3.add 2) (Value.bool) fun t178_2 =>
                            Ld h5 (a3.add 3) (Sl.v) fun t178_3 =>
                            Ld h5 (a3.add 4) (Sl.v) fun t178_4 =>
                            Ld h5 (a3.add 5) (Sl.v) fun t178_5 =>
                            St h5 a2 (.int .i64 t178_0) fun h6 =>
                            St h6 (a2.add 1) (.int .i64 t178_1) fun h7 =>
                            St h7 (a2.add 2) (.bool t178_2) fun h8 =>
                            St h8 (a2.add 3) (Sl.v t178_3) fun h9 =>
                            St h9 (a2.add 4) (Sl.v t178_4) fun h10 =>
                            St h10 (a2.add 5) (Sl.v t178_5) fun h11 =>
                            Ld h11 a2 (Value.int .i64) fun r0_0 =>
                            Ld h11 (a2.add 1) (Value.int .i64) fun r0_1 =>
                            Ld h11 (a2.add 2) (Value.bool) fun r0_2 =>
                            Ld h11 (a2.add 3) (Sl.v) fun r0_3 =>
                            Ld h11 (a2.add 4) (Sl.v) fun r0_4 =>
                            Ld h11 (a2.add 5) (Sl.v) fun r0_5 =>
                            K r0_0 r0_1 r0_2 r0_3 r0_4 r0_5 h11) Kp))))))))))))

theorem Fn10.of {o_0 : Int} {o_1 : Sl} {o_2 : Sl} {o_3 : Sl} {o_4 : Int} {o_5 : Int} {o_6 : Int} {o_7 : Bool} {h : Hp} {K : Int → Int → Bool → Sl → Sl → Sl → Hp → Prop} {Kp : List PanicEntry → Hp → Prop} (H : S10 o_0 o_1 o_2 o_3 o_4 o_5 o_6 o_7 h K Kp) : Fn10 o_0 o_1 o_2 o_3 o_4 o_5 o_6 o_7 h K Kp :=
  Eq.mp (by kernel_rfl) (fn_of (P := Tryd.prog) (ann := ann10) (D := DrawSem Tryd.prog ord10) (drawOk _) (c := code10) (zs := [(.agg #[(.int .i64 (0 : Int)), (.int .i64 (0 : Int)), (.bool false), (.slice none 0 0), (.slice none 0 0), (.slice none 0 0)])]) (args := [(.agg #[(.int .i64 o_0), (Sl.v o_1), (Sl.v o_2), (Sl.v o_3), (.int .i64 o_4), (.int .i64 o_5), (.int .i64 o_6), (.bool o_7)])]) (Kv := kv10 K) (Kp := Kp) (h := h) Tryd.func10 (by kernel_rfl) (Eq.mp (by kernel_rfl) H))

end Go.Proofs.YtajgmklgfdgnlaaDoor
