/- What the functions do, printed by program (gen.py) in the words of ShCore; each text is held against the loaded program by the kernel. -/
import Derived.Test.YtajgmklgfdgnlaaDoorF
set_option linter.unusedVariables false
set_option maxRecDepth 100000
namespace Go.Proofs.YtajgmklgfdgnlaaDoor
open Go Go.Sh
/-! ### 23: colonnade/colonnadelaw02.ones -/

noncomputable def code23 : Code := Tryd.f23.body.getD .skip

def ann23 : Ann := [(13, [0, 2, 4, 6, 8, 10, 11]), (29, [0, 2, 4, 8, 10, 11, 17]), (4018, [0, 2, 4, 6, 8, 10, 11, 17, 18, 85]), (22, [6, 10, 17, 18, 20, 21]), (2023, [6, 10, 17, 18, 20, 21, 22]), (2003, [0, 2, 4, 6, 8, 10, 11, 12]), (8, [0, 2, 4, 6, 8, 10, 11, 12, 13, 45, 46])]

def ord23 : List (Nat × List Nat × List Nat) := []

def kv23 (K : Bool → Hp → Prop) : Value → Hp → Prop := fun v h => match v with | .bool r0 => (K r0 h) | _ => False

def q23 (K : Bool → Hp → Prop) : Qt := retQ Tryd.prog Tryd.f23.results.toList [(.bool false)] (kv23 K)

def JT23_2 (x0 : Sl) (x2 : Int) (x4 : Int) (x8 : Addr) (x10 : Addr) (x11 : Int) (x17 : Addr) (K : Bool → Hp → Prop) (Kp : List PanicEntry → Hp → Prop) (h : Hp) : Prop :=
  Ld h x8 (Value.int .i64) fun t124 =>
  Fn34 x0 x2 t124 x4 h (fun t126_0 t126_1 h1 =>
    If (x11 == x4) (
      Ld h1 x17 (Value.int .i64) fun t133 =>
      If (t133 == x4) (
        If (t126_1 == (2 : Int)) (
          If (decide (x4 > (0 : Int))) (
            St h1 x10 (.bool true) fun h2 =>
            Ld h2 x10 (Value.bool) fun r0 =>
            K r0 h2) (
            Ld h1 x8 (Value.int .i64) fun t147 =>
            Fn21 x0 x2 t147 true h1 (fun t148 h2 =>
              St h2 x10 (.bool (t148 == (-1 : Int))) fun h3 =>
              Ld h3 x10 (Value.bool) fun r0 =>
              K r0 h3) Kp)) (
          St h1 x10 (.bool false) fun h2 =>
          Ld h2 x10 (Value.bool) fun r0 =>
          K r0 h2)) (
        St h1 x10 (.bool false) fun h2 =>
        Ld h2 x10 (Value.bool) fun r0 =>
        K r0 h2)) (
      St h1 x10 (.bool false) fun h2 =>
      Ld h2 x10 (Value.bool) fun r0 =>
      K r0 h2)) Kp

def J23_2 (x0 : Sl) (x2 : Int) (x4 : Int) (x8 : Addr) (x10 : Addr) (x11 : Int) (x17 : Addr) (K : Bool → Hp → Prop) (Kp : List PanicEntry → Hp → Prop) (h : Hp) : Prop :=
  sem Tryd.prog ann23 (DrawSem Tryd.prog ord23) none (sub [1, 1, 1, 1, 1, 1, 1] code23) (ctxQ Tryd.prog ann23 (DrawSem Tryd.prog ord23) none Kp [1, 1, 1, 1, 1, 1, 1] code23 [] (q23 K)) Kp ([some (Sl.v x0), none, some (.int .i64 x2), none, some (.int .i64 x4), none, none, none, some (.pointer (some x8)), none, some (.pointer (some x10)), some (.int .i64 x11), none, none, none, none, none, some (.pointer (some x17)), none, none, none, none, none, none, none, none, none, none, none, none, none, none, none, none, none, none, none, none, none, none, none, none, none, none, none, none, none, none, none, none, none, none, none, none, none, none, none, none, none, none, none, none, none, none, none, none, none, none, none, none, none, none, none, none, none, none, none, none, none, none, none, none, none, none, none, none, none, none, none, none, none, none, none, none, none, none, none, none, none, none, none, none, none, none, none, none, none, none, none, none, none, none, none, none, none, none, none, none, none, none, none, none, none, none, none, none, none, none, none, none, none, none, none, none, none, none, none, none, none, none, none, none, none, none, none, none, none, none, none, none, none, none]) h

theorem J23_2.of {x0 : Sl} {x2 : Int} {x4 : Int} {x8 : Addr} {x10 : Addr} {x11 : Int} {x17 : Addr} {K : Bool → Hp → Prop} {Kp : List PanicEntry → Hp → Prop} {h : Hp} (H : JT23_2 x0 x2 x4 x8 x10 x11 x17 K Kp h) : J23_2 x0 x2 x4 x8 x10 x11 x17 K Kp h :=
  Eq.mp (by kernel_rfl) H

abbrev mk23_5 (x6 : Addr) (x10 : Addr) (x17 : Addr) (x18 : Addr) (x20 : Int) (x21 : Int) (x22 : Int) : Fr := [none, none, none, none, none, none, some (.pointer (some x6)), none, none, none, some (.pointer (some x10)), none, none, none, none, none, none, some (.pointer (some x17)), some (.pointer (some x18)), none, some (.int .i64 x20), some (.int .i64 x21), some (.int .i64 x22), none, none, none, none, none, none, none, none, none, none, none, none, none, none, none, none, none, none, none, none, none, none, none, none, none, none, none, none, none, none, none, none, none, none, none, none, none, none, none, none, none, none, none, none, none, none, none, none, none, none, none, none, none, none, none, none, none, none, none, none, none, none, none, none, none, none, none, none, none, none, none, none, none, none, none, none, none, none, none, none, none, none, none, none, none, none, none, none, none, none, none, none, none, none, none, none, none, none, none, none, none, none, none, none, none, none, none, none, none, none, none, none, none, none, none, none, none, none, none, none, none, none, none, none, none, none, none, none, none]

def T23_5 (x6 : Addr) (x10 : Addr) (x17 : Addr) (x18 : Addr) (x20 : Int) (x21 : Int) (lb : Nat) (NB : Hp → Prop) (XB : Code → Hp → Prop) (N1 : Fr → Hp → Prop) (x22 : Int) (h : Hp) : Prop :=
  Wr .i64 (x20 + x21) fun t106 =>
  If (decide (x22 < t106)) (
    Ld h x6 (Sl.v) fun t110 =>
    Ix t110.a t110.n 1 x22 fun a112 =>
    Ld h a112 (Value.bool) fun t113 =>
    If (!t113) (
      St h x10 (.bool false) fun h1 =>
      XB .ret h1) (
      Wr .i64 (x22 + (1 : Int)) fun t109 =>
      N1 (mk23_5 x6 x10 x17 x18 x20 x21 t109) h)) (
    Ld h x17 (Value.int .i64) fun t115 =>
    Wr .i64 (t115 + x21) fun t117 =>
    St h x17 (.int .i64 t117) fun h1 =>
    Wr .i64 (x20 + x21) fun t120 =>
    St h1 x18 (.int .i64 t120) fun h2 =>
    NB h2)

def L23_5 (x6 : Addr) (x10 : Addr) (x17 : Addr) (x18 : Addr) (x20 : Int) (x21 : Int) (lb : Nat) (NB : Hp → Prop) (XB : Code → Hp → Prop) (x22 : Int) (h : Hp) : Prop :=
  LoopH (fun N fr h => sem Tryd.prog ann23 (DrawSem Tryd.prog ord23) (some lb) (sub [0, 1, 0, 1, 0, 0] (sub [1, 1, 1, 1, 1, 1, 0, 1, 0, 1] code23)) (thenQ (fun fr' h' => N (Ann.find ann23 2023 fr') h') (ctxQ Tryd.prog ann23 (DrawSem Tryd.prog ord23) (some lb) NoP [0, 1, 0, 1, 0] (sub [1, 1, 1, 1, 1, 1, 0, 1, 0, 1] code23) [] (roundQ NB XB))) NoP fr h) (mk23_5 x6 x10 x17 x18 x20 x21 x22) h

theorem L23_5.rule {x6 : Addr} {x10 : Addr} {x17 : Addr} {x18 : Addr} {x20 : Int} {x21 : Int} {lb : Nat} {NB : Hp → Prop} {XB : Code → Hp → Prop} (I : Int → Hp → Prop) (μ : Int → Hp → Nat) {x22 : Int} {h : Hp} (h0 : I x22 h)
    (step : ∀ (x22 : Int) (h : Hp), I x22 h → ∀ N1 : Fr → Hp → Prop, (∀ (x22' : Int) (h' : Hp), I x22' h' → μ x22' h' < μ x22 h → N1 (mk23_5 x6 x10 x17 x18 x20 x21 x22') h') → T23_5 x6 x10 x17 x18 x20 x21 lb NB XB N1 x22 h) : L23_5 x6 x10 x17 x18 x20 x21 lb NB XB x22 h :=
  loop_rule (σ := Int) (fun s => mk23_5 x6 x10 x17 x18 x20 x21 s) (fun N s h => T23_5 x6 x10 x17 x18 x20 x21 lb NB XB N s h) (fun N s h => by kernel_rfl) (fun s h => I s h) (fun s h => μ s h) (s0 := x22) h0 (fun s h hI N hN => step s h hI N (fun x22' h' hI' hl => hN x22' h' hI' hl))

def JT23_4 (x6 : Addr) (x10 : Addr) (x17 : Addr) (x18 : Addr) (x20 : Int) (x21 : Int) (lb : Nat) (NB : Hp → Prop) (XB : Code → Hp → Prop) (h : Hp) : Prop :=
  L23_5 x6 x10 x17 x18 x20 x21 lb NB XB x20 h

def J23_4 (x6 : Addr) (x10 : Addr) (x17 : Addr) (x18 : Addr) (x20 : Int) (x21 : Int) (lb : Nat) (NB : Hp → Prop) (XB : Code → Hp → Prop) (h : Hp) : Prop :=
  sem Tryd.prog ann23 (DrawSem Tryd.prog ord23) (some lb) (sub [0, 1] (sub [1, 1, 1, 1, 1, 1, 0, 1, 0, 1] code23)) (ctxQ Tryd.prog ann23 (DrawSem Tryd.prog ord23) (some lb) NoP [0, 1] (sub [1, 1, 1, 1, 1, 1, 0, 1, 0, 1] code23) [] (roundQ NB XB)) NoP ([none, none, none, none, none, none, some (.pointer (some x6)), none, none, none, some (.pointer (some x10)), none, none, none, none, none, none, some (.pointer (some x17)), some (.pointer (some x18)), none, some (.int .i64 x20), some (.int .i64 x21), none, none, none, none, none, none, none, none, none, none, none, none, none, none, none, none, none, none, none, none, none, none, none, none, none, none, none, none, none, none, none, none, none, none, none, none, none, none, none, none, none, none, none, none, none, none, none, none, none, none, none, none, none, none, none, none, none, none, none, none, none, none, none, none, none, none, none, none, none, none, none, none, none, none, none, none, none, none, none, none, none, none, none, none, none, none, none, none, none, none, none, none, none, none, none, none, none, none, none, none, none, none, none, none, none, none, none, none, none, none, none, none, none, none, none, none, none, none, none, none, none, none, none, none, none, none, none, none, none, none]) h

theorem J23_4.of {x6 : Addr} {x10 : Addr} {x17 : Addr} {x18 : Addr} {x20 : Int} {x21 : Int} {lb : Nat} {NB : Hp → Prop} {XB : Code → Hp → Prop} {h : Hp} (H : JT23_4 x6 x10 x17 x18 x20 x21 lb NB XB h) : J23_4 x6 x10 x17 x18 x20 x21 lb NB XB h :=
  Eq.mp (by kernel_rfl) H

def RT23_3 (x0 : Sl) (x2 : Int) (x4 : Int) (x6 : Addr) (x8 : Addr) (x10 : Addr) (x11 : Int) (x17 : Addr) (x18 : Addr) (x85 : Value) (lb : Nat) (NB : Hp → Prop) (XB : Code → Hp → Prop) (y86 : Int) (y87 : Int) (h : Hp) : Prop :=
  Busy lb h h fun h1 =>
  Ld h1 x18 (Value.int .i64) fun t89 =>
  If (decide (y86 ≤ t89)) (
    St h1 x10 (.bool false) fun h2 =>
    XB .ret h2) (
    If (decide (y87 < (1 : Int))) (
      St h1 x10 (.bool false) fun h2 =>
      XB .ret h2) (
      Wr .i64 (y86 + y87) fun t98 =>
      Ld h1 x8 (Value.int .i64) fun t99 =>
      If (decide (t98 > t99)) (
        St h1 x10 (.bool false) fun h2 =>
        XB .ret h2) (
        J23_4 x6 x10 x17 x18 y86 y87 lb NB XB h1)))

def R23_3 (x0 : Sl) (x2 : Int) (x4 : Int) (x6 : Addr) (x8 : Addr) (x10 : Addr) (x11 : Int) (x17 : Addr) (x18 : Addr) (x85 : Value) (K : Bool → Hp → Prop) (Kp : List PanicEntry → Hp → Prop) (h : Hp) : Prop :=
  sem Tryd.prog ann23 (DrawSem Tryd.prog ord23) none (sub [1, 1, 1, 1, 1, 1, 0, 1, 0] code23) (ctxQ Tryd.prog ann23 (DrawSem Tryd.prog ord23) none Kp [1, 1, 1, 1, 1, 1, 0, 1, 0] code23 [] (q23 K)) Kp ([some (Sl.v x0), none, some (.int .i64 x2), none, some (.int .i64 x4), none, some (.pointer (some x6)), none, some (.pointer (some x8)), none, some (.pointer (some x10)), some (.int .i64 x11), none, none, none, none, none, some (.pointer (some x17)), some (.pointer (some x18)), none, none, none, none, none, none, none, none, none, none, none, none, none, none, none, none, none, none, none, none, none, none, none, none, none, none, none, none, none, none, none, none, none, none, none, none, none, none, none, none, none, none, none, none, none, none, none, none, none, none, none, none, none, none, none, none, none, none, none, none, none, none, none, none, none, none, some x85, none, none, none, none, none, none, none, none, none, none, none, none, none, none, none, none, none, none, none, none, none, none, none, none, none, none, none, none, none, none, none, none, none, none, none, none, none, none, none, none, none, none, none, none, none, none, none, none, none, none, none, none, none, none, none, none, none, none, none, none, none, none, none, none, none, none]) h

def RD23_3 (x0 : Sl) (x2 : Int) (x4 : Int) (x6 : Addr) (x8 : Addr) (x10 : Addr) (x11 : Int) (x17 : Addr) (x18 : Addr) (x85 : Value) (K : Bool → Hp → Prop) (Kp : List PanicEntry → Hp → Prop) (h : Hp) : Prop :=
  J23_2 x0 x2 x4 x8 x10 x11 x17 K Kp h

def RX23_3_ret (x0 : Sl) (x2 : Int) (x4 : Int) (x6 : Addr) (x8 : Addr) (x10 : Addr) (x11 : Int) (x17 : Addr) (x18 : Addr) (x85 : Value) (K : Bool → Hp → Prop) (Kp : List PanicEntry → Hp → Prop) (h : Hp) : Prop :=
  Ld h x10 (Value.bool) fun r0 =>
  K r0 h

theorem R23_3.rule {x0 : Sl} {x2 : Int} {x4 : Int} {x6 : Addr} {x8 : Addr} {x10 : Addr} {x11 : Int} {x17 : Addr} {x18 : Addr} {x85 : Value} {K : Bool → Hp → Prop} {Kp : List PanicEntry → Hp → Prop} {h : Hp} {α : Type} {xs : List α} (e0 : α → Int) (e1 : α → Int) {Pre : Hp → Prop} (hit : Iter Tryd.prog x85 xs (fun y => [(.int .i64 (e0 y)), (.int .i64 (e1 y))]) Pre) (I : List α → Hp → Prop) (I_ret : List α → Hp → Prop) (h0 : I [] h)
    (hG : ∀ pre h1 h2, Grw h1 h2 → I pre h1 → I pre h2) (hI : ∀ l pre h1 h2, h.size ≤ l → Tw l h1 h2 → I pre h1 → I pre h2) (hPre : ∀ pre h1, I pre h1 → Pre h1) (hG_ret : ∀ pre h1 h2, Grw h1 h2 → I_ret pre h1 → I_ret pre h2) (hI_ret : ∀ l pre h1 h2, h.size ≤ l → Tw l h1 h2 → I_ret pre h1 → I_ret pre h2) 
    (hbody : ∀ l pre y suf h1, xs = pre ++ y :: suf → h.size ≤ l → (∃ r, h1[l]? = some (.loop r)) → I pre h1 → ∀ (N : Hp → Prop) (X : Code → Hp → Prop), (∀ h' h2, Tw l h1 h' → h2[l]? = h'[l]? → I (pre ++ [y]) h2 → N h2) → (∀ h' h2, Tw l h1 h' → h2[l]? = h'[l]? → I_ret (pre ++ [y]) h2 → X .ret h2) → RT23_3 x0 x2 x4 x6 x8 x10 x11 x17 x18 x85 l N X (e0 y) (e1 y) h1)
    (done : ∀ h2, I xs h2 → RD23_3 x0 x2 x4 x6 x8 x10 x11 x17 x18 x85 K Kp h2) (stop_ret : ∀ pre suf h2, xs = pre ++ suf → I_ret pre h2 → RX23_3_ret x0 x2 x4 x6 x8 x10 x11 x17 x18 x85 K Kp h2) : R23_3 x0 x2 x4 x6 x8 x10 x11 x17 x18 x85 K Kp h :=
  Eq.mp (by kernel_rfl) (range_rule (P := Tryd.prog) (ann := ann23) (D := (DrawSem Tryd.prog ord23)) (fun _ => drawOk _) (rd := none) (g := .tmp 85) (ps := #[86, 87]) (assign := sub [1, 1, 1, 1, 1, 1, 0, 1, 0, 0] code23) (body := sub [1, 1, 1, 1, 1, 1, 0, 1, 0, 1] code23) (Q := ctxQ Tryd.prog ann23 (DrawSem Tryd.prog ord23) none Kp [1, 1, 1, 1, 1, 1, 0, 1, 0] code23 [] (q23 K)) (Kp := Kp) (fr := [some (Sl.v x0), none, some (.int .i64 x2), none, some (.int .i64 x4), none, some (.pointer (some x6)), none, some (.pointer (some x8)), none, some (.pointer (some x10)), some (.int .i64 x11), none, none, none, none, none, some (.pointer (some x17)), some (.pointer (some x18)), none, none, none, none, none, none, none, none, none, none, none, none, none, none, none, none, none, none, none, none, none, none, none, none, none, none, none, none, none, none, none, none, none, none, none, none, none, none, none, none, none, none, none, none, none, none, none, none, none, none, none, none, none, none, none, none, none, none, none, none, none, none, none, none, none, none, some x85, none, none, none, none, none, none, none, none, none, none, none, none, none, none, none, none, none, none, none, none, none, none, none, none, none, none, none, none, none, none, none, none, none, none, none, none, none, none, none, none, none, none, none, none, none, none, none, none, none, none, none, none, none, none, none, none, none, none, none, none, none, none, none, none, none, none]) (h := h) (fv := x85) (by kernel_rfl)
    hit (fun _ => rfl) trivial I (fun c => match c with | .ret => I_ret | _ => fun _ _ => False) h0 hG (by intro c pre h1 h2 hg hi; revert hi; cases c with
      | ret => exact hG_ret pre h1 h2 hg
      | _ => exact fun hi => hi.elim) hI (by intro l c pre h1 h2 hl ht hi; revert hi; cases c with
      | ret => exact hI_ret l pre h1 h2 hl ht
      | _ => exact fun hi => hi.elim) hPre
    (by
      intro l pre y suf h1 e1 e2 e3 e4 N X hN hX
      exact Eq.mp (by kernel_rfl) (hbody l pre y suf h1 e1 e2 e3 e4 N X hN (hX .ret)))
    (fun h2 hi => Eq.mp (by kernel_rfl) (done h2 hi)) (by
      intro c pre suf h2 e1 hi
      cases c with
      | ret => exact Eq.mp (by kernel_rfl) (stop_ret pre suf h2 e1 hi)
      | _ => exact hi.elim))

def JT23_1 (x0 : Sl) (x2 : Int) (x4 : Int) (x6 : Addr) (x8 : Addr) (x10 : Addr) (x11 : Int) (K : Bool → Hp → Prop) (Kp : List PanicEntry → Hp → Prop) (h : Hp) : Prop :=
  New h #[(.int .i64 (0 : Int))] 3 fun a17 h1 =>
  New h1 #[(.int .i64 (0 : Int))] 3 fun a18 h2 =>
  St h2 a17 (.int .i64 (0 : Int)) fun h3 =>
  St h3 a18 (.int .i64 (-1 : Int)) fun h4 =>
  Ld h4 x8 (Value.int .i64) fun t81 =>
  Fn8 x0 x2 t81 h4 (fun t82 h5 =>
    FnNil t82 fun t84 =>
    If t84 (
      St h5 x10 (.bool false) fun h6 =>
      Ld h6 x10 (Value.bool) fun r0 =>
      K r0 h6) (
      R23_3 x0 x2 x4 x6 x8 x10 x11 a17 a18 t82 K Kp h5)) Kp

def J23_1 (x0 : Sl) (x2 : Int) (x4 : Int) (x6 : Addr) (x8 : Addr) (x10 : Addr) (x11 : Int) (K : Bool → Hp → Prop) (Kp : List PanicEntry → Hp → Prop) (h : Hp) : Prop :=
  sem Tryd.prog ann23 (DrawSem Tryd.prog ord23) none (sub [1, 1, 1] code23) (ctxQ Tryd.prog ann23 (DrawSem Tryd.prog ord23) none Kp [1, 1, 1] code23 [] (q23 K)) Kp ([some (Sl.v x0), none, some (.int .i64 x2), none, some (.int .i64 x4), none, some (.pointer (some x6)), none, some (.pointer (some x8)), none, some (.pointer (some x10)), some (.int .i64 x11), none, none, none, none, none, none, none, none, none, none, none, none, none, none, none, none, none, none, none, none, none, none, none, none, none, none, none, none, none, none, none, none, none, none, none, none, none, none, none, none, none, none, none, none, none, none, none, none, none, none, none, none, none, none, none, none, none, none, none, none, none, none, none, none, none, none, none, none, none, none, none, none, none, none, none, none, none, none, none, none, none, none, none, none, none, none, none, none, none, none, none, none, none, none, none, none, none, none, none, none, none, none, none, none, none, none, none, none, none, none, none, none, none, none, none, none, none, none, none, none, none, none, none, none, none, none, none, none, none, none, none, none, none, none, none, none, none, none, none, none]) h

theorem J23_1.of {x0 : Sl} {x2 : Int} {x4 : Int} {x6 : Addr} {x8 : Addr} {x10 : Addr} {x11 : Int} {K : Bool → Hp → Prop} {Kp : List PanicEntry → Hp → Prop} {h : Hp} (H : JT23_1 x0 x2 x4 x6 x8 x10 x11 K Kp h) : J23_1 x0 x2 x4 x6 x8 x10 x11 K Kp h :=
  Eq.mp (by kernel_rfl) H

abbrev mk23_6 (x0 : Sl) (x2 : Int) (x4 : Int) (x6 : Addr) (x8 : Addr) (x10 : Addr) (x11 : Int) (x12 : Int) : Fr := [some (Sl.v x0), none, some (.int .i64 x2), none, some (.int .i64 x4), none, some (.pointer (some x6)), none, some (.pointer (some x8)), none, some (.pointer (some x10)), some (.int .i64 x11), some (.int .i64 x12), none, none, none, none, none, none, none, none, none, none, none, none, none, none, none, none, none, none, none, none, none, none, none, none, none, none, none, none, none, none, none, none, none, none, none, none, none, none, none, none, none, none, none, none, none, none, none, none, none, none, none, none, none, none, none, none, none, none, none, none, none, none, none, none, none, none, none, none, none, none, none, none, none, none, none, none, none, none, none, none, none, none, none, none, none, none, none, none, none, none, none, none, none, none, none, none, none, none, none, none, none, none, none, none, none, none, none, none, none, none, none, none, none, none, none, none, none, none, none, none, none, none, none, none, none, none, none, none, none, none, none, none, none, none, none, none, none, none, none]

def JT23_7 (x0 : Sl) (x2 : Int) (x4 : Int) (x6 : Addr) (x8 : Addr) (x10 : Addr) (x11 : Int) (x12 : Int) (x13 : Bool) (x45 : Int) (x46 : Bool) (N1 : Fr → Hp → Prop) (K : Bool → Hp → Prop) (Kp : List PanicEntry → Hp → Prop) (h : Hp) : Prop :=
  If (!x13) (
    Wr .i64 (x12 + (1 : Int)) fun t29 =>
    N1 (mk23_6 x0 x2 x4 x6 x8 x10 x11 t29) h) (
    Ld h x8 (Value.int .i64) fun t53 =>
    Fn34 x0 x2 t53 x11 h (fun t55_0 t55_1 h1 =>
      If (t55_0 != x12) (
        St h1 x10 (.bool false) fun h2 =>
        Ld h2 x10 (Value.bool) fun r0 =>
        K r0 h2) (
        If (t55_1 != (0 : Int)) (
          St h1 x10 (.bool false) fun h2 =>
          Ld h2 x10 (Value.bool) fun r0 =>
          K r0 h2) (
          If (x11 == (0 : Int)) (
            Ld h1 x8 (Value.int .i64) fun t71 =>
            Fn21 x0 x2 t71 true h1 (fun t72 h2 =>
              If (t72 != x12) (
                St h2 x10 (.bool false) fun h3 =>
                Ld h3 x10 (Value.bool) fun r0 =>
                K r0 h3) (
                Wr .i64 (x11 + (1 : Int)) fun t78 =>
                Wr .i64 (x12 + (1 : Int)) fun t29 =>
                N1 (mk23_6 x0 x2 x4 x6 x8 x10 t78 t29) h2)) Kp) (
            Wr .i64 (x11 + (1 : Int)) fun t78 =>
            Wr .i64 (x12 + (1 : Int)) fun t29 =>
            N1 (mk23_6 x0 x2 x4 x6 x8 x10 t78 t29) h1)))) Kp)

def J23_7 (x0 : Sl) (x2 : Int) (x4 : Int) (x6 : Addr) (x8 : Addr) (x10 : Addr) (x11 : Int) (x12 : Int) (x13 : Bool) (x45 : Int) (x46 : Bool) (N1 : Fr → Hp → Prop) (K : Bool → Hp → Prop) (Kp : List PanicEntry → Hp → Prop) (h : Hp) : Prop :=
  sem Tryd.prog ann23 (DrawSem Tryd.prog ord23) none (sub [1, 1, 0, 1, 0, 0, 1, 0, 0, 1, 1] code23) (ctxQ Tryd.prog ann23 (DrawSem Tryd.prog ord23) none Kp [1, 1, 0, 1, 0, 0, 1, 0, 0, 1, 1] code23 [N1] (q23 K)) Kp ([some (Sl.v x0), none, some (.int .i64 x2), none, some (.int .i64 x4), none, some (.pointer (some x6)), none, some (.pointer (some x8)), none, some (.pointer (some x10)), some (.int .i64 x11), some (.int .i64 x12), some (.bool x13), none, none, none, none, none, none, none, none, none, none, none, none, none, none, none, none, none, none, none, none, none, none, none, none, none, none, none, none, none, none, none, some (.int .i64 x45), some (.bool x46), none, none, none, none, none, none, none, none, none, none, none, none, none, none, none, none, none, none, none, none, none, none, none, none, none, none, none, none, none, none, none, none, none, none, none, none, none, none, none, none, none, none, none, none, none, none, none, none, none, none, none, none, none, none, none, none, none, none, none, none, none, none, none, none, none, none, none, none, none, none, none, none, none, none, none, none, none, none, none, none, none, none, none, none, none, none, none, none, none, none, none, none, none, none, none, none, none, none, none, none, none, none, none, none, none]) h

theorem J23_7.of {x0 : Sl} {x2 : Int} {x4 : Int} {x6 : Addr} {x8 : Addr} {x10 : Addr} {x11 : Int} {x12 : Int} {x13 : Bool} {x45 : Int} {x46 : Bool} {N1 : Fr → Hp → Prop} {K : Bool → Hp → Prop} {Kp : List PanicEntry → Hp → Prop} {h : Hp} (H : JT23_7 x0 x2 x4 x6 x8 x10 x11 x12 x13 x45 x46 N1 K Kp h) : J23_7 x0 x2 x4 x6 x8 x10 x11 x12 x13 x45 x46 N1 K Kp h :=
  Eq.mp (by kernel_rfl) H

def T23_6 (x0 : Sl) (x2 : Int) (x4 : Int) (x6 : Addr) (x8 : Addr) (x10 : Addr) (K : Bool → Hp → Prop) (Kp : List PanicEntry → Hp → Prop) (N1 : Fr → Hp → Prop) (x11 : Int) (x12 : Int) (h : Hp) : Prop :=
  Ld h x8 (Value.int .i64) fun t26 =>
  If (decide (x12 < t26)) (
    Wr .i64 (x2 + x12) fun t34 =>
    Fn29 x0 t34 h (fun t35_0 t35_1 h1 =>
      Ld h1 x6 (Sl.v) fun t39 =>
      Ix t39.a t39.n 1 x12 fun a41 =>
      Ld h1 a41 (Value.bool) fun t42 =>
      If (!(t35_0 == t42)) (
        St h1 x10 (.bool false) fun h2 =>
        Ld h2 x10 (Value.bool) fun r0 =>
        K r0 h2) (
        If (t35_1 != (0 : Int)) (
          St h1 x10 (.bool false) fun h2 =>
          Ld h2 x10 (Value.bool) fun r0 =>
          K r0 h2) (
          J23_7 x0 x2 x4 x6 x8 x10 x11 x12 t35_0 t35_1 (t35_1 != (0 : Int)) N1 K Kp h1))) Kp) (
    J23_1 x0 x2 x4 x6 x8 x10 x11 K Kp h)

def L23_6 (x0 : Sl) (x2 : Int) (x4 : Int) (x6 : Addr) (x8 : Addr) (x10 : Addr) (K : Bool → Hp → Prop) (Kp : List PanicEntry → Hp → Prop) (x11 : Int) (x12 : Int) (h : Hp) : Prop :=
  LoopH (fun N fr h => sem Tryd.prog ann23 (DrawSem Tryd.prog ord23) none (sub [1, 1, 0, 1, 0, 0] code23) (thenQ (fun fr' h' => N (Ann.find ann23 2003 fr') h') (ctxQ Tryd.prog ann23 (DrawSem Tryd.prog ord23) none Kp [1, 1, 0, 1, 0] code23 [] (q23 K))) Kp fr h) (mk23_6 x0 x2 x4 x6 x8 x10 x11 x12) h

theorem L23_6.rule {x0 : Sl} {x2 : Int} {x4 : Int} {x6 : Addr} {x8 : Addr} {x10 : Addr} {K : Bool → Hp → Prop} {Kp : List PanicEntry → Hp → Prop} (I : Int → Int → Hp → Prop) (μ : Int → Int → Hp → Nat) {x11 : Int} {x12 : Int} {h : Hp} (h0 : I x11 x12 h)
    (step : ∀ (x11 : Int) (x12 : Int) (h : Hp), I x11 x12 h → ∀ N1 : Fr → Hp → Prop, (∀ (x11' : Int) (x12' : Int) (h' : Hp), I x11' x12' h' → μ x11' x12' h' < μ x11 x12 h → N1 (mk23_6 x0 x2 x4 x6 x8 x10 x11' x12') h') → T23_6 x0 x2 x4 x6 x8 x10 K Kp N1 x11 x12 h) : L23_6 x0 x2 x4 x6 x8 x10 K Kp x11 x12 h :=
  loop_rule (σ := Int × Int) (fun s => mk23_6 x0 x2 x4 x6 x8 x10 s.1 s.2) (fun N s h => T23_6 x0 x2 x4 x6 x8 x10 K Kp N s.1 s.2 h) (fun N s h => by kernel_rfl) (fun s h => I s.1 s.2 h) (fun s h => μ s.1 s.2 h) (s0 := ⟨x11, x12⟩) h0 (fun s h hI N hN => step s.1 s.2 h hI N (fun x11' x12' h' hI' hl => hN ⟨x11', x12'⟩ h' hI' hl))

def S23 (a : Sl) (l : Sl) (fromv : Int) (n : Int) (many : Int) (h : Hp) (K : Bool → Hp → Prop) (Kp : List PanicEntry → Hp → Prop) : Prop :=
  New h #[(Sl.v l)] 36 fun a6 h1 =>
  New h1 #[(.int .i64 n)] 3 fun a8 h2 =>
  New h2 #[(.bool false)] 4 fun a10 h3 =>
  L23_6 a fromv many a6 a8 a10 K Kp (0 : Int) (0 : Int) h3

theorem Fn23.of {a : Sl} {l : Sl} {fromv : Int} {n : Int} {many : Int} {h : Hp} {K : Bool → Hp → Prop} {Kp : List PanicEntry → Hp → Prop} (H : S23 a l fromv n many h K Kp) : Fn23 a l fromv n many h K Kp :=
  Eq.mp (by kernel_rfl) (fn_of (P := Tryd.prog) (ann := ann23) (D := DrawSem Tryd.prog ord23) (drawOk _) (c := code23) (zs := [(.bool false)]) (args := [(Sl.v a), (Sl.v l), (.int .i64 fromv), (.int .i64 n), (.int .i64 many)]) (Kv := kv23 K) (Kp := Kp) (h := h) Tryd.func23 (by kernel_rfl) (Eq.mp (by kernel_rfl) H))

/-! ### 24: colonnade/bits.Make -/

noncomputable def code24 : Code := Tryd.f24.body.getD .skip

def ann24 : Ann := [(2003, [3, 10, 11, 12])]

def ord24 : List (Nat × List Nat × List Nat) := [(6, [0, 1, 2, 3, 4, 5, 6, 7, 8, 9, 10], [0, 0, 2, 7, 15, 0, 32, 96, 255, 511, 1023])]

def kv24 (K : Sl → Hp → Prop) : Value → Hp → Prop := fun v h => match v with | .slice r0a r0n r0c => (let r0 : Sl := ⟨r0a, r0n, r0c⟩; K r0 h) | _ => False

def q24 (K : Sl → Hp → Prop) : Qt := retQ Tryd.prog Tryd.f24.results.toList [(.slice none 0 0)] (kv24 K)

abbrev mk24_1 (x3 : Sl) (x10 : Sl) (x11 : Int) (x12 : Int) : Fr := [none, none, none, some (Sl.v x3), none, none, none, none, none, none, some (Sl.v x10), some (.int .i64 x11), some (.int .i64 x12), none, none, none, none, none, none, none, none, none, none, none, none, none, none, none, none, none]

def T24_1 (x3 : Sl) (x10 : Sl) (x11 : Int) (K : Sl → Hp → Prop) (Kp : List PanicEntry → Hp → Prop) (N1 : Fr → Hp → Prop) (x12 : Int) (h : Hp) : Prop :=
  If (decide (x12 < x11)) (
    Ix x10.a x10.n 1 x12 fun a15 =>
    Ld h a15 (Value.bool) fun t16 =>
    If t16 (
      Dv (8 : Int) <| Wr .i64 (Int.tdiv x12 (8 : Int)) fun t20 =>
      Ix x3.a x3.n 1 t20 fun a21 =>
      Ld h a21 (Value.int .u8) fun t22 =>
      Dv (8 : Int) <| Lt (Int.tmod x12 (8 : Int)) fun t24 =>
      Nn t24 <| Wr .u8 ((1 : Int) * 2 ^ (min (Int.toNat t24) (IntKind.bits .u8))) fun t25 =>
      Lt (bitsV .or .u8 t22 t25) fun t26 =>
      Ix x3.a x3.n 1 t20 fun a27 =>
      St h a27 (.int .u8 t26) fun h1 =>
      Wr .i64 (x12 + (1 : Int)) fun t28 =>
      N1 (mk24_1 x3 x10 x11 t28) h1) (
      Wr .i64 (x12 + (1 : Int)) fun t28 =>
      N1 (mk24_1 x3 x10 x11 t28) h)) (
    K x3 h)

def L24_1 (x3 : Sl) (x10 : Sl) (x11 : Int) (K : Sl → Hp → Prop) (Kp : List PanicEntry → Hp → Prop) (x12 : Int) (h : Hp) : Prop :=
  LoopH (fun N fr h => sem Tryd.prog ann24 (DrawSem Tryd.prog ord24) none (sub [1, 1, 0, 1, 0, 0] code24) (thenQ (fun fr' h' => N (Ann.find ann24 2003 fr') h') (ctxQ Tryd.prog ann24 (DrawSem Tryd.prog ord24) none Kp [1, 1, 0, 1, 0] code24 [] (q24 K))) Kp fr h) (mk24_1 x3 x10 x11 x12) h

theorem L24_1.rule {x3 : Sl} {x10 : Sl} {x11 : Int} {K : Sl → Hp → Prop} {Kp : List PanicEntry → Hp → Prop} (I : Int → Hp → Prop) (μ : Int → Hp → Nat) {x12 : Int} {h : Hp} (h0 : I x12 h)
    (step : ∀ (x12 : Int) (h : Hp), I x12 h → ∀ N1 : Fr → Hp → Prop, (∀ (x12' : Int) (h' : Hp), I x12' h' → μ x12' h' < μ x12 h → N1 (mk24_1 x3 x10 x11 x12') h') → T24_1 x3 x10 x11 K Kp N1 x12 h) : L24_1 x3 x10 x11 K Kp x12 h :=
  loop_rule (σ := Int) (fun s => mk24_1 x3 x10 x11 s) (fun N s h => T24_1 x3 x10 x11 K Kp N s h) (fun N s h => by kernel_rfl) (fun s h => I s h) (fun s h => μ s h) (s0 := x12) h0 (fun s h hI N hN => step s h hI N (fun x12' h' hI' hl => hN x12' h' hI' hl))

def S24 (l : Sl) (h : Hp) (K : Sl → Hp → Prop) (Kp : List PanicEntry → Hp → Prop) : Prop :=
  Fn22 (l.n : Int) h (fun t8 h1 =>
    MkS h1 5 #[(.int .u8 (0 : Int))] 1 1 t8 t8 fun t9 h2 =>
    L24_1 t9 l (l.n : Int) K Kp (0 : Int) h2) Kp

theorem Fn24.of {l : Sl} {h : Hp} {K : Sl → Hp → Prop} {Kp : List PanicEntry → Hp → Prop} (H : S24 l h K Kp) : Fn24 l h K Kp :=
  Eq.mp (by kernel_rfl) (fn_of (P := Tryd.prog) (ann := ann24) (D := DrawSem Tryd.prog ord24) (drawOk _) (c := code24) (zs := [(.slice none 0 0)]) (args := [(Sl.v l)]) (Kv := kv24 K) (Kp := Kp) (h := h) Tryd.func24 (by kernel_rfl) (Eq.mp (by kernel_rfl) H))

/-! ### 25: colonnade/colonnadelaw02.morgan -/

noncomputable def code25 : Code := Tryd.f25.body.getD .skip

def ann25 : Ann := [(4, [0, 1, 5]), (11, [0, 1, 5, 6, 10, 12, 14]), (18, [10, 12, 14, 16, 18, 24])]

def ord25 : List (Nat × List Nat × List Nat) := []

def kv25 (K : Bool → Hp → Prop) : Value → Hp → Prop := fun v h => match v with | .bool r0 => (K r0 h) | _ => False

def q25 (K : Bool → Hp → Prop) : Qt := retQ Tryd.prog Tryd.f25.results.toList [(.bool false)] (kv25 K)

def JT25_3 (x10 : Sl) (x12 : Sl) (x14 : Sl) (x16 : Sl) (x18 : Sl) (x24 : Sl) (K : Bool → Hp → Prop) (Kp : List PanicEntry → Hp → Prop) (h : Hp) : Prop :=
  Fn12 (0 : Int) (0 : Int) false x10 (⟨none, 0, 0⟩ : Sl) (⟨none, 0, 0⟩ : Sl) (0 : Int) (0 : Int) false x14 (⟨none, 0, 0⟩ : Sl) (⟨none, 0, 0⟩ : Sl) h (fun t142 h1 =>
    If t142 (
      Fn12 (0 : Int) (0 : Int) false x16 (⟨none, 0, 0⟩ : Sl) (⟨none, 0, 0⟩ : Sl) (0 : Int) (0 : Int) false x18 (⟨none, 0, 0⟩ : Sl) (⟨none, 0, 0⟩ : Sl) h1 (fun t148 h2 =>
        If t148 (
          Fn12 (0 : Int) (0 : Int) false x24 (⟨none, 0, 0⟩ : Sl) (⟨none, 0, 0⟩ : Sl) (0 : Int) (0 : Int) false x12 (⟨none, 0, 0⟩ : Sl) (⟨none, 0, 0⟩ : Sl) h2 (fun t155 h3 =>
            K t155 h3) Kp) (
          K false h2)) Kp) (
      K false h1)) Kp

def J25_3 (x10 : Sl) (x12 : Sl) (x14 : Sl) (x16 : Sl) (x18 : Sl) (x24 : Sl) (K : Bool → Hp → Prop) (Kp : List PanicEntry → Hp → Prop) (h : Hp) : Prop :=
  sem Tryd.prog ann25 (DrawSem Tryd.prog ord25) none (sub [1, 1, 1, 1, 1, 1, 1, 1, 1, 1, 1, 1, 1, 1, 1] code25) (ctxQ Tryd.prog ann25 (DrawSem Tryd.prog ord25) none Kp [1, 1, 1, 1, 1, 1, 1, 1, 1, 1, 1, 1, 1, 1, 1] code25 [] (q25 K)) Kp ([none, none, none, none, none, none, none, none, none, none, some (Sl.v x10), none, some (Sl.v x12), none, some (Sl.v x14), none, some (Sl.v x16), none, some (Sl.v x18), none, none, none, none, none, some (Sl.v x24), none, none, none, none, none, none, none, none, none, none, none, none, none, none, none, none, none, none, none, none, none, none, none, none, none, none, none, none, none, none, none, none, none, none, none, none, none, none, none, none, none, none, none, none, none, none, none, none, none, none, none, none, none, none, none, none, none, none, none, none, none, none, none, none, none, none, none, none, none, none, none, none, none, none, none, none, none, none, none, none, none, none, none, none, none, none, none, none, none, none, none, none, none, none, none, none, none, none, none, none, none, none, none, none, none, none, none, none, none, none, none, none, none, none, none, none, none, none, none, none, none, none, none, none, none, none, none, none, none, none, none, none]) h

theorem J25_3.of {x10 : Sl} {x12 : Sl} {x14 : Sl} {x16 : Sl} {x18 : Sl} {x24 : Sl} {K : Bool → Hp → Prop} {Kp : List PanicEntry → Hp → Prop} {h : Hp} (H : JT25_3 x10 x12 x14 x16 x18 x24 K Kp h) : J25_3 x10 x12 x14 x16 x18 x24 K Kp h :=
  Eq.mp (by kernel_rfl) H

def JT25_2 (x0 : Sl) (x1 : Sl) (x5 : Int) (x6 : Sl) (x10 : Sl) (x12 : Sl) (x14 : Sl) (K : Bool → Hp → Prop) (Kp : List PanicEntry → Hp → Prop) (h : Hp) : Prop :=
  Fn33 x6 x5 h (fun t90_0 t90_1 h1 =>
    Fn20 x0 (0 : Int) x5 h1 (fun t96_0 t96_1 h2 =>
      Fn32 x0 x1 x5 h2 (fun t103_0 t103_1 h3 =>
        Fn30 x0 x1 x5 h3 (fun t110_0 t110_1 h4 =>
          Fn32 t103_0 t110_0 x5 h4 (fun t117_0 t117_1 h5 =>
            If (t90_1 != (0 : Int)) (
              K false h5) (
              If (t96_1 != (0 : Int)) (
                K false h5) (
                If (t103_1 != (0 : Int)) (
                  K false h5) (
                  If (t110_1 != (0 : Int)) (
                    K false h5) (
                    If (t117_1 != (0 : Int)) (
                      K false h5) (
                      J25_3 x10 x12 x14 t90_0 t96_0 t117_0 K Kp h5)))))) Kp) Kp) Kp) Kp) Kp

def J25_2 (x0 : Sl) (x1 : Sl) (x5 : Int) (x6 : Sl) (x10 : Sl) (x12 : Sl) (x14 : Sl) (K : Bool → Hp → Prop) (Kp : List PanicEntry → Hp → Prop) (h : Hp) : Prop :=
  sem Tryd.prog ann25 (DrawSem Tryd.prog ord25) none (sub [1, 1, 1, 1, 1, 1, 1, 1, 1] code25) (ctxQ Tryd.prog ann25 (DrawSem Tryd.prog ord25) none Kp [1, 1, 1, 1, 1, 1, 1, 1, 1] code25 [] (q25 K)) Kp ([some (Sl.v x0), some (Sl.v x1), none, none, none, some (.int .i64 x5), some (Sl.v x6), none, none, none, some (Sl.v x10), none, some (Sl.v x12), none, some (Sl.v x14), none, none, none, none, none, none, none, none, none, none, none, none, none, none, none, none, none, none, none, none, none, none, none, none, none, none, none, none, none, none, none, none, none, none, none, none, none, none, none, none, none, none, none, none, none, none, none, none, none, none, none, none, none, none, none, none, none, none, none, none, none, none, none, none, none, none, none, none, none, none, none, none, none, none, none, none, none, none, none, none, none, none, none, none, none, none, none, none, none, none, none, none, none, none, none, none, none, none, none, none, none, none, none, none, none, none, none, none, none, none, none, none, none, none, none, none, none, none, none, none, none, none, none, none, none, none, none, none, none, none, none, none, none, none, none, none, none, none, none, none, none, none]) h

theorem J25_2.of {x0 : Sl} {x1 : Sl} {x5 : Int} {x6 : Sl} {x10 : Sl} {x12 : Sl} {x14 : Sl} {K : Bool → Hp → Prop} {Kp : List PanicEntry → Hp → Prop} {h : Hp} (H : JT25_2 x0 x1 x5 x6 x10 x12 x14 K Kp h) : J25_2 x0 x1 x5 x6 x10 x12 x14 K Kp h :=
  Eq.mp (by kernel_rfl) H

def JT25_1 (x0 : Sl) (x1 : Sl) (x5 : Int) (K : Bool → Hp → Prop) (Kp : List PanicEntry → Hp → Prop) (h : Hp) : Prop :=
  Fn33 x0 x5 h (fun t40_0 t40_1 h1 =>
    Fn33 x1 x5 h1 (fun t46_0 t46_1 h2 =>
      Fn30 t40_0 t46_0 x5 h2 (fun t53_0 t53_1 h3 =>
        Fn31 x0 x1 x5 h3 (fun t60_0 t60_1 h4 =>
          Fn33 t60_0 x5 h4 (fun t66_0 t66_1 h5 =>
            If (t40_1 != (0 : Int)) (
              K false h5) (
              If (t46_1 != (0 : Int)) (
                K false h5) (
                If (t53_1 != (0 : Int)) (
                  K false h5) (
                  If (t60_1 != (0 : Int)) (
                    K false h5) (
                    If (t66_1 != (0 : Int)) (
                      K false h5) (
                      J25_2 x0 x1 x5 t40_0 t53_0 t60_0 t66_0 K Kp h5)))))) Kp) Kp) Kp) Kp) Kp

def J25_1 (x0 : Sl) (x1 : Sl) (x5 : Int) (K : Bool → Hp → Prop) (Kp : List PanicEntry → Hp → Prop) (h : Hp) : Prop :=
  sem Tryd.prog ann25 (DrawSem Tryd.prog ord25) none (sub [1, 1, 1] code25) (ctxQ Tryd.prog ann25 (DrawSem Tryd.prog ord25) none Kp [1, 1, 1] code25 [] (q25 K)) Kp ([some (Sl.v x0), some (Sl.v x1), none, none, none, some (.int .i64 x5), none, none, none, none, none, none, none, none, none, none, none, none, none, none, none, none, none, none, none, none, none, none, none, none, none, none, none, none, none, none, none, none, none, none, none, none, none, none, none, none, none, none, none, none, none, none, none, none, none, none, none, none, none, none, none, none, none, none, none, none, none, none, none, none, none, none, none, none, none, none, none, none, none, none, none, none, none, none, none, none, none, none, none, none, none, none, none, none, none, none, none, none, none, none, none, none, none, none, none, none, none, none, none, none, none, none, none, none, none, none, none, none, none, none, none, none, none, none, none, none, none, none, none, none, none, none, none, none, none, none, none, none, none, none, none, none, none, none, none, none, none, none, none, none, none, none, none, none, none, none, none]) h

theorem J25_1.of {x0 : Sl} {x1 : Sl} {x5 : Int} {K : Bool → Hp → Prop} {Kp : List PanicEntry → Hp → Prop} {h : Hp} (H : JT25_1 x0 x1 x5 K Kp h) : J25_1 x0 x1 x5 K Kp h :=
  Eq.mp (by kernel_rfl) H

def S25 (a : Sl) (b : Sl) (h : Hp) (K : Bool → Hp → Prop) (Kp : List PanicEntry → Hp → Prop) : Prop :=
  Wr .i64 ((8 : Int) * (a.n : Int)) fun t28 =>
  If (decide ((b.n : Int) < (a.n : Int))) (
    Wr .i64 ((8 : Int) * (b.n : Int)) fun t36 =>
    J25_1 a b t36 K Kp h) (
    J25_1 a b t28 K Kp h)

theorem Fn25.of {a : Sl} {b : Sl} {h : Hp} {K : Bool → Hp → Prop} {Kp : List PanicEntry → Hp → Prop} (H : S25 a b h K Kp) : Fn25 a b h K Kp :=
  Eq.mp (by kernel_rfl) (fn_of (P := Tryd.prog) (ann := ann25) (D := DrawSem Tryd.prog ord25) (drawOk _) (c := code25) (zs := [(.bool false)]) (args := [(Sl.v a), (Sl.v b)]) (Kv := kv25 K) (Kp := Kp) (h := h) Tryd.func25 (by kernel_rfl) (Eq.mp (by kernel_rfl) H))

/-! ### 26: colonnade/colonnaderef02.List -/

noncomputable def code26 : Code := Tryd.f26.body.getD .skip

def ann26 : Ann := [(2006, [0, 1, 2, 9, 10])]

def ord26 : List (Nat × List Nat × List Nat) := []

def kv26 (K : Sl → Int → Hp → Prop) : Value → Hp → Prop := fun v h => match v with | .tuple us => (let vs := us.toList; match (vs.getD 0 undef) with | .slice r0a r0n r0c => (let r0 : Sl := ⟨r0a, r0n, r0c⟩; match (vs.getD 1 undef) with | .int _ r1 => (K r0 r1 h) | _ => False) | _ => False) | _ => False

def q26 (K : Sl → Int → Hp → Prop) : Qt := retQ Tryd.prog Tryd.f26.results.toList [(.slice none 0 0), (.int .i64 (0 : Int))] (kv26 K)

abbrev mk26_1 (x0 : Sl) (x1 : Int) (x2 : Int) (x9 : Sl) (x10 : Int) : Fr := [some (Sl.v x0), some (.int .i64 x1), some (.int .i64 x2), none, none, none, none, none, none, some (Sl.v x9), some (.int .i64 x10), none, none, none, none, none, none, none, none, none, none, none, none, none, none, none, none, none, none, none, none, none, none]

def T26_1 (x0 : Sl) (x1 : Int) (x2 : Int) (K : Sl → Int → Hp → Prop) (Kp : List PanicEntry → Hp → Prop) (N1 : Fr → Hp → Prop) (x9 : Sl) (x10 : Int) (h : Hp) : Prop :=
  If (decide (x10 < x2)) (
    Wr .i64 (x1 + x10) fun t28 =>
    Fn50 x0 t28 h (fun t29 h1 =>
      New h1 #[(.bool t29)] 4 fun a30 h2 =>
      Ap h2 4 #[(.bool false)] 1 1 x9 1 (rd h2 (some a30) (1 * 1)) fun t31 h3 =>
      Wr .i64 (x10 + (1 : Int)) fun t23 =>
      N1 (mk26_1 x0 x1 x2 t31 t23) h3) Kp) (
    K x9 (0 : Int) h)

def L26_1 (x0 : Sl) (x1 : Int) (x2 : Int) (K : Sl → Int → Hp → Prop) (Kp : List PanicEntry → Hp → Prop) (x9 : Sl) (x10 : Int) (h : Hp) : Prop :=
  LoopH (fun N fr h => sem Tryd.prog ann26 (DrawSem Tryd.prog ord26) none (sub [1, 1, 1, 1, 0, 1, 0, 0] code26) (thenQ (fun fr' h' => N (Ann.find ann26 2006 fr') h') (ctxQ Tryd.prog ann26 (DrawSem Tryd.prog ord26) none Kp [1, 1, 1, 1, 0, 1, 0] code26 [] (q26 K))) Kp fr h) (mk26_1 x0 x1 x2 x9 x10) h

theorem L26_1.rule {x0 : Sl} {x1 : Int} {x2 : Int} {K : Sl → Int → Hp → Prop} {Kp : List PanicEntry → Hp → Prop} (I : Sl → Int → Hp → Prop) (μ : Sl → Int → Hp → Nat) {x9 : Sl} {x10 : Int} {h : Hp} (h0 : I x9 x10 h)
    (step : ∀ (x9 : Sl) (x10 : Int) (h : Hp), I x9 x10 h → ∀ N1 : Fr → Hp → Prop, (∀ (x9' : Sl) (x10' : Int) (h' : Hp), I x9' x10' h' → μ x9' x10' h' < μ x9 x10 h → N1 (mk26_1 x0 x1 x2 x9' x10') h') → T26_1 x0 x1 x2 K Kp N1 x9 x10 h) : L26_1 x0 x1 x2 K Kp x9 x10 h :=
  loop_rule (σ := Sl × Int) (fun s => mk26_1 x0 x1 x2 s.1 s.2) (fun N s h => T26_1 x0 x1 x2 K Kp N s.1 s.2 h) (fun N s h => by kernel_rfl) (fun s h => I s.1 s.2 h) (fun s h => μ s.1 s.2 h) (s0 := ⟨x9, x10⟩) h0 (fun s h hI N hN => step s.1 s.2 h hI N (fun x9' x10' h' hI' hl => hN ⟨x9', x10'⟩ h' hI' hl))

def S26 (b : Sl) (fromv : Int) (n : Int) (h : Hp) (K : Sl → Int → Hp → Prop) (Kp : List PanicEntry → Hp → Prop) : Prop :=
  Fn49 b fromv n h (fun t14 h1 =>
    If (t14 != (0 : Int)) (
      K (⟨none, 0, 0⟩ : Sl) t14 h1) (
      New h1 #[] 4 fun a18 h2 =>
      L26_1 b fromv n K Kp (⟨some a18, 0, 0⟩ : Sl) (0 : Int) h2)) Kp

theorem Fn26.of {b : Sl} {fromv : Int} {n : Int} {h : Hp} {K : Sl → Int → Hp → Prop} {Kp : List PanicEntry → Hp → Prop} (H : S26 b fromv n h K Kp) : Fn26 b fromv n h K Kp :=
  Eq.mp (by kernel_rfl) (fn_of (P := Tryd.prog) (ann := ann26) (D := DrawSem Tryd.prog ord26) (drawOk _) (c := code26) (zs := [(.slice none 0 0), (.int .i64 (0 : Int))]) (args := [(Sl.v b), (.int .i64 fromv), (.int .i64 n)]) (Kv := kv26 K) (Kp := Kp) (h := h) Tryd.func26 (by kernel_rfl) (Eq.mp (by kernel_rfl) H))

/-! ### 27: colonnade/bits.Runs$1 -/

noncomputable def code27 : Code := Tryd.f27.body.getD .skip

def ann27 : Ann := []

def ord27 : List (Nat × List Nat × List Nat) := []

def kv27 (K : Hp → Prop) : Value → Hp → Prop := fun _ h => K h

def q27 (K : Hp → Prop) : Qt := retQ Tryd.prog Tryd.f27.results.toList [] (kv27 K)

def S27 (p0 : Value) (h : Hp) (K : Hp → Prop) (Kp : List PanicEntry → Hp → Prop) : Prop :=
  K  h

theorem Fn27.of {p0 : Value} {h : Hp} {K : Hp → Prop} {Kp : List PanicEntry → Hp → Prop} (H : S27 p0 h K Kp) : Fn27 p0 h K Kp :=
  Eq.mp (by kernel_rfl) (fn_of (P := Tryd.prog) (ann := ann27) (D := DrawSem Tryd.prog ord27) (drawOk _) (c := code27) (zs := []) (args := [p0]) (Kv := kv27 K) (Kp := Kp) (h := h) Tryd.func27 (by kernel_rfl) (Eq.mp (by kernel_rfl) H))

/-! ### 28: colonnade/bits.runs -/

noncomputable def code28 : Code := Tryd.f28.body.getD .skip

def ann28 : Ann := []

def ord28 : List (Nat × List Nat × List Nat) := []

def kv28 (K : Value → Hp → Prop) : Value → Hp → Prop := fun v h => let r0 := v; K r0 h

def q28 (K : Value → Hp → Prop) : Qt := retQ Tryd.prog Tryd.f28.results.toList [(.nilFunc)] (kv28 K)

def S28 (b : Sl) (fromv : Int) (n : Int) (h : Hp) (K : Value → Hp → Prop) (Kp : List PanicEntry → Hp → Prop) : Prop :=
  New h #[(Sl.v b)] 22 fun a3 h1 =>
  New h1 #[(.int .i64 fromv)] 3 fun a4 h2 =>
  New h2 #[(.int .i64 n)] 3 fun a5 h3 =>
  K (.func (.func 51) #[] #[(.pointer (some a5)), (.pointer (some a3)), (.pointer (some a4))]) h3

theorem Fn28.of {b : Sl} {fromv : Int} {n : Int} {h : Hp} {K : Value → Hp → Prop} {Kp : List PanicEntry → Hp → Prop} (H : S28 b fromv n h K Kp) : Fn28 b fromv n h K Kp :=
  Eq.mp (by kernel_rfl) (fn_of (P := Tryd.prog) (ann := ann28) (D := DrawSem Tryd.prog ord28) (drawOk _) (c := code28) (zs := [(.nilFunc)]) (args := [(Sl.v b), (.int .i64 fromv), (.int .i64 n)]) (Kv := kv28 K) (Kp := Kp) (h := h) Tryd.func28 (by kernel_rfl) (Eq.mp (by kernel_rfl) H))

/-! ### 29: colonnade/bits.Get -/

noncomputable def code29 : Code := Tryd.f29.body.getD .skip

def ann29 : Ann := []

def ord29 : List (Nat × List Nat × List Nat) := []

def kv29 (K : Bool → Int → Hp → Prop) : Value → Hp → Prop := fun v h => match v with | .tuple us => (let vs := us.toList; match (vs.getD 0 undef) with | .bool r0 => (match (vs.getD 1 undef) with | .int _ r1 => (K r0 r1 h) | _ => False) | _ => False) | _ => False

def q29 (K : Bool → Int → Hp → Prop) : Qt := retQ Tryd.prog Tryd.f29.results.toList [(.bool false), (.int .i64 (0 : Int))] (kv29 K)

def S29 (b : Sl) (i : Int) (h : Hp) (K : Bool → Int → Hp → Prop) (Kp : List PanicEntry → Hp → Prop) : Prop :=
  If (decide (i < (0 : Int))) (
    K false (1 : Int) h) (
    Dv (8 : Int) <| Wr .i64 (Int.tdiv i (8 : Int)) fun t11 =>
    If (decide (t11 ≥ (b.n : Int))) (
      K false (2 : Int) h) (
      Fn48 b i h (fun t17 h1 =>
        K t17 (0 : Int) h1) Kp))

theorem Fn29.of {b : Sl} {i : Int} {h : Hp} {K : Bool → Int → Hp → Prop} {Kp : List PanicEntry → Hp → Prop} (H : S29 b i h K Kp) : Fn29 b i h K Kp :=
  Eq.mp (by kernel_rfl) (fn_of (P := Tryd.prog) (ann := ann29) (D := DrawSem Tryd.prog ord29) (drawOk _) (c := code29) (zs := [(.bool false), (.int .i64 (0 : Int))]) (args := [(Sl.v b), (.int .i64 i)]) (Kv := kv29 K) (Kp := Kp) (h := h) Tryd.func29 (by kernel_rfl) (Eq.mp (by kernel_rfl) H))

end Go.Proofs.YtajgmklgfdgnlaaDoor
