/- What the functions do, printed by program (gen.py) in the words of ShCore; each text is held against the loaded program by the kernel. -/
import Derived.Test.YtajgmklgfdgnlaaDoorF
set_option linter.unusedVariables false
set_option maxRecDepth 100000
namespace Go.Proofs.YtajgmklgfdgnlaaDoor
open Go Go.Sh
/-! ### 19: colonnade/bits.Count -/

noncomputable def code19 : Code := Tryd.f19.body.getD .skip

def ann19 : Ann := [(9, [0, 1, 2, 6, 7, 9, 10]), (16, [0, 1, 2, 6, 7, 9]), (4017, [6, 7, 9, 69]), (2011, [0, 1, 2, 6, 7, 9]), (4007, [0, 1, 2, 6, 7, 9, 10, 32])]

def ord19 : List (Nat × List Nat × List Nat) := [(14, [0, 1, 2, 3, 4, 5, 6, 7, 8, 9, 10, 11], [0, 0, 2, 6, 14, 0, 32, 96, 224, 510, 1023, 2047])]

def kv19 (K : Int → Int → Hp → Prop) : Value → Hp → Prop := fun v h => match v with | .tuple us => (let vs := us.toList; match (vs.getD 0 undef) with | .int _ r0 => (match (vs.getD 1 undef) with | .int _ r1 => (K r0 r1 h) | _ => False) | _ => False) | _ => False

def q19 (K : Int → Int → Hp → Prop) : Qt := retQ Tryd.prog Tryd.f19.results.toList [(.int .i64 (0 : Int)), (.int .i64 (0 : Int))] (kv19 K)

def RT19_3 (x6 : Int) (x7 : Int) (x9 : Addr) (x69 : Value) (lb : Nat) (NB : Hp → Prop) (XB : Code → Hp → Prop) (y70 : Int) (y71 : Int) (h : Hp) : Prop :=
  Busy lb h h fun h1 =>
  Ld h1 x9 (Value.int .i64) fun t72 =>
  Wr .i64 (t72 + y71) fun t74 =>
  St h1 x9 (.int .i64 t74) fun h2 =>
  NB h2

def R19_3 (x6 : Int) (x7 : Int) (x9 : Addr) (x69 : Value) (K : Int → Int → Hp → Prop) (Kp : List PanicEntry → Hp → Prop) (h : Hp) : Prop :=
  sem Tryd.prog ann19 (DrawSem Tryd.prog ord19) none (sub [1, 1, 1, 1, 1, 1, 1, 1, 0, 1, 0] code19) (ctxQ Tryd.prog ann19 (DrawSem Tryd.prog ord19) none Kp [1, 1, 1, 1, 1, 1, 1, 1, 0, 1, 0] code19 [] (q19 K)) Kp ([none, none, none, none, none, none, some (.int .i64 x6), some (.int .i64 x7), none, some (.pointer (some x9)), none, none, none, none, none, none, none, none, none, none, none, none, none, none, none, none, none, none, none, none, none, none, none, none, none, none, none, none, none, none, none, none, none, none, none, none, none, none, none, none, none, none, none, none, none, none, none, none, none, none, none, none, none, none, none, none, none, none, none, some x69, none, none, none, none, none, none]) h

def RD19_3 (x6 : Int) (x7 : Int) (x9 : Addr) (x69 : Value) (K : Int → Int → Hp → Prop) (Kp : List PanicEntry → Hp → Prop) (h : Hp) : Prop :=
  Ld h x9 (Value.int .i64) fun t75 =>
  K t75 (0 : Int) h

theorem R19_3.rule {x6 : Int} {x7 : Int} {x9 : Addr} {x69 : Value} {K : Int → Int → Hp → Prop} {Kp : List PanicEntry → Hp → Prop} {h : Hp} {α : Type} {xs : List α} (e0 : α → Int) (e1 : α → Int) {Pre : Hp → Prop} (hit : Iter Tryd.prog x69 xs (fun y => [(.int .i64 (e0 y)), (.int .i64 (e1 y))]) Pre) (I : List α → Hp → Prop) (h0 : I [] h)
    (hG : ∀ pre h1 h2, Grw h1 h2 → I pre h1 → I pre h2) (hI : ∀ l pre h1 h2, h.size ≤ l → Tw l h1 h2 → I pre h1 → I pre h2) (hPre : ∀ pre h1, I pre h1 → Pre h1) 
    (hbody : ∀ l pre y suf h1, xs = pre ++ y :: suf → h.size ≤ l → (∃ r, h1[l]? = some (.loop r)) → I pre h1 → ∀ (N : Hp → Prop) (X : Code → Hp → Prop), (∀ h' h2, Tw l h1 h' → h2[l]? = h'[l]? → I (pre ++ [y]) h2 → N h2) → RT19_3 x6 x7 x9 x69 l N X (e0 y) (e1 y) h1)
    (done : ∀ h2, I xs h2 → RD19_3 x6 x7 x9 x69 K Kp h2) : R19_3 x6 x7 x9 x69 K Kp h :=
  Eq.mp (by kernel_rfl) (range_rule (P := Tryd.prog) (ann := ann19) (D := (DrawSem Tryd.prog ord19)) (fun _ => drawOk _) (rd := none) (g := .tmp 69) (ps := #[70, 71]) (assign := sub [1, 1, 1, 1, 1, 1, 1, 1, 0, 1, 0, 0] code19) (body := sub [1, 1, 1, 1, 1, 1, 1, 1, 0, 1, 0, 1] code19) (Q := ctxQ Tryd.prog ann19 (DrawSem Tryd.prog ord19) none Kp [1, 1, 1, 1, 1, 1, 1, 1, 0, 1, 0] code19 [] (q19 K)) (Kp := Kp) (fr := [none, none, none, none, none, none, some (.int .i64 x6), some (.int .i64 x7), none, some (.pointer (some x9)), none, none, none, none, none, none, none, none, none, none, none, none, none, none, none, none, none, none, none, none, none, none, none, none, none, none, none, none, none, none, none, none, none, none, none, none, none, none, none, none, none, none, none, none, none, none, none, none, none, none, none, none, none, none, none, none, none, none, none, some x69, none, none, none, none, none, none]) (h := h) (fv := x69) (by kernel_rfl)
    hit (fun _ => rfl) trivial I (fun c => match c with | _ => fun _ _ => False) h0 hG (by intro c pre h1 h2 hg hi; revert hi; cases c <;> exact fun hi => hi.elim) hI (by intro l c pre h1 h2 hl ht hi; revert hi; cases c <;> exact fun hi => hi.elim) hPre
    (by
      intro l pre y suf h1 e1 e2 e3 e4 N X hN hX
      exact Eq.mp (by kernel_rfl) (hbody l pre y suf h1 e1 e2 e3 e4 N X hN ))
    (fun h2 hi => Eq.mp (by kernel_rfl) (done h2 hi)) (by
      intro c pre suf h2 e1 hi
      cases c <;> exact hi.elim))

def JT19_2 (x0 : Sl) (x1 : Int) (x2 : Int) (x6 : Int) (x7 : Int) (x9 : Addr) (K : Int → Int → Hp → Prop) (Kp : List PanicEntry → Hp → Prop) (h : Hp) : Prop :=
  Fn28 x0 x1 x2 h (fun t69 h1 =>
    R19_3 x6 x7 x9 t69 K Kp h1) Kp

def J19_2 (x0 : Sl) (x1 : Int) (x2 : Int) (x6 : Int) (x7 : Int) (x9 : Addr) (K : Int → Int → Hp → Prop) (Kp : List PanicEntry → Hp → Prop) (h : Hp) : Prop :=
  sem Tryd.prog ann19 (DrawSem Tryd.prog ord19) none (sub [1, 1, 1, 1, 1, 1, 1, 1] code19) (ctxQ Tryd.prog ann19 (DrawSem Tryd.prog ord19) none Kp [1, 1, 1, 1, 1, 1, 1, 1] code19 [] (q19 K)) Kp ([some (Sl.v x0), some (.int .i64 x1), some (.int .i64 x2), none, none, none, some (.int .i64 x6), some (.int .i64 x7), none, some (.pointer (some x9)), none, none, none, none, none, none, none, none, none, none, none, none, none, none, none, none, none, none, none, none, none, none, none, none, none, none, none, none, none, none, none, none, none, none, none, none, none, none, none, none, none, none, none, none, none, none, none, none, none, none, none, none, none, none, none, none, none, none, none, none, none, none, none, none, none, none]) h

theorem J19_2.of {x0 : Sl} {x1 : Int} {x2 : Int} {x6 : Int} {x7 : Int} {x9 : Addr} {K : Int → Int → Hp → Prop} {Kp : List PanicEntry → Hp → Prop} {h : Hp} (H : JT19_2 x0 x1 x2 x6 x7 x9 K Kp h) : J19_2 x0 x1 x2 x6 x7 x9 K Kp h :=
  Eq.mp (by kernel_rfl) H

abbrev mk19_4 (x0 : Sl) (x6 : Int) (x7 : Int) (x9 : Addr) (x1 : Int) (x2 : Int) : Fr := [some (Sl.v x0), some (.int .i64 x1), some (.int .i64 x2), none, none, none, some (.int .i64 x6), some (.int .i64 x7), none, some (.pointer (some x9)), none, none, none, none, none, none, none, none, none, none, none, none, none, none, none, none, none, none, none, none, none, none, none, none, none, none, none, none, none, none, none, none, none, none, none, none, none, none, none, none, none, none, none, none, none, none, none, none, none, none, none, none, none, none, none, none, none, none, none, none, none, none, none, none, none, none]

def T19_4 (x0 : Sl) (x6 : Int) (x7 : Int) (x9 : Addr) (K : Int → Int → Hp → Prop) (Kp : List PanicEntry → Hp → Prop) (N1 : Fr → Hp → Prop) (x1 : Int) (x2 : Int) (h : Hp) : Prop :=
  If (decide (x2 ≥ (8 : Int))) (
    Dv (8 : Int) <| Wr .i64 (Int.tdiv x1 (8 : Int)) fun t50 =>
    Ix x0.a x0.n 1 t50 fun a51 =>
    Ld h a51 (Value.int .u8) fun t52 =>
    Ld h x9 (Value.int .i64) fun t53 =>
    Nn (4 : Int) <| Lt (Int.fdiv t52 (2 ^ (min (Int.toNat (4 : Int)) (IntKind.bits .u8)))) fun t55 =>
    Ix (some (⟨0, 0, none⟩)) 16 1 t55 fun a56 =>
    Ld h a56 (Value.int .i64) fun t57 =>
    Lt (bitsV .and .u8 t52 (15 : Int)) fun t59 =>
    Ix (some (⟨0, 0, none⟩)) 16 1 t59 fun a60 =>
    Ld h a60 (Value.int .i64) fun t61 =>
    Wr .i64 (t57 + t61) fun t62 =>
    Wr .i64 (t53 + t62) fun t63 =>
    St h x9 (.int .i64 t63) fun h1 =>
    Wr .i64 (x1 + (8 : Int)) fun t65 =>
    Wr .i64 (x2 - (8 : Int)) fun t47 =>
    N1 (mk19_4 x0 x6 x7 x9 t65 t47) h1) (
    J19_2 x0 x1 x2 x6 x7 x9 K Kp h)

def L19_4 (x0 : Sl) (x6 : Int) (x7 : Int) (x9 : Addr) (K : Int → Int → Hp → Prop) (Kp : List PanicEntry → Hp → Prop) (x1 : Int) (x2 : Int) (h : Hp) : Prop :=
  LoopH (fun N fr h => sem Tryd.prog ann19 (DrawSem Tryd.prog ord19) none (sub [1, 1, 1, 1, 1, 1, 1, 0, 0, 0] code19) (thenQ (fun fr' h' => N (Ann.find ann19 2011 fr') h') (ctxQ Tryd.prog ann19 (DrawSem Tryd.prog ord19) none Kp [1, 1, 1, 1, 1, 1, 1, 0, 0] code19 [] (q19 K))) Kp fr h) (mk19_4 x0 x6 x7 x9 x1 x2) h

theorem L19_4.rule {x0 : Sl} {x6 : Int} {x7 : Int} {x9 : Addr} {K : Int → Int → Hp → Prop} {Kp : List PanicEntry → Hp → Prop} (I : Int → Int → Hp → Prop) (μ : Int → Int → Hp → Nat) {x1 : Int} {x2 : Int} {h : Hp} (h0 : I x1 x2 h)
    (step : ∀ (x1 : Int) (x2 : Int) (h : Hp), I x1 x2 h → ∀ N1 : Fr → Hp → Prop, (∀ (x1' : Int) (x2' : Int) (h' : Hp), I x1' x2' h' → μ x1' x2' h' < μ x1 x2 h → N1 (mk19_4 x0 x6 x7 x9 x1' x2') h') → T19_4 x0 x6 x7 x9 K Kp N1 x1 x2 h) : L19_4 x0 x6 x7 x9 K Kp x1 x2 h :=
  loop_rule (σ := Int × Int) (fun s => mk19_4 x0 x6 x7 x9 s.1 s.2) (fun N s h => T19_4 x0 x6 x7 x9 K Kp N s.1 s.2 h) (fun N s h => by kernel_rfl) (fun s h => I s.1 s.2 h) (fun s h => μ s.1 s.2 h) (s0 := ⟨x1, x2⟩) h0 (fun s h hI N hN => step s.1 s.2 h hI N (fun x1' x2' h' hI' hl => hN ⟨x1', x2'⟩ h' hI' hl))

def JT19_1 (x0 : Sl) (x1 : Int) (x2 : Int) (x6 : Int) (x7 : Int) (x9 : Addr) (x10 : Int) (K : Int → Int → Hp → Prop) (Kp : List PanicEntry → Hp → Prop) (h : Hp) : Prop :=
  Wr .i64 (x1 + x10) fun t40 =>
  Wr .i64 (x2 - x10) fun t43 =>
  L19_4 x0 x6 x7 x9 K Kp t40 t43 h

def J19_1 (x0 : Sl) (x1 : Int) (x2 : Int) (x6 : Int) (x7 : Int) (x9 : Addr) (x10 : Int) (K : Int → Int → Hp → Prop) (Kp : List PanicEntry → Hp → Prop) (h : Hp) : Prop :=
  sem Tryd.prog ann19 (DrawSem Tryd.prog ord19) none (sub [1, 1, 1, 1, 1] code19) (ctxQ Tryd.prog ann19 (DrawSem Tryd.prog ord19) none Kp [1, 1, 1, 1, 1] code19 [] (q19 K)) Kp ([some (Sl.v x0), some (.int .i64 x1), some (.int .i64 x2), none, none, none, some (.int .i64 x6), some (.int .i64 x7), none, some (.pointer (some x9)), some (.int .i64 x10), none, none, none, none, none, none, none, none, none, none, none, none, none, none, none, none, none, none, none, none, none, none, none, none, none, none, none, none, none, none, none, none, none, none, none, none, none, none, none, none, none, none, none, none, none, none, none, none, none, none, none, none, none, none, none, none, none, none, none, none, none, none, none, none, none]) h

theorem J19_1.of {x0 : Sl} {x1 : Int} {x2 : Int} {x6 : Int} {x7 : Int} {x9 : Addr} {x10 : Int} {K : Int → Int → Hp → Prop} {Kp : List PanicEntry → Hp → Prop} {h : Hp} (H : JT19_1 x0 x1 x2 x6 x7 x9 x10 K Kp h) : J19_1 x0 x1 x2 x6 x7 x9 x10 K Kp h :=
  Eq.mp (by kernel_rfl) H

def RT19_5 (x0 : Sl) (x1 : Int) (x2 : Int) (x6 : Int) (x7 : Int) (x9 : Addr) (x10 : Int) (x32 : Value) (lb : Nat) (NB : Hp → Prop) (XB : Code → Hp → Prop) (y33 : Int) (y34 : Int) (h : Hp) : Prop :=
  Busy lb h h fun h1 =>
  Ld h1 x9 (Value.int .i64) fun t35 =>
  Wr .i64 (t35 + y34) fun t37 =>
  St h1 x9 (.int .i64 t37) fun h2 =>
  NB h2

def R19_5 (x0 : Sl) (x1 : Int) (x2 : Int) (x6 : Int) (x7 : Int) (x9 : Addr) (x10 : Int) (x32 : Value) (K : Int → Int → Hp → Prop) (Kp : List PanicEntry → Hp → Prop) (h : Hp) : Prop :=
  sem Tryd.prog ann19 (DrawSem Tryd.prog ord19) none (sub [1, 1, 1, 1, 0, 1, 0] code19) (ctxQ Tryd.prog ann19 (DrawSem Tryd.prog ord19) none Kp [1, 1, 1, 1, 0, 1, 0] code19 [] (q19 K)) Kp ([some (Sl.v x0), some (.int .i64 x1), some (.int .i64 x2), none, none, none, some (.int .i64 x6), some (.int .i64 x7), none, some (.pointer (some x9)), some (.int .i64 x10), none, none, none, none, none, none, none, none, none, none, none, none, none, none, none, none, none, none, none, none, none, some x32, none, none, none, none, none, none, none, none, none, none, none, none, none, none, none, none, none, none, none, none, none, none, none, none, none, none, none, none, none, none, none, none, none, none, none, none, none, none, none, none, none, none, none]) h

def RD19_5 (x0 : Sl) (x1 : Int) (x2 : Int) (x6 : Int) (x7 : Int) (x9 : Addr) (x10 : Int) (x32 : Value) (K : Int → Int → Hp → Prop) (Kp : List PanicEntry → Hp → Prop) (h : Hp) : Prop :=
  J19_1 x0 x1 x2 x6 x7 x9 x10 K Kp h

theorem R19_5.rule {x0 : Sl} {x1 : Int} {x2 : Int} {x6 : Int} {x7 : Int} {x9 : Addr} {x10 : Int} {x32 : Value} {K : Int → Int → Hp → Prop} {Kp : List PanicEntry → Hp → Prop} {h : Hp} {α : Type} {xs : List α} (e0 : α → Int) (e1 : α → Int) {Pre : Hp → Prop} (hit : Iter Tryd.prog x32 xs (fun y => [(.int .i64 (e0 y)), (.int .i64 (e1 y))]) Pre) (I : List α → Hp → Prop) (h0 : I [] h)
    (hG : ∀ pre h1 h2, Grw h1 h2 → I pre h1 → I pre h2) (hI : ∀ l pre h1 h2, h.size ≤ l → Tw l h1 h2 → I pre h1 → I pre h2) (hPre : ∀ pre h1, I pre h1 → Pre h1) 
    (hbody : ∀ l pre y suf h1, xs = pre ++ y :: suf → h.size ≤ l → (∃ r, h1[l]? = some (.loop r)) → I pre h1 → ∀ (N : Hp → Prop) (X : Code → Hp → Prop), (∀ h' h2, Tw l h1 h' → h2[l]? = h'[l]? → I (pre ++ [y]) h2 → N h2) → RT19_5 x0 x1 x2 x6 x7 x9 x10 x32 l N X (e0 y) (e1 y) h1)
    (done : ∀ h2, I xs h2 → RD19_5 x0 x1 x2 x6 x7 x9 x10 x32 K Kp h2) : R19_5 x0 x1 x2 x6 x7 x9 x10 x32 K Kp h :=
  Eq.mp (by kernel_rfl) (range_rule (P := Tryd.prog) (ann := ann19) (D := (DrawSem Tryd.prog ord19)) (fun _ => drawOk _) (rd := none) (g := .tmp 32) (ps := #[33, 34]) (assign := sub [1, 1, 1, 1, 0, 1, 0, 0] code19) (body := sub [1, 1, 1, 1, 0, 1, 0, 1] code19) (Q := ctxQ Tryd.prog ann19 (DrawSem Tryd.prog ord19) none Kp [1, 1, 1, 1, 0, 1, 0] code19 [] (q19 K)) (Kp := Kp) (fr := [some (Sl.v x0), some (.int .i64 x1), some (.int .i64 x2), none, none, none, some (.int .i64 x6), some (.int .i64 x7), none, some (.pointer (some x9)), some (.int .i64 x10), none, none, none, none, none, none, none, none, none, none, none, none, none, none, none, none, none, none, none, none, none, some x32, none, none, none, none, none, none, none, none, none, none, none, none, none, none, none, none, none, none, none, none, none, none, none, none, none, none, none, none, none, none, none, none, none, none, none, none, none, none, none, none, none, none, none]) (h := h) (fv := x32) (by kernel_rfl)
    hit (fun _ => rfl) trivial I (fun c => match c with | _ => fun _ _ => False) h0 hG (by intro c pre h1 h2 hg hi; revert hi; cases c <;> exact fun hi => hi.elim) hI (by intro l c pre h1 h2 hl ht hi; revert hi; cases c <;> exact fun hi => hi.elim) hPre
    (by
      intro l pre y suf h1 e1 e2 e3 e4 N X hN hX
      exact Eq.mp (by kernel_rfl) (hbody l pre y suf h1 e1 e2 e3 e4 N X hN ))
    (fun h2 hi => Eq.mp (by kernel_rfl) (done h2 hi)) (by
      intro c pre suf h2 e1 hi
      cases c <;> exact hi.elim))

def S19 (b : Sl) (fromv : Int) (n : Int) (h : Hp) (K : Int → Int → Hp → Prop) (Kp : List PanicEntry → Hp → Prop) : Prop :=
  Fn46 b fromv n h (fun t19 h1 =>
    If (t19 != (0 : Int)) (
      K (0 : Int) t19 h1) (
      New h1 #[(.int .i64 (0 : Int))] 3 fun a9 h2 =>
      St h2 a9 (.int .i64 (0 : Int)) fun h3 =>
      Dv (8 : Int) <| Lt (Int.tmod fromv (8 : Int)) fun t25 =>
      Wr .i64 ((8 : Int) - t25) fun t26 =>
      Dv (8 : Int) <| Lt (Int.tmod t26 (8 : Int)) fun t27 =>
      Lt (if t27 < n then t27 else n) fun t28 =>
      Fn28 b fromv t28 h3 (fun t32 h4 =>
        R19_5 b fromv n (0 : Int) (0 : Int) a9 t28 t32 K Kp h4) Kp)) Kp

theorem Fn19.of {b : Sl} {fromv : Int} {n : Int} {h : Hp} {K : Int → Int → Hp → Prop} {Kp : List PanicEntry → Hp → Prop} (H : S19 b fromv n h K Kp) : Fn19 b fromv n h K Kp :=
  Eq.mp (by kernel_rfl) (fn_of (P := Tryd.prog) (ann := ann19) (D := DrawSem Tryd.prog ord19) (drawOk _) (c := code19) (zs := [(.int .i64 (0 : Int)), (.int .i64 (0 : Int))]) (args := [(Sl.v b), (.int .i64 fromv), (.int .i64 n)]) (Kv := kv19 K) (Kp := Kp) (h := h) Tryd.func19 (by kernel_rfl) (Eq.mp (by kernel_rfl) H))

/-! ### 20: colonnade/bits.Cut -/

noncomputable def code20 : Code := Tryd.f20.body.getD .skip

def ann20 : Ann := []

def ord20 : List (Nat × List Nat × List Nat) := []

def kv20 (K : Sl → Int → Hp → Prop) : Value → Hp → Prop := fun v h => match v with | .tuple us => (let vs := us.toList; match (vs.getD 0 undef) with | .slice r0a r0n r0c => (let r0 : Sl := ⟨r0a, r0n, r0c⟩; match (vs.getD 1 undef) with | .int _ r1 => (K r0 r1 h) | _ => False) | _ => False) | _ => False

def q20 (K : Sl → Int → Hp → Prop) : Qt := retQ Tryd.prog Tryd.f20.results.toList [(.slice none 0 0), (.int .i64 (0 : Int))] (kv20 K)

def S20 (b : Sl) (fromv : Int) (n : Int) (h : Hp) (K : Sl → Int → Hp → Prop) (Kp : List PanicEntry → Hp → Prop) : Prop :=
  Fn18 b fromv n h (fun t14_0 t14_1 h1 =>
    If (t14_1 != (0 : Int)) (
      K (⟨none, 0, 0⟩ : Sl) t14_1 h1) (
      Fn24 t14_0 h1 (fun t21 h2 =>
        K t21 (0 : Int) h2) Kp)) Kp

theorem Fn20.of {b : Sl} {fromv : Int} {n : Int} {h : Hp} {K : Sl → Int → Hp → Prop} {Kp : List PanicEntry → Hp → Prop} (H : S20 b fromv n h K Kp) : Fn20 b fromv n h K Kp :=
  Eq.mp (by kernel_rfl) (fn_of (P := Tryd.prog) (ann := ann20) (D := DrawSem Tryd.prog ord20) (drawOk _) (c := code20) (zs := [(.slice none 0 0), (.int .i64 (0 : Int))]) (args := [(Sl.v b), (.int .i64 fromv), (.int .i64 n)]) (Kv := kv20 K) (Kp := Kp) (h := h) Tryd.func20 (by kernel_rfl) (Eq.mp (by kernel_rfl) H))

/-! ### 21: colonnade/bits.Next -/

noncomputable def code21 : Code := Tryd.f21.body.getD .skip

def ann21 : Ann := [(2004, [0, 1, 3, 15, 16])]

def ord21 : List (Nat × List Nat × List Nat) := []

def kv21 (K : Int → Hp → Prop) : Value → Hp → Prop := fun v h => match v with | .int _ r0 => (K r0 h) | _ => False

def q21 (K : Int → Hp → Prop) : Qt := retQ Tryd.prog Tryd.f21.results.toList [(.int .i64 (0 : Int))] (kv21 K)

abbrev mk21_1 (x0 : Sl) (x1 : Int) (x3 : Bool) (x15 : Int) (x16 : Int) : Fr := [some (Sl.v x0), some (.int .i64 x1), none, some (.bool x3), none, none, none, none, none, none, none, none, none, none, none, some (.int .i64 x15), some (.int .i64 x16), none, none, none, none, none, none, none, none, none, none, none]

def T21_1 (x0 : Sl) (x1 : Int) (x3 : Bool) (x15 : Int) (K : Int → Hp → Prop) (Kp : List PanicEntry → Hp → Prop) (N1 : Fr → Hp → Prop) (x16 : Int) (h : Hp) : Prop :=
  If (decide (x16 < x15)) (
    Wr .i64 (x1 + x16) fun t22 =>
    Fn48 x0 t22 h (fun t23 h1 =>
      If (t23 == x3) (
        K x16 h1) (
        Wr .i64 (x16 + (1 : Int)) fun t27 =>
        N1 (mk21_1 x0 x1 x3 x15 t27) h1)) Kp) (
    K (-1 : Int) h)

def L21_1 (x0 : Sl) (x1 : Int) (x3 : Bool) (x15 : Int) (K : Int → Hp → Prop) (Kp : List PanicEntry → Hp → Prop) (x16 : Int) (h : Hp) : Prop :=
  LoopH (fun N fr h => sem Tryd.prog ann21 (DrawSem Tryd.prog ord21) none (sub [1, 1, 0, 1, 0, 0] code21) (thenQ (fun fr' h' => N (Ann.find ann21 2004 fr') h') (ctxQ Tryd.prog ann21 (DrawSem Tryd.prog ord21) none Kp [1, 1, 0, 1, 0] code21 [] (q21 K))) Kp fr h) (mk21_1 x0 x1 x3 x15 x16) h

theorem L21_1.rule {x0 : Sl} {x1 : Int} {x3 : Bool} {x15 : Int} {K : Int → Hp → Prop} {Kp : List PanicEntry → Hp → Prop} (I : Int → Hp → Prop) (μ : Int → Hp → Nat) {x16 : Int} {h : Hp} (h0 : I x16 h)
    (step : ∀ (x16 : Int) (h : Hp), I x16 h → ∀ N1 : Fr → Hp → Prop, (∀ (x16' : Int) (h' : Hp), I x16' h' → μ x16' h' < μ x16 h → N1 (mk21_1 x0 x1 x3 x15 x16') h') → T21_1 x0 x1 x3 x15 K Kp N1 x16 h) : L21_1 x0 x1 x3 x15 K Kp x16 h :=
  loop_rule (σ := Int) (fun s => mk21_1 x0 x1 x3 x15 s) (fun N s h => T21_1 x0 x1 x3 x15 K Kp N s h) (fun N s h => by kernel_rfl) (fun s h => I s h) (fun s h => μ s h) (s0 := x16) h0 (fun s h hI N hN => step s h hI N (fun x16' h' hI' hl => hN x16' h' hI' hl))

def S21 (b : Sl) (fromv : Int) (n : Int) (onv : Bool) (h : Hp) (K : Int → Hp → Prop) (Kp : List PanicEntry → Hp → Prop) : Prop :=
  Fn47 b fromv n h (fun t13 h1 =>
    If (!t13) (
      K (-1 : Int) h1) (
      L21_1 b fromv onv n K Kp (0 : Int) h1)) Kp

theorem Fn21.of {b : Sl} {fromv : Int} {n : Int} {onv : Bool} {h : Hp} {K : Int → Hp → Prop} {Kp : List PanicEntry → Hp → Prop} (H : S21 b fromv n onv h K Kp) : Fn21 b fromv n onv h K Kp :=
  Eq.mp (by kernel_rfl) (fn_of (P := Tryd.prog) (ann := ann21) (D := DrawSem Tryd.prog ord21) (drawOk _) (c := code21) (zs := [(.int .i64 (0 : Int))]) (args := [(Sl.v b), (.int .i64 fromv), (.int .i64 n), (.bool onv)]) (Kv := kv21 K) (Kp := Kp) (h := h) Tryd.func21 (by kernel_rfl) (Eq.mp (by kernel_rfl) H))

/-! ### 22: colonnade/bits.Need -/

noncomputable def code22 : Code := Tryd.f22.body.getD .skip

def ann22 : Ann := []

def ord22 : List (Nat × List Nat × List Nat) := []

def kv22 (K : Int → Hp → Prop) : Value → Hp → Prop := fun v h => match v with | .int _ r0 => (K r0 h) | _ => False

def q22 (K : Int → Hp → Prop) : Qt := retQ Tryd.prog Tryd.f22.results.toList [(.int .i64 (0 : Int))] (kv22 K)

def S22 (n : Int) (h : Hp) (K : Int → Hp → Prop) (Kp : List PanicEntry → Hp → Prop) : Prop :=
  If (decide (n ≤ (0 : Int))) (
    K (0 : Int) h) (
    Wr .i64 (n - (1 : Int)) fun t6 =>
    Dv (8 : Int) <| Wr .i64 (Int.tdiv t6 (8 : Int)) fun t7 =>
    Wr .i64 (t7 + (1 : Int)) fun t8 =>
    K t8 h)

theorem Fn22.of {n : Int} {h : Hp} {K : Int → Hp → Prop} {Kp : List PanicEntry → Hp → Prop} (H : S22 n h K Kp) : Fn22 n h K Kp :=
  Eq.mp (by kernel_rfl) (fn_of (P := Tryd.prog) (ann := ann22) (D := DrawSem Tryd.prog ord22) (drawOk _) (c := code22) (zs := [(.int .i64 (0 : Int))]) (args := [(.int .i64 n)]) (Kv := kv22 K) (Kp := Kp) (h := h) Tryd.func22 (by kernel_rfl) (Eq.mp (by kernel_rfl) H))

end Go.Proofs.YtajgmklgfdgnlaaDoor
