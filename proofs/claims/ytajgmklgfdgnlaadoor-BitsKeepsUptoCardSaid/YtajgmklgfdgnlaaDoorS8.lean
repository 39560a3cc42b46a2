/- What the functions do, printed by program (gen.py) in the words of ShCore; each text is held against the loaded program by the kernel. -/
import Derived.Test.YtajgmklgfdgnlaaDoorF
set_option linter.unusedVariables false
set_option maxRecDepth 100000
namespace Go.Proofs.YtajgmklgfdgnlaaDoor
open Go Go.Sh
/-! ### 30: colonnade/bits.And -/

noncomputable def code30 : Code := Tryd.f30.body.getD .skip

def ann30 : Ann := []

def ord30 : List (Nat × List Nat × List Nat) := []

def kv30 (K : Sl → Int → Hp → Prop) : Value → Hp → Prop := fun v h => match v with | .tuple us => (let vs := us.toList; match (vs.getD 0 undef) with | .slice r0a r0n r0c => (let r0 : Sl := ⟨r0a, r0n, r0c⟩; match (vs.getD 1 undef) with | .int _ r1 => (K r0 r1 h) | _ => False) | _ => False) | _ => False

def q30 (K : Sl → Int → Hp → Prop) : Qt := retQ Tryd.prog Tryd.f30.results.toList [(.slice none 0 0), (.int .i64 (0 : Int))] (kv30 K)

def S30 (a : Sl) (b : Sl) (n : Int) (h : Hp) (K : Sl → Int → Hp → Prop) (Kp : List PanicEntry → Hp → Prop) : Prop :=
  Fn52 a b n (.func (.func 53) #[] #[]) h (fun t11_0 t11_1 h1 =>
    K t11_0 t11_1 h1) Kp

theorem Fn30.of {a : Sl} {b : Sl} {n : Int} {h : Hp} {K : Sl → Int → Hp → Prop} {Kp : List PanicEntry → Hp → Prop} (H : S30 a b n h K Kp) : Fn30 a b n h K Kp :=
  Eq.mp (by kernel_rfl) (fn_of (P := Tryd.prog) (ann := ann30) (D := DrawSem Tryd.prog ord30) (drawOk _) (c := code30) (zs := [(.slice none 0 0), (.int .i64 (0 : Int))]) (args := [(Sl.v a), (Sl.v b), (.int .i64 n)]) (Kv := kv30 K) (Kp := Kp) (h := h) Tryd.func30 (by kernel_rfl) (Eq.mp (by kernel_rfl) H))

/-! ### 31: colonnade/bits.Or -/

noncomputable def code31 : Code := Tryd.f31.body.getD .skip

def ann31 : Ann := []

def ord31 : List (Nat × List Nat × List Nat) := []

def kv31 (K : Sl → Int → Hp → Prop) : Value → Hp → Prop := fun v h => match v with | .tuple us => (let vs := us.toList; match (vs.getD 0 undef) with | .slice r0a r0n r0c => (let r0 : Sl := ⟨r0a, r0n, r0c⟩; match (vs.getD 1 undef) with | .int _ r1 => (K r0 r1 h) | _ => False) | _ => False) | _ => False

def q31 (K : Sl → Int → Hp → Prop) : Qt := retQ Tryd.prog Tryd.f31.results.toList [(.slice none 0 0), (.int .i64 (0 : Int))] (kv31 K)

def S31 (a : Sl) (b : Sl) (n : Int) (h : Hp) (K : Sl → Int → Hp → Prop) (Kp : List PanicEntry → Hp → Prop) : Prop :=
  Fn52 a b n (.func (.func 54) #[] #[]) h (fun t11_0 t11_1 h1 =>
    K t11_0 t11_1 h1) Kp

theorem Fn31.of {a : Sl} {b : Sl} {n : Int} {h : Hp} {K : Sl → Int → Hp → Prop} {Kp : List PanicEntry → Hp → Prop} (H : S31 a b n h K Kp) : Fn31 a b n h K Kp :=
  Eq.mp (by kernel_rfl) (fn_of (P := Tryd.prog) (ann := ann31) (D := DrawSem Tryd.prog ord31) (drawOk _) (c := code31) (zs := [(.slice none 0 0), (.int .i64 (0 : Int))]) (args := [(Sl.v a), (Sl.v b), (.int .i64 n)]) (Kv := kv31 K) (Kp := Kp) (h := h) Tryd.func31 (by kernel_rfl) (Eq.mp (by kernel_rfl) H))

/-! ### 32: colonnade/bits.Xor -/

noncomputable def code32 : Code := Tryd.f32.body.getD .skip

def ann32 : Ann := []

def ord32 : List (Nat × List Nat × List Nat) := []

def kv32 (K : Sl → Int → Hp → Prop) : Value → Hp → Prop := fun v h => match v with | .tuple us => (let vs := us.toList; match (vs.getD 0 undef) with | .slice r0a r0n r0c => (let r0 : Sl := ⟨r0a, r0n, r0c⟩; match (vs.getD 1 undef) with | .int _ r1 => (K r0 r1 h) | _ => False) | _ => False) | _ => False

def q32 (K : Sl → Int → Hp → Prop) : Qt := retQ Tryd.prog Tryd.f32.results.toList [(.slice none 0 0), (.int .i64 (0 : Int))] (kv32 K)

def S32 (a : Sl) (b : Sl) (n : Int) (h : Hp) (K : Sl → Int → Hp → Prop) (Kp : List PanicEntry → Hp → Prop) : Prop :=
  Fn52 a b n (.func (.func 55) #[] #[]) h (fun t11_0 t11_1 h1 =>
    K t11_0 t11_1 h1) Kp

theorem Fn32.of {a : Sl} {b : Sl} {n : Int} {h : Hp} {K : Sl → Int → Hp → Prop} {Kp : List PanicEntry → Hp → Prop} (H : S32 a b n h K Kp) : Fn32 a b n h K Kp :=
  Eq.mp (by kernel_rfl) (fn_of (P := Tryd.prog) (ann := ann32) (D := DrawSem Tryd.prog ord32) (drawOk _) (c := code32) (zs := [(.slice none 0 0), (.int .i64 (0 : Int))]) (args := [(Sl.v a), (Sl.v b), (.int .i64 n)]) (Kv := kv32 K) (Kp := Kp) (h := h) Tryd.func32 (by kernel_rfl) (Eq.mp (by kernel_rfl) H))

/-! ### 33: colonnade/bits.Not -/

noncomputable def code33 : Code := Tryd.f33.body.getD .skip

def ann33 : Ann := []

def ord33 : List (Nat × List Nat × List Nat) := []

def kv33 (K : Sl → Int → Hp → Prop) : Value → Hp → Prop := fun v h => match v with | .tuple us => (let vs := us.toList; match (vs.getD 0 undef) with | .slice r0a r0n r0c => (let r0 : Sl := ⟨r0a, r0n, r0c⟩; match (vs.getD 1 undef) with | .int _ r1 => (K r0 r1 h) | _ => False) | _ => False) | _ => False

def q33 (K : Sl → Int → Hp → Prop) : Qt := retQ Tryd.prog Tryd.f33.results.toList [(.slice none 0 0), (.int .i64 (0 : Int))] (kv33 K)

def S33 (a : Sl) (n : Int) (h : Hp) (K : Sl → Int → Hp → Prop) (Kp : List PanicEntry → Hp → Prop) : Prop :=
  Fn52 a a n (.func (.func 56) #[] #[]) h (fun t9_0 t9_1 h1 =>
    K t9_0 t9_1 h1) Kp

theorem Fn33.of {a : Sl} {n : Int} {h : Hp} {K : Sl → Int → Hp → Prop} {Kp : List PanicEntry → Hp → Prop} (H : S33 a n h K Kp) : Fn33 a n h K Kp :=
  Eq.mp (by kernel_rfl) (fn_of (P := Tryd.prog) (ann := ann33) (D := DrawSem Tryd.prog ord33) (drawOk _) (c := code33) (zs := [(.slice none 0 0), (.int .i64 (0 : Int))]) (args := [(Sl.v a), (.int .i64 n)]) (Kv := kv33 K) (Kp := Kp) (h := h) Tryd.func33 (by kernel_rfl) (Eq.mp (by kernel_rfl) H))

/-! ### 34: colonnade/bits.Place -/

noncomputable def code34 : Code := Tryd.f34.body.getD .skip

def ann34 : Ann := [(4007, [7, 8, 9, 25])]

def ord34 : List (Nat × List Nat × List Nat) := []

def kv34 (K : Int → Int → Hp → Prop) : Value → Hp → Prop := fun v h => match v with | .tuple us => (let vs := us.toList; match (vs.getD 0 undef) with | .int _ r0 => (match (vs.getD 1 undef) with | .int _ r1 => (K r0 r1 h) | _ => False) | _ => False) | _ => False

def q34 (K : Int → Int → Hp → Prop) : Qt := retQ Tryd.prog Tryd.f34.results.toList [(.int .i64 (0 : Int)), (.int .i64 (0 : Int))] (kv34 K)

def RT34_1 (x7 : Addr) (x8 : Addr) (x9 : Addr) (x25 : Value) (lb : Nat) (NB : Hp → Prop) (XB : Code → Hp → Prop) (y26 : Int) (y27 : Int) (h : Hp) : Prop :=
  Busy lb h h fun h1 =>
  Ld h1 x7 (Value.int .i64) fun t28 =>
  If (decide (t28 < y27)) (
    Ld h1 x7 (Value.int .i64) fun t32 =>
    Wr .i64 (y26 + t32) fun t33 =>
    St h1 x8 (.int .i64 t33) fun h2 =>
    St h2 x9 (.int .i64 (0 : Int)) fun h3 =>
    XB .ret h3) (
    Ld h1 x7 (Value.int .i64) fun t34 =>
    Wr .i64 (t34 - y27) fun t36 =>
    St h1 x7 (.int .i64 t36) fun h2 =>
    NB h2)

def R34_1 (x7 : Addr) (x8 : Addr) (x9 : Addr) (x25 : Value) (K : Int → Int → Hp → Prop) (Kp : List PanicEntry → Hp → Prop) (h : Hp) : Prop :=
  sem Tryd.prog ann34 (DrawSem Tryd.prog ord34) none (sub [1, 1, 1, 0, 1, 0] code34) (ctxQ Tryd.prog ann34 (DrawSem Tryd.prog ord34) none Kp [1, 1, 1, 0, 1, 0] code34 [] (q34 K)) Kp ([none, none, none, none, none, none, none, some (.pointer (some x7)), some (.pointer (some x8)), some (.pointer (some x9)), none, none, none, none, none, none, none, none, none, none, none, none, none, none, none, some x25, none, none, none, none, none, none, none, none, none, none, none]) h

def RD34_1 (x7 : Addr) (x8 : Addr) (x9 : Addr) (x25 : Value) (K : Int → Int → Hp → Prop) (Kp : List PanicEntry → Hp → Prop) (h : Hp) : Prop :=
  St h x8 (.int .i64 (0 : Int)) fun h1 =>
  St h1 x9 (.int .i64 (2 : Int)) fun h2 =>
  Ld h2 x8 (Value.int .i64) fun r0 =>
  Ld h2 x9 (Value.int .i64) fun r1 =>
  K r0 r1 h2

def RX34_1_ret (x7 : Addr) (x8 : Addr) (x9 : Addr) (x25 : Value) (K : Int → Int → Hp → Prop) (Kp : List PanicEntry → Hp → Prop) (h : Hp) : Prop :=
  Ld h x8 (Value.int .i64) fun r0 =>
  Ld h x9 (Value.int .i64) fun r1 =>
  K r0 r1 h

theorem R34_1.rule {x7 : Addr} {x8 : Addr} {x9 : Addr} {x25 : Value} {K : Int → Int → Hp → Prop} {Kp : List PanicEntry → Hp → Prop} {h : Hp} {α : Type} {xs : List α} (e0 : α → Int) (e1 : α → Int) {Pre : Hp → Prop} (hit : Iter Tryd.prog x25 xs (fun y => [(.int .i64 (e0 y)), (.int .i64 (e1 y))]) Pre) (I : List α → Hp → Prop) (I_ret : List α → Hp → Prop) (h0 : I [] h)
    (hG : ∀ pre h1 h2, Grw h1 h2 → I pre h1 → I pre h2) (hI : ∀ l pre h1 h2, h.size ≤ l → Tw l h1 h2 → I pre h1 → I pre h2) (hPre : ∀ pre h1, I pre h1 → Pre h1) (hG_ret : ∀ pre h1 h2, Grw h1 h2 → I_ret pre h1 → I_ret pre h2) (hI_ret : ∀ l pre h1 h2, h.size ≤ l → Tw l h1 h2 → I_ret pre h1 → I_ret pre h2) 
    (hbody : ∀ l pre y suf h1, xs = pre ++ y :: suf → h.size ≤ l → (∃ r, h1[l]? = some (.loop r)) → I pre h1 → ∀ (N : Hp → Prop) (X : Code → Hp → Prop), (∀ h' h2, Tw l h1 h' → h2[l]? = h'[l]? → I (pre ++ [y]) h2 → N h2) → (∀ h' h2, Tw l h1 h' → h2[l]? = h'[l]? → I_ret (pre ++ [y]) h2 → X .ret h2) → RT34_1 x7 x8 x9 x25 l N X (e0 y) (e1 y) h1)
    (done : ∀ h2, I xs h2 → RD34_1 x7 x8 x9 x25 K Kp h2) (stop_ret : ∀ pre suf h2, xs = pre ++ suf → I_ret pre h2 → RX34_1_ret x7 x8 x9 x25 K Kp h2) : R34_1 x7 x8 x9 x25 K Kp h :=
  Eq.mp (by kernel_rfl) (range_rule (P := Tryd.prog) (ann := ann34) (D := (DrawSem Tryd.prog ord34)) (fun _ => drawOk _) (rd := none) (g := .tmp 25) (ps := #[26, 27]) (assign := sub [1, 1, 1, 0, 1, 0, 0] code34) (body := sub [1, 1, 1, 0, 1, 0, 1] code34) (Q := ctxQ Tryd.prog ann34 (DrawSem Tryd.prog ord34) none Kp [1, 1, 1, 0, 1, 0] code34 [] (q34 K)) (Kp := Kp) (fr := [none, none, none, none, none, none, none, some (.pointer (some x7)), some (.pointer (some x8)), some (.pointer (some x9)), none, none, none, none, none, none, none, none, none, none, none, none, none, none, none, some x25, none, none, none, none, none, none, none, none, none, none, none]) (h := h) (fv := x25) (by kernel_rfl)
    hit (fun _ => rfl) trivial I (fun c => match c with | .ret => I_ret | _ => fun _ _ => False) h0 hG (by intro c pre h1 h2 hg hi; revert hi; cases c with
      | ret => exact hG_ret pre h1 h2 hg
      | _ => exact fun hi => hi.elim) hI (by intro l c pre h1 h2 hl ht hi; revert hi; cases c with
      | ret => exact hI_ret l pre h1 h2 hl ht
      | _ => exact fun hi => hi.elim) hPre
    (by
      intro l pre y suf h1 e1 e2 e3 e4 N X hN hX
      exact Eq.mp (by kernel_rfl) (hbody l pre y suf h1 e1 e2 e3 e4 N X hN (hX .ret)))
    (fun h2 hi => Eq.mp (by kernel_rfl) (done h2 hi)) (by
      intro c pre suf h2 e1 hi
      cases c with
      | ret => exact Eq.mp (by kernel_rfl) (stop_ret pre suf h2 e1 hi)
      | _ => exact hi.elim))

def S34 (b : Sl) (fromv : Int) (n : Int) (k : Int) (h : Hp) (K : Int → Int → Hp → Prop) (Kp : List PanicEntry → Hp → Prop) : Prop :=
  New h #[(.int .i64 k)] 3 fun a7 h1 =>
  New h1 #[(.int .i64 (0 : Int))] 3 fun a8 h2 =>
  New h2 #[(.int .i64 (0 : Int))] 35 fun a9 h3 =>
  Ld h3 a7 (Value.int .i64) fun t13 =>
  If (decide (t13 < (0 : Int))) (
    St h3 a8 (.int .i64 (0 : Int)) fun h4 =>
    St h4 a9 (.int .i64 (1 : Int)) fun h5 =>
    Ld h5 a8 (Value.int .i64) fun r0 =>
    Ld h5 a9 (Value.int .i64) fun r1 =>
    K r0 r1 h5) (
    Fn46 b fromv n h3 (fun t18 h4 =>
      If (t18 != (0 : Int)) (
        St h4 a8 (.int .i64 (0 : Int)) fun h5 =>
        St h5 a9 (.int .i64 t18) fun h6 =>
        Ld h6 a8 (Value.int .i64) fun r0 =>
        Ld h6 a9 (Value.int .i64) fun r1 =>
        K r0 r1 h6) (
        Fn28 b fromv n h4 (fun t25 h5 =>
          R34_1 a7 a8 a9 t25 K Kp h5) Kp)) Kp)

theorem Fn34.of {b : Sl} {fromv : Int} {n : Int} {k : Int} {h : Hp} {K : Int → Int → Hp → Prop} {Kp : List PanicEntry → Hp → Prop} (H : S34 b fromv n k h K Kp) : Fn34 b fromv n k h K Kp :=
  Eq.mp (by kernel_rfl) (fn_of (P := Tryd.prog) (ann := ann34) (D := DrawSem Tryd.prog ord34) (drawOk _) (c := code34) (zs := [(.int .i64 (0 : Int)), (.int .i64 (0 : Int))]) (args := [(Sl.v b), (.int .i64 fromv), (.int .i64 n), (.int .i64 k)]) (Kv := kv34 K) (Kp := Kp) (h := h) Tryd.func34 (by kernel_rfl) (Eq.mp (by kernel_rfl) H))

/-! ### 35: colonnade/colonnaderef02.Get -/

noncomputable def code35 : Code := Tryd.f35.body.getD .skip

def ann35 : Ann := []

def ord35 : List (Nat × List Nat × List Nat) := []

def kv35 (K : Bool → Int → Hp → Prop) : Value → Hp → Prop := fun v h => match v with | .tuple us => (let vs := us.toList; match (vs.getD 0 undef) with | .bool r0 => (match (vs.getD 1 undef) with | .int _ r1 => (K r0 r1 h) | _ => False) | _ => False) | _ => False

def q35 (K : Bool → Int → Hp → Prop) : Qt := retQ Tryd.prog Tryd.f35.results.toList [(.bool false), (.int .i64 (0 : Int))] (kv35 K)

def S35 (b : Sl) (i : Int) (h : Hp) (K : Bool → Int → Hp → Prop) (Kp : List PanicEntry → Hp → Prop) : Prop :=
  Fn49 b i (1 : Int) h (fun t9 h1 =>
    If (t9 != (0 : Int)) (
      K false t9 h1) (
      Fn50 b i h1 (fun t15 h2 =>
        K t15 (0 : Int) h2) Kp)) Kp

theorem Fn35.of {b : Sl} {i : Int} {h : Hp} {K : Bool → Int → Hp → Prop} {Kp : List PanicEntry → Hp → Prop} (H : S35 b i h K Kp) : Fn35 b i h K Kp :=
  Eq.mp (by kernel_rfl) (fn_of (P := Tryd.prog) (ann := ann35) (D := DrawSem Tryd.prog ord35) (drawOk _) (c := code35) (zs := [(.bool false), (.int .i64 (0 : Int))]) (args := [(Sl.v b), (.int .i64 i)]) (Kv := kv35 K) (Kp := Kp) (h := h) Tryd.func35 (by kernel_rfl) (Eq.mp (by kernel_rfl) H))

/-! ### 36: colonnade/colonnaderef02.Count -/

noncomputable def code36 : Code := Tryd.f36.body.getD .skip

def ann36 : Ann := [(2006, [8, 10, 11])]

def ord36 : List (Nat × List Nat × List Nat) := []

def kv36 (K : Int → Int → Hp → Prop) : Value → Hp → Prop := fun v h => match v with | .tuple us => (let vs := us.toList; match (vs.getD 0 undef) with | .int _ r0 => (match (vs.getD 1 undef) with | .int _ r1 => (K r0 r1 h) | _ => False) | _ => False) | _ => False

def q36 (K : Int → Int → Hp → Prop) : Qt := retQ Tryd.prog Tryd.f36.results.toList [(.int .i64 (0 : Int)), (.int .i64 (0 : Int))] (kv36 K)

abbrev mk36_1 (x8 : Sl) (x10 : Int) (x11 : Int) : Fr := [none, none, none, none, none, none, none, none, some (Sl.v x8), none, some (.int .i64 x10), some (.int .i64 x11), none, none, none, none, none, none, none, none, none, none, none, none, none, none, none, none, none, none, none, none, none, none, none]

def T36_1 (x8 : Sl) (K : Int → Int → Hp → Prop) (Kp : List PanicEntry → Hp → Prop) (N1 : Fr → Hp → Prop) (x10 : Int) (x11 : Int) (h : Hp) : Prop :=
  If (decide (x11 < (x8.n : Int))) (
    Ix x8.a x8.n 1 x11 fun a30 =>
    Ld h a30 (Value.bool) fun t31 =>
    If t31 (
      Wr .i64 (x10 + (1 : Int)) fun t33 =>
      Wr .i64 (x11 + (1 : Int)) fun t27 =>
      N1 (mk36_1 x8 t33 t27) h) (
      Wr .i64 (x11 + (1 : Int)) fun t27 =>
      N1 (mk36_1 x8 x10 t27) h)) (
    K x10 (0 : Int) h)

def L36_1 (x8 : Sl) (K : Int → Int → Hp → Prop) (Kp : List PanicEntry → Hp → Prop) (x10 : Int) (x11 : Int) (h : Hp) : Prop :=
  LoopH (fun N fr h => sem Tryd.prog ann36 (DrawSem Tryd.prog ord36) none (sub [1, 1, 1, 1, 0, 1, 0, 0] code36) (thenQ (fun fr' h' => N (Ann.find ann36 2006 fr') h') (ctxQ Tryd.prog ann36 (DrawSem Tryd.prog ord36) none Kp [1, 1, 1, 1, 0, 1, 0] code36 [] (q36 K))) Kp fr h) (mk36_1 x8 x10 x11) h

theorem L36_1.rule {x8 : Sl} {K : Int → Int → Hp → Prop} {Kp : List PanicEntry → Hp → Prop} (I : Int → Int → Hp → Prop) (μ : Int → Int → Hp → Nat) {x10 : Int} {x11 : Int} {h : Hp} (h0 : I x10 x11 h)
    (step : ∀ (x10 : Int) (x11 : Int) (h : Hp), I x10 x11 h → ∀ N1 : Fr → Hp → Prop, (∀ (x10' : Int) (x11' : Int) (h' : Hp), I x10' x11' h' → μ x10' x11' h' < μ x10 x11 h → N1 (mk36_1 x8 x10' x11') h') → T36_1 x8 K Kp N1 x10 x11 h) : L36_1 x8 K Kp x10 x11 h :=
  loop_rule (σ := Int × Int) (fun s => mk36_1 x8 s.1 s.2) (fun N s h => T36_1 x8 K Kp N s.1 s.2 h) (fun N s h => by kernel_rfl) (fun s h => I s.1 s.2 h) (fun s h => μ s.1 s.2 h) (s0 := ⟨x10, x11⟩) h0 (fun s h hI N hN => step s.1 s.2 h hI N (fun x10' x11' h' hI' hl => hN ⟨x10', x11'⟩ h' hI' hl))

def S36 (b : Sl) (fromv : Int) (n : Int) (h : Hp) (K : Int → Int → Hp → Prop) (Kp : List PanicEntry → Hp → Prop) : Prop :=
  Fn26 b fromv n h (fun t16_0 t16_1 h1 =>
    If (t16_1 != (0 : Int)) (
      K (0 : Int) t16_1 h1) (
      L36_1 t16_0 K Kp (0 : Int) (0 : Int) h1)) Kp

theorem Fn36.of {b : Sl} {fromv : Int} {n : Int} {h : Hp} {K : Int → Int → Hp → Prop} {Kp : List PanicEntry → Hp → Prop} (H : S36 b fromv n h K Kp) : Fn36 b fromv n h K Kp :=
  Eq.mp (by kernel_rfl) (fn_of (P := Tryd.prog) (ann := ann36) (D := DrawSem Tryd.prog ord36) (drawOk _) (c := code36) (zs := [(.int .i64 (0 : Int)), (.int .i64 (0 : Int))]) (args := [(Sl.v b), (.int .i64 fromv), (.int .i64 n)]) (Kv := kv36 K) (Kp := Kp) (h := h) Tryd.func36 (by kernel_rfl) (Eq.mp (by kernel_rfl) H))

/-! ### 37: colonnade/colonnaderef02.Make -/

noncomputable def code37 : Code := Tryd.f37.body.getD .skip

def ann37 : Ann := [(2003, [0, 3, 4]), (11, [0, 3, 4, 5]), (2008, [0, 3, 4, 5, 6])]

def ord37 : List (Nat × List Nat × List Nat) := []

def kv37 (K : Sl → Hp → Prop) : Value → Hp → Prop := fun v h => match v with | .slice r0a r0n r0c => (let r0 : Sl := ⟨r0a, r0n, r0c⟩; K r0 h) | _ => False

def q37 (K : Sl → Hp → Prop) : Qt := retQ Tryd.prog Tryd.f37.results.toList [(.slice none 0 0)] (kv37 K)

abbrev mk37_1 (x0 : Sl) (x3 : Sl) (x4 : Int) : Fr := [some (Sl.v x0), none, none, some (Sl.v x3), some (.int .i64 x4), none, none, none, none, none, none, none, none, none, none, none, none, none, none, none, none, none, none, none, none, none, none, none, none, none, none, none, none, none, none, none, none, none, none, none]

def JT37_2 (x0 : Sl) (x3 : Sl) (x4 : Int) (x5 : Int) (N1 : Fr → Hp → Prop) (K : Sl → Hp → Prop) (Kp : List PanicEntry → Hp → Prop) (h : Hp) : Prop :=
  Dv (8 : Int) <| Wr .i64 (Int.tdiv x4 (8 : Int)) fun t32 =>
  Ix x3.a x3.n 1 t32 fun a33 =>
  Ld h a33 (Value.int .u8) fun t34 =>
  Wr .u8 x5 fun t36 =>
  Wr .u8 (t34 + t36) fun t37 =>
  Ix x3.a x3.n 1 t32 fun a38 =>
  St h a38 (.int .u8 t37) fun h1 =>
  Wr .i64 (x4 + (1 : Int)) fun t16 =>
  N1 (mk37_1 x0 x3 t16) h1

def J37_2 (x0 : Sl) (x3 : Sl) (x4 : Int) (x5 : Int) (N1 : Fr → Hp → Prop) (K : Sl → Hp → Prop) (Kp : List PanicEntry → Hp → Prop) (h : Hp) : Prop :=
  sem Tryd.prog ann37 (DrawSem Tryd.prog ord37) none (sub [1, 1, 0, 1, 0, 0, 1, 0, 0, 1, 1, 1] code37) (ctxQ Tryd.prog ann37 (DrawSem Tryd.prog ord37) none Kp [1, 1, 0, 1, 0, 0, 1, 0, 0, 1, 1, 1] code37 [N1] (q37 K)) Kp ([some (Sl.v x0), none, none, some (Sl.v x3), some (.int .i64 x4), some (.int .i64 x5), none, none, none, none, none, none, none, none, none, none, none, none, none, none, none, none, none, none, none, none, none, none, none, none, none, none, none, none, none, none, none, none, none, none]) h

theorem J37_2.of {x0 : Sl} {x3 : Sl} {x4 : Int} {x5 : Int} {N1 : Fr → Hp → Prop} {K : Sl → Hp → Prop} {Kp : List PanicEntry → Hp → Prop} {h : Hp} (H : JT37_2 x0 x3 x4 x5 N1 K Kp h) : J37_2 x0 x3 x4 x5 N1 K Kp h :=
  Eq.mp (by kernel_rfl) H

abbrev mk37_3 (x0 : Sl) (x3 : Sl) (x4 : Int) (x5 : Int) (x6 : Int) : Fr := [some (Sl.v x0), none, none, some (Sl.v x3), some (.int .i64 x4), some (.int .i64 x5), some (.int .i64 x6), none, none, none, none, none, none, none, none, none, none, none, none, none, none, none, none, none, none, none, none, none, none, none, none, none, none, none, none, none, none, none, none, none]

def T37_3 (x0 : Sl) (x3 : Sl) (x4 : Int) (N1 : Fr → Hp → Prop) (K : Sl → Hp → Prop) (Kp : List PanicEntry → Hp → Prop) (N2 : Fr → Hp → Prop) (x5 : Int) (x6 : Int) (h : Hp) : Prop :=
  Dv (8 : Int) <| Lt (Int.tmod x4 (8 : Int)) fun t24 =>
  If (decide (x6 < t24)) (
    Wr .i64 (x5 * (2 : Int)) fun t29 =>
    Wr .i64 (x6 + (1 : Int)) fun t27 =>
    N2 (mk37_3 x0 x3 x4 t29 t27) h) (
    J37_2 x0 x3 x4 x5 N1 K Kp h)

def L37_3 (x0 : Sl) (x3 : Sl) (x4 : Int) (N1 : Fr → Hp → Prop) (K : Sl → Hp → Prop) (Kp : List PanicEntry → Hp → Prop) (x5 : Int) (x6 : Int) (h : Hp) : Prop :=
  LoopH (fun N fr h => sem Tryd.prog ann37 (DrawSem Tryd.prog ord37) none (sub [1, 1, 0, 1, 0, 0, 1, 0, 0, 1, 1, 0, 1, 0, 0] code37) (thenQ (fun fr' h' => N (Ann.find ann37 2008 fr') h') (ctxQ Tryd.prog ann37 (DrawSem Tryd.prog ord37) none Kp [1, 1, 0, 1, 0, 0, 1, 0, 0, 1, 1, 0, 1, 0] code37 [N1] (q37 K))) Kp fr h) (mk37_3 x0 x3 x4 x5 x6) h

theorem L37_3.rule {x0 : Sl} {x3 : Sl} {x4 : Int} {N1 : Fr → Hp → Prop} {K : Sl → Hp → Prop} {Kp : List PanicEntry → Hp → Prop} (I : Int → Int → Hp → Prop) (μ : Int → Int → Hp → Nat) {x5 : Int} {x6 : Int} {h : Hp} (h0 : I x5 x6 h)
    (step : ∀ (x5 : Int) (x6 : Int) (h : Hp), I x5 x6 h → ∀ N2 : Fr → Hp → Prop, (∀ (x5' : Int) (x6' : Int) (h' : Hp), I x5' x6' h' → μ x5' x6' h' < μ x5 x6 h → N2 (mk37_3 x0 x3 x4 x5' x6') h') → T37_3 x0 x3 x4 N1 K Kp N2 x5 x6 h) : L37_3 x0 x3 x4 N1 K Kp x5 x6 h :=
  loop_rule (σ := Int × Int) (fun s => mk37_3 x0 x3 x4 s.1 s.2) (fun N s h => T37_3 x0 x3 x4 N1 K Kp N s.1 s.2 h) (fun N s h => by kernel_rfl) (fun s h => I s.1 s.2 h) (fun s h => μ s.1 s.2 h) (s0 := ⟨x5, x6⟩) h0 (fun s h hI N hN => step s.1 s.2 h hI N (fun x5' x6' h' hI' hl => hN ⟨x5', x6'⟩ h' hI' hl))

def T37_1 (x0 : Sl) (x3 : Sl) (K : Sl → Hp → Prop) (Kp : List PanicEntry → Hp → Prop) (N1 : Fr → Hp → Prop) (x4 : Int) (h : Hp) : Prop :=
  If (decide (x4 < (x0.n : Int))) (
    Ix x0.a x0.n 1 x4 fun a19 =>
    Ld h a19 (Value.bool) fun t20 =>
    If (!t20) (
      Wr .i64 (x4 + (1 : Int)) fun t16 =>
      N1 (mk37_1 x0 x3 t16) h) (
      L37_3 x0 x3 x4 N1 K Kp (1 : Int) (0 : Int) h)) (
    K x3 h)

def L37_1 (x0 : Sl) (x3 : Sl) (K : Sl → Hp → Prop) (Kp : List PanicEntry → Hp → Prop) (x4 : Int) (h : Hp) : Prop :=
  LoopH (fun N fr h => sem Tryd.prog ann37 (DrawSem Tryd.prog ord37) none (sub [1, 1, 0, 1, 0, 0] code37) (thenQ (fun fr' h' => N (Ann.find ann37 2003 fr') h') (ctxQ Tryd.prog ann37 (DrawSem Tryd.prog ord37) none Kp [1, 1, 0, 1, 0] code37 [] (q37 K))) Kp fr h) (mk37_1 x0 x3 x4) h

theorem L37_1.rule {x0 : Sl} {x3 : Sl} {K : Sl → Hp → Prop} {Kp : List PanicEntry → Hp → Prop} (I : Int → Hp → Prop) (μ : Int → Hp → Nat) {x4 : Int} {h : Hp} (h0 : I x4 h)
    (step : ∀ (x4 : Int) (h : Hp), I x4 h → ∀ N1 : Fr → Hp → Prop, (∀ (x4' : Int) (h' : Hp), I x4' h' → μ x4' h' < μ x4 h → N1 (mk37_1 x0 x3 x4') h') → T37_1 x0 x3 K Kp N1 x4 h) : L37_1 x0 x3 K Kp x4 h :=
  loop_rule (σ := Int) (fun s => mk37_1 x0 x3 s) (fun N s h => T37_1 x0 x3 K Kp N s h) (fun N s h => by kernel_rfl) (fun s h => I s h) (fun s h => μ s h) (s0 := x4) h0 (fun s h hI N hN => step s h hI N (fun x4' h' hI' hl => hN x4' h' hI' hl))

def S37 (l : Sl) (h : Hp) (K : Sl → Hp → Prop) (Kp : List PanicEntry → Hp → Prop) : Prop :=
  Fn43 (l.n : Int) h (fun t9 h1 =>
    MkS h1 5 #[(.int .u8 (0 : Int))] 1 1 t9 t9 fun t10 h2 =>
    L37_1 l t10 K Kp (0 : Int) h2) Kp

theorem Fn37.of {l : Sl} {h : Hp} {K : Sl → Hp → Prop} {Kp : List PanicEntry → Hp → Prop} (H : S37 l h K Kp) : Fn37 l h K Kp :=
  Eq.mp (by kernel_rfl) (fn_of (P := Tryd.prog) (ann := ann37) (D := DrawSem Tryd.prog ord37) (drawOk _) (c := code37) (zs := [(.slice none 0 0)]) (args := [(Sl.v l)]) (Kv := kv37 K) (Kp := Kp) (h := h) Tryd.func37 (by kernel_rfl) (Eq.mp (by kernel_rfl) H))

/-! ### 38: colonnade/colonnaderef02.Cut -/

noncomputable def code38 : Code := Tryd.f38.body.getD .skip

def ann38 : Ann := []

def ord38 : List (Nat × List Nat × List Nat) := []

def kv38 (K : Sl → Int → Hp → Prop) : Value → Hp → Prop := fun v h => match v with | .tuple us => (let vs := us.toList; match (vs.getD 0 undef) with | .slice r0a r0n r0c => (let r0 : Sl := ⟨r0a, r0n, r0c⟩; match (vs.getD 1 undef) with | .int _ r1 => (K r0 r1 h) | _ => False) | _ => False) | _ => False

def q38 (K : Sl → Int → Hp → Prop) : Qt := retQ Tryd.prog Tryd.f38.results.toList [(.slice none 0 0), (.int .i64 (0 : Int))] (kv38 K)

def S38 (b : Sl) (fromv : Int) (n : Int) (h : Hp) (K : Sl → Int → Hp → Prop) (Kp : List PanicEntry → Hp → Prop) : Prop :=
  Fn26 b fromv n h (fun t14_0 t14_1 h1 =>
    If (t14_1 != (0 : Int)) (
      K (⟨none, 0, 0⟩ : Sl) t14_1 h1) (
      Fn37 t14_0 h1 (fun t21 h2 =>
        K t21 (0 : Int) h2) Kp)) Kp

theorem Fn38.of {b : Sl} {fromv : Int} {n : Int} {h : Hp} {K : Sl → Int → Hp → Prop} {Kp : List PanicEntry → Hp → Prop} (H : S38 b fromv n h K Kp) : Fn38 b fromv n h K Kp :=
  Eq.mp (by kernel_rfl) (fn_of (P := Tryd.prog) (ann := ann38) (D := DrawSem Tryd.prog ord38) (drawOk _) (c := code38) (zs := [(.slice none 0 0), (.int .i64 (0 : Int))]) (args := [(Sl.v b), (.int .i64 fromv), (.int .i64 n)]) (Kv := kv38 K) (Kp := Kp) (h := h) Tryd.func38 (by kernel_rfl) (Eq.mp (by kernel_rfl) H))

/-! ### 39: colonnade/colonnaderef02.Joined -/

noncomputable def code39 : Code := Tryd.f39.body.getD .skip

def ann39 : Ann := [(2009, [0, 3, 10, 12, 14, 15])]

def ord39 : List (Nat × List Nat × List Nat) := [(12, [0, 1, 2, 3, 4, 5, 6, 7, 8, 9, 10, 11, 12], [0, 0, 0, 6, 14, 0, 0, 96, 224, 510, 1022, 2047, 4095])]

def kv39 (K : Sl → Int → Hp → Prop) : Value → Hp → Prop := fun v h => match v with | .tuple us => (let vs := us.toList; match (vs.getD 0 undef) with | .slice r0a r0n r0c => (let r0 : Sl := ⟨r0a, r0n, r0c⟩; match (vs.getD 1 undef) with | .int _ r1 => (K r0 r1 h) | _ => False) | _ => False) | _ => False

def q39 (K : Sl → Int → Hp → Prop) : Qt := retQ Tryd.prog Tryd.f39.results.toList [(.slice none 0 0), (.int .i64 (0 : Int))] (kv39 K)

abbrev mk39_1 (x0 : Int) (x3 : Int) (x10 : Sl) (x12 : Sl) (x14 : Sl) (x15 : Int) : Fr := [some (.int .i64 x0), none, none, some (.int .i64 x3), none, none, none, none, none, none, some (Sl.v x10), none, some (Sl.v x12), none, some (Sl.v x14), some (.int .i64 x15), none, none, none, none, none, none, none, none, none, none, none, none, none, none, none, none, none, none, none, none, none, none, none, none, none, none, none, none, none, none, none, none, none, none, none, none, none, none, none, none, none, none, none, none, none, none, none, none, none, none, none, none, none, none, none, none, none, none, none, none, none, none, none, none, none, none, none, none, none]

def T39_1 (x0 : Int) (x3 : Int) (x10 : Sl) (x12 : Sl) (K : Sl → Int → Hp → Prop) (Kp : List PanicEntry → Hp → Prop) (N1 : Fr → Hp → Prop) (x14 : Sl) (x15 : Int) (h : Hp) : Prop :=
  If (decide (x15 < x3)) (
    If (x0 == (0 : Int)) (
      Ix x10.a x10.n 1 x15 fun a58 =>
      Ld h a58 (Value.bool) fun t59 =>
      If t59 (
        Ix x12.a x12.n 1 x15 fun a63 =>
        Ld h a63 (Value.bool) fun t64 =>
        New h #[(.bool t64)] 4 fun a66 h1 =>
        Ap h1 4 #[(.bool false)] 1 1 x14 1 (rd h1 (some a66) (1 * 1)) fun t67 h2 =>
        Wr .i64 (x15 + (1 : Int)) fun t39 =>
        N1 (mk39_1 x0 x3 x10 x12 t67 t39) h2) (
        New h #[(.bool false)] 4 fun a66 h1 =>
        Ap h1 4 #[(.bool false)] 1 1 x14 1 (rd h1 (some a66) (1 * 1)) fun t67 h2 =>
        Wr .i64 (x15 + (1 : Int)) fun t39 =>
        N1 (mk39_1 x0 x3 x10 x12 t67 t39) h2)) (
      If (x0 == (1 : Int)) (
        Ix x10.a x10.n 1 x15 fun a73 =>
        Ld h a73 (Value.bool) fun t74 =>
        If t74 (
          New h #[(.bool true)] 4 fun a81 h1 =>
          Ap h1 4 #[(.bool false)] 1 1 x14 1 (rd h1 (some a81) (1 * 1)) fun t82 h2 =>
          Wr .i64 (x15 + (1 : Int)) fun t39 =>
          N1 (mk39_1 x0 x3 x10 x12 t82 t39) h2) (
          Ix x12.a x12.n 1 x15 fun a78 =>
          Ld h a78 (Value.bool) fun t79 =>
          New h #[(.bool t79)] 4 fun a81 h1 =>
          Ap h1 4 #[(.bool false)] 1 1 x14 1 (rd h1 (some a81) (1 * 1)) fun t82 h2 =>
          Wr .i64 (x15 + (1 : Int)) fun t39 =>
          N1 (mk39_1 x0 x3 x10 x12 t82 t39) h2)) (
        Ix x10.a x10.n 1 x15 fun a44 =>
        Ld h a44 (Value.bool) fun t45 =>
        Ix x12.a x12.n 1 x15 fun a48 =>
        Ld h a48 (Value.bool) fun t49 =>
        New h #[(.bool (!(t45 == t49)))] 4 fun a51 h1 =>
        Ap h1 4 #[(.bool false)] 1 1 x14 1 (rd h1 (some a51) (1 * 1)) fun t52 h2 =>
        Wr .i64 (x15 + (1 : Int)) fun t39 =>
        N1 (mk39_1 x0 x3 x10 x12 t52 t39) h2))) (
    Fn37 x14 h (fun t84 h1 =>
      K t84 (0 : Int) h1) Kp)

def L39_1 (x0 : Int) (x3 : Int) (x10 : Sl) (x12 : Sl) (K : Sl → Int → Hp → Prop) (Kp : List PanicEntry → Hp → Prop) (x14 : Sl) (x15 : Int) (h : Hp) : Prop :=
  LoopH (fun N fr h => sem Tryd.prog ann39 (DrawSem Tryd.prog ord39) none (sub [1, 1, 1, 1, 1, 1, 0, 1, 0, 0] code39) (thenQ (fun fr' h' => N (Ann.find ann39 2009 fr') h') (ctxQ Tryd.prog ann39 (DrawSem Tryd.prog ord39) none Kp [1, 1, 1, 1, 1, 1, 0, 1, 0] code39 [] (q39 K))) Kp fr h) (mk39_1 x0 x3 x10 x12 x14 x15) h

theorem L39_1.rule {x0 : Int} {x3 : Int} {x10 : Sl} {x12 : Sl} {K : Sl → Int → Hp → Prop} {Kp : List PanicEntry → Hp → Prop} (I : Sl → Int → Hp → Prop) (μ : Sl → Int → Hp → Nat) {x14 : Sl} {x15 : Int} {h : Hp} (h0 : I x14 x15 h)
    (step : ∀ (x14 : Sl) (x15 : Int) (h : Hp), I x14 x15 h → ∀ N1 : Fr → Hp → Prop, (∀ (x14' : Sl) (x15' : Int) (h' : Hp), I x14' x15' h' → μ x14' x15' h' < μ x14 x15 h → N1 (mk39_1 x0 x3 x10 x12 x14' x15') h') → T39_1 x0 x3 x10 x12 K Kp N1 x14 x15 h) : L39_1 x0 x3 x10 x12 K Kp x14 x15 h :=
  loop_rule (σ := Sl × Int) (fun s => mk39_1 x0 x3 x10 x12 s.1 s.2) (fun N s h => T39_1 x0 x3 x10 x12 K Kp N s.1 s.2 h) (fun N s h => by kernel_rfl) (fun s h => I s.1 s.2 h) (fun s h => μ s.1 s.2 h) (s0 := ⟨x14, x15⟩) h0 (fun s h hI N hN => step s.1 s.2 h hI N (fun x14' x15' h' hI' hl => hN ⟨x14', x15'⟩ h' hI' hl))

def S39 (how : Int) (a : Sl) (b : Sl) (n : Int) (h : Hp) (K : Sl → Int → Hp → Prop) (Kp : List PanicEntry → Hp → Prop) : Prop :=
  Fn26 a (0 : Int) n h (fun t19_0 t19_1 h1 =>
    If (t19_1 != (0 : Int)) (
      K (⟨none, 0, 0⟩ : Sl) t19_1 h1) (
      Fn26 b (0 : Int) n h1 (fun t28_0 t28_1 h2 =>
        If (t28_1 != (0 : Int)) (
          K (⟨none, 0, 0⟩ : Sl) t28_1 h2) (
          New h2 #[] 4 fun a34 h3 =>
          L39_1 how n t19_0 t28_0 K Kp (⟨some a34, 0, 0⟩ : Sl) (0 : Int) h3)) Kp)) Kp

theorem Fn39.of {how : Int} {a : Sl} {b : Sl} {n : Int} {h : Hp} {K : Sl → Int → Hp → Prop} {Kp : List PanicEntry → Hp → Prop} (H : S39 how a b n h K Kp) : Fn39 how a b n h K Kp :=
  Eq.mp (by kernel_rfl) (fn_of (P := Tryd.prog) (ann := ann39) (D := DrawSem Tryd.prog ord39) (drawOk _) (c := code39) (zs := [(.slice none 0 0), (.int .i64 (0 : Int))]) (args := [(.int .i64 how), (Sl.v a), (Sl.v b), (.int .i64 n)]) (Kv := kv39 K) (Kp := Kp) (h := h) Tryd.func39 (by kernel_rfl) (Eq.mp (by kernel_rfl) H))

/-! ### 40: colonnade/colonnaderef02.Not -/

noncomputable def code40 : Code := Tryd.f40.body.getD .skip

def ann40 : Ann := [(2006, [1, 6, 8, 9])]

def ord40 : List (Nat × List Nat × List Nat) := []

def kv40 (K : Sl → Int → Hp → Prop) : Value → Hp → Prop := fun v h => match v with | .tuple us => (let vs := us.toList; match (vs.getD 0 undef) with | .slice r0a r0n r0c => (let r0 : Sl := ⟨r0a, r0n, r0c⟩; match (vs.getD 1 undef) with | .int _ r1 => (K r0 r1 h) | _ => False) | _ => False) | _ => False

def q40 (K : Sl → Int → Hp → Prop) : Qt := retQ Tryd.prog Tryd.f40.results.toList [(.slice none 0 0), (.int .i64 (0 : Int))] (kv40 K)

abbrev mk40_1 (x1 : Int) (x6 : Sl) (x8 : Sl) (x9 : Int) : Fr := [none, some (.int .i64 x1), none, none, none, none, some (Sl.v x6), none, some (Sl.v x8), some (.int .i64 x9), none, none, none, none, none, none, none, none, none, none, none, none, none, none, none, none, none, none, none, none, none, none, none, none, none]

def T40_1 (x1 : Int) (x6 : Sl) (K : Sl → Int → Hp → Prop) (Kp : List PanicEntry → Hp → Prop) (N1 : Fr → Hp → Prop) (x8 : Sl) (x9 : Int) (h : Hp) : Prop :=
  If (decide (x9 < x1)) (
    Ix x6.a x6.n 1 x9 fun a28 =>
    Ld h a28 (Value.bool) fun t29 =>
    New h #[(.bool (!t29))] 4 fun a31 h1 =>
    Ap h1 4 #[(.bool false)] 1 1 x8 1 (rd h1 (some a31) (1 * 1)) fun t32 h2 =>
    Wr .i64 (x9 + (1 : Int)) fun t24 =>
    N1 (mk40_1 x1 x6 t32 t24) h2) (
    Fn37 x8 h (fun t34 h1 =>
      K t34 (0 : Int) h1) Kp)

def L40_1 (x1 : Int) (x6 : Sl) (K : Sl → Int → Hp → Prop) (Kp : List PanicEntry → Hp → Prop) (x8 : Sl) (x9 : Int) (h : Hp) : Prop :=
  LoopH (fun N fr h => sem Tryd.prog ann40 (DrawSem Tryd.prog ord40) none (sub [1, 1, 1, 1, 0, 1, 0, 0] code40) (thenQ (fun fr' h' => N (Ann.find ann40 2006 fr') h') (ctxQ Tryd.prog ann40 (DrawSem Tryd.prog ord40) none Kp [1, 1, 1, 1, 0, 1, 0] code40 [] (q40 K))) Kp fr h) (mk40_1 x1 x6 x8 x9) h

theorem L40_1.rule {x1 : Int} {x6 : Sl} {K : Sl → Int → Hp → Prop} {Kp : List PanicEntry → Hp → Prop} (I : Sl → Int → Hp → Prop) (μ : Sl → Int → Hp → Nat) {x8 : Sl} {x9 : Int} {h : Hp} (h0 : I x8 x9 h)
    (step : ∀ (x8 : Sl) (x9 : Int) (h : Hp), I x8 x9 h → ∀ N1 : Fr → Hp → Prop, (∀ (x8' : Sl) (x9' : Int) (h' : Hp), I x8' x9' h' → μ x8' x9' h' < μ x8 x9 h → N1 (mk40_1 x1 x6 x8' x9') h') → T40_1 x1 x6 K Kp N1 x8 x9 h) : L40_1 x1 x6 K Kp x8 x9 h :=
  loop_rule (σ := Sl × Int) (fun s => mk40_1 x1 x6 s.1 s.2) (fun N s h => T40_1 x1 x6 K Kp N s.1 s.2 h) (fun N s h => by kernel_rfl) (fun s h => I s.1 s.2 h) (fun s h => μ s.1 s.2 h) (s0 := ⟨x8, x9⟩) h0 (fun s h hI N hN => step s.1 s.2 h hI N (fun x8' x9' h' hI' hl => hN ⟨x8', x9'⟩ h' hI' hl))

def S40 (a : Sl) (n : Int) (h : Hp) (K : Sl → Int → Hp → Prop) (Kp : List PanicEntry → Hp → Prop) : Prop :=
  Fn26 a (0 : Int) n h (fun t13_0 t13_1 h1 =>
    If (t13_1 != (0 : Int)) (
      K (⟨none, 0, 0⟩ : Sl) t13_1 h1) (
      New h1 #[] 4 fun a19 h2 =>
      L40_1 n t13_0 K Kp (⟨some a19, 0, 0⟩ : Sl) (0 : Int) h2)) Kp

theorem Fn40.of {a : Sl} {n : Int} {h : Hp} {K : Sl → Int → Hp → Prop} {Kp : List PanicEntry → Hp → Prop} (H : S40 a n h K Kp) : Fn40 a n h K Kp :=
  Eq.mp (by kernel_rfl) (fn_of (P := Tryd.prog) (ann := ann40) (D := DrawSem Tryd.prog ord40) (drawOk _) (c := code40) (zs := [(.slice none 0 0), (.int .i64 (0 : Int))]) (args := [(Sl.v a), (.int .i64 n)]) (Kv := kv40 K) (Kp := Kp) (h := h) Tryd.func40 (by kernel_rfl) (Eq.mp (by kernel_rfl) H))

/-! ### 41: colonnade/colonnaderef02.Next -/

noncomputable def code41 : Code := Tryd.f41.body.getD .skip

def ann41 : Ann := [(2005, [3, 9, 11])]

def ord41 : List (Nat × List Nat × List Nat) := []

def kv41 (K : Int → Hp → Prop) : Value → Hp → Prop := fun v h => match v with | .int _ r0 => (K r0 h) | _ => False

def q41 (K : Int → Hp → Prop) : Qt := retQ Tryd.prog Tryd.f41.results.toList [(.int .i64 (0 : Int))] (kv41 K)

abbrev mk41_1 (x3 : Bool) (x9 : Sl) (x11 : Int) : Fr := [none, none, none, some (.bool x3), none, none, none, none, none, some (Sl.v x9), none, some (.int .i64 x11), none, none, none, none, none, none, none, none, none, none, none, none, none, none, none, none, none, none, none, none, none, none]

def T41_1 (x3 : Bool) (x9 : Sl) (K : Int → Hp → Prop) (Kp : List PanicEntry → Hp → Prop) (N1 : Fr → Hp → Prop) (x11 : Int) (h : Hp) : Prop :=
  If (decide (x11 < (x9.n : Int))) (
    Ix x9.a x9.n 1 x11 fun a29 =>
    Ld h a29 (Value.bool) fun t30 =>
    If (t30 == x3) (
      K x11 h) (
      Wr .i64 (x11 + (1 : Int)) fun t26 =>
      N1 (mk41_1 x3 x9 t26) h)) (
    K (-1 : Int) h)

def L41_1 (x3 : Bool) (x9 : Sl) (K : Int → Hp → Prop) (Kp : List PanicEntry → Hp → Prop) (x11 : Int) (h : Hp) : Prop :=
  LoopH (fun N fr h => sem Tryd.prog ann41 (DrawSem Tryd.prog ord41) none (sub [1, 1, 1, 0, 1, 0, 0] code41) (thenQ (fun fr' h' => N (Ann.find ann41 2005 fr') h') (ctxQ Tryd.prog ann41 (DrawSem Tryd.prog ord41) none Kp [1, 1, 1, 0, 1, 0] code41 [] (q41 K))) Kp fr h) (mk41_1 x3 x9 x11) h

theorem L41_1.rule {x3 : Bool} {x9 : Sl} {K : Int → Hp → Prop} {Kp : List PanicEntry → Hp → Prop} (I : Int → Hp → Prop) (μ : Int → Hp → Nat) {x11 : Int} {h : Hp} (h0 : I x11 h)
    (step : ∀ (x11 : Int) (h : Hp), I x11 h → ∀ N1 : Fr → Hp → Prop, (∀ (x11' : Int) (h' : Hp), I x11' h' → μ x11' h' < μ x11 h → N1 (mk41_1 x3 x9 x11') h') → T41_1 x3 x9 K Kp N1 x11 h) : L41_1 x3 x9 K Kp x11 h :=
  loop_rule (σ := Int) (fun s => mk41_1 x3 x9 s) (fun N s h => T41_1 x3 x9 K Kp N s h) (fun N s h => by kernel_rfl) (fun s h => I s h) (fun s h => μ s h) (s0 := x11) h0 (fun s h hI N hN => step s h hI N (fun x11' h' hI' hl => hN x11' h' hI' hl))

def S41 (b : Sl) (fromv : Int) (n : Int) (onv : Bool) (h : Hp) (K : Int → Hp → Prop) (Kp : List PanicEntry → Hp → Prop) : Prop :=
  Fn26 b fromv n h (fun t16_0 t16_1 h1 =>
    If (t16_1 != (0 : Int)) (
      K (-1 : Int) h1) (
      L41_1 onv t16_0 K Kp (0 : Int) h1)) Kp

theorem Fn41.of {b : Sl} {fromv : Int} {n : Int} {onv : Bool} {h : Hp} {K : Int → Hp → Prop} {Kp : List PanicEntry → Hp → Prop} (H : S41 b fromv n onv h K Kp) : Fn41 b fromv n onv h K Kp :=
  Eq.mp (by kernel_rfl) (fn_of (P := Tryd.prog) (ann := ann41) (D := DrawSem Tryd.prog ord41) (drawOk _) (c := code41) (zs := [(.int .i64 (0 : Int))]) (args := [(Sl.v b), (.int .i64 fromv), (.int .i64 n), (.bool onv)]) (Kv := kv41 K) (Kp := Kp) (h := h) Tryd.func41 (by kernel_rfl) (Eq.mp (by kernel_rfl) H))

/-! ### 42: colonnade/colonnaderef02.Place -/

noncomputable def code42 : Code := Tryd.f42.body.getD .skip

def ann42 : Ann := [(3, [0, 1, 2, 3]), (2007, [3, 10, 12])]

def ord42 : List (Nat × List Nat × List Nat) := []

def kv42 (K : Int → Int → Hp → Prop) : Value → Hp → Prop := fun v h => match v with | .tuple us => (let vs := us.toList; match (vs.getD 0 undef) with | .int _ r0 => (match (vs.getD 1 undef) with | .int _ r1 => (K r0 r1 h) | _ => False) | _ => False) | _ => False

def q42 (K : Int → Int → Hp → Prop) : Qt := retQ Tryd.prog Tryd.f42.results.toList [(.int .i64 (0 : Int)), (.int .i64 (0 : Int))] (kv42 K)

abbrev mk42_2 (x10 : Sl) (x3 : Int) (x12 : Int) : Fr := [none, none, none, some (.int .i64 x3), none, none, none, none, none, none, some (Sl.v x10), none, some (.int .i64 x12), none, none, none, none, none, none, none, none, none, none, none, none, none, none, none, none, none, none, none, none, none, none, none, none, none, none, none, none, none, none, none, none, none, none, none, none]

def T42_2 (x10 : Sl) (K : Int → Int → Hp → Prop) (Kp : List PanicEntry → Hp → Prop) (N1 : Fr → Hp → Prop) (x3 : Int) (x12 : Int) (h : Hp) : Prop :=
  If (decide (x12 < (x10.n : Int))) (
    Ix x10.a x10.n 1 x12 fun a41 =>
    Ld h a41 (Value.bool) fun t42 =>
    If (!t42) (
      Wr .i64 (x12 + (1 : Int)) fun t38 =>
      N1 (mk42_2 x10 x3 t38) h) (
      If (x3 == (0 : Int)) (
        K x12 (0 : Int) h) (
        Wr .i64 (x3 - (1 : Int)) fun t48 =>
        Wr .i64 (x12 + (1 : Int)) fun t38 =>
        N1 (mk42_2 x10 t48 t38) h))) (
    K (0 : Int) (2 : Int) h)

def L42_2 (x10 : Sl) (K : Int → Int → Hp → Prop) (Kp : List PanicEntry → Hp → Prop) (x3 : Int) (x12 : Int) (h : Hp) : Prop :=
  LoopH (fun N fr h => sem Tryd.prog ann42 (DrawSem Tryd.prog ord42) none (sub [1, 1, 1, 1, 0, 1, 0, 0] code42) (thenQ (fun fr' h' => N (Ann.find ann42 2007 fr') h') (ctxQ Tryd.prog ann42 (DrawSem Tryd.prog ord42) none Kp [1, 1, 1, 1, 0, 1, 0] code42 [] (q42 K))) Kp fr h) (mk42_2 x10 x3 x12) h

theorem L42_2.rule {x10 : Sl} {K : Int → Int → Hp → Prop} {Kp : List PanicEntry → Hp → Prop} (I : Int → Int → Hp → Prop) (μ : Int → Int → Hp → Nat) {x3 : Int} {x12 : Int} {h : Hp} (h0 : I x3 x12 h)
    (step : ∀ (x3 : Int) (x12 : Int) (h : Hp), I x3 x12 h → ∀ N1 : Fr → Hp → Prop, (∀ (x3' : Int) (x12' : Int) (h' : Hp), I x3' x12' h' → μ x3' x12' h' < μ x3 x12 h → N1 (mk42_2 x10 x3' x12') h') → T42_2 x10 K Kp N1 x3 x12 h) : L42_2 x10 K Kp x3 x12 h :=
  loop_rule (σ := Int × Int) (fun s => mk42_2 x10 s.1 s.2) (fun N s h => T42_2 x10 K Kp N s.1 s.2 h) (fun N s h => by kernel_rfl) (fun s h => I s.1 s.2 h) (fun s h => μ s.1 s.2 h) (s0 := ⟨x3, x12⟩) h0 (fun s h hI N hN => step s.1 s.2 h hI N (fun x3' x12' h' hI' hl => hN ⟨x3', x12'⟩ h' hI' hl))

def JT42_1 (x0 : Sl) (x1 : Int) (x2 : Int) (x3 : Int) (K : Int → Int → Hp → Prop) (Kp : List PanicEntry → Hp → Prop) (h : Hp) : Prop :=
  Fn26 x0 x1 x2 h (fun t27_0 t27_1 h1 =>
    If (t27_1 != (0 : Int)) (
      K (0 : Int) t27_1 h1) (
      L42_2 t27_0 K Kp x3 (0 : Int) h1)) Kp

def J42_1 (x0 : Sl) (x1 : Int) (x2 : Int) (x3 : Int) (K : Int → Int → Hp → Prop) (Kp : List PanicEntry → Hp → Prop) (h : Hp) : Prop :=
  sem Tryd.prog ann42 (DrawSem Tryd.prog ord42) none (sub [1, 1] code42) (ctxQ Tryd.prog ann42 (DrawSem Tryd.prog ord42) none Kp [1, 1] code42 [] (q42 K)) Kp ([some (Sl.v x0), some (.int .i64 x1), some (.int .i64 x2), some (.int .i64 x3), none, none, none, none, none, none, none, none, none, none, none, none, none, none, none, none, none, none, none, none, none, none, none, none, none, none, none, none, none, none, none, none, none, none, none, none, none, none, none, none, none, none, none, none, none]) h

theorem J42_1.of {x0 : Sl} {x1 : Int} {x2 : Int} {x3 : Int} {K : Int → Int → Hp → Prop} {Kp : List PanicEntry → Hp → Prop} {h : Hp} (H : JT42_1 x0 x1 x2 x3 K Kp h) : J42_1 x0 x1 x2 x3 K Kp h :=
  Eq.mp (by kernel_rfl) H

def S42 (b : Sl) (fromv : Int) (n : Int) (k : Int) (h : Hp) (K : Int → Int → Hp → Prop) (Kp : List PanicEntry → Hp → Prop) : Prop :=
  If (decide (fromv < (0 : Int))) (
    K (0 : Int) (1 : Int) h) (
    If (decide (n < (0 : Int))) (
      K (0 : Int) (1 : Int) h) (
      If (decide (k < (0 : Int))) (
        K (0 : Int) (1 : Int) h) (
        J42_1 b fromv n k K Kp h)))

theorem Fn42.of {b : Sl} {fromv : Int} {n : Int} {k : Int} {h : Hp} {K : Int → Int → Hp → Prop} {Kp : List PanicEntry → Hp → Prop} (H : S42 b fromv n k h K Kp) : Fn42 b fromv n k h K Kp :=
  Eq.mp (by kernel_rfl) (fn_of (P := Tryd.prog) (ann := ann42) (D := DrawSem Tryd.prog ord42) (drawOk _) (c := code42) (zs := [(.int .i64 (0 : Int)), (.int .i64 (0 : Int))]) (args := [(Sl.v b), (.int .i64 fromv), (.int .i64 n), (.int .i64 k)]) (Kv := kv42 K) (Kp := Kp) (h := h) Tryd.func42 (by kernel_rfl) (Eq.mp (by kernel_rfl) H))

/-! ### 43: colonnade/colonnaderef02.Need -/

noncomputable def code43 : Code := Tryd.f43.body.getD .skip

def ann43 : Ann := []

def ord43 : List (Nat × List Nat × List Nat) := []

def kv43 (K : Int → Hp → Prop) : Value → Hp → Prop := fun v h => match v with | .int _ r0 => (K r0 h) | _ => False

def q43 (K : Int → Hp → Prop) : Qt := retQ Tryd.prog Tryd.f43.results.toList [(.int .i64 (0 : Int))] (kv43 K)

def S43 (n : Int) (h : Hp) (K : Int → Hp → Prop) (Kp : List PanicEntry → Hp → Prop) : Prop :=
  If (decide (n < (0 : Int))) (
    K (0 : Int) h) (
    Dv (8 : Int) <| Wr .i64 (Int.tdiv n (8 : Int)) fun t7 =>
    Dv (8 : Int) <| Lt (Int.tmod n (8 : Int)) fun t9 =>
    If (t9 != (0 : Int)) (
      Wr .i64 (t7 + (1 : Int)) fun t12 =>
      K t12 h) (
      K t7 h))

theorem Fn43.of {n : Int} {h : Hp} {K : Int → Hp → Prop} {Kp : List PanicEntry → Hp → Prop} (H : S43 n h K Kp) : Fn43 n h K Kp :=
  Eq.mp (by kernel_rfl) (fn_of (P := Tryd.prog) (ann := ann43) (D := DrawSem Tryd.prog ord43) (drawOk _) (c := code43) (zs := [(.int .i64 (0 : Int))]) (args := [(.int .i64 n)]) (Kv := kv43 K) (Kp := Kp) (h := h) Tryd.func43 (by kernel_rfl) (Eq.mp (by kernel_rfl) H))

end Go.Proofs.YtajgmklgfdgnlaaDoor
