/- What the functions do, printed by program (gen.py) in the words of ShCore; each text is held against the loaded program by the kernel. -/
import Derived.Test.YtajgmklgfdgnlaaDoorF
set_option linter.unusedVariables false
set_option maxRecDepth 100000
namespace Go.Proofs.YtajgmklgfdgnlaaDoor
open Go Go.Sh
/-! ### 44: colonnade/colonnadelaw02.wide -/

noncomputable def code44 : Code := Tryd.f44.body.getD .skip

def ann44 : Ann := [(2003, [3, 4])]

def ord44 : List (Nat × List Nat × List Nat) := []

def kv44 (K : Sl → Hp → Prop) : Value → Hp → Prop := fun v h => match v with | .slice r0a r0n r0c => (let r0 : Sl := ⟨r0a, r0n, r0c⟩; K r0 h) | _ => False

def q44 (K : Sl → Hp → Prop) : Qt := retQ Tryd.prog Tryd.f44.results.toList [(.slice none 0 0)] (kv44 K)

abbrev mk44_1 (x3 : Sl) (x4 : Int) : Fr := [none, none, none, some (Sl.v x3), some (.int .i64 x4), none, none, none, none, none, none, none, none, none, none, none, none, none]

def T44_1 (K : Sl → Hp → Prop) (Kp : List PanicEntry → Hp → Prop) (N1 : Fr → Hp → Prop) (x3 : Sl) (x4 : Int) (h : Hp) : Prop :=
  If (decide (x4 < (9 : Int))) (
    Wr .i64 ((160 : Int) + x4) fun t13 =>
    Wr .u8 t13 fun t14 =>
    New h #[(.int .u8 t14)] 5 fun a15 h1 =>
    Ap h1 5 #[(.int .u8 (0 : Int))] 1 1 x3 1 (rd h1 (some a15) (1 * 1)) fun t16 h2 =>
    Wr .i64 (x4 + (1 : Int)) fun t10 =>
    N1 (mk44_1 t16 t10) h2) (
    K x3 h)

def L44_1 (K : Sl → Hp → Prop) (Kp : List PanicEntry → Hp → Prop) (x3 : Sl) (x4 : Int) (h : Hp) : Prop :=
  LoopH (fun N fr h => sem Tryd.prog ann44 (DrawSem Tryd.prog ord44) none (sub [1, 1, 0, 1, 0, 0] code44) (thenQ (fun fr' h' => N (Ann.find ann44 2003 fr') h') (ctxQ Tryd.prog ann44 (DrawSem Tryd.prog ord44) none Kp [1, 1, 0, 1, 0] code44 [] (q44 K))) Kp fr h) (mk44_1 x3 x4) h

theorem L44_1.rule {K : Sl → Hp → Prop} {Kp : List PanicEntry → Hp → Prop} (I : Sl → Int → Hp → Prop) (μ : Sl → Int → Hp → Nat) {x3 : Sl} {x4 : Int} {h : Hp} (h0 : I x3 x4 h)
    (step : ∀ (x3 : Sl) (x4 : Int) (h : Hp), I x3 x4 h → ∀ N1 : Fr → Hp → Prop, (∀ (x3' : Sl) (x4' : Int) (h' : Hp), I x3' x4' h' → μ x3' x4' h' < μ x3 x4 h → N1 (mk44_1 x3' x4') h') → T44_1 K Kp N1 x3 x4 h) : L44_1 K Kp x3 x4 h :=
  loop_rule (σ := Sl × Int) (fun s => mk44_1 s.1 s.2) (fun N s h => T44_1 K Kp N s.1 s.2 h) (fun N s h => by kernel_rfl) (fun s h => I s.1 s.2 h) (fun s h => μ s.1 s.2 h) (s0 := ⟨x3, x4⟩) h0 (fun s h hI N hN => step s.1 s.2 h hI N (fun x3' x4' h' hI' hl => hN ⟨x3', x4'⟩ h' hI' hl))

def S44 (l : Sl) (h : Hp) (K : Sl → Hp → Prop) (Kp : List PanicEntry → Hp → Prop) : Prop :=
  Ap h 5 #[(.int .u8 (0 : Int))] 1 1 (⟨none, 0, 0⟩ : Sl) l.n (rd h l.a (l.n * 1)) fun t6 h1 =>
  L44_1  K Kp t6 (0 : Int) h1

theorem Fn44.of {l : Sl} {h : Hp} {K : Sl → Hp → Prop} {Kp : List PanicEntry → Hp → Prop} (H : S44 l h K Kp) : Fn44 l h K Kp :=
  Eq.mp (by kernel_rfl) (fn_of (P := Tryd.prog) (ann := ann44) (D := DrawSem Tryd.prog ord44) (drawOk _) (c := code44) (zs := [(.slice none 0 0)]) (args := [(Sl.v l)]) (Kv := kv44 K) (Kp := Kp) (h := h) Tryd.func44 (by kernel_rfl) (Eq.mp (by kernel_rfl) H))

/-! ### 45: colonnade/colonnadelaw02.wideBools -/

noncomputable def code45 : Code := Tryd.f45.body.getD .skip

def ann45 : Ann := [(2003, [3, 4])]

def ord45 : List (Nat × List Nat × List Nat) := []

def kv45 (K : Sl → Hp → Prop) : Value → Hp → Prop := fun v h => match v with | .slice r0a r0n r0c => (let r0 : Sl := ⟨r0a, r0n, r0c⟩; K r0 h) | _ => False

def q45 (K : Sl → Hp → Prop) : Qt := retQ Tryd.prog Tryd.f45.results.toList [(.slice none 0 0)] (kv45 K)

abbrev mk45_1 (x3 : Sl) (x4 : Int) : Fr := [none, none, none, some (Sl.v x3), some (.int .i64 x4), none, none, none, none, none, none, none, none, none, none, none, none, none]

def T45_1 (K : Sl → Hp → Prop) (Kp : List PanicEntry → Hp → Prop) (N1 : Fr → Hp → Prop) (x3 : Sl) (x4 : Int) (h : Hp) : Prop :=
  If (decide (x4 < (9 : Int))) (
    Dv (2 : Int) <| Lt (Int.tmod x4 (2 : Int)) fun t13 =>
    New h #[(.bool (t13 == (0 : Int)))] 4 fun a15 h1 =>
    Ap h1 4 #[(.bool false)] 1 1 x3 1 (rd h1 (some a15) (1 * 1)) fun t16 h2 =>
    Wr .i64 (x4 + (1 : Int)) fun t10 =>
    N1 (mk45_1 t16 t10) h2) (
    K x3 h)

def L45_1 (K : Sl → Hp → Prop) (Kp : List PanicEntry → Hp → Prop) (x3 : Sl) (x4 : Int) (h : Hp) : Prop :=
  LoopH (fun N fr h => sem Tryd.prog ann45 (DrawSem Tryd.prog ord45) none (sub [1, 1, 0, 1, 0, 0] code45) (thenQ (fun fr' h' => N (Ann.find ann45 2003 fr') h') (ctxQ Tryd.prog ann45 (DrawSem Tryd.prog ord45) none Kp [1, 1, 0, 1, 0] code45 [] (q45 K))) Kp fr h) (mk45_1 x3 x4) h

theorem L45_1.rule {K : Sl → Hp → Prop} {Kp : List PanicEntry → Hp → Prop} (I : Sl → Int → Hp → Prop) (μ : Sl → Int → Hp → Nat) {x3 : Sl} {x4 : Int} {h : Hp} (h0 : I x3 x4 h)
    (step : ∀ (x3 : Sl) (x4 : Int) (h : Hp), I x3 x4 h → ∀ N1 : Fr → Hp → Prop, (∀ (x3' : Sl) (x4' : Int) (h' : Hp), I x3' x4' h' → μ x3' x4' h' < μ x3 x4 h → N1 (mk45_1 x3' x4') h') → T45_1 K Kp N1 x3 x4 h) : L45_1 K Kp x3 x4 h :=
  loop_rule (σ := Sl × Int) (fun s => mk45_1 s.1 s.2) (fun N s h => T45_1 K Kp N s.1 s.2 h) (fun N s h => by kernel_rfl) (fun s h => I s.1 s.2 h) (fun s h => μ s.1 s.2 h) (s0 := ⟨x3, x4⟩) h0 (fun s h hI N hN => step s.1 s.2 h hI N (fun x3' x4' h' hI' hl => hN ⟨x3', x4'⟩ h' hI' hl))

def S45 (l : Sl) (h : Hp) (K : Sl → Hp → Prop) (Kp : List PanicEntry → Hp → Prop) : Prop :=
  Ap h 4 #[(.bool false)] 1 1 (⟨none, 0, 0⟩ : Sl) l.n (rd h l.a (l.n * 1)) fun t6 h1 =>
  L45_1  K Kp t6 (0 : Int) h1

theorem Fn45.of {l : Sl} {h : Hp} {K : Sl → Hp → Prop} {Kp : List PanicEntry → Hp → Prop} (H : S45 l h K Kp) : Fn45 l h K Kp :=
  Eq.mp (by kernel_rfl) (fn_of (P := Tryd.prog) (ann := ann45) (D := DrawSem Tryd.prog ord45) (drawOk _) (c := code45) (zs := [(.slice none 0 0)]) (args := [(Sl.v l)]) (Kv := kv45 K) (Kp := Kp) (h := h) Tryd.func45 (by kernel_rfl) (Eq.mp (by kernel_rfl) H))

/-! ### 46: colonnade/bits.asked -/

noncomputable def code46 : Code := Tryd.f46.body.getD .skip

def ann46 : Ann := []

def ord46 : List (Nat × List Nat × List Nat) := []

def kv46 (K : Int → Hp → Prop) : Value → Hp → Prop := fun v h => match v with | .int _ r0 => (K r0 h) | _ => False

def q46 (K : Int → Hp → Prop) : Qt := retQ Tryd.prog Tryd.f46.results.toList [(.int .i64 (0 : Int))] (kv46 K)

def S46 (b : Sl) (fromv : Int) (n : Int) (h : Hp) (K : Int → Hp → Prop) (Kp : List PanicEntry → Hp → Prop) : Prop :=
  If (decide (fromv < (0 : Int))) (
    K (1 : Int) h) (
    If (decide (n < (0 : Int))) (
      K (1 : Int) h) (
      Fn47 b fromv n h (fun t18 h1 =>
        If (!t18) (
          K (2 : Int) h1) (
          K (0 : Int) h1)) Kp))

theorem Fn46.of {b : Sl} {fromv : Int} {n : Int} {h : Hp} {K : Int → Hp → Prop} {Kp : List PanicEntry → Hp → Prop} (H : S46 b fromv n h K Kp) : Fn46 b fromv n h K Kp :=
  Eq.mp (by kernel_rfl) (fn_of (P := Tryd.prog) (ann := ann46) (D := DrawSem Tryd.prog ord46) (drawOk _) (c := code46) (zs := [(.int .i64 (0 : Int))]) (args := [(Sl.v b), (.int .i64 fromv), (.int .i64 n)]) (Kv := kv46 K) (Kp := Kp) (h := h) Tryd.func46 (by kernel_rfl) (Eq.mp (by kernel_rfl) H))

/-! ### 47: colonnade/bits.there -/

noncomputable def code47 : Code := Tryd.f47.body.getD .skip

def ann47 : Ann := []

def ord47 : List (Nat × List Nat × List Nat) := []

def kv47 (K : Bool → Hp → Prop) : Value → Hp → Prop := fun v h => match v with | .bool r0 => (K r0 h) | _ => False

def q47 (K : Bool → Hp → Prop) : Qt := retQ Tryd.prog Tryd.f47.results.toList [(.bool false)] (kv47 K)

def S47 (b : Sl) (fromv : Int) (n : Int) (h : Hp) (K : Bool → Hp → Prop) (Kp : List PanicEntry → Hp → Prop) : Prop :=
  If (decide (fromv ≥ (0 : Int))) (
    If (decide (n ≥ (0 : Int))) (
      Wr .i64 ((8 : Int) * (b.n : Int)) fun t17 =>
      If (decide (n ≤ t17)) (
        Wr .i64 ((8 : Int) * (b.n : Int)) fun t24 =>
        Wr .i64 (t24 - n) fun t26 =>
        K (decide (fromv ≤ t26)) h) (
        K false h)) (
      K false h)) (
    K false h)

theorem Fn47.of {b : Sl} {fromv : Int} {n : Int} {h : Hp} {K : Bool → Hp → Prop} {Kp : List PanicEntry → Hp → Prop} (H : S47 b fromv n h K Kp) : Fn47 b fromv n h K Kp :=
  Eq.mp (by kernel_rfl) (fn_of (P := Tryd.prog) (ann := ann47) (D := DrawSem Tryd.prog ord47) (drawOk _) (c := code47) (zs := [(.bool false)]) (args := [(Sl.v b), (.int .i64 fromv), (.int .i64 n)]) (Kv := kv47 K) (Kp := Kp) (h := h) Tryd.func47 (by kernel_rfl) (Eq.mp (by kernel_rfl) H))

/-! ### 48: colonnade/bits.bit -/

noncomputable def code48 : Code := Tryd.f48.body.getD .skip

def ann48 : Ann := []

def ord48 : List (Nat × List Nat × List Nat) := []

def kv48 (K : Bool → Hp → Prop) : Value → Hp → Prop := fun v h => match v with | .bool r0 => (K r0 h) | _ => False

def q48 (K : Bool → Hp → Prop) : Qt := retQ Tryd.prog Tryd.f48.results.toList [(.bool false)] (kv48 K)

def S48 (b : Sl) (i : Int) (h : Hp) (K : Bool → Hp → Prop) (Kp : List PanicEntry → Hp → Prop) : Prop :=
  Dv (8 : Int) <| Wr .i64 (Int.tdiv i (8 : Int)) fun t7 =>
  Ix b.a b.n 1 t7 fun a8 =>
  Ld h a8 (Value.int .u8) fun t9 =>
  Dv (8 : Int) <| Lt (Int.tmod i (8 : Int)) fun t11 =>
  Nn t11 <| Lt (Int.fdiv t9 (2 ^ (min (Int.toNat t11) (IntKind.bits .u8)))) fun t12 =>
  Lt (bitsV .and .u8 t12 (1 : Int)) fun t13 =>
  K (t13 == (1 : Int)) h

theorem Fn48.of {b : Sl} {i : Int} {h : Hp} {K : Bool → Hp → Prop} {Kp : List PanicEntry → Hp → Prop} (H : S48 b i h K Kp) : Fn48 b i h K Kp :=
  Eq.mp (by kernel_rfl) (fn_of (P := Tryd.prog) (ann := ann48) (D := DrawSem Tryd.prog ord48) (drawOk _) (c := code48) (zs := [(.bool false)]) (args := [(Sl.v b), (.int .i64 i)]) (Kv := kv48 K) (Kp := Kp) (h := h) Tryd.func48 (by kernel_rfl) (Eq.mp (by kernel_rfl) H))

/-! ### 49: colonnade/colonnaderef02.There -/

noncomputable def code49 : Code := Tryd.f49.body.getD .skip

def ann49 : Ann := [(3, [0, 1, 2])]

def ord49 : List (Nat × List Nat × List Nat) := []

def kv49 (K : Int → Hp → Prop) : Value → Hp → Prop := fun v h => match v with | .int _ r0 => (K r0 h) | _ => False

def q49 (K : Int → Hp → Prop) : Qt := retQ Tryd.prog Tryd.f49.results.toList [(.int .i64 (0 : Int))] (kv49 K)

def JT49_1 (x0 : Sl) (x1 : Int) (x2 : Int) (K : Int → Hp → Prop) (Kp : List PanicEntry → Hp → Prop) (h : Hp) : Prop :=
  Wr .i64 ((8 : Int) * (x0.n : Int)) fun t16 =>
  If (decide (x1 > t16)) (
    K (2 : Int) h) (
    Wr .i64 ((8 : Int) * (x0.n : Int)) fun t22 =>
    Wr .i64 (t22 - x1) fun t24 =>
    If (decide (x2 > t24)) (
      K (2 : Int) h) (
      K (0 : Int) h))

def J49_1 (x0 : Sl) (x1 : Int) (x2 : Int) (K : Int → Hp → Prop) (Kp : List PanicEntry → Hp → Prop) (h : Hp) : Prop :=
  sem Tryd.prog ann49 (DrawSem Tryd.prog ord49) none (sub [1, 1] code49) (ctxQ Tryd.prog ann49 (DrawSem Tryd.prog ord49) none Kp [1, 1] code49 [] (q49 K)) Kp ([some (Sl.v x0), some (.int .i64 x1), some (.int .i64 x2), none, none, none, none, none, none, none, none, none, none, none, none, none, none, none, none, none, none, none, none, none, none, none, none]) h

theorem J49_1.of {x0 : Sl} {x1 : Int} {x2 : Int} {K : Int → Hp → Prop} {Kp : List PanicEntry → Hp → Prop} {h : Hp} (H : JT49_1 x0 x1 x2 K Kp h) : J49_1 x0 x1 x2 K Kp h :=
  Eq.mp (by kernel_rfl) H

def S49 (b : Sl) (fromv : Int) (n : Int) (h : Hp) (K : Int → Hp → Prop) (Kp : List PanicEntry → Hp → Prop) : Prop :=
  If (decide (fromv < (0 : Int))) (
    K (1 : Int) h) (
    If (decide (n < (0 : Int))) (
      K (1 : Int) h) (
      J49_1 b fromv n K Kp h))

theorem Fn49.of {b : Sl} {fromv : Int} {n : Int} {h : Hp} {K : Int → Hp → Prop} {Kp : List PanicEntry → Hp → Prop} (H : S49 b fromv n h K Kp) : Fn49 b fromv n h K Kp :=
  Eq.mp (by kernel_rfl) (fn_of (P := Tryd.prog) (ann := ann49) (D := DrawSem Tryd.prog ord49) (drawOk _) (c := code49) (zs := [(.int .i64 (0 : Int))]) (args := [(Sl.v b), (.int .i64 fromv), (.int .i64 n)]) (Kv := kv49 K) (Kp := Kp) (h := h) Tryd.func49 (by kernel_rfl) (Eq.mp (by kernel_rfl) H))

/-! ### 50: colonnade/colonnaderef02.bit -/

noncomputable def code50 : Code := Tryd.f50.body.getD .skip

def ann50 : Ann := [(3, [0, 1]), (2005, [1, 5, 6])]

def ord50 : List (Nat × List Nat × List Nat) := []

def kv50 (K : Bool → Hp → Prop) : Value → Hp → Prop := fun v h => match v with | .bool r0 => (K r0 h) | _ => False

def q50 (K : Bool → Hp → Prop) : Qt := retQ Tryd.prog Tryd.f50.results.toList [(.bool false)] (kv50 K)

abbrev mk50_2 (x1 : Int) (x5 : Int) (x6 : Int) : Fr := [none, some (.int .i64 x1), none, none, none, some (.int .i64 x5), some (.int .i64 x6), none, none, none, none, none, none, none, none, none, none, none, none, none, none, none, none, none, none, none, none, none, none, none, none, none, none]

def T50_2 (x1 : Int) (K : Bool → Hp → Prop) (Kp : List PanicEntry → Hp → Prop) (N1 : Fr → Hp → Prop) (x5 : Int) (x6 : Int) (h : Hp) : Prop :=
  Dv (8 : Int) <| Lt (Int.tmod x1 (8 : Int)) fun t24 =>
  If (decide (x6 < t24)) (
    Dv (2 : Int) <| Wr .i64 (Int.tdiv x5 (2 : Int)) fun t29 =>
    Wr .i64 (x6 + (1 : Int)) fun t27 =>
    N1 (mk50_2 x1 t29 t27) h) (
    Dv (2 : Int) <| Lt (Int.tmod x5 (2 : Int)) fun t31 =>
    K (t31 == (1 : Int)) h)

def L50_2 (x1 : Int) (K : Bool → Hp → Prop) (Kp : List PanicEntry → Hp → Prop) (x5 : Int) (x6 : Int) (h : Hp) : Prop :=
  LoopH (fun N fr h => sem Tryd.prog ann50 (DrawSem Tryd.prog ord50) none (sub [1, 1, 1, 0, 1, 0, 0] code50) (thenQ (fun fr' h' => N (Ann.find ann50 2005 fr') h') (ctxQ Tryd.prog ann50 (DrawSem Tryd.prog ord50) none Kp [1, 1, 1, 0, 1, 0] code50 [] (q50 K))) Kp fr h) (mk50_2 x1 x5 x6) h

theorem L50_2.rule {x1 : Int} {K : Bool → Hp → Prop} {Kp : List PanicEntry → Hp → Prop} (I : Int → Int → Hp → Prop) (μ : Int → Int → Hp → Nat) {x5 : Int} {x6 : Int} {h : Hp} (h0 : I x5 x6 h)
    (step : ∀ (x5 : Int) (x6 : Int) (h : Hp), I x5 x6 h → ∀ N1 : Fr → Hp → Prop, (∀ (x5' : Int) (x6' : Int) (h' : Hp), I x5' x6' h' → μ x5' x6' h' < μ x5 x6 h → N1 (mk50_2 x1 x5' x6') h') → T50_2 x1 K Kp N1 x5 x6 h) : L50_2 x1 K Kp x5 x6 h :=
  loop_rule (σ := Int × Int) (fun s => mk50_2 x1 s.1 s.2) (fun N s h => T50_2 x1 K Kp N s.1 s.2 h) (fun N s h => by kernel_rfl) (fun s h => I s.1 s.2 h) (fun s h => μ s.1 s.2 h) (s0 := ⟨x5, x6⟩) h0 (fun s h hI N hN => step s.1 s.2 h hI N (fun x5' x6' h' hI' hl => hN ⟨x5', x6'⟩ h' hI' hl))

def JT50_1 (x0 : Sl) (x1 : Int) (K : Bool → Hp → Prop) (Kp : List PanicEntry → Hp → Prop) (h : Hp) : Prop :=
  Dv (8 : Int) <| Wr .i64 (Int.tdiv x1 (8 : Int)) fun t18 =>
  Ix x0.a x0.n 1 t18 fun a19 =>
  Ld h a19 (Value.int .u8) fun t20 =>
  Wr .i64 t20 fun t21 =>
  L50_2 x1 K Kp t21 (0 : Int) h

def J50_1 (x0 : Sl) (x1 : Int) (K : Bool → Hp → Prop) (Kp : List PanicEntry → Hp → Prop) (h : Hp) : Prop :=
  sem Tryd.prog ann50 (DrawSem Tryd.prog ord50) none (sub [1, 1] code50) (ctxQ Tryd.prog ann50 (DrawSem Tryd.prog ord50) none Kp [1, 1] code50 [] (q50 K)) Kp ([some (Sl.v x0), some (.int .i64 x1), none, none, none, none, none, none, none, none, none, none, none, none, none, none, none, none, none, none, none, none, none, none, none, none, none, none, none, none, none, none, none]) h

theorem J50_1.of {x0 : Sl} {x1 : Int} {K : Bool → Hp → Prop} {Kp : List PanicEntry → Hp → Prop} {h : Hp} (H : JT50_1 x0 x1 K Kp h) : J50_1 x0 x1 K Kp h :=
  Eq.mp (by kernel_rfl) H

def S50 (b : Sl) (i : Int) (h : Hp) (K : Bool → Hp → Prop) (Kp : List PanicEntry → Hp → Prop) : Prop :=
  If (decide (i < (0 : Int))) (
    K false h) (
    Dv (8 : Int) <| Wr .i64 (Int.tdiv i (8 : Int)) fun t11 =>
    If (decide (t11 ≥ (b.n : Int))) (
      K false h) (
      J50_1 b i K Kp h))

theorem Fn50.of {b : Sl} {i : Int} {h : Hp} {K : Bool → Hp → Prop} {Kp : List PanicEntry → Hp → Prop} (H : S50 b i h K Kp) : Fn50 b i h K Kp :=
  Eq.mp (by kernel_rfl) (fn_of (P := Tryd.prog) (ann := ann50) (D := DrawSem Tryd.prog ord50) (drawOk _) (c := code50) (zs := [(.bool false)]) (args := [(Sl.v b), (.int .i64 i)]) (Kv := kv50 K) (Kp := Kp) (h := h) Tryd.func50 (by kernel_rfl) (Eq.mp (by kernel_rfl) H))

/-! ### 51: colonnade/bits.runs$1 -/

noncomputable def code51 : Code := Tryd.f51.body.getD .skip

def ann51 : Ann := [(2001, [0, 1, 2, 3, 5]), (2005, [0, 1, 2, 3, 5, 6])]

def ord51 : List (Nat × List Nat × List Nat) := []

def kv51 (K : Hp → Prop) : Value → Hp → Prop := fun _ h => K h

def q51 (K : Hp → Prop) : Qt := retQ Tryd.prog Tryd.f51.results.toList [] (kv51 K)

abbrev mk51_1 (x0 : Value) (x1 : Addr) (x2 : Addr) (x3 : Addr) (x5 : Int) : Fr := [some x0, some (.pointer (some x1)), some (.pointer (some x2)), some (.pointer (some x3)), none, some (.int .i64 x5), none, none, none, none, none, none, none, none, none, none, none, none, none, none, none, none, none, none, none, none, none, none, none, none, none, none, none, none, none, none, none, none, none]

abbrev mk51_2 (x0 : Value) (x1 : Addr) (x2 : Addr) (x3 : Addr) (x5 : Int) (x6 : Int) : Fr := [some x0, some (.pointer (some x1)), some (.pointer (some x2)), some (.pointer (some x3)), none, some (.int .i64 x5), some (.int .i64 x6), none, none, none, none, none, none, none, none, none, none, none, none, none, none, none, none, none, none, none, none, none, none, none, none, none, none, none, none, none, none, none, none]

def T51_2 (x0 : Value) (x1 : Addr) (x2 : Addr) (x3 : Addr) (x5 : Int) (N1 : Fr → Hp → Prop) (K : Hp → Prop) (Kp : List PanicEntry → Hp → Prop) (N2 : Fr → Hp → Prop) (x6 : Int) (h : Hp) : Prop :=
  Ld h x1 (Value.int .i64) fun t20 =>
  If (decide (x6 < t20)) (
    Ld h x2 (Sl.v) fun t23 =>
    Ld h x3 (Value.int .i64) fun t24 =>
    Wr .i64 (t24 + x6) fun t26 =>
    Fn48 t23 t26 h (fun t27 h1 =>
      If t27 (
        Wr .i64 (x6 + (1 : Int)) fun t30 =>
        N2 (mk51_2 x0 x1 x2 x3 x5 t30) h1) (
        Wr .i64 (x6 - x5) fun t35 =>
        CallV Tryd.prog x0 [(.int .i64 x5), (.int .i64 t35)] h1 (fun r h2 => ∃ t36 : Bool, r = (.bool t36) ∧
          If (!t36) (
            K  h2) (
            N1 (mk51_1 x0 x1 x2 x3 x6) h2)) Kp)) Kp) (
    Wr .i64 (x6 - x5) fun t35 =>
    CallV Tryd.prog x0 [(.int .i64 x5), (.int .i64 t35)] h (fun r h1 => ∃ t36 : Bool, r = (.bool t36) ∧
      If (!t36) (
        K  h1) (
        N1 (mk51_1 x0 x1 x2 x3 x6) h1)) Kp)

def L51_2 (x0 : Value) (x1 : Addr) (x2 : Addr) (x3 : Addr) (x5 : Int) (N1 : Fr → Hp → Prop) (K : Hp → Prop) (Kp : List PanicEntry → Hp → Prop) (x6 : Int) (h : Hp) : Prop :=
  LoopH (fun N fr h => sem Tryd.prog ann51 (DrawSem Tryd.prog ord51) none (sub [1, 0, 0, 1, 0, 1, 1, 0, 0, 0] code51) (thenQ (fun fr' h' => N (Ann.find ann51 2005 fr') h') (ctxQ Tryd.prog ann51 (DrawSem Tryd.prog ord51) none Kp [1, 0, 0, 1, 0, 1, 1, 0, 0] code51 [N1] (q51 K))) Kp fr h) (mk51_2 x0 x1 x2 x3 x5 x6) h

theorem L51_2.rule {x0 : Value} {x1 : Addr} {x2 : Addr} {x3 : Addr} {x5 : Int} {N1 : Fr → Hp → Prop} {K : Hp → Prop} {Kp : List PanicEntry → Hp → Prop} (I : Int → Hp → Prop) (μ : Int → Hp → Nat) {x6 : Int} {h : Hp} (h0 : I x6 h)
    (step : ∀ (x6 : Int) (h : Hp), I x6 h → ∀ N2 : Fr → Hp → Prop, (∀ (x6' : Int) (h' : Hp), I x6' h' → μ x6' h' < μ x6 h → N2 (mk51_2 x0 x1 x2 x3 x5 x6') h') → T51_2 x0 x1 x2 x3 x5 N1 K Kp N2 x6 h) : L51_2 x0 x1 x2 x3 x5 N1 K Kp x6 h :=
  loop_rule (σ := Int) (fun s => mk51_2 x0 x1 x2 x3 x5 s) (fun N s h => T51_2 x0 x1 x2 x3 x5 N1 K Kp N s h) (fun N s h => by kernel_rfl) (fun s h => I s h) (fun s h => μ s h) (s0 := x6) h0 (fun s h hI N hN => step s h hI N (fun x6' h' hI' hl => hN x6' h' hI' hl))

def T51_1 (x0 : Value) (x1 : Addr) (x2 : Addr) (x3 : Addr) (K : Hp → Prop) (Kp : List PanicEntry → Hp → Prop) (N1 : Fr → Hp → Prop) (x5 : Int) (h : Hp) : Prop :=
  Ld h x1 (Value.int .i64) fun t8 =>
  If (decide (x5 < t8)) (
    Ld h x2 (Sl.v) fun t10 =>
    Ld h x3 (Value.int .i64) fun t11 =>
    Wr .i64 (t11 + x5) fun t13 =>
    Fn48 t10 t13 h (fun t14 h1 =>
      If (!t14) (
        Wr .i64 (x5 + (1 : Int)) fun t17 =>
        N1 (mk51_1 x0 x1 x2 x3 t17) h1) (
        L51_2 x0 x1 x2 x3 x5 N1 K Kp x5 h1)) Kp) (
    K  h)

def L51_1 (x0 : Value) (x1 : Addr) (x2 : Addr) (x3 : Addr) (K : Hp → Prop) (Kp : List PanicEntry → Hp → Prop) (x5 : Int) (h : Hp) : Prop :=
  LoopH (fun N fr h => sem Tryd.prog ann51 (DrawSem Tryd.prog ord51) none (sub [1, 0, 0] code51) (thenQ (fun fr' h' => N (Ann.find ann51 2001 fr') h') (ctxQ Tryd.prog ann51 (DrawSem Tryd.prog ord51) none Kp [1, 0] code51 [] (q51 K))) Kp fr h) (mk51_1 x0 x1 x2 x3 x5) h

theorem L51_1.rule {x0 : Value} {x1 : Addr} {x2 : Addr} {x3 : Addr} {K : Hp → Prop} {Kp : List PanicEntry → Hp → Prop} (I : Int → Hp → Prop) (μ : Int → Hp → Nat) {x5 : Int} {h : Hp} (h0 : I x5 h)
    (step : ∀ (x5 : Int) (h : Hp), I x5 h → ∀ N1 : Fr → Hp → Prop, (∀ (x5' : Int) (h' : Hp), I x5' h' → μ x5' h' < μ x5 h → N1 (mk51_1 x0 x1 x2 x3 x5') h') → T51_1 x0 x1 x2 x3 K Kp N1 x5 h) : L51_1 x0 x1 x2 x3 K Kp x5 h :=
  loop_rule (σ := Int) (fun s => mk51_1 x0 x1 x2 x3 s) (fun N s h => T51_1 x0 x1 x2 x3 K Kp N s h) (fun N s h => by kernel_rfl) (fun s h => I s h) (fun s h => μ s h) (s0 := x5) h0 (fun s h hI N hN => step s h hI N (fun x5' h' hI' hl => hN x5' h' hI' hl))

def S51 (yield : Value) (c1 : Addr) (c2 : Addr) (c3 : Addr) (h : Hp) (K : Hp → Prop) (Kp : List PanicEntry → Hp → Prop) : Prop :=
  L51_1 yield c1 c2 c3 K Kp (0 : Int) h

theorem Fn51.of {yield : Value} {c1 : Addr} {c2 : Addr} {c3 : Addr} {h : Hp} {K : Hp → Prop} {Kp : List PanicEntry → Hp → Prop} (H : S51 yield c1 c2 c3 h K Kp) : Fn51 yield c1 c2 c3 h K Kp :=
  Eq.mp (by kernel_rfl) (fn_of (P := Tryd.prog) (ann := ann51) (D := DrawSem Tryd.prog ord51) (drawOk _) (c := code51) (zs := []) (args := [yield, (.pointer (some c1)), (.pointer (some c2)), (.pointer (some c3))]) (Kv := kv51 K) (Kp := Kp) (h := h) Tryd.func51 (by kernel_rfl) (Eq.mp (by kernel_rfl) H))

/-! ### 52: colonnade/bits.join -/

noncomputable def code52 : Code := Tryd.f52.body.getD .skip

def ann52 : Ann := [(13, [2, 12]), (2009, [0, 1, 2, 3, 12, 30, 31])]

def ord52 : List (Nat × List Nat × List Nat) := [(14, [0, 1, 2, 3, 4, 5, 6, 7, 8, 9, 10, 11, 12], [0, 0, 2, 6, 15, 31, 0, 64, 192, 448, 1023, 2047, 4095]), (11, [0, 1, 2, 3, 4, 5, 6, 7, 8, 9, 10, 11, 12, 13], [0, 0, 0, 0, 0, 24, 56, 0, 0, 384, 896, 2044, 4095, 8191])]

def kv52 (K : Sl → Int → Hp → Prop) : Value → Hp → Prop := fun v h => match v with | .tuple us => (let vs := us.toList; match (vs.getD 0 undef) with | .slice r0a r0n r0c => (let r0 : Sl := ⟨r0a, r0n, r0c⟩; match (vs.getD 1 undef) with | .int _ r1 => (K r0 r1 h) | _ => False) | _ => False) | _ => False

def q52 (K : Sl → Int → Hp → Prop) : Qt := retQ Tryd.prog Tryd.f52.results.toList [(.slice none 0 0), (.int .i64 (0 : Int))] (kv52 K)

def JT52_1 (x2 : Int) (x12 : Sl) (K : Sl → Int → Hp → Prop) (Kp : List PanicEntry → Hp → Prop) (h : Hp) : Prop :=
  Dv (8 : Int) <| Lt (Int.tmod x2 (8 : Int)) fun t49 =>
  If (t49 != (0 : Int)) (
    Wr .i64 ((x12.n : Int) - (1 : Int)) fun t54 =>
    Ix x12.a x12.n 1 t54 fun a55 =>
    Ld h a55 (Value.int .u8) fun t56 =>
    Dv (8 : Int) <| Lt (Int.tmod x2 (8 : Int)) fun t58 =>
    Nn t58 <| Wr .u8 ((1 : Int) * 2 ^ (min (Int.toNat t58) (IntKind.bits .u8))) fun t59 =>
    Wr .u8 (t59 - (1 : Int)) fun t60 =>
    Lt (bitsV .and .u8 t56 t60) fun t61 =>
    Ix x12.a x12.n 1 t54 fun a62 =>
    St h a62 (.int .u8 t61) fun h1 =>
    K x12 (0 : Int) h1) (
    K x12 (0 : Int) h)

def J52_1 (x2 : Int) (x12 : Sl) (K : Sl → Int → Hp → Prop) (Kp : List PanicEntry → Hp → Prop) (h : Hp) : Prop :=
  sem Tryd.prog ann52 (DrawSem Tryd.prog ord52) none (sub [1, 1, 1, 1, 1] code52) (ctxQ Tryd.prog ann52 (DrawSem Tryd.prog ord52) none Kp [1, 1, 1, 1, 1] code52 [] (q52 K)) Kp ([none, none, some (.int .i64 x2), none, none, none, none, none, none, none, none, none, some (Sl.v x12), none, none, none, none, none, none, none, none, none, none, none, none, none, none, none, none, none, none, none, none, none, none, none, none, none, none, none, none, none, none, none, none, none, none, none, none, none, none, none, none, none, none, none, none, none, none, none, none, none, none, none]) h

theorem J52_1.of {x2 : Int} {x12 : Sl} {K : Sl → Int → Hp → Prop} {Kp : List PanicEntry → Hp → Prop} {h : Hp} (H : JT52_1 x2 x12 K Kp h) : J52_1 x2 x12 K Kp h :=
  Eq.mp (by kernel_rfl) H

abbrev mk52_2 (x0 : Sl) (x1 : Sl) (x2 : Int) (x3 : Value) (x12 : Sl) (x30 : Int) (x31 : Int) : Fr := [some (Sl.v x0), some (Sl.v x1), some (.int .i64 x2), some x3, none, none, none, none, none, none, none, none, some (Sl.v x12), none, none, none, none, none, none, none, none, none, none, none, none, none, none, none, none, none, some (.int .i64 x30), some (.int .i64 x31), none, none, none, none, none, none, none, none, none, none, none, none, none, none, none, none, none, none, none, none, none, none, none, none, none, none, none, none, none, none, none, none]

def T52_2 (x0 : Sl) (x1 : Sl) (x2 : Int) (x3 : Value) (x12 : Sl) (x30 : Int) (K : Sl → Int → Hp → Prop) (Kp : List PanicEntry → Hp → Prop) (N1 : Fr → Hp → Prop) (x31 : Int) (h : Hp) : Prop :=
  If (decide (x31 < x30)) (
    Ix x0.a x0.n 1 x31 fun a39 =>
    Ld h a39 (Value.int .u8) fun t40 =>
    Ix x1.a x1.n 1 x31 fun a43 =>
    Ld h a43 (Value.int .u8) fun t44 =>
    CallV Tryd.prog x3 [(.int .u8 t40), (.int .u8 t44)] h (fun r h1 => ∃ t45 : Int, r = (.int .u8 t45) ∧
      Ix x12.a x12.n 1 x31 fun a46 =>
      St h1 a46 (.int .u8 t45) fun h2 =>
      Wr .i64 (x31 + (1 : Int)) fun t47 =>
      N1 (mk52_2 x0 x1 x2 x3 x12 x30 t47) h2) Kp) (
    J52_1 x2 x12 K Kp h)

def L52_2 (x0 : Sl) (x1 : Sl) (x2 : Int) (x3 : Value) (x12 : Sl) (x30 : Int) (K : Sl → Int → Hp → Prop) (Kp : List PanicEntry → Hp → Prop) (x31 : Int) (h : Hp) : Prop :=
  LoopH (fun N fr h => sem Tryd.prog ann52 (DrawSem Tryd.prog ord52) none (sub [1, 1, 1, 1, 0, 1, 0, 0] code52) (thenQ (fun fr' h' => N (Ann.find ann52 2009 fr') h') (ctxQ Tryd.prog ann52 (DrawSem Tryd.prog ord52) none Kp [1, 1, 1, 1, 0, 1, 0] code52 [] (q52 K))) Kp fr h) (mk52_2 x0 x1 x2 x3 x12 x30 x31) h

theorem L52_2.rule {x0 : Sl} {x1 : Sl} {x2 : Int} {x3 : Value} {x12 : Sl} {x30 : Int} {K : Sl → Int → Hp → Prop} {Kp : List PanicEntry → Hp → Prop} (I : Int → Hp → Prop) (μ : Int → Hp → Nat) {x31 : Int} {h : Hp} (h0 : I x31 h)
    (step : ∀ (x31 : Int) (h : Hp), I x31 h → ∀ N1 : Fr → Hp → Prop, (∀ (x31' : Int) (h' : Hp), I x31' h' → μ x31' h' < μ x31 h → N1 (mk52_2 x0 x1 x2 x3 x12 x30 x31') h') → T52_2 x0 x1 x2 x3 x12 x30 K Kp N1 x31 h) : L52_2 x0 x1 x2 x3 x12 x30 K Kp x31 h :=
  loop_rule (σ := Int) (fun s => mk52_2 x0 x1 x2 x3 x12 x30 s) (fun N s h => T52_2 x0 x1 x2 x3 x12 x30 K Kp N s h) (fun N s h => by kernel_rfl) (fun s h => I s h) (fun s h => μ s h) (s0 := x31) h0 (fun s h hI N hN => step s h hI N (fun x31' h' hI' hl => hN x31' h' hI' hl))

def S52 (a : Sl) (b : Sl) (n : Int) (how : Value) (h : Hp) (K : Sl → Int → Hp → Prop) (Kp : List PanicEntry → Hp → Prop) : Prop :=
  Fn46 a (0 : Int) n h (fun t16 h1 =>
    If (t16 != (0 : Int)) (
      K (⟨none, 0, 0⟩ : Sl) t16 h1) (
      Fn46 b (0 : Int) n h1 (fun t22 h2 =>
        If (t22 != (0 : Int)) (
          K (⟨none, 0, 0⟩ : Sl) t22 h2) (
          Fn22 n h2 (fun t27 h3 =>
            MkS h3 5 #[(.int .u8 (0 : Int))] 1 1 t27 t27 fun t28 h4 =>
            L52_2 a b n how t28 (t28.n : Int) K Kp (0 : Int) h4) Kp)) Kp)) Kp

theorem Fn52.of {a : Sl} {b : Sl} {n : Int} {how : Value} {h : Hp} {K : Sl → Int → Hp → Prop} {Kp : List PanicEntry → Hp → Prop} (H : S52 a b n how h K Kp) : Fn52 a b n how h K Kp :=
  Eq.mp (by kernel_rfl) (fn_of (P := Tryd.prog) (ann := ann52) (D := DrawSem Tryd.prog ord52) (drawOk _) (c := code52) (zs := [(.slice none 0 0), (.int .i64 (0 : Int))]) (args := [(Sl.v a), (Sl.v b), (.int .i64 n), how]) (Kv := kv52 K) (Kp := Kp) (h := h) Tryd.func52 (by kernel_rfl) (Eq.mp (by kernel_rfl) H))

/-! ### 53: colonnade/bits.And$1 -/

noncomputable def code53 : Code := Tryd.f53.body.getD .skip

def ann53 : Ann := []

def ord53 : List (Nat × List Nat × List Nat) := []

def kv53 (K : Int → Hp → Prop) : Value → Hp → Prop := fun v h => match v with | .int _ r0 => (K r0 h) | _ => False

def q53 (K : Int → Hp → Prop) : Qt := retQ Tryd.prog Tryd.f53.results.toList [(.int .u8 (0 : Int))] (kv53 K)

def S53 (x : Int) (y : Int) (h : Hp) (K : Int → Hp → Prop) (Kp : List PanicEntry → Hp → Prop) : Prop :=
  Lt (bitsV .and .u8 x y) fun t7 =>
  K t7 h

theorem Fn53.of {x : Int} {y : Int} {h : Hp} {K : Int → Hp → Prop} {Kp : List PanicEntry → Hp → Prop} (H : S53 x y h K Kp) : Fn53 x y h K Kp :=
  Eq.mp (by kernel_rfl) (fn_of (P := Tryd.prog) (ann := ann53) (D := DrawSem Tryd.prog ord53) (drawOk _) (c := code53) (zs := [(.int .u8 (0 : Int))]) (args := [(.int .u8 x), (.int .u8 y)]) (Kv := kv53 K) (Kp := Kp) (h := h) Tryd.func53 (by kernel_rfl) (Eq.mp (by kernel_rfl) H))

/-! ### 54: colonnade/bits.Or$1 -/

noncomputable def code54 : Code := Tryd.f54.body.getD .skip

def ann54 : Ann := []

def ord54 : List (Nat × List Nat × List Nat) := []

def kv54 (K : Int → Hp → Prop) : Value → Hp → Prop := fun v h => match v with | .int _ r0 => (K r0 h) | _ => False

def q54 (K : Int → Hp → Prop) : Qt := retQ Tryd.prog Tryd.f54.results.toList [(.int .u8 (0 : Int))] (kv54 K)

def S54 (x : Int) (y : Int) (h : Hp) (K : Int → Hp → Prop) (Kp : List PanicEntry → Hp → Prop) : Prop :=
  Lt (bitsV .or .u8 x y) fun t7 =>
  K t7 h

theorem Fn54.of {x : Int} {y : Int} {h : Hp} {K : Int → Hp → Prop} {Kp : List PanicEntry → Hp → Prop} (H : S54 x y h K Kp) : Fn54 x y h K Kp :=
  Eq.mp (by kernel_rfl) (fn_of (P := Tryd.prog) (ann := ann54) (D := DrawSem Tryd.prog ord54) (drawOk _) (c := code54) (zs := [(.int .u8 (0 : Int))]) (args := [(.int .u8 x), (.int .u8 y)]) (Kv := kv54 K) (Kp := Kp) (h := h) Tryd.func54 (by kernel_rfl) (Eq.mp (by kernel_rfl) H))

/-! ### 55: colonnade/bits.Xor$1 -/

noncomputable def code55 : Code := Tryd.f55.body.getD .skip

def ann55 : Ann := []

def ord55 : List (Nat × List Nat × List Nat) := []

def kv55 (K : Int → Hp → Prop) : Value → Hp → Prop := fun v h => match v with | .int _ r0 => (K r0 h) | _ => False

def q55 (K : Int → Hp → Prop) : Qt := retQ Tryd.prog Tryd.f55.results.toList [(.int .u8 (0 : Int))] (kv55 K)

def S55 (x : Int) (y : Int) (h : Hp) (K : Int → Hp → Prop) (Kp : List PanicEntry → Hp → Prop) : Prop :=
  Lt (bitsV .xor .u8 x y) fun t7 =>
  K t7 h

theorem Fn55.of {x : Int} {y : Int} {h : Hp} {K : Int → Hp → Prop} {Kp : List PanicEntry → Hp → Prop} (H : S55 x y h K Kp) : Fn55 x y h K Kp :=
  Eq.mp (by kernel_rfl) (fn_of (P := Tryd.prog) (ann := ann55) (D := DrawSem Tryd.prog ord55) (drawOk _) (c := code55) (zs := [(.int .u8 (0 : Int))]) (args := [(.int .u8 x), (.int .u8 y)]) (Kv := kv55 K) (Kp := Kp) (h := h) Tryd.func55 (by kernel_rfl) (Eq.mp (by kernel_rfl) H))

/-! ### 56: colonnade/bits.Not$1 -/

noncomputable def code56 : Code := Tryd.f56.body.getD .skip

def ann56 : Ann := []

def ord56 : List (Nat × List Nat × List Nat) := []

def kv56 (K : Int → Hp → Prop) : Value → Hp → Prop := fun v h => match v with | .int _ r0 => (K r0 h) | _ => False

def q56 (K : Int → Hp → Prop) : Qt := retQ Tryd.prog Tryd.f56.results.toList [(.int .u8 (0 : Int))] (kv56 K)

def S56 (x : Int) (p1 : Int) (h : Hp) (K : Int → Hp → Prop) (Kp : List PanicEntry → Hp → Prop) : Prop :=
  Lt (bitsV .xor .u8 (if IntKind.signed .u8 then -1 else IntKind.max .u8) x) fun t6 =>
  K t6 h

theorem Fn56.of {x : Int} {p1 : Int} {h : Hp} {K : Int → Hp → Prop} {Kp : List PanicEntry → Hp → Prop} (H : S56 x p1 h K Kp) : Fn56 x p1 h K Kp :=
  Eq.mp (by kernel_rfl) (fn_of (P := Tryd.prog) (ann := ann56) (D := DrawSem Tryd.prog ord56) (drawOk _) (c := code56) (zs := [(.int .u8 (0 : Int))]) (args := [(.int .u8 x), (.int .u8 p1)]) (Kv := kv56 K) (Kp := Kp) (h := h) Tryd.func56 (by kernel_rfl) (Eq.mp (by kernel_rfl) H))

end Go.Proofs.YtajgmklgfdgnlaaDoor
