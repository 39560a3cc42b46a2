/- Contracts: Place; the joins of two maps, both sides. -/
import Derived.Test.YtajgmklgfdgnlaaDoorP
namespace Go.Proofs.YtajgmklgfdgnlaaDoor
open Go Go.Sh
def placeR : List (Nat × Nat) → Nat → Option Nat
  | [], _ => none
  | r :: rs, k => if k < r.2 then some (r.1 + k) else placeR rs (k - r.2)
theorem placeF_run (f : Nat → Bool) (N i k : Nat) : placeF f N i k = if k < endOf f N i - i then some (i + k) else placeF f N (endOf f N i) (k - (endOf f N i - i)) := by
  by_cases h : i < N ∧ f i = true
  · have hgt := endOf_gt h.1 h.2
    rw [placeF.eq_def _ _ i k, if_pos h.1, if_pos h.2]
    by_cases hk : k = 0
    · subst hk; rw [if_pos rfl, if_pos (by omega)]; rfl
    · rw [if_neg hk, placeF_run f N (i + 1) (k - 1), ← endOf_on h.1 h.2]
      by_cases h2 : k < endOf f N i - i
      · rw [if_pos h2, if_pos (by omega)]; congr 1; omega
      · rw [if_neg h2, if_neg (by omega)]; congr 1; omega
  · rw [endOf_off h, if_neg (by omega)]; simp
termination_by N - i
theorem placeR_runs (f : Nat → Bool) (N i k : Nat) : placeR (runsAt f N i) k = placeF f N i k := by
  by_cases h : i < N
  · cases hf : f i
    · rw [runsAt_off h hf, placeF.eq_def _ _ i, if_pos h, if_neg (by simp [hf])]; exact placeR_runs f N (i + 1) k
    · have hgt := endOf_gt h hf
      rw [runsAt_on h hf, placeF_run]
      simp only [placeR]
      split
      · rfl
      · exact placeR_runs f N (endOf f N i) _
  · rw [runsAt_end h, placeF.eq_def _ _ i, if_neg h]; rfl
termination_by N - i
def plN : Option Nat → Int | some i => (i : Int) | none => 0
def plE : Option Nat → Int | some _ => 0 | none => 2
theorem placeR_le {rs : List (Nat × Nat)} {N : Nat} (hb : ∀ r ∈ rs, r.1 + r.2 ≤ N) {k i : Nat} (h : placeR rs k = some i) : i < N := by
  induction rs generalizing k with
  | nil => cases h
  | cons r rs ih =>
    simp only [placeR] at h
    split at h
    · have := hb r (by simp); cases h; omega
    · exact ih (fun x hx => hb x (by simp [hx])) h
theorem place_c {b : Sl} {fr n k : Int} {h : Hp} {K : Int → Int → Hp → Prop} {Kp : List PanicEntry → Hp → Prop} {l : List Nat} (hb : Bs h b l) (hn : I64 n) (hkk : I64 k)
    (hneg : k < 0 → ∀ h', Grw h h' → K 0 1 h') (hbad : 0 ≤ k → askB l.length fr n ≠ 0 → ∀ h', Grw h h' → K 0 (askB l.length fr n) h')
    (hk : 0 ≤ k → 0 ≤ fr → 0 ≤ n → n ≤ 8 * (l.length : Int) - fr → ∀ h', Grw h h' → K (plN (placeF (bitsF l fr) n.toNat 0 k.toNat)) (plE (placeF (bitsF l fr) n.toNat 0 k.toNat)) h') : Fn34 b fr n k h K Kp := by
  refine Fn34.of ?_
  unfold S34
  have hlen := hb.2.2
  have hbn := hb.n
  refine New_i fun b7 h1 e1 g1 k1 z1 => New_i fun b8 h2 e2 g2 k2 z2 => New_i fun b9 h3 e3 g3 k3 z3 => ?_
  have gg : Grw h h3 := (g1.trans g2).trans g3
  have k1' := (k1.grw g2).grw g3
  have k2' := k2.grw g3
  have out : ∀ (x y : Int) (h' : Hp), Grw h h' → (∃ v, Blk h' b8 #[v] 3) → (∃ v, Blk h' b9 #[v] 35) → (∀ h'', Grw h h'' → K x y h'') → St h' ⟨b8, 0, none⟩ (.int .i64 x) fun h5 => St h5 ⟨b9, 0, none⟩ (.int .i64 y) fun h6 =>
      Ld h6 ⟨b8, 0, none⟩ (Value.int .i64) fun r0 => Ld h6 ⟨b9, 0, none⟩ (Value.int .i64) fun r1 => K r0 r1 h6 := by
    rintro x y h' g ⟨v8, k8⟩ ⟨v9, k9⟩ hK
    refine St_i k8 (by simp) rfl fun h5 o5 k5 => St_i (o5.blk k9 (by omega)) (by simp) rfl fun h6 o6 k6 => ?_
    refine Ld_blk (x := x) (o6.blk k5 (by omega)) rfl (Ld_blk (x := y) k6 rfl ?_)
    exact hK _ (o6.grw (o5.grw g (by omega)) (by omega))
  refine Ld_blk (x := k) k1' rfl ?_
  refine If_i (fun h4 => ?_) fun h4 => ?_
  · simp only [decide_eq_true_eq] at h4
    exact out 0 1 h3 gg ⟨_, k2'⟩ ⟨_, k3⟩ (hneg h4)
  · simp only [decide_eq_false_iff_not] at h4
    refine asked_c (by omega) hn ?_
    rw [hbn]
    refine If_i (fun h5 => ?_) fun h5 => ?_
    · simp only [bne_iff_ne, ne_eq] at h5
      exact out 0 _ h3 gg ⟨_, k2'⟩ ⟨_, k3⟩ (hbad (by omega) h5)
    · simp only [bne_eq_false_iff_eq] at h5
      obtain ⟨i1, i2, i3⟩ := askB_ok h5
      have hk := hk (by omega) i1 i2 i3
      obtain ⟨Q, rfl⟩ := Int.eq_ofNat_of_zero_le (by omega : 0 ≤ k)
      rw [Int.toNat_natCast, ← placeR_runs] at hk
      refine runs_c fun b5 b3 b4 hR gR q5 q3 q4 rb => ?_
      have zR := gR.1
      have l5 := rb.1.lt
      have l3 := rb.2.1.lt
      have l4 := rb.2.2.lt
      unfold I64 at hkk
      have hbd := runs_bound (bitsF l fr) n.toNat 0
      refine R34_1.rule (α := Nat × Nat) (fun y => (y.1 : Int)) (fun y => (y.2 : Int)) (runs_iter (b := b) (l := l) i1 i3 i2)
        (fun pre h' => Grw h h' ∧ (∃ q : Nat, q ≤ Q ∧ Blk h' b7 #[.int .i64 (q : Int)] 3 ∧ ∀ suf, placeR (pre ++ suf) Q = placeR suf q) ∧ (∃ v, Blk h' b8 #[v] 3) ∧ (∃ v, Blk h' b9 #[v] 35) ∧ RunBlk b5 b3 b4 b fr n h')
        (fun pre h' => Grw h h' ∧ ∃ x : Nat, Blk h' b8 #[.int .i64 (x : Int)] 3 ∧ Blk h' b9 #[.int .i64 0] 35 ∧ ∀ suf, placeR (pre ++ suf) Q = some x)
        ⟨gg.trans gR, ⟨Q, Nat.le_refl _, k1'.grw gR, fun _ => rfl⟩, ⟨_, k2'.grw gR⟩, ⟨_, k3.grw gR⟩, rb⟩ ?_ ?_ (fun pre h1 i => i.2.2.2.2.pre (hb.grw i.1)) ?_ ?_ ?_ ?_ ?_
      · rintro pre ha hc gg ⟨j1, ⟨q, j2, j3, j4⟩, ⟨v8, j5⟩, ⟨v9, j6⟩, j7⟩
        exact ⟨j1.trans gg, ⟨q, j2, j3.grw gg, j4⟩, ⟨v8, j5.grw gg⟩, ⟨v9, j6.grw gg⟩, j7.grw gg⟩
      · rintro lb pre ha hc hl t ⟨j1, ⟨q, j2, j3, j4⟩, ⟨v8, j5⟩, ⟨v9, j6⟩, j7⟩
        exact ⟨t.only.grw j1 (by have := gg.1; omega), ⟨q, j2, t.only.blk j3 (by omega), j4⟩, ⟨v8, t.only.blk j5 (by omega)⟩, ⟨v9, t.only.blk j6 (by omega)⟩, j7.only t.only (by omega) (by omega) (by omega)⟩
      · rintro pre ha hc gg ⟨j1, x, j2, j3, j4⟩
        exact ⟨j1.trans gg, x, j2.grw gg, j3.grw gg, j4⟩
      · rintro lb pre ha hc hl t ⟨j1, x, j2, j3, j4⟩
        exact ⟨t.only.grw j1 (by have := gg.1; omega), x, t.only.blk j2 (by omega), t.only.blk j3 (by omega), j4⟩
      · rintro lb pre y suf ha hxs hl _ ⟨j1, ⟨q, j2, j3, j4⟩, ⟨v8, j5⟩, ⟨v9, j6⟩, j7⟩ N X hN hX
        have hy := hbd y (by rw [hxs]; simp)
        unfold RT34_1
        refine ⟨rfl, fun hB tB => ?_⟩
        have o := tB.only
        have zg := gg.1
        have q7 := o.blk j3 (by omega)
        refine Ld_blk (x := (q : Int)) q7 rfl (If_i (fun h6 => ?_) fun h6 => Ld_blk (x := (q : Int)) q7 rfl ?_)
        · simp only [decide_eq_true_eq] at h6
          refine Ld_blk (x := (q : Int)) q7 rfl (Wr_i64 (by omega) (by omega) ?_)
          refine St_i (o.blk j5 (by omega)) (by simp) rfl fun h7 o7 k7 => St_i (o7.blk (o.blk j6 (by omega)) (by omega)) (by simp) rfl fun h8 o8 k8 => ?_
          refine hX hB h8 tB ((o8.2 lb (by omega)).trans (o7.2 lb (by omega))) ⟨o8.grw (o7.grw (o.grw j1 (by omega)) (by omega)) (by omega), y.1 + q, o8.blk k7 (by omega), k8, fun suf => ?_⟩
          rw [List.append_assoc, j4]; simp only [List.singleton_append, placeR]; rw [if_pos (by omega)]
        · simp only [decide_eq_false_iff_not] at h6
          refine Wr_i64 (by omega) (by omega) ?_
          refine St_i q7 (by simp) rfl fun h7 o7 k7 => ?_
          refine hN hB h7 tB (o7.2 lb (by omega)) ⟨o7.grw (o.grw j1 (by omega)) (by omega), ⟨q - y.2, by omega, ?_, fun suf => ?_⟩, ⟨v8, o7.blk (o.blk j5 (by omega)) (by omega)⟩, ⟨v9, o7.blk (o.blk j6 (by omega)) (by omega)⟩, (j7.only o (by omega) (by omega) (by omega)).only o7 (by omega) (by omega) (by omega)⟩
          · have e : Value.int .i64 ((q - y.2 : Nat) : Int) = .int .i64 ((q : Int) - (y.2 : Int)) := by congr 1; omega
            rw [e]; exact k7
          · rw [List.append_assoc, j4]; simp only [List.singleton_append, placeR]; rw [if_neg (by omega)]
      · rintro ha ⟨j1, ⟨q, j2, j3, j4⟩, j5, j6, j7⟩
        unfold RD34_1
        refine out 0 2 ha j1 j5 j6 ?_
        have := j4 []
        simp only [List.append_nil, placeR] at this
        rw [this] at hk; exact hk
      · rintro pre suf ha hxs ⟨j1, x, j2, j3, j4⟩
        unfold RX34_1_ret
        refine Ld_blk (x := (x : Int)) j2 rfl (Ld_blk (x := (0 : Int)) j3 rfl ?_)
        rw [hxs, j4] at hk; exact hk ha j1
/-! ### joins -/
theorem byte_ext {x y : Nat} (hx : x < 256) (hy : y < 256) (h : ∀ j, j < 8 → x.testBit j = y.testBit j) : x = y := by
  apply Nat.eq_of_testBit_eq
  intro j
  by_cases hj : j < 8
  · exact h j hj
  · rw [Nat.testBit_lt_two_pow (Nat.lt_of_lt_of_le hx (Nat.pow_le_pow_right (n := 2) (by decide) (by omega : 8 ≤ j))), Nat.testBit_lt_two_pow (Nat.lt_of_lt_of_le hy (Nat.pow_le_pow_right (n := 2) (by decide) (by omega : 8 ≤ j)))]
theorem and8 (x y : Nat) (hx : x < 256) (hy : y < 256) : bitsV .and .u8 (x : Int) (y : Int) = ((x &&& y : Nat) : Int) := by
  have hxy : x &&& y < 256 := Nat.and_lt_two_pow (n := 8) x hy
  have h1 : (BitVec.ofInt 8 (x : Int) &&& BitVec.ofInt 8 (y : Int)).toNat = x &&& y := by
    have e1 : BitVec.ofInt 8 (x : Int) = BitVec.ofNat 8 x := by simp
    have e2 : BitVec.ofInt 8 (y : Int) = BitVec.ofNat 8 y := by simp
    rw [e1, e2, BitVec.toNat_and, BitVec.toNat_ofNat, BitVec.toNat_ofNat, Nat.mod_eq_of_lt (by omega), Nat.mod_eq_of_lt (by omega)]
  show IntKind.wrap .u8 ((BitVec.ofInt 8 (x : Int) &&& BitVec.ofInt 8 (y : Int)).toNat : Int) = _
  rw [h1, IntKind.wrap_u8]; omega
theorem xor8 (x y : Nat) (hx : x < 256) (hy : y < 256) : bitsV .xor .u8 (x : Int) (y : Int) = ((x ^^^ y : Nat) : Int) := by
  have hxy : x ^^^ y < 256 := Nat.xor_lt_two_pow (n := 8) hx hy
  have h1 : (BitVec.ofInt 8 (x : Int) ^^^ BitVec.ofInt 8 (y : Int)).toNat = x ^^^ y := by
    have e1 : BitVec.ofInt 8 (x : Int) = BitVec.ofNat 8 x := by simp
    have e2 : BitVec.ofInt 8 (y : Int) = BitVec.ofNat 8 y := by simp
    rw [e1, e2, BitVec.toNat_xor, BitVec.toNat_ofNat, BitVec.toNat_ofNat, Nat.mod_eq_of_lt (by omega), Nat.mod_eq_of_lt (by omega)]
  show IntKind.wrap .u8 ((BitVec.ofInt 8 (x : Int) ^^^ BitVec.ofInt 8 (y : Int)).toNat : Int) = _
  rw [h1, IntKind.wrap_u8]; omega
theorem not8 (x : Nat) (hx : x < 256) : bitsV .xor .u8 (if IntKind.signed .u8 = true then -1 else IntKind.max .u8) (x : Int) = ((255 ^^^ x : Nat) : Int) := by
  have e : (if IntKind.signed .u8 = true then -1 else IntKind.max .u8 : Int) = ((255 : Nat) : Int) := by decide
  rw [e, xor8 255 x (by decide) hx]
/-- how two bits are joined, and two bytes -/
structure How (fv : Value) (op : Bool → Bool → Bool) (w : Nat → Nat → Nat) : Prop where
  call : ∀ (x y : Nat) (h : Hp) (K : Value → Hp → Prop) (Kp : List PanicEntry → Hp → Prop), x < 256 → y < 256 → K (.int .u8 (w x y : Int)) h → CallV Tryd.prog fv [.int .u8 (x : Int), .int .u8 (y : Int)] h K Kp
  lt : ∀ x y, x < 256 → y < 256 → w x y < 256
  bit : ∀ x y j, j < 8 → (w x y).testBit j = op (x.testBit j) (y.testBit j)
theorem how_and : How (.func (.func 53) #[] #[]) (fun a b => a && b) (fun x y => x &&& y) where
  call x y h K Kp hx hy hk := by
    have hok : okFn Tryd.prog 53 = true := by kernel_rfl
    unfold CallV
    simp only [hok, cond_true]
    refine CallH.mono (Fn53.of (K := fun r h' => K (.int .u8 r) h') (Kp := Kp) ?_) (fun _ _ hh => by obtain ⟨r, rfl, hh⟩ := hh; exact hh) (fun _ _ hh => hh)
    unfold S53 Lt
    rw [and8 x y hx hy]; exact hk
  lt x y hx hy := Nat.and_lt_two_pow (n := 8) x hy
  bit x y j _ := Nat.testBit_and x y j
theorem how_or : How (.func (.func 54) #[] #[]) (fun a b => a || b) (fun x y => x ||| y) where
  call x y h K Kp hx hy hk := by
    have hok : okFn Tryd.prog 54 = true := by kernel_rfl
    unfold CallV
    simp only [hok, cond_true]
    refine CallH.mono (Fn54.of (K := fun r h' => K (.int .u8 r) h') (Kp := Kp) ?_) (fun _ _ hh => by obtain ⟨r, rfl, hh⟩ := hh; exact hh) (fun _ _ hh => hh)
    unfold S54 Lt
    rw [or8 x y hx hy]; exact hk
  lt x y hx hy := Nat.or_lt_two_pow (n := 8) hx hy
  bit x y j _ := Nat.testBit_or x y j
theorem how_xor : How (.func (.func 55) #[] #[]) (fun a b => a != b) (fun x y => x ^^^ y) where
  call x y h K Kp hx hy hk := by
    have hok : okFn Tryd.prog 55 = true := by kernel_rfl
    unfold CallV
    simp only [hok, cond_true]
    refine CallH.mono (Fn55.of (K := fun r h' => K (.int .u8 r) h') (Kp := Kp) ?_) (fun _ _ hh => by obtain ⟨r, rfl, hh⟩ := hh; exact hh) (fun _ _ hh => hh)
    unfold S55 Lt
    rw [xor8 x y hx hy]; exact hk
  lt x y hx hy := Nat.xor_lt_two_pow (n := 8) hx hy
  bit x y j _ := by rw [Nat.testBit_xor]
theorem t255 : ∀ j, j < 8 → Nat.testBit 255 j = true := by decide
theorem how_not : How (.func (.func 56) #[] #[]) (fun a _ => !a) (fun x _ => 255 ^^^ x) where
  call x y h K Kp hx hy hk := by
    have hok : okFn Tryd.prog 56 = true := by kernel_rfl
    unfold CallV
    simp only [hok, cond_true]
    refine CallH.mono (Fn56.of (K := fun r h' => K (.int .u8 r) h') (Kp := Kp) ?_) (fun _ _ hh => by obtain ⟨r, rfl, hh⟩ := hh; exact hh) (fun _ _ hh => hh)
    unfold S56 Lt
    rw [not8 x hx]; exact hk
  lt x y hx hy := Nat.xor_lt_two_pow (n := 8) (by decide) hx
  bit x y j hj := by rw [Nat.testBit_xor, t255 j hj]; cases x.testBit j <;> rfl
/-- the bytes of n bits, the first i of which have been laid, unmasked -/
def joinTo (f : Nat → Bool) (m i : Nat) : List Nat := (List.range m).map fun k => if k < i then byteOf fun j => f (8 * k + j) else 0
theorem joinTo_get {f : Nat → Bool} {m i k : Nat} (hk : k < m) : (joinTo f m i)[k]? = some (if k < i then byteOf fun j => f (8 * k + j) else 0) := by simp [joinTo, hk]
theorem joinTo_len (f : Nat → Bool) (m i : Nat) : (joinTo f m i).length = m := by simp [joinTo]
theorem joinTo_set {f : Nat → Bool} {m i : Nat} : (joinTo f m i).set i (byteOf fun j => f (8 * i + j)) = joinTo f m (i + 1) := by
  apply List.ext_getElem?
  intro k
  rw [List.getElem?_set]
  by_cases hk : k < m
  · rw [joinTo_get hk, joinTo_get hk]
    by_cases e : i = k
    · subst e; rw [if_pos rfl, if_pos (by rw [joinTo_len]; exact hk), if_pos (by omega)]
    · rw [if_neg e]
      by_cases h2 : k < i
      · rw [if_pos h2, if_pos (by omega)]
      · rw [if_neg h2, if_neg (by omega)]
  · rw [List.getElem?_eq_none (by rw [joinTo_len]; omega), List.getElem?_eq_none (l := joinTo f m (i + 1)) (by rw [joinTo_len]; omega)]
    split
    · split
      · rename_i h1; rw [joinTo_len] at h1; omega
      · rfl
    · rfl
theorem packN_get {f : Nat → Bool} {N k : Nat} (hk : k < needN N) : (packN (listF f N))[k]? = some (byteOf fun j => decide (8 * k + j < N) && f (8 * k + j)) := by
  unfold packN
  rw [packTo_get (by rw [bo_len]; exact hk), bo_len]
  congr 1
  apply byteOf_congr
  intro j _
  by_cases h : 8 * k + j < N
  · rw [listF_getD h]
  · rw [decide_eq_false h]; rfl
theorem join_full {f : Nat → Bool} {N : Nat} (h : N % 8 = 0) : joinTo f (needN N) (needN N) = packN (listF f N) := by
  apply List.ext_getElem?
  intro k
  by_cases hk : k < needN N
  · rw [joinTo_get hk, packN_get hk, if_pos hk]
    congr 1
    apply byteOf_congr
    intro j hj
    unfold needN at hk
    rw [decide_eq_true (by omega)]; rfl
  · rw [List.getElem?_eq_none (by rw [joinTo_len]; omega), List.getElem?_eq_none (by rw [packN_len, bo_len]; omega)]
theorem join_mask {f : Nat → Bool} {N : Nat} (h : N % 8 ≠ 0) : (joinTo f (needN N) (needN N)).set (N / 8) ((byteOf fun j => f (8 * (N / 8) + j)) &&& (2 ^ (N % 8) - 1)) = packN (listF f N) := by
  apply List.ext_getElem?
  intro k
  have hn : needN N = N / 8 + 1 := by unfold needN; omega
  rw [List.getElem?_set]
  by_cases hk : k < needN N
  · rw [joinTo_get hk, packN_get hk, if_pos hk]
    by_cases e : N / 8 = k
    · subst e
      rw [if_pos rfl, if_pos (by rw [joinTo_len]; exact hk)]
      congr 1
      have hl := byteOf_lt fun j => f (8 * (N / 8) + j)
      refine byte_ext (Nat.lt_of_le_of_lt Nat.and_le_left hl) (byteOf_lt _) fun j hj => ?_
      rw [Nat.testBit_and, byteOf_bit hj, byteOf_bit hj, Nat.testBit_two_pow_sub_one]
      have : decide (8 * (N / 8) + j < N) = decide (j < N % 8) := by congr 1; simp only [eq_iff_iff]; omega
      rw [this, Bool.and_comm]
    · rw [if_neg e]
      congr 1
      apply byteOf_congr
      intro j hj
      rw [decide_eq_true (by omega)]; rfl
  · rw [List.getElem?_eq_none (by rw [joinTo_len]; omega), List.getElem?_eq_none (l := packN _) (by rw [packN_len, bo_len]; omega)]
    split
    · rw [if_neg (by rw [joinTo_len]; omega)]
    · rfl
theorem byteOf_how {fv : Value} {op : Bool → Bool → Bool} {w : Nat → Nat → Nat} (H : How fv op w) {la lb : List Nat} {i : Nat} {x y : Nat} (hx : la[i]? = some x) (hy : lb[i]? = some y) (h1 : x < 256) (h2 : y < 256) :
    w x y = byteOf fun j => op (bitN la (8 * i + j)) (bitN lb (8 * i + j)) := by
  refine byte_ext (H.lt x y h1 h2) (byteOf_lt _) fun j hj => ?_
  rw [H.bit x y j hj, byteOf_bit hj]
  unfold bitN
  have e1 : (8 * i + j) / 8 = i := by omega
  have e2 : (8 * i + j) % 8 = j := by omega
  rw [e1, e2, List.getD_eq_getElem?_getD, List.getD_eq_getElem?_getD, hx, hy]; rfl
theorem bitsF_zero (l : List Nat) (i : Nat) : bitsF l 0 i = bitN l i := by unfold bitsF; simp
theorem join_c {a b : Sl} {n : Int} {fv : Value} {op : Bool → Bool → Bool} {w : Nat → Nat → Nat} (H : How fv op w) {h : Hp} {K : Sl → Int → Hp → Prop} {Kp : List PanicEntry → Hp → Prop} {la lb : List Nat} (ha : Bs h a la) (hb : Bs h b lb) (hn : I64 n)
    (hbad : askB la.length 0 n ≠ 0 → K ⟨none, 0, 0⟩ (askB la.length 0 n) h) (hbad2 : askB la.length 0 n = 0 → askB lb.length 0 n ≠ 0 → K ⟨none, 0, 0⟩ (askB lb.length 0 n) h)
    (hk : 0 ≤ n → n ≤ 8 * (la.length : Int) → n ≤ 8 * (lb.length : Int) → ∀ s bl h', Grw h h' → h.size ≤ bl → Own h' s bl (by8 (packN (listF (fun i => op (bitN la i) (bitN lb i)) n.toNat))) 5 → K s 0 h') : Fn52 a b n fv h K Kp := by
  refine Fn52.of ?_
  unfold S52
  have han := ha.n
  have halen := ha.2.2
  have hbn := hb.n
  have hblen := hb.2.2
  refine asked_c (by omega) hn ?_
  rw [han]
  refine If_i (fun h1 => hbad (by simpa using h1)) fun h1 => ?_
  simp only [bne_eq_false_iff_eq] at h1
  refine asked_c (by omega) hn ?_
  rw [hbn]
  refine If_i (fun h2 => hbad2 h1 (by simpa using h2)) fun h2 => ?_
  simp only [bne_eq_false_iff_eq] at h2
  obtain ⟨_, i2, i3⟩ := askB_ok h1
  obtain ⟨_, _, i4⟩ := askB_ok h2
  have hk := hk i2 (by omega) (by omega)
  obtain ⟨N, rfl⟩ := Int.eq_ofNat_of_zero_le i2
  rw [Int.toNat_natCast] at hk
  have hnd : needN N ≤ N + 1 ∧ needN N ≤ la.length ∧ needN N ≤ lb.length := by unfold needN; omega
  refine need_c (by omega) ?_
  refine MkS_i (by omega) (by omega) (by omega) fun s h2 g2 o2 _ => ?_
  have hsn : s.n = needN N := by have := o2.2.1; simpa using this
  rw [hsn]
  let f : Nat → Bool := fun i => op (bitN la i) (bitN lb i)
  refine L52_2.rule (fun x h' => ∃ i : Nat, x = (i : Int) ∧ i ≤ needN N ∧ Grw h h' ∧ Own h' s h.size (by8 (joinTo f (needN N) i)) 5) (fun x _ => needN N - x.toNat) ⟨0, rfl, Nat.zero_le _, g2, ?_⟩ ?_
  · have e : by8 (joinTo f (needN N) 0) = List.replicate ((needN N : Nat) : Int).toNat (.int .u8 0) := by
      rw [Int.toNat_natCast, ← by8_rep]; congr 1
      apply List.ext_getElem
      · simp [joinTo]
      · intro i h1 h2; simp [joinTo]
    rw [e]; exact o2
  · rintro x h' ⟨i, rfl, hi, g, o⟩ N1 hN
    unfold T52_2
    refine If_i (fun h5 => ?_) fun h5 => ?_
    · simp only [decide_eq_true_eq] at h5
      have hia : i < la.length := by omega
      have hib : i < lb.length := by omega
      refine (ha.grw g).1.ix (by omega) (by omega) (by rw [Int.toNat_natCast]; exact by8_get (List.getElem?_eq_getElem hia)) fun p hp => Ld_i hp ?_
      refine (hb.grw g).1.ix (by omega) (by omega) (by rw [Int.toNat_natCast]; exact by8_get (List.getElem?_eq_getElem hib)) fun q hq => Ld_i hq ?_
      have hxa := ha.2.1 _ (List.getElem_mem hia)
      have hxb := hb.2.1 _ (List.getElem_mem hib)
      refine H.call _ _ _ _ _ hxa hxb ⟨_, rfl, ?_⟩
      refine o.ixSt (by omega) (by omega) ?_
      refine o.st (by omega) rfl fun h3 o3 o4 => ?_
      refine Wr_i64 (by omega) (by omega) ?_
      refine hN _ _ ⟨i + 1, by simp, by omega, o3.grw g (Nat.le_refl _), ?_⟩ (by omega)
      rw [Int.toNat_natCast, by8_set, byteOf_how H (List.getElem?_eq_getElem hia) (List.getElem?_eq_getElem hib) hxa hxb, joinTo_set (f := f)] at o4
      exact o4
    · simp only [decide_eq_false_iff_not] at h5
      have : i = needN N := by omega
      subst this
      refine J52_1.of ?_
      unfold JT52_1
      have e1 : Int.tmod (N : Int) 8 = ((N % 8 : Nat) : Int) := rfl
      refine Dv_i (by decide) ?_
      unfold Lt
      rw [e1]
      refine If_i (fun h6 => ?_) fun h6 => ?_
      · simp only [bne_iff_ne, ne_eq] at h6
        have h6' : N % 8 ≠ 0 := by omega
        have hnn : needN N = N / 8 + 1 := by unfold needN; omega
        refine Wr_i64 (by omega) (by omega) ?_
        refine o.ixSt (by omega) (by omega) ?_
        have e2 : ((s.n : Int) - 1).toNat = N / 8 := by omega
        rw [e2]
        have hget := by8_get (joinTo_get (f := f) (m := needN N) (i := needN N) (k := N / 8) (by omega))
        rw [if_pos (by omega)] at hget
        refine o.ld (by omega) hget ?_
        refine Dv_i (by decide) (Nn_i (by omega) ?_)
        have hp := pow8 (m := N % 8) (by omega)
        have hp1 : 1 ≤ 2 ^ (N % 8) := Nat.one_le_two_pow
        rw [shl8 (by omega)]
        refine Wr_u8n (by omega) ?_
        have e3 : ((2 ^ (N % 8) : Nat) : Int) - 1 = ((2 ^ (N % 8) - 1 : Nat) : Int) := by omega
        rw [e3]
        refine Wr_u8n (by omega) ?_
        rw [and8 _ _ (byteOf_lt _) (by omega)]
        refine o.ixSt (by omega) (by omega) ?_
        rw [e2]
        refine o.st (by omega) rfl fun h3 o3 o4 => ?_
        rw [by8_set, join_mask h6'] at o4
        exact hk s _ h3 (o3.grw g (Nat.le_refl _)) (Nat.le_refl _) o4
      · simp only [bne_eq_false_iff_eq] at h6
        rw [join_full (by omega)] at o
        exact hk s _ h' g (Nat.le_refl _) o
end Go.Proofs.YtajgmklgfdgnlaaDoor
