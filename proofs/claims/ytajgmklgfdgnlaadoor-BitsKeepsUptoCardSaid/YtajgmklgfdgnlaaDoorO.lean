/- Contract: Count, whole. -/
import Derived.Test.YtajgmklgfdgnlaaDoorN
namespace Go.Proofs.YtajgmklgfdgnlaaDoor
open Go Go.Sh
theorem and15 (x : Nat) : bitsV .and .u8 (x : Int) 15 = ((x % 16 : Nat) : Int) := by
  have h1 : (BitVec.ofInt 8 (x : Int) &&& BitVec.ofInt 8 15).toNat = x % 16 := by
    have e1 : BitVec.ofInt 8 (x : Int) = BitVec.ofNat 8 x := by simp
    have e2 : BitVec.ofInt 8 15 = BitVec.ofNat 8 15 := by decide
    rw [e1, e2, BitVec.toNat_and, BitVec.toNat_ofNat, BitVec.toNat_ofNat]
    have : 15 % 2 ^ 8 = 2 ^ 4 - 1 := by decide
    rw [this, Nat.and_two_pow_sub_one_eq_mod]
    omega
  show IntKind.wrap .u8 ((BitVec.ofInt 8 (x : Int) &&& BitVec.ofInt 8 15).toNat : Int) = _
  rw [h1, IntKind.wrap_u8]; omega
theorem onesN_le (x : Nat) : onesN x ≤ 4 := by
  unfold onesN
  by_cases h : x < 16
  · rcases x with _ | _ | _ | _ | _ | _ | _ | _ | _ | _ | _ | _ | _ | _ | _ | _ | x <;> first | omega | decide
  · rw [List.getD_eq_getElem?_getD, List.getElem?_eq_none (by simp; omega)]; decide
theorem bitsF_byte {l : List Nat} {fr : Int} (ha : fr.toNat % 8 = 0) {c : Nat} (hc : l[fr.toNat / 8]? = some c) : cntF (bitsF l fr) 8 = cntF (fun i => c.testBit i) 8 := by
  apply cntF_congr
  intro i hi
  unfold bitsF bitN
  have e1 : (fr.toNat + i) / 8 = fr.toNat / 8 := by omega
  have e2 : (fr.toNat + i) % 8 = i := by omega
  rw [e1, e2, List.getD_eq_getElem?_getD, hc]; rfl
theorem bitsF_add (l : List Nat) (fr : Int) (h0 : 0 ≤ fr) (a i : Nat) : bitsF l fr (a + i) = bitsF l (fr + a) i := by
  unfold bitsF; congr 1; omega
theorem cnt_add (l : List Nat) (fr : Int) (h0 : 0 ≤ fr) (a b : Nat) : cntF (bitsF l fr) (a + b) = cntF (bitsF l fr) a + cntF (bitsF l (fr + a)) b := by
  rw [cntF_add]; congr 1; exact cntF_congr fun i _ => bitsF_add l fr h0 a i
/-- the whole bytes -/
theorem count4 {b : Sl} {fr n : Int} {l : List Nat} {h0 h : Hp} {b9 s : Nat} {K : Int → Int → Hp → Prop} {Kp : List PanicEntry → Hp → Prop} (hb : Bs h0 b l) (tb : Tab h0) (g : Grw h0 h) (h9 : h0.size ≤ b9) (i1 : 0 ≤ fr) (i2 : 0 ≤ n) (i3 : n ≤ 8 * (l.length : Int) - fr)
    (ha : 8 ≤ n → fr.toNat % 8 = 0) (hs : s < 2 ^ 45)
    (k9 : Blk h b9 #[.int .i64 (s : Int)] 3) (hk : ∀ h', Grw h0 h' → K ((s + cntF (bitsF l fr) n.toNat : Nat) : Int) 0 h') : L19_4 b 0 0 ⟨b9, 0, none⟩ K Kp fr n h := by
  have hlen := hb.2.2
  have hbn := hb.n
  refine L19_4.rule (fun x y h' => 0 ≤ x ∧ 0 ≤ y ∧ y ≤ 8 * (l.length : Int) - x ∧ (8 ≤ y → x.toNat % 8 = 0) ∧ fr ≤ x ∧ x + y = fr + n ∧ ∃ s' : Nat, s' + cntF (bitsF l x) y.toNat = s + cntF (bitsF l fr) n.toNat ∧ Grw h0 h' ∧ Blk h' b9 #[.int .i64 (s' : Int)] 3) (fun _ y _ => y.toNat)
    ⟨i1, i2, i3, ha, Int.le_refl _, rfl, s, rfl, g, k9⟩ ?_
  rintro x y h' ⟨j1, j2, j3, j4, j5, j6, s', hs', g', q9⟩ N1 hN
  have hcl := cntF_le (bitsF l fr) n.toNat
  have hcl2 := cntF_le (bitsF l x) y.toNat
  unfold T19_4
  refine If_i (fun h1 => ?_) fun h1 => ?_
  · simp only [ge_iff_le, decide_eq_true_eq] at h1
    obtain ⟨X, rfl⟩ := Int.eq_ofNat_of_zero_le j1
    have e1 : Int.tdiv (X : Int) 8 = ((X / 8 : Nat) : Int) := rfl
    have hx8 := j4 h1
    rw [Int.toNat_natCast] at hx8
    have hi : X / 8 < l.length := by omega
    have hby : l[X / 8] < 256 := hb.2.1 _ (List.getElem_mem hi)
    refine Dv_i (by decide) (Wr_i64 (by rw [e1]; omega) (by rw [e1]; omega) ?_)
    rw [e1]
    refine (hb.grw g').1.ix (by omega) (by omega) (by rw [Int.toNat_natCast]; exact by8_get (List.getElem?_eq_getElem hi)) fun a ha => Ld_i ha ?_
    refine Ld_blk (x := (s' : Int)) q9 rfl (Nn_i (by decide) ?_)
    unfold Lt
    have e2 : Int.fdiv ((l[X / 8] : Nat) : Int) (2 ^ (min (Int.toNat (4 : Int)) (IntKind.bits .u8))) = ((l[X / 8] / 16 : Nat) : Int) := by
      have : (2 : Int) ^ (min (Int.toNat (4 : Int)) (IntKind.bits .u8)) = 16 := by decide
      rw [this, Int.fdiv_eq_ediv_of_nonneg _ (by decide)]; rfl
    rw [e2, and15]
    have ix : ∀ (k : Nat) (X : Addr → Prop), k < 16 → X ⟨0, k, none⟩ → Ix (some (⟨0, 0, none⟩)) 16 1 (k : Int) X := by
      intro k X hk hX
      refine ⟨by omega, by omega, ?_⟩
      rw [add_blk]; simpa using hX
    have t' := tb.grw g'
    have c8 := cnt8 hby
    have o1 := onesN_le (l[X / 8] / 16)
    have o2 := onesN_le (l[X / 8] % 16)
    refine ix _ _ (by omega) (Ld_i (t' _ (by omega)) ?_)
    refine ix _ _ (by omega) (Ld_i (t' _ (by omega)) ?_)
    refine Wr_i64 (by omega) (by omega) (Wr_i64 (by omega) (by omega) ?_)
    refine St_i q9 (by simp) rfl fun h5 o5 k5 => ?_
    refine Wr_i64 (by omega) (by omega) (Wr_i64 (by omega) (by omega) ?_)
    have hby2 : cntF (bitsF l (X : Int)) 8 = onesN (l[X / 8] / 16) + onesN (l[X / 8] % 16) := by
      rw [c8]; exact bitsF_byte (by rw [Int.toNat_natCast]; exact hx8) (by rw [Int.toNat_natCast]; exact List.getElem?_eq_getElem hi)
    have hsplit : cntF (bitsF l (X : Int)) y.toNat = cntF (bitsF l (X : Int)) 8 + cntF (bitsF l ((X : Int) + 8)) (y - 8).toNat := by
      have e : y.toNat = 8 + (y - 8).toNat := by omega
      rw [e, cnt_add l _ (by omega) 8]; rfl
    refine hN _ _ _ ⟨by omega, by omega, by omega, fun _ => by omega, by omega, by omega, s' + (onesN (l[X / 8] / 16) + onesN (l[X / 8] % 16)), by omega, o5.grw g' h9, ?_⟩ (by omega)
    have e9 : Value.int .i64 (((s' + (onesN (l[X / 8] / 16) + onesN (l[X / 8] % 16)) : Nat)) : Int) = .int .i64 ((s' : Int) + (((onesN (l[X / 8] / 16) : Nat) : Int) + ((onesN (l[X / 8] % 16) : Nat) : Int))) := by congr 1
    rw [e9]; exact k5
  · refine count2 hb g' h9 j1 j2 j3 (s := s') (by omega) q9 fun h'' g'' => ?_
    rw [hs']; exact hk h'' g''
theorem count_c {b : Sl} {fr n : Int} {l : List Nat} {h : Hp} {K : Int → Int → Hp → Prop} {Kp : List PanicEntry → Hp → Prop} (hb : Bs h b l) (tb : Tab h) (hn : I64 n)
    (hbad : askB l.length fr n ≠ 0 → K 0 (askB l.length fr n) h)
    (hk : 0 ≤ fr → 0 ≤ n → n ≤ 8 * (l.length : Int) - fr → ∀ h', Grw h h' → K ((cntF (bitsF l fr) n.toNat : Nat) : Int) 0 h') : Fn19 b fr n h K Kp := by
  refine Fn19.of ?_
  unfold S19
  have hbn := hb.n
  have hlen := hb.2.2
  refine asked_c (by omega) hn ?_
  rw [hbn]
  refine If_i (fun h1 => ?_) fun h1 => ?_
  · simp only [bne_iff_ne, ne_eq] at h1
    exact hbad h1
  · simp only [bne_eq_false_iff_eq] at h1
    obtain ⟨i1, i2, i3⟩ := askB_ok h1
    refine New_i fun b9 h2 e9 g2 k9 z2 => ?_
    refine St_i k9 (by simp) rfl fun h3 o3 k3 => ?_
    have g3 : Grw h h3 := o3.grw g2 (by omega)
    obtain ⟨F, rfl⟩ := Int.eq_ofNat_of_zero_le i1
    have e1 : Int.tmod (F : Int) 8 = ((F % 8 : Nat) : Int) := rfl
    refine Dv_i (by decide) ?_
    unfold Lt
    rw [e1]
    refine Wr_i64 (by omega) (by omega) (Dv_i (by decide) ?_)
    have e2 : Int.tmod (8 - ((F % 8 : Nat) : Int)) 8 = (((8 - F % 8) % 8 : Nat) : Int) := by
      have : (8 - ((F % 8 : Nat) : Int)) = ((8 - F % 8 : Nat) : Int) := by omega
      rw [this]; rfl
    rw [e2]
    obtain ⟨E, hE, hE2, hE3, hE4⟩ : ∃ E : Nat, (if (((8 - F % 8) % 8 : Nat) : Int) < n then (((8 - F % 8) % 8 : Nat) : Int) else n) = (E : Int) ∧ (E : Int) ≤ n ∧ (8 ≤ n - E → (F + E) % 8 = 0) ∧ E ≤ 8 := by
      split
      · exact ⟨(8 - F % 8) % 8, rfl, by omega, by omega, by omega⟩
      · exact ⟨n.toNat, by omega, by omega, by omega, by omega⟩
    show Fn28 b (F : Int) (if (((8 - F % 8) % 8 : Nat) : Int) < n then (((8 - F % 8) % 8 : Nat) : Int) else n) h3 (fun t32 h4 => R19_5 b (F : Int) n 0 0 ⟨b9, 0, none⟩ (if (((8 - F % 8) % 8 : Nat) : Int) < n then (((8 - F % 8) % 8 : Nat) : Int) else n) t32 K Kp h4) Kp
    rw [hE]
    refine runs_c fun b5 b3 b4 hR gR q5 q3 q4 rb => ?_
    have lt9 := k3.lt
    have zg := g3.1
    have zR := gR.1
    have l5 := rb.1.lt
    have l3 := rb.2.1.lt
    have l4 := rb.2.2.lt
    have hc := cntF_le (bitsF l (F : Int)) ((E : Int)).toNat
    refine R19_5.rule (α := Nat × Nat) (fun y => (y.1 : Int)) (fun y => (y.2 : Int)) (runs_iter (b := b) (l := l) i1 (n := (E : Int)) (by omega) (by omega))
      (fun pre h' => Grw h h' ∧ Blk h' b9 #[.int .i64 ((sumR pre : Nat) : Int)] 3 ∧ RunBlk b5 b3 b4 b (F : Int) (E : Int) h') ⟨g3.trans gR, k3.grw gR, rb⟩ ?_ ?_ (fun pre h1 i => i.2.2.pre (hb.grw i.1)) ?_ ?_
    · rintro pre h1 h2 gg ⟨j1, j3, j4⟩
      exact ⟨j1.trans gg, j3.grw gg, j4.grw gg⟩
    · rintro lb pre h1 h2 hl t ⟨j1, j3, j4⟩
      exact ⟨t.only.grw j1 (by omega), t.only.blk j3 (by omega), j4.only t.only (by omega) (by omega) (by omega)⟩
    · rintro lb pre y suf h1 hxs hl _ ⟨j1, j3, j4⟩ N X hN
      unfold RT19_5
      refine ⟨rfl, fun hB tB => ?_⟩
      have o := tB.only
      have q9 := o.blk j3 (by omega)
      have hsum : sumR pre + y.2 ≤ E := by
        have e : sumR (runsAt (bitsF l (F : Int)) ((E : Int)).toNat 0) = sumR pre + (y.2 + sumR suf) := by rw [hxs]; simp [sumR]
        rw [sumR_runs] at e; omega
      refine Ld_blk (x := ((sumR pre : Nat) : Int)) q9 rfl (Wr_i64 (by omega) (by omega) ?_)
      refine St_i q9 (by simp) rfl fun h5 o5 k5 => ?_
      refine hN hB h5 tB (o5.2 lb (by omega)) ⟨o5.grw (o.grw j1 (by omega)) (by omega), ?_, (j4.only o (by omega) (by omega) (by omega)).only o5 (by omega) (by omega) (by omega)⟩
      have e : Value.int .i64 ((sumR (pre ++ [y]) : Nat) : Int) = .int .i64 (((sumR pre : Nat) : Int) + (y.2 : Int)) := by rw [sumR_snoc]; congr 1
      rw [e]; exact k5
    · rintro h1 ⟨j1, j3, j4⟩
      unfold RD19_5
      refine J19_1.of ?_
      unfold JT19_1
      rw [sumR_runs, Int.toNat_natCast] at j3
      rw [Int.toNat_natCast] at hc
      refine Wr_i64 (by omega) (by omega) (Wr_i64 (by omega) (by omega) ?_)
      refine count4 hb tb j1 (b9 := b9) (s := cntF (bitsF l (F : Int)) E) (by omega) (by omega) (by omega) (by omega) (fun h8 => by have := hE3 h8; omega) (by omega) j3 fun h' g' => ?_
      have e : n.toNat = E + (n - (E : Int)).toNat := by omega
      rw [← cnt_add l _ i1, ← e]
      exact hk i1 i2 i3 h' g'
end Go.Proofs.YtajgmklgfdgnlaaDoor
