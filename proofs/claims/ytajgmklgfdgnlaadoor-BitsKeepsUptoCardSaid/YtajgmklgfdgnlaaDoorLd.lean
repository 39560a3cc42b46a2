/- The law BitsRuns: whole. -/
import Derived.Test.YtajgmklgfdgnlaaDoorLc
namespace Go.Proofs.YtajgmklgfdgnlaaDoor
open Go Go.Sh
theorem keep_blk {h h' : Hp} {b o n : Nat} {cs : Array Value} {el : TypeId} (k : Blk h b cs el) (g : Grw h h') : KeepAt h h' ⟨b, o, none⟩ n := by
  intro i _
  rw [add_blk, cell_blk (k.grw g), cell_blk k]
/-- the runs that are asked for: none, if they may not be -/
def asksR (la : List Nat) (fr n : Int) : List (Nat × Nat) := if askB la.length fr n = 0 then runsAt (bitsF la fr) n.toNat 0 else []
theorem go9 {h0 h : Hp} {b2 b6 b7 bw bO : Nat} {want own : Sl} {early fr n : Int} {la : List Nat} {K : Bool → Hp → Prop} {Kp : List PanicEntry → Hp → Prop} (tb : Tab h0) (g : Grw h0 h) (q2 : h0.size ≤ b2) (qO : h0.size ≤ bO)
    (k2 : Blk h b2 #[.bool false] 4) (k6 : Blk h b6 #[.int .i64 early] 3) (k7 : Blk h b7 #[want.v] 25) (hw : want.n = (asksR la fr n).length) (ww : asksR la fr n = [] ∨ (OwnS 2 h want bw (flat (asksR la fr n)) 31 ∧ bw ≠ bO)) (hlen : (asksR la fr n).length < 2 ^ 40)
    (ob : Bs h own la) (oo : own.n = 0 ∧ bO = h.size ∨ Own h own bO (by8 la) 5 ∧ bO < h.size) (n2 : b2 ≠ bO) (n6 : b6 ≠ bO) (n7 : b7 ≠ bO) (hn : I64 n)
    (hfix : ∀ h' (K' : Bool → Hp → Prop), Tab h' → (∀ h'', Grw h' h'' → K' true h'') → Fn9 h' K' Kp) (hk : ∀ h', Grw h0 h' → K true h') :
    Fn8 own fr n h (fun t36 h5 => New h5 #[(.nilFunc)] 28 fun a9 h6 => NA t36 <| St h6 a9 t36 fun h7 => L3_12 (at0 b2) (at0 b6) (at0 b7) own a9 K Kp (0 : Int) h7) Kp := by
  have rest : ∀ (fv : Value) (Pre : Hp → Prop) (h5 : Hp), Grw h h5 → fv.cells = #[fv] → one fv = true → (∀ X : Bool → Prop, X false → FnNil fv X) → Iter Tryd.prog fv (asksR la fr n) encR Pre →
      (∀ h7, (∀ c, c < h5.size → (c < h.size → c ≠ bO) → h7[c]? = h5[c]?) → Pre h7) →
      New h5 #[(.nilFunc)] 28 fun a9 h6 => NA fv <| St h6 a9 fv fun h7 => L3_12 (at0 b2) (at0 b6) (at0 b7) own a9 K Kp (0 : Int) h7 := by
    intro fv Pre h5 g5 hc ho hfn hit hpre
    refine New_i fun b9 h6 e9 g6 k9 _ => ⟨hc, ?_⟩
    refine St_i k9 (by simp) ho fun h7 o7 k9' => ?_
    have g7 : Grw h5 h7 := o7.grw g6 (by omega)
    have gh : Grw h h7 := g5.trans g7
    have s5 := g5.1
    obtain ⟨bF, f1, f2, f3, f4⟩ : ∃ bF, h0.size ≤ bF ∧ (bF = bO ∧ bO < h.size ∨ bF = h7.size) ∧ (own.n = 0 ∨ ∃ l : List Nat, by8 la = by8 l ∧ (∀ x ∈ l, x < 256) ∧ l.length < 2 ^ 36 ∧ Own h7 own bF (by8 la) 5) ∧ bF ≠ b9 := by
      rcases oo with ⟨h1, h2⟩ | ⟨h1, h2⟩
      · exact ⟨h7.size, Nat.le_trans g.1 gh.1, .inr rfl, .inl h1, by have := k9'.lt; omega⟩
      · exact ⟨bO, qO, .inl ⟨rfl, h2⟩, .inr ⟨la, rfl, ob.2.1, ob.2.2, h1.grw gh⟩, by omega⟩
    have ne : ∀ c, c < h7.size → (c < h.size → c ≠ bO) → c ≠ bF := by intro c hc1 hc2; rcases f2 with e | e <;> omega
    refine flip f3 fun hF oF => ?_
    have j2 := oF.blk (k2.grw gh) (ne _ (k2.grw gh).lt fun _ => n2)
    have j6 := oF.blk (k6.grw gh) (ne _ (k6.grw gh).lt fun _ => n6)
    have j7 := oF.blk (k7.grw gh) (ne _ (k7.grw gh).lt fun _ => n7)
    have j9 : Blk hF b9 #[fv] 28 := oF.blk k9' (fun e => f4 e.symm)
    have gF : Grw h0 hF := oF.grw (g.trans gh) f1
    refine in2 (bw := bw) (early := early) (fv := fv) (rs := asksR la fr n) (Pre := Pre) ⟨hlen, hit, fun h' g' => hpre h' fun c hc1 hc2 => ?_, j2, j6, j7, j9, hw, ?_, hfn, tb.grw gF⟩ hfix fun h' h'' gg oo2 => hk h'' (oo2.grw (gF.trans gg) q2)
    · have z7 := g7.1
      have zF := oF.1
      rw [g'.2 c (by omega), oF.2 c (ne c (by omega) hc2), g7.2 c hc1]
    · rcases ww with e | ⟨o, hb⟩
      · exact .inl e
      · refine .inr ((o.grw gh).only oF (ne bw ?_ fun _ => hb))
        obtain ⟨_, _, cs, hcs, _⟩ := o.grw gh
        exact hcs.lt
  refine bruns_c ob hn (fun hz => ?_) fun h1 h2 h3 s bl b5 b3 b4 h' g' hbl o p5 p3 p4 rb => ?_
  · refine rest _ (fun _ => True) h (Grw.refl h) rfl rfl (fun X hX => hX) ?_ (fun _ _ => trivial)
    unfold asksR; rw [if_neg hz]; exact none_iter
  · have hz := askB_zero h1 h2 h3
    refine rest (runG b5 b3 b4) (RunPre ⟨b5, 0, none⟩ ⟨b3, 0, none⟩ ⟨b4, 0, none⟩ s 0 n (packN (listF (bitsF la fr) n.toNat))) h' g' rfl rfl (fun X hX => hX) ?_ ?_
    · unfold asksR; rw [if_pos hz]; exact bruns_iter h2
    · intro h7 hold
      have hg : ∀ c, h.size ≤ c → c < h'.size → h7[c]? = h'[c]? := fun c c1 c2 => hold c c2 fun c3 => by omega
      have hkeep : ∀ {b : Nat} {cs : Array Value} {el : TypeId}, Blk h' b cs el → h.size ≤ b → Blk h7 b cs el := fun hb h1 => (hg _ h1 hb.lt).trans hb
      have ho7 : Own h7 s bl (by8 (packN (listF (bitsF la fr) n.toNat))) 5 := by
        obtain ⟨o1, o2, cs, o3, o4⟩ := o
        exact ⟨o1, o2, cs, hkeep o3 hbl, o4⟩
      have hl := ob.2.2
      refine RunBlk.pre ⟨hkeep rb.1 p5, hkeep rb.2.1 p3, hkeep rb.2.2 p4⟩ (Bs.of_own ho7 (packN_lt _) ?_)
      rw [packN_len, bo_len]; unfold needN; omega
theorem law3 {a b : Sl} {fr n early : Int} {la : List Nat} {h : Hp} {K : Bool → Hp → Prop} {Kp : List PanicEntry → Hp → Prop} (tb : Tab h) (hb : Bs h a la) (hf : I64 fr) (hn : I64 n)
    (hfix : ∀ h' (K' : Bool → Hp → Prop), Tab h' → (∀ h'', Grw h' h'' → K' true h'') → Fn9 h' K' Kp) (hk : ∀ h', Grw h h' → K true h') : Fn3 a b fr n early h K Kp := by
  refine Fn3.of ?_
  unfold S3
  refine New_i fun b1 h1 e1 g1 k1 z1 => New_i fun b2 h2 e2 g2 k2 z2 => ?_
  simp only [add_blk]
  have k1' := k1.grw g2
  refine Ld_blk (x := a) k1' rfl (Ld_blk (x := fr) k1' rfl (Ld_blk (x := n) k1' rfl (Ld_blk (x := early) k1' rfl ?_)))
  refine New_i fun b6 h3 e6 g3 k6 z3 => ?_
  refine ⟨keep_blk k1' g3, keep_blk k1' g3, keep_blk k1' g3, keep_blk k1' g3, ?_⟩
  refine St_i k6 (by simp) rfl fun h4 o4 k6' => ?_
  have g04 : Grw h h4 := o4.grw ((g1.trans g2).trans g3) (by omega)
  have k2' : Blk h4 b2 #[.bool false] 4 := o4.blk (k2.grw g3) (by omega)
  have z4 := o4.1
  refine J3_1.of ?_
  unfold JT3_1
  have hlen := hb.2.2
  have rest : ∀ (want : Sl) (bw : Nat) (hW : Hp), Grw h4 hW → want.n = (asksR la fr n).length → (asksR la fr n = [] ∨ OwnS 2 hW want bw (flat (asksR la fr n)) 31) → (asksR la fr n).length < 2 ^ 40 →
      New hW #[(.slice none 0 0)] 25 fun a7 h2 => St h2 a7 (Sl.v want) fun h3 => Ap h3 5 #[(.int .u8 (0 : Int))] 1 1 (⟨none, 0, 0⟩ : Sl) a.n (rd h3 a.a (a.n * 1)) fun t32 h4 =>
        Fn8 t32 fr n h4 (fun t36 h5 => New h5 #[(.nilFunc)] 28 fun a9 h6 => NA t36 <| St h6 a9 t36 fun h7 => L3_12 (at0 b2) (at0 b6) a7 t32 a9 K Kp (0 : Int) h7) Kp := by
    intro want bw hW gW hw ww hl
    refine New_i fun b7 h5 e7 g7 k7 z7 => ?_
    refine St_i k7 (by simp) rfl fun h6 o6 k7' => ?_
    have gW6 : Grw hW h6 := o6.grw g7 (by omega)
    have g6 : Grw h h6 := (g04.trans gW).trans gW6
    have zW := gW.1
    have z6 := o6.1
    have zh := g04.1
    have hb6 := hb.grw g6
    have hwl : asksR la fr n = [] ∨ (OwnS 2 h6 want bw (flat (asksR la fr n)) 31 ∧ bw < h6.size) := by
      refine ww.imp id fun o => ⟨o.grw gW6, ?_⟩
      obtain ⟨_, _, cs, hcs, _⟩ := o.grw gW6
      exact hcs.lt
    have q2 := (k2'.grw gW).grw gW6
    have q6 := (k6'.grw gW).grw gW6
    refine Ap_nil (vs := by8 la) (rd_sv hb6.1) (by rw [hb.n]; simp [by8]) (by rw [hb.n]; omega) (fun h0 => ?_) fun hpos own h8 g8 o8 => ?_
    · have hla : la = [] := List.eq_nil_of_length_eq_zero (by have := hb.n; omega)
      subst hla
      refine go9 (bO := h6.size) (bw := bw) (early := early) tb g6 (by omega) (by omega) q2 q6 k7' hw ?_ hl ⟨⟨rfl, Nat.le_refl _, fun x hx => by simp at hx⟩, by simp, by simp⟩ (.inl ⟨rfl, rfl⟩) (by have := q2.lt; omega) (by have := q6.lt; omega) (by have := k7'.lt; omega) hn hfix hk
      exact hwl.imp id fun o => ⟨o.1, by omega⟩
    · refine go9 (bO := h6.size) (bw := bw) (early := early) tb (g6.trans g8) (by omega) (by omega) (q2.grw g8) (q6.grw g8) (k7'.grw g8) hw ?_ hl ⟨o8.sv, hb.2⟩ (.inr ⟨o8, ?_⟩) (by have := q2.lt; omega) (by have := q6.lt; omega) (by have := k7'.lt; omega) hn hfix hk
      · exact hwl.imp id fun o => ⟨o.1.grw g8, by omega⟩
      · obtain ⟨_, _, cs, hcs, _⟩ := o8; exact hcs.lt
  refine rruns_c (hb.grw g04) hf hn (fun hz => ?_) fun i1 i2 i3 s bl h' g' hbl o => ?_
  · have e : asksR la fr n = [] := by unfold asksR; rw [if_neg hz]
    exact rest _ 0 h4 (Grw.refl _) (by rw [e]; rfl) (.inl e) (by rw [e]; simp)
  · have e : asksR la fr n = runsAt (bitsF la fr) n.toNat 0 := by unfold asksR; rw [if_pos (askB_zero i1 i2 i3)]
    have hl : (asksR la fr n).length ≤ n.toNat := by rw [e, ← runsUp_eq]; exact runsUp_len _ _
    rw [← e] at o
    refine rest s bl h' g' ?_ (.inr o) (by omega)
    have := o.2.1
    rw [flat_len] at this; omega
end Go.Proofs.YtajgmklgfdgnlaaDoor
