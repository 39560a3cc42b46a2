/- Contract: Count. -/
import Derived.Test.YtajgmklgfdgnlaaDoorM
import Derived.Test.YtajgmklgfdgnlaaDoorS6
namespace Go.Proofs.YtajgmklgfdgnlaaDoor
open Go Go.Sh
/-- the table of sixteen stands in its variable -/
def Tab (h : Hp) : Prop := ∀ i, i < 16 → cell h ⟨0, i, none⟩ = some (.int .i64 (onesN i : Int))
theorem Tab.grw {h h' : Hp} (t : Tab h) (g : Grw h h') : Tab h' := fun i hi => g.cell (t i hi)
/-- the last stretch, and the answer -/
theorem count2 {b : Sl} {fr n : Int} {l : List Nat} {h0 h : Hp} {b9 s : Nat} {K : Int → Int → Hp → Prop} {Kp : List PanicEntry → Hp → Prop} (hb : Bs h0 b l) (g : Grw h0 h) (h9 : h0.size ≤ b9) (i1 : 0 ≤ fr) (i2 : 0 ≤ n) (i3 : n ≤ 8 * (l.length : Int) - fr) (hs : s < 2 ^ 50)
    (k9 : Blk h b9 #[.int .i64 (s : Int)] 3) (hk : ∀ h', Grw h0 h' → K ((s + cntF (bitsF l fr) n.toNat : Nat) : Int) 0 h') : J19_2 b fr n 0 0 ⟨b9, 0, none⟩ K Kp h := by
  have hlen := hb.2.2
  refine J19_2.of ?_
  unfold JT19_2
  refine runs_c fun b5 b3 b4 hR gR q5 q3 q4 rb => ?_
  have lt9 := k9.lt
  have zg := g.1
  have zR := gR.1
  have hc := cntF_le (bitsF l fr) n.toNat
  refine R19_3.rule (α := Nat × Nat) (fun y => (y.1 : Int)) (fun y => (y.2 : Int)) (runs_iter (b := b) (l := l) i1 i3 i2)
    (fun pre h' => Grw h0 h' ∧ Blk h' b9 #[.int .i64 ((s + sumR pre : Nat) : Int)] 3 ∧ RunBlk b5 b3 b4 b fr n h') ⟨g.trans gR, k9.grw gR, rb⟩ ?_ ?_ (fun pre h1 i => i.2.2.pre (hb.grw i.1)) ?_ ?_
  · rintro pre h1 h2 gg ⟨j1, j3, j4⟩
    exact ⟨j1.trans gg, j3.grw gg, j4.grw gg⟩
  · rintro lb pre h1 h2 hl t ⟨j1, j3, j4⟩
    have l5 := rb.1.lt
    have l3 := rb.2.1.lt
    have l4 := rb.2.2.lt
    exact ⟨t.only.grw j1 (by omega), t.only.blk j3 (by omega), j4.only t.only (by omega) (by omega) (by omega)⟩
  · rintro lb pre y suf h1 hxs hl _ ⟨j1, j3, j4⟩ N X hN
    unfold RT19_3
    refine ⟨rfl, fun hB tB => ?_⟩
    have l5 := rb.1.lt
    have l3 := rb.2.1.lt
    have l4 := rb.2.2.lt
    have o := tB.only
    have q9 := o.blk j3 (by omega)
    have hsum : sumR pre + y.2 ≤ n.toNat := by
      have e : sumR (runsAt (bitsF l fr) n.toNat 0) = sumR pre + (y.2 + sumR suf) := by rw [hxs]; simp [sumR]
      rw [sumR_runs] at e; omega
    refine Ld_blk (x := ((s + sumR pre : Nat) : Int)) q9 rfl (Wr_i64 (by omega) (by omega) ?_)
    refine St_i q9 (by simp) rfl fun h5 o5 k5 => ?_
    refine hN hB h5 tB (o5.2 lb (by omega)) ⟨o5.grw (o.grw j1 (by omega)) h9, ?_, (j4.only o (by omega) (by omega) (by omega)).only o5 (by omega) (by omega) (by omega)⟩
    have e : Value.int .i64 ((s + sumR (pre ++ [y]) : Nat) : Int) = .int .i64 (((s + sumR pre : Nat) : Int) + (y.2 : Int)) := by rw [sumR_snoc]; congr 1; omega
    rw [e]; exact k5
  · rintro h1 ⟨j1, j3, j4⟩
    unfold RD19_3
    rw [sumR_runs] at j3
    refine Ld_blk (x := ((s + cntF (bitsF l fr) n.toNat : Nat) : Int)) j3 rfl ?_
    exact hk h1 j1
end Go.Proofs.YtajgmklgfdgnlaaDoor
