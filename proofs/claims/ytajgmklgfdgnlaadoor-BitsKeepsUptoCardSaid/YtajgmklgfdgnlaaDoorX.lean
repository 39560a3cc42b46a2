/- fixed; the laws BitsRuns and BitsAnswers. -/
import Derived.Test.YtajgmklgfdgnlaaDoorU
import Derived.Test.YtajgmklgfdgnlaaDoorV
import Derived.Test.YtajgmklgfdgnlaaDoorLd
set_option maxHeartbeats 1000000
namespace Go.Proofs.YtajgmklgfdgnlaaDoor
open Go Go.Sh
theorem fixed_c {h : Hp} {K : Bool → Hp → Prop} {Kp : List PanicEntry → Hp → Prop} (tb : Tab h) (hk : ∀ h', Grw h h' → K true h') : Fn9 h K Kp := by
  refine Fn9.of ?_
  unfold S9
  refine New_i fun b4 h1 e1 g1 k1 _ => ?_
  have hb : Bs h1 (⟨some ⟨b4, 0, none⟩, 2, 2⟩ : Sl) [246, 1] := by
    refine ⟨⟨rfl, Nat.le_refl _, fun x _ => ⟨_, rfl, fun i v hv => ?_⟩⟩, by decide, by decide⟩
    rw [add_blk, cell_blk k1, Nat.zero_add]
    simp only [by8, List.map_cons, List.map_nil] at hv
    simpa using hv
  refine count_c hb (tb.grw g1) (by unfold I64; omega) (fun hz => absurd hz (by decide)) fun i1 i2 i3 h2 g2 => ?_
  have e : cntF (bitsF [246, 1] 4) (5 : Int).toNat = 5 := by decide
  rw [e]
  exact If_t rfl (hk h2 (g1.trans g2))
theorem bitsRuns_c {a b : Sl} {fr n early : Int} {la : List Nat} {h : Hp} {K : Bool → Hp → Prop} {Kp : List PanicEntry → Hp → Prop} (tb : Tab h) (hb : Bs h a la) (hf : I64 fr) (hn : I64 n) (hk : ∀ h', Grw h h' → K true h') : Fn3 a b fr n early h K Kp :=
  law3 tb hb hf hn (fun _ _ t hh => fixed_c t hh) hk
/-- the cells of a call, as they stand -/
def opCells (o : OpD) (s1 s2 s3 : Sl) : List Value := [.int .i64 o.kind, s1.v, s2.v, s3.v, .int .i64 o.fr, .int .i64 o.n, .int .i64 o.k, .bool o.on]
/-- a script of calls -/
def Script (h : Hp) (s : Sl) (ops : List OpD) : Prop :=
  s.n = ops.length ∧ ∀ i o, ops[i]? = some o → ∃ a s1 s2 s3, s.a = some a ∧ Cs h (a.add (i * 8)) (opCells o s1 s2 s3) ∧ OpIn h o s1 s2 s3
theorem bitsAnswers_c {s : Sl} {ops : List OpD} {h : Hp} {K : Bool → Hp → Prop} {Kp : List PanicEntry → Hp → Prop} (tb : Tab h) (hs : Script h s ops) (hl : ops.length < 2 ^ 40) (hk : ∀ h', Grw h h' → K true h') : Fn4 s h K Kp := by
  refine Fn4.of ?_
  unfold S4
  obtain ⟨hn, hops⟩ := hs
  refine L4_1.rule (fun x h' => ∃ i : Nat, x = (i : Int) ∧ i ≤ ops.length ∧ Grw h h') (fun x _ => ops.length - x.toNat) ⟨0, rfl, Nat.zero_le _, Grw.refl h⟩ ?_
  rintro x h' ⟨i, rfl, hi, g⟩ N1 hN
  unfold T4_1
  refine If_i (fun h1 => ?_) fun h1 => ?_
  · simp only [decide_eq_true_eq] at h1
    have hi' : i < ops.length := by omega
    obtain ⟨a, s1, s2, s3, ha, hc, ho⟩ := hops i ops[i] (List.getElem?_eq_getElem hi')
    generalize ops[i] = o at hc ho
    have lds : ∀ (h1 : Hp) (X : Int → Sl → Sl → Sl → Int → Int → Int → Bool → Prop), Grw h h1 → X o.kind s1 s2 s3 o.fr o.n o.k o.on → Ix s.a s.n 8 (i : Int) fun a14 =>
        Ld h1 a14 (Value.int .i64) fun x0 => Ld h1 (a14.add 1) (Sl.v) fun x1 => Ld h1 (a14.add 2) (Sl.v) fun x2 => Ld h1 (a14.add 3) (Sl.v) fun x3 => Ld h1 (a14.add 4) (Value.int .i64) fun x4 =>
        Ld h1 (a14.add 5) (Value.int .i64) fun x5 => Ld h1 (a14.add 6) (Value.int .i64) fun x6 => Ld h1 (a14.add 7) (Value.bool) fun x7 => X x0 x1 x2 x3 x4 x5 x6 x7 := by
      intro h1 X g1 hX
      unfold Ix; rw [ha]
      refine ⟨by omega, by omega, ?_⟩
      rw [Int.toNat_natCast]
      have hc := hc.grw g1
      have c0 := hc 0 _ rfl
      have e0 : (a.add (i * 8)).add 0 = a.add (i * 8) := by unfold Addr.add; simp
      rw [e0] at c0
      exact Ld_i c0 (Ld_i (hc 1 _ rfl) (Ld_i (hc 2 _ rfl) (Ld_i (hc 3 _ rfl) (Ld_i (hc 4 _ rfl) (Ld_i (hc 5 _ rfl) (Ld_i (hc 6 _ rfl) (Ld_i (hc 7 _ rfl) hX)))))))
    refine lds h' _ g ?_
    refine ask_c (ho.grw g) (tb.grw g) fun e n y t3 t4 t5 h2 g2 r2 he2 => ?_
    have lc := SyH.start No h2
    refine lc.new fun b4 h3 p4 f4 lc => ?_
    simp only [List.nil_append] at lc
    have r3 := r2.s.grw lc.grw
    repeat (first | refine lc.ldo 0 rfl rfl ?_ | refine lc.ld 0 rfl rfl ?_ | refine lc.ldo 1 rfl rfl ?_ | refine lc.ld 1 rfl rfl ?_ | refine lc.ldo 2 rfl rfl ?_ | refine lc.ld 2 rfl rfl ?_ | refine lc.ldo 3 rfl rfl ?_ | refine lc.ld 3 rfl rfl ?_ | refine lc.ldo 4 rfl rfl ?_ | refine lc.ld 4 rfl rfl ?_ | refine lc.ldo 5 rfl rfl ?_ | refine lc.ld 5 rfl rfl ?_ | refine lc.ldo 6 rfl rfl ?_ | refine lc.ld 6 rfl rfl ?_ | (refine lc.sto 0 rfl rfl rfl fun _ _ lc => ?_; simp only [Nat.zero_add, List.set_cons_zero, List.set_cons_succ, List.setIfInBounds_toArray] at lc) | (refine lc.st 0 rfl rfl rfl fun _ _ lc => ?_; simp only [Nat.zero_add, List.set_cons_zero, List.set_cons_succ, List.setIfInBounds_toArray] at lc) | (refine lc.sto 1 rfl rfl rfl fun _ _ lc => ?_; simp only [Nat.zero_add, List.set_cons_zero, List.set_cons_succ, List.setIfInBounds_toArray] at lc) | (refine lc.st 1 rfl rfl rfl fun _ _ lc => ?_; simp only [Nat.zero_add, List.set_cons_zero, List.set_cons_succ, List.setIfInBounds_toArray] at lc) | (refine lc.sto 2 rfl rfl rfl fun _ _ lc => ?_; simp only [Nat.zero_add, List.set_cons_zero, List.set_cons_succ, List.setIfInBounds_toArray] at lc) | (refine lc.st 2 rfl rfl rfl fun _ _ lc => ?_; simp only [Nat.zero_add, List.set_cons_zero, List.set_cons_succ, List.setIfInBounds_toArray] at lc) | (refine lc.sto 3 rfl rfl rfl fun _ _ lc => ?_; simp only [Nat.zero_add, List.set_cons_zero, List.set_cons_succ, List.setIfInBounds_toArray] at lc) | (refine lc.st 3 rfl rfl rfl fun _ _ lc => ?_; simp only [Nat.zero_add, List.set_cons_zero, List.set_cons_succ, List.setIfInBounds_toArray] at lc) | (refine lc.sto 4 rfl rfl rfl fun _ _ lc => ?_; simp only [Nat.zero_add, List.set_cons_zero, List.set_cons_succ, List.setIfInBounds_toArray] at lc) | (refine lc.st 4 rfl rfl rfl fun _ _ lc => ?_; simp only [Nat.zero_add, List.set_cons_zero, List.set_cons_succ, List.setIfInBounds_toArray] at lc) | (refine lc.sto 5 rfl rfl rfl fun _ _ lc => ?_; simp only [Nat.zero_add, List.set_cons_zero, List.set_cons_succ, List.setIfInBounds_toArray] at lc) | (refine lc.st 5 rfl rfl rfl fun _ _ lc => ?_; simp only [Nat.zero_add, List.set_cons_zero, List.set_cons_succ, List.setIfInBounds_toArray] at lc) | (refine lc.sto 6 rfl rfl rfl fun _ _ lc => ?_; simp only [Nat.zero_add, List.set_cons_zero, List.set_cons_succ, List.setIfInBounds_toArray] at lc) | (refine lc.st 6 rfl rfl rfl fun _ _ lc => ?_; simp only [Nat.zero_add, List.set_cons_zero, List.set_cons_succ, List.setIfInBounds_toArray] at lc) | refine lc.ldo 0 (x := Sl.nil) rfl rfl ?_ | refine lc.ld 0 (x := Sl.nil) rfl rfl ?_ | refine lc.ldo 1 (x := Sl.nil) rfl rfl ?_ | refine lc.ld 1 (x := Sl.nil) rfl rfl ?_ | refine lc.ldo 2 (x := Sl.nil) rfl rfl ?_ | refine lc.ld 2 (x := Sl.nil) rfl rfl ?_ | refine lc.ldo 3 (x := Sl.nil) rfl rfl ?_ | refine lc.ld 3 (x := Sl.nil) rfl rfl ?_ | refine lc.ldo 4 (x := Sl.nil) rfl rfl ?_ | refine lc.ld 4 (x := Sl.nil) rfl rfl ?_ | refine lc.ldo 5 (x := Sl.nil) rfl rfl ?_ | refine lc.ld 5 (x := Sl.nil) rfl rfl ?_ | refine lc.ldo 6 (x := Sl.nil) rfl rfl ?_ | refine lc.ld 6 (x := Sl.nil) rfl rfl ?_ | refine Wr_i64 (by omega) (by omega) ?_ | refine If_t rfl ?_ | refine If_f rfl ?_)
    refine lds _ _ ((g.trans g2).trans lc.grw) ?_
    have hlt := (lc.blk (i := 0) rfl).lt
    refine says_c (ho.grw ((g.trans g2).trans lc.grw)) fun e' n' y' u3 u4 u5 h5 g5 r5 he5 => ?_
    have lc := lc.keep (Tn.of_grw g5)
    have lcA := lc
    have hb4 := (lcA.ok _ (List.mem_of_getElem? (i := 0) rfl)).1.resolve_right id
    have lc := lc.restart (T := (· = b4)) (fun x hx => by simp only [List.mem_singleton] at hx; rw [hx])
    have z4 : b4 < h5.size := (lcA.blk (i := 0) rfl).lt
    refine lc.new fun b5 h6 p5 f5 lc => ?_
    simp only [List.cons_append, List.nil_append] at lc
    repeat (first | refine lc.ldo 0 rfl rfl ?_ | refine lc.ld 0 rfl rfl ?_ | refine lc.ldo 1 rfl rfl ?_ | refine lc.ld 1 rfl rfl ?_ | refine lc.ldo 2 rfl rfl ?_ | refine lc.ld 2 rfl rfl ?_ | refine lc.ldo 3 rfl rfl ?_ | refine lc.ld 3 rfl rfl ?_ | refine lc.ldo 4 rfl rfl ?_ | refine lc.ld 4 rfl rfl ?_ | refine lc.ldo 5 rfl rfl ?_ | refine lc.ld 5 rfl rfl ?_ | refine lc.ldo 6 rfl rfl ?_ | refine lc.ld 6 rfl rfl ?_ | (refine lc.sto 0 rfl rfl rfl fun _ _ lc => ?_; simp only [Nat.zero_add, List.set_cons_zero, List.set_cons_succ, List.setIfInBounds_toArray] at lc) | (refine lc.st 0 rfl rfl rfl fun _ _ lc => ?_; simp only [Nat.zero_add, List.set_cons_zero, List.set_cons_succ, List.setIfInBounds_toArray] at lc) | (refine lc.sto 1 rfl rfl rfl fun _ _ lc => ?_; simp only [Nat.zero_add, List.set_cons_zero, List.set_cons_succ, List.setIfInBounds_toArray] at lc) | (refine lc.st 1 rfl rfl rfl fun _ _ lc => ?_; simp only [Nat.zero_add, List.set_cons_zero, List.set_cons_succ, List.setIfInBounds_toArray] at lc) | (refine lc.sto 2 rfl rfl rfl fun _ _ lc => ?_; simp only [Nat.zero_add, List.set_cons_zero, List.set_cons_succ, List.setIfInBounds_toArray] at lc) | (refine lc.st 2 rfl rfl rfl fun _ _ lc => ?_; simp only [Nat.zero_add, List.set_cons_zero, List.set_cons_succ, List.setIfInBounds_toArray] at lc) | (refine lc.sto 3 rfl rfl rfl fun _ _ lc => ?_; simp only [Nat.zero_add, List.set_cons_zero, List.set_cons_succ, List.setIfInBounds_toArray] at lc) | (refine lc.st 3 rfl rfl rfl fun _ _ lc => ?_; simp only [Nat.zero_add, List.set_cons_zero, List.set_cons_succ, List.setIfInBounds_toArray] at lc) | (refine lc.sto 4 rfl rfl rfl fun _ _ lc => ?_; simp only [Nat.zero_add, List.set_cons_zero, List.set_cons_succ, List.setIfInBounds_toArray] at lc) | (refine lc.st 4 rfl rfl rfl fun _ _ lc => ?_; simp only [Nat.zero_add, List.set_cons_zero, List.set_cons_succ, List.setIfInBounds_toArray] at lc) | (refine lc.sto 5 rfl rfl rfl fun _ _ lc => ?_; simp only [Nat.zero_add, List.set_cons_zero, List.set_cons_succ, List.setIfInBounds_toArray] at lc) | (refine lc.st 5 rfl rfl rfl fun _ _ lc => ?_; simp only [Nat.zero_add, List.set_cons_zero, List.set_cons_succ, List.setIfInBounds_toArray] at lc) | (refine lc.sto 6 rfl rfl rfl fun _ _ lc => ?_; simp only [Nat.zero_add, List.set_cons_zero, List.set_cons_succ, List.setIfInBounds_toArray] at lc) | (refine lc.st 6 rfl rfl rfl fun _ _ lc => ?_; simp only [Nat.zero_add, List.set_cons_zero, List.set_cons_succ, List.setIfInBounds_toArray] at lc) | refine lc.ldo 0 (x := Sl.nil) rfl rfl ?_ | refine lc.ld 0 (x := Sl.nil) rfl rfl ?_ | refine lc.ldo 1 (x := Sl.nil) rfl rfl ?_ | refine lc.ld 1 (x := Sl.nil) rfl rfl ?_ | refine lc.ldo 2 (x := Sl.nil) rfl rfl ?_ | refine lc.ld 2 (x := Sl.nil) rfl rfl ?_ | refine lc.ldo 3 (x := Sl.nil) rfl rfl ?_ | refine lc.ld 3 (x := Sl.nil) rfl rfl ?_ | refine lc.ldo 4 (x := Sl.nil) rfl rfl ?_ | refine lc.ld 4 (x := Sl.nil) rfl rfl ?_ | refine lc.ldo 5 (x := Sl.nil) rfl rfl ?_ | refine lc.ld 5 (x := Sl.nil) rfl rfl ?_ | refine lc.ldo 6 (x := Sl.nil) rfl rfl ?_ | refine lc.ld 6 (x := Sl.nil) rfl rfl ?_ | refine Wr_i64 (by omega) (by omega) ?_ | refine If_t rfl ?_ | refine If_f rfl ?_)
    have gA := (lcA.fr.trans' lc.fr (fun d e hd => by subst e; exact absurd hd (Nat.not_lt.2 hb4))).grw
    have gB := r5.tn lc.fr hlt
    refine alike_c (r2.s.grw gA) gB.s he2 he5 fun h9 g9 => ?_
    rw [decide_eq_true rfl]
    refine If_f rfl (Wr_i64 (by omega) (by omega) ?_)
    exact hN _ _ ⟨i + 1, by simp, by omega, ((g.trans g2).trans gA).trans g9⟩ (by omega)
  · exact fixed_c (tb.grw g) fun h'' g' => hk h'' (g.trans g')
end Go.Proofs.YtajgmklgfdgnlaaDoor
