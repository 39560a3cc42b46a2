import Derived.Test.YtfomkkdijjfpiaaDoorGetsJ2
import Derived.Test.YtfomkkdijjfpiaaDoorShDefer
import Derived.Test.YtfomkkdijjfpiaaDoorGetsS4
import Derived.Test.YtfomkkdijjfpiaaDoorGetsS10
set_option linter.unusedSimpArgs false
set_option linter.unusedVariables false
/- The package's reader: a head, the whole. -/
namespace Go.Proofs.YtfomkkdijjfpiaaDoor
open Go Go.Sh Go.WideShapes
theorem body_m {h0 : Hp} {p : Nat} {s : Sl} {l : List UInt8} {h : Hp} {a n b2 b3 : Nat} {k id : Int} {de : Bool} {cs : Array Value} {K : Int → Sl → Sl → Int → Bool → Int → Int → Sl → Sl → Hp → Prop} {Kp : List PanicEntry → Hp → Prop} (r : Rm h0 p s l h a n)
    (k2 : Blk h b2 cs 29) (hcs : cs.size = 9) (k3 : B9 h b3 k Sl.nil Sl.nil id de 0 0 Sl.nil Sl.nil) (n23 : b2 ≠ b3) (n2 : b2 ≠ p) (n3 : b3 ≠ p) (l2 : h0.size ≤ b2) (l3 : h0.size ≤ b3)
    (he : ∀ e, bodyD l k id de a n = .error e → ∀ h', Tn (fun d => d = p ∨ d = b3 ∨ d = b2) h h' → Kp (stopV e) h')
    (hk : ∀ H a' n', bodyD l k id de a n = .ok (H, a', n') → ∀ s1 s2 s7 s8 h', Tn (fun d => d = p ∨ d = b3 ∨ d = b2) h h' → Rm h0 p s l h' a' n' → HdD h.size h'.size h' H s1 s2 s7 s8 → K H.k s1 s2 H.id H.de H.rows H.press s7 s8 h') : J30_1 (some ⟨p, 0, none⟩) ⟨b2, 0, none⟩ ⟨b3, 0, none⟩ K Kp h := by
  have i2 := k2.lt
  have i3 := k3.lt
  have ip := r.blk.lt
  refine J30_1.of ?_
  unfold JT30_1
  simp only [add_blk, Nat.reduceAdd]
  refine number_m (w := 4) r rfl (by omega) (fun e q => he e (by unfold bodyD; rw [q]) h (Tn.refl _ _)) fun rows a1 q1 h1 f1 r1 => ?_
  refine St_i (f1.blk k3 n3) (by simp [vals9]) rfl fun h2 o2 k3 => ?_
  have k3 : B9 h2 b3 k Sl.nil Sl.nil id de rows 0 Sl.nil Sl.nil := by simp [vals9] at k3; exact k3
  have f2 : Tn (fun d => d = p ∨ d = b3 ∨ d = b2) h h2 := (f1.mono fun d hd _ => .inl hd).trans' o2.fr fun d hd _ => .inr (.inl hd)
  have r2 := r1.fr o2.fr n3 l3
  refine number_m (w := 1) r2 rfl (by omega) (fun e q => he e (by unfold bodyD; rw [q1]; simp only [q]) h2 f2) fun press a2 q2 h3 f3 r3 => ?_
  refine St_i (f3.blk k3 n3) (by simp [vals9]) rfl fun h4 o4 k3 => ?_
  have k3 : B9 h4 b3 k Sl.nil Sl.nil id de rows press Sl.nil Sl.nil := by simp [vals9] at k3; exact k3
  have f4 : Tn (fun d => d = p ∨ d = b3 ∨ d = b2) h h4 := (f2.trans (f3.mono fun d hd _ => .inl hd)).trans' o4.fr fun d hd _ => .inr (.inl hd)
  have r4 := r3.fr o4.fr n3 l3
  refine number_m (w := 2) r4 rfl (by omega) (fun e q => he e (by unfold bodyD; rw [q1]; simp only [q2, q]) h4 f4) fun c a3 q3 h5 f5 r5 => ?_
  have f5' : Tn (fun d => d = p ∨ d = b3 ∨ d = b2) h h5 := f4.trans (f5.mono fun d hd _ => .inl hd)
  have k2 := f5.blk (o4.blk (f3.blk (o2.blk (f1.blk k2 n2) n23) n2) n23) n2
  have k3 := f5.blk k3 n3
  have s5 := f5'.1
  refine nodesM r5 (numD_le q3 r4.ha).2.2 rfl k2 k3 n23 n2 n3 l3 (fun e q h6 f6 => he e (by unfold bodyD; rw [q1]; simp only [q2, q3, q]) h6 (f5'.trans (f6.mono fun d hd _ => by omega))) fun nodes a4 n4 q4 t h6 f6 r6 o6 k3 k2 => ?_
  have f6' : Tn (fun d => d = p ∨ d = b3 ∨ d = b2) h h6 := f5'.trans (f6.mono fun d hd _ => by omega)
  refine J30_2.of ?_
  unfold JT30_2
  refine number_m (w := 2) r6 rfl (by omega) (fun e q => he e (by unfold bodyD; rw [q1]; simp only [q2, q3, q4, q]) h6 f6') fun c2 a5 q5 h7 f7 r7 => ?_
  have f7' : Tn (fun d => d = p ∨ d = b3 ∨ d = b2) h h7 := f6'.trans (f7.mono fun d hd _ => .inl hd)
  have s6 := f6.1
  have s7 := f7.1
  refine slotsM r7 (numD_le q5 r6.ha).2.2 rfl (f7.blk k2 n2) hcs (f7.blk k3 n3) n23 n2 n3 l2 l3 (fun e q h8 f8 => he e (by unfold bodyD; rw [q1]; simp only [q2, q3, q4, q5, q]) h8 (f7'.trans (f8.mono fun d hd _ => by omega))) fun bufs a6 n6 q6 t8 h8 f8 r8 o8 => ?_
  have o7 : Sh h5.size h6.size 2 h7 t (ndsV nodes) 55 := o6.fr f7 fun b hb _ e => by omega
  have o8' : Sh h5.size h6.size 2 h8 t (ndsV nodes) 55 := o7.fr f8 fun b hb _ e => by omega
  refine hk ⟨k, [], [], id, de, rows, press, nodes, bufs⟩ a6 n6 (by unfold bodyD; rw [q1]; simp only [q2, q3, q4, q5, q6]) Sl.nil Sl.nil t t8 h8 (f7'.trans f8) r8 ⟨by unfold FsD; exact ⟨rfl, Nat.le_refl _⟩, Sh.nil _ _ _ _ _, o8'.wide (by omega) (by have := f8.1; omega), o8.wide (by omega) (Nat.le_refl _)⟩
theorem head_m {h0 : Hp} {p : Nat} {s : Sl} {l : List UInt8} {h : Hp} {K : Int → Sl → Sl → Int → Bool → Int → Int → Sl → Sl → Hp → Prop} {Kp : List PanicEntry → Hp → Prop} (r : Rm h0 p s l h 0 0)
    (he : ∀ e, headD l = .error e → ∀ h', Tn (· = p) h h' → Kp (stopV e) h')
    (hk : ∀ H a' n', headD l = .ok (H, a', n') → ∀ s1 s2 s7 s8 h', Tn (· = p) h h' → Rm h0 p s l h' a' n' → HdD h.size h'.size h' H s1 s2 s7 s8 → K H.k s1 s2 H.id H.de H.rows H.press s7 s8 h') : Fn30 (some ⟨p, 0, none⟩) h K Kp := by
  have ip := r.blk.lt
  have lh := r.g.1
  refine Fn30.of ?_
  unfold S30
  refine New_i fun b2 h1 e1 g1 k2 _ => ?_
  have f1 : Tn (· = p) h h1 := Tn.of_grw g1
  refine among_m (lo := 1) (hi := 3) (r.grw g1) rfl rfl (fun e q h2 f2 => he e (by unfold headD; rw [q]) h2 (f1.trans f2)) fun k a1 q1 h2 f2 r2 => ?_
  have n2 : b2 ≠ p := by omega
  have k2 := f2.blk k2 n2
  have f2 := f1.trans f2
  have s2 := f2.1
  have lc := SyH.start No h2
  refine lc.new fun b3 _ hb3 _ lc => ?_
  refine lc.st 0 rfl rfl rfl fun _ _ lc => ?_; simp only [Nat.zero_add, List.set_cons_zero, List.set_cons_succ, List.setIfInBounds_toArray] at lc; refine lc.sto 0 rfl rfl rfl fun _ _ lc => ?_; simp only [Nat.zero_add, List.set_cons_zero, List.set_cons_succ, List.setIfInBounds_toArray] at lc; refine lc.sto 0 rfl rfl rfl fun _ _ lc => ?_; simp only [Nat.zero_add, List.set_cons_zero, List.set_cons_succ, List.setIfInBounds_toArray] at lc; refine lc.sto 0 rfl rfl rfl fun _ _ lc => ?_; simp only [Nat.zero_add, List.set_cons_zero, List.set_cons_succ, List.setIfInBounds_toArray] at lc; refine lc.sto 0 rfl rfl rfl fun _ _ lc => ?_; simp only [Nat.zero_add, List.set_cons_zero, List.set_cons_succ, List.setIfInBounds_toArray] at lc; refine lc.sto 0 rfl rfl rfl fun _ _ lc => ?_; simp only [Nat.zero_add, List.set_cons_zero, List.set_cons_succ, List.setIfInBounds_toArray] at lc; refine lc.sto 0 rfl rfl rfl fun _ _ lc => ?_; simp only [Nat.zero_add, List.set_cons_zero, List.set_cons_succ, List.setIfInBounds_toArray] at lc; refine lc.sto 0 rfl rfl rfl fun _ _ lc => ?_; simp only [Nat.zero_add, List.set_cons_zero, List.set_cons_succ, List.setIfInBounds_toArray] at lc; refine lc.sto 0 rfl rfl rfl fun _ _ lc => ?_; simp only [Nat.zero_add, List.set_cons_zero, List.set_cons_succ, List.setIfInBounds_toArray] at lc
  rename_i h3 _
  have k3 : B9 h3 b3 k Sl.nil Sl.nil 0 false 0 0 Sl.nil Sl.nil := lc.blk (i := 0) rfl
  have g3 := lc.grw
  have ib3 := k3.lt
  clear lc
  have n3 : b3 ≠ p := by omega
  have n23 : b2 ≠ b3 := by have := k2.lt; omega
  have k2 := k2.grw g3
  have r3 := r2.grw g3
  have f3 : Tn (· = p) h h3 := f2.trans (Tn.of_grw g3)
  have hkk : 1 ≤ k ∧ k ≤ 3 := (amongD_le q1 r.ha).2.2
  refine among_m (lo := 1) (hi := 1) r3 rfl rfl (fun e q h4 f4 => he e (by unfold headD; rw [q1]; simp only [q]) h4 (f3.trans f4)) fun z2 a2 q2 h4 f4 r4 => ?_
  refine among_m (lo := 0) (hi := 0) r4 rfl rfl (fun e q h5 f5 => he e (by unfold headD; rw [q1]; simp only [q2, q]) h5 ((f3.trans f4).trans f5)) fun z3 a3 q3 h5 f5 r5 => ?_
  refine among_m (lo := 0) (hi := 0) r5 rfl rfl (fun e q h6 f6 => he e (by unfold headD; rw [q1]; simp only [q2, q3, q]) h6 (((f3.trans f4).trans f5).trans f6)) fun z4 a4 q4 h6 f6 r6 => ?_
  have f36 := (f4.trans f5).trans f6
  have k2 := f36.blk k2 n2
  have k3 := f36.blk k3 n3
  have f6 := f3.trans f36
  have s36 := f36.1
  have s3 := f3.1
  have i2 : h.size ≤ b2 := by omega
  have i3 : h.size ≤ b3 := by omega
  have tn : ∀ {h'}, Tn (fun d => d = p ∨ d = b3 ∨ d = b2) h6 h' → Tn (· = p) h h' := fun f => f6.trans' f fun d hd hlt => by omega
  have eq : headD l = restD l k a4 := by unfold headD; rw [q1]; simp only [q2, q3, q4]
  simp only [add_blk, Nat.reduceAdd]
  refine Ld_blk k3 rfl (If_i (fun c => ?_) fun c => ?_)
  · simp only [decide_eq_true_eq, decide_eq_false_iff_not, beq_iff_eq, beq_eq_false_iff_ne, ne_eq, reduceCtorEq, true_iff, false_iff, Bool.not_eq_true', Bool.not_eq_false', bne_iff_ne, bne_eq_false_iff_eq, Bool.not_true, Bool.not_false, Decidable.not_not] at c
    have hk1 : k = 1 := by omega
    subst hk1
    refine schema_m r6 (by omega) (fun e q h7 f7 => he e (by rw [eq]; unfold restD; rw [if_pos rfl, q]) h7 (f6.trans f7)) fun fs ms a5 n5 q5 t1 t2 h7 f7 r7 hf ho => ?_
    refine St_i (f7.blk k3 n3) (by simp [vals9]) rfl fun h8 o8 k3 => St_i k3 (by simp [vals9]) rfl fun h9 o9 k3 => ?_
    have k3 : B9 h9 b3 1 t1 t2 0 false 0 0 Sl.nil Sl.nil := by simp [vals9] at k3; exact k3
    have o89 := o8.trans o9
    have k2 := o89.blk (f7.blk k2 n2) n23
    refine Ld_blk k3 rfl (Ld_blk k3 rfl (Ld_blk k3 rfl (Ld_blk k3 rfl (Ld_blk k3 rfl (Ld_blk k3 rfl (Ld_blk k3 rfl (Ld_blk k3 rfl (Ld_blk k3 rfl ?_))))))))
    refine copy9 k2 rfl fun h10 o10 => ?_
    have fall : Tn (fun d => d = b3 ∨ d = b2) h7 h10 := (o89.fr.mono fun d hd _ => .inl hd).trans' o10.fr fun d hd _ => .inr hd
    have D7 : HdD h6.size h7.size h7 ⟨1, fs, ms, 0, false, 0, 0, [], []⟩ t1 t2 Sl.nil Sl.nil := ⟨hf, ho, Sh.nil _ _ _ _ _, Sh.nil _ _ _ _ _⟩
    refine hk ⟨1, fs, ms, 0, false, 0, 0, [], []⟩ a5 n5 (by rw [eq]; unfold restD; rw [if_pos rfl, q5]) t1 t2 Sl.nil Sl.nil h10 (tn ((f7.mono fun d hd _ => .inl hd).trans' fall fun d hd _ => by omega)) (r7.tn fall (by omega) (fun d hd => by omega)) (D7.fr fall (fun b h1 h2 e => ?_) (by omega) fall.1)
    omega
  · simp only [decide_eq_true_eq, decide_eq_false_iff_not, beq_iff_eq, beq_eq_false_iff_ne, ne_eq, reduceCtorEq, true_iff, false_iff, Bool.not_eq_true', Bool.not_eq_false', bne_iff_ne, bne_eq_false_iff_eq, Bool.not_true, Bool.not_false, Decidable.not_not] at c
    refine Ld_blk k3 rfl (If_i (fun c2 => ?_) fun c2 => ?_)
    · simp only [decide_eq_true_eq, decide_eq_false_iff_not, beq_iff_eq, beq_eq_false_iff_ne, ne_eq, reduceCtorEq, true_iff, false_iff, Bool.not_eq_true', Bool.not_eq_false', bne_iff_ne, bne_eq_false_iff_eq, Bool.not_true, Bool.not_false, Decidable.not_not] at c2
      have hk2 : k = 2 := by omega
      subst hk2
      refine number_m (w := 2) r6 rfl (by omega) (fun e q => he e (by rw [eq]; unfold restD; rw [if_neg (by omega), if_pos rfl, q]) h6 f6) fun id a5 q5 h7 f7 r7 => ?_
      refine St_i (f7.blk k3 n3) (by simp [vals9]) rfl fun h8 o8 k3 => ?_
      have k3 : B9 h8 b3 2 Sl.nil Sl.nil id false 0 0 Sl.nil Sl.nil := by simp [vals9] at k3; exact k3
      have r8 := r7.fr o8.fr n3 (by omega)
      have f8 : Tn (fun d => d = p ∨ d = b3 ∨ d = b2) h6 h8 := (f7.mono fun d hd _ => .inl hd).trans' o8.fr fun d hd _ => .inr (.inl hd)
      have k2 := o8.blk (f7.blk k2 n2) n23
      refine among_m (lo := 0) (hi := 1) r8 rfl rfl (fun e q h9 f9 => he e (by rw [eq]; unfold restD; rw [if_neg (by omega), if_pos rfl, q5]; simp only [q]) h9 (tn (f8.trans (f9.mono fun d hd _ => .inl hd)))) fun de a6 q6 h9 f9 r9 => ?_
      refine St_i (f9.blk k3 n3) (by simp [vals9]) rfl fun h10 o10 k3 => ?_
      have k3 : B9 h10 b3 2 Sl.nil Sl.nil id ((de : Int) == 1) 0 0 Sl.nil Sl.nil := by simp [vals9] at k3; exact k3
      have e2 : ((de : Int) == 1) = (de == 1) := by
        rw [Bool.eq_iff_iff, beq_iff_eq, beq_iff_eq]; omega
      rw [e2] at k3
      have f10 : Tn (fun d => d = p ∨ d = b3 ∨ d = b2) h6 h10 := (f8.trans (f9.mono fun d hd _ => .inl hd)).trans' o10.fr fun d hd _ => .inr (.inl hd)
      have s10 := f10.1
      have er : restD l 2 a4 = bodyD l 2 id (de == 1) a6 0 := by unfold restD; rw [if_neg (by omega), if_pos rfl, q5]; simp only [q6]
      refine body_m (r9.fr o10.fr n3 (by omega)) (o10.blk (f9.blk k2 n2) n23) rfl k3 n23 n2 n3 (by omega) (by omega) (fun e q h11 f11 => he e (by rw [eq, er, q]) h11 (tn (f10.trans f11))) fun H a7 n7 q7 s1 s2' s7 s8 h11 f11 r11 D11 => ?_
      exact hk H a7 n7 (by rw [eq, er, q7]) s1 s2' s7 s8 h11 (tn (f10.trans f11)) r11 (D11.fr (S := No) (Tn.refl _ _) (fun _ _ _ q => q) (by omega) (Nat.le_refl _))
    · simp only [decide_eq_true_eq, decide_eq_false_iff_not, beq_iff_eq, beq_eq_false_iff_ne, ne_eq, reduceCtorEq, true_iff, false_iff, Bool.not_eq_true', Bool.not_eq_false', bne_iff_ne, bne_eq_false_iff_eq, Bool.not_true, Bool.not_false, Decidable.not_not] at c2
      have hk3 : k = 3 := by omega
      subst hk3
      have er : restD l 3 a4 = bodyD l 3 0 false a4 0 := by unfold restD; rw [if_neg (by omega), if_neg (by omega)]
      refine body_m r6 k2 rfl k3 n23 n2 n3 (by omega) (by omega) (fun e q h11 f11 => he e (by rw [eq, er]; exact q) h11 (tn f11)) fun H a7 n7 q7 s1 s2' s7 s8 h11 f11 r11 D11 => ?_
      exact hk H a7 n7 (by rw [eq, er]; exact q7) s1 s2' s7 s8 h11 (tn f11) r11 (D11.fr (S := No) (Tn.refl _ _) (fun _ _ _ q => q) (by omega) (Nat.le_refl _))
end Go.Proofs.YtfomkkdijjfpiaaDoor
/- meta.Get and its deferred closure: the texts. -/
namespace Go.Proofs.YtfomkkdijjfpiaaDoor
open Go Go.Sh Go.WideShapes
set_option maxRecDepth 100000
abbrev K12 := Int → Sl → Sl → Int → Bool → Int → Int → Sl → Sl → Int → Sl → Int → Hp → Prop
noncomputable def code12 : Code := Tryd.f12.body.getD .skip
noncomputable def code29 : Code := Tryd.f29.body.getD .skip
def opc (c : Code) (i : Nat) : Oper := (regOps (sub [0] c)).getD i default
def callOf (o : Oper) : Call := match o.op with | .call c => c | .defer c => c | _ => default
def kv12 (K : Int → Sl → Sl → Int → Bool → Int → Int → Sl → Sl → Int → Sl → Int → Hp → Prop) : Value → Hp → Prop := fun v h => match v with | .tuple us => (let vs := us.toList; match (vs.getD 0 undef) with | .agg cs0 => (match (cs0.toList.getD 0 undef) with | .int _ r0_0 => (match (cs0.toList.getD 1 undef) with | .slice r0_1a r0_1n r0_1c => (let r0_1 : Sl := ⟨r0_1a, r0_1n, r0_1c⟩; match (cs0.toList.getD 2 undef) with | .slice r0_2a r0_2n r0_2c => (let r0_2 : Sl := ⟨r0_2a, r0_2n, r0_2c⟩; match (cs0.toList.getD 3 undef) with | .int _ r0_3 => (match (cs0.toList.getD 4 undef) with | .bool r0_4 => (match (cs0.toList.getD 5 undef) with | .int _ r0_5 => (match (cs0.toList.getD 6 undef) with | .int _ r0_6 => (match (cs0.toList.getD 7 undef) with | .slice r0_7a r0_7n r0_7c => (let r0_7 : Sl := ⟨r0_7a, r0_7n, r0_7c⟩; match (cs0.toList.getD 8 undef) with | .slice r0_8a r0_8n r0_8c => (let r0_8 : Sl := ⟨r0_8a, r0_8n, r0_8c⟩; match (vs.getD 1 undef) with | .agg cs1 => (match (cs1.toList.getD 0 undef) with | .int _ r1_0 => (match (cs1.toList.getD 1 undef) with | .slice r1_1a r1_1n r1_1c => (let r1_1 : Sl := ⟨r1_1a, r1_1n, r1_1c⟩; match (cs1.toList.getD 2 undef) with | .int _ r1_2 => (K r0_0 r0_1 r0_2 r0_3 r0_4 r0_5 r0_6 r0_7 r0_8 r1_0 r1_1 r1_2 h) | _ => False) | _ => False) | _ => False) | _ => False) | _ => False) | _ => False) | _ => False) | _ => False) | _ => False) | _ => False) | _ => False) | _ => False) | _ => False) | _ => False) | _ => False
def zs12 : List Value := [(.agg #[(.int .i64 0), (.slice none 0 0), (.slice none 0 0), (.int .i64 0), (.bool false), (.int .i64 0), (.int .i64 0), (.slice none 0 0), (.slice none 0 0)]), (.agg #[(.int .i64 0), (.slice none 0 0), (.int .i64 0)])]
def ord29 : List (Nat × OT × List Nat) := [(5, OT.l [0, 1, 2, 3, 4, 5, 6, 7] .fin, [0, 0, 2, 0, 8, 30, 1, 127])]
/-- nine cells are stored -/
def St9 (h : Hp) (a : Addr) (k : Int) (s1 s2 : Sl) (id : Int) (de : Bool) (rows press : Int) (s7 s8 : Sl) (K : Hp → Prop) : Prop :=
  St h a (.int .i64 k) fun h => St h (a.add 1) (Sl.v s1) fun h => St h (a.add 2) (Sl.v s2) fun h => St h (a.add 3) (.int .i64 id) fun h => St h (a.add 4) (.bool de) fun h => St h (a.add 5) (.int .i64 rows) fun h => St h (a.add 6) (.int .i64 press) fun h => St h (a.add 7) (Sl.v s7) fun h => St h (a.add 8) (Sl.v s8) K
def Ld9 (h : Hp) (a : Addr) (K : Int → Sl → Sl → Int → Bool → Int → Int → Sl → Sl → Prop) : Prop :=
  Ld h a (Value.int .i64) fun r0 => Ld h (a.add 1) (Sl.v) fun r1 => Ld h (a.add 2) (Sl.v) fun r2 => Ld h (a.add 3) (Value.int .i64) fun r3 => Ld h (a.add 4) (Value.bool) fun r4 => Ld h (a.add 5) (Value.int .i64) fun r5 => Ld h (a.add 6) (Value.int .i64) fun r6 => Ld h (a.add 7) (Sl.v) fun r7 => Ld h (a.add 8) (Sl.v) fun r8 => K r0 r1 r2 r3 r4 r5 r6 r7 r8
def St3 (h : Hp) (a : Addr) (e : Int) (s : Sl) (at' : Int) (K : Hp → Prop) : Prop :=
  St h a (.int .i64 e) fun h => St h (a.add 1) (Sl.v s) fun h => St h (a.add 2) (.int .i64 at') K
def Ld3 (h : Hp) (a : Addr) (K : Int → Sl → Int → Prop) : Prop :=
  Ld h a (Value.int .i64) fun r0 => Ld h (a.add 1) (Sl.v) fun r1 => Ld h (a.add 2) (Value.int .i64) fun r2 => K r0 r1 r2
/-- the closure behind a fault -/
def S29p (e : Er) (c0 c1 : Addr) (h : Hp) (K : Hp → Prop) : Prop :=
  New h #[(.int .i64 0), (.int .i64 0)] 69 fun a3 h => St h a3 (.int .i64 e.1) fun h => St h (a3.add 1) (.int .i64 e.2) fun h => Ld h a3 (Value.int .i64) fun x => Ld h (a3.add 1) (Value.int .i64) fun y =>
    St9 h c0 0 Sl.nil Sl.nil 0 false 0 0 Sl.nil Sl.nil fun h' => Keep h h' (a3.add 1) 1 (Keep h h' a3 1 (St3 h' c1 x Sl.nil y K))
theorem D29n {c0 c1 : Addr} {h : Hp} {K : Hp → Prop} (H : K h) : ∀ w, hpz w = h → DefRun Tryd.prog 29 [.pointer (some c0), .pointer (some c1)] .returning w fun u2 w' => u2 = .returning ∧ Same w w' ∧ K (hpz w') :=
  def_recover (P := Tryd.prog) (ann := []) (D := DrawSem Tryd.prog ord29) (drawOk _) (fn := Tryd.f29) (id := 0) (r1 := opc code29 0) (r2 := opc code29 1) (call := callOf (opc code29 0)) (rest := sub [1] code29) (tr := 5) (t2 := 2) (caps := [.pointer (some c0), .pointer (some c1)]) (K := K) (u := .returning) (u' := .returning) (rv := .nilIface)
    Tryd.func29 (by kernel_rfl) (by kernel_rfl) (by kernel_rfl) (by kernel_rfl) (by kernel_rfl) (by kernel_rfl) (by kernel_rfl) (by kernel_rfl) (by kernel_rfl) (by kernel_rfl) (by kernel_rfl) (.inl ⟨rfl, rfl, rfl⟩) (by kernel_rfl) (cast (by kernel_rfl) H)
theorem D29p {e : Er} {c0 c1 : Addr} {h : Hp} {K : Hp → Prop} (H : S29p e c0 c1 h K) : ∀ w, hpz w = h → DefRun Tryd.prog 29 [.pointer (some c0), .pointer (some c1)] (.panicking (stopV e)) w fun u2 w' => u2 = .panicking [{ v := (.iface 69 (.agg #[(.int .i64 e.1), (.int .i64 e.2)])), recovered := true }] ∧ Same w w' ∧ K (hpz w') :=
  def_recover (P := Tryd.prog) (ann := []) (D := DrawSem Tryd.prog ord29) (drawOk _) (fn := Tryd.f29) (id := 0) (r1 := opc code29 0) (r2 := opc code29 1) (call := callOf (opc code29 0)) (rest := sub [1] code29) (tr := 5) (t2 := 2) (caps := [.pointer (some c0), .pointer (some c1)]) (K := K) (u := .panicking (stopV e)) (u' := .panicking [{ v := (.iface 69 (.agg #[(.int .i64 e.1), (.int .i64 e.2)])), recovered := true }]) (rv := (.iface 69 (.agg #[(.int .i64 e.1), (.int .i64 e.2)])))
    Tryd.func29 (by kernel_rfl) (by kernel_rfl) (by kernel_rfl) (by kernel_rfl) (by kernel_rfl) (by kernel_rfl) (by kernel_rfl) (by kernel_rfl) (by kernel_rfl) (by kernel_rfl) (by kernel_rfl) (.inr ⟨rfl, rfl⟩) (by kernel_rfl) (cast (by kernel_rfl) H)
/-- the results are read at the end -/
def R12 (a2 a3 : Addr) (K : K12) (h : Hp) : Prop := Ld9 h a2 fun r0 r1 r2 r3 r4 r5 r6 r7 r8 => Ld3 h a3 fun q0 q1 q2 => K r0 r1 r2 r3 r4 r5 r6 r7 r8 q0 q1 q2 h
/-- behind the defer -/
def S12c (s : Sl) (a2 a3 : Addr) (h : Hp) (K : K12) (Kp : List PanicEntry → Hp → Prop) : Prop :=
  New h #[Sl.v s, .int .i64 0, .int .i64 0] 73 fun a4 h => Fn30 (some a4) h (fun r0 r1 r2 r3 r4 r5 r6 r7 r8 h => St9 h a2 r0 r1 r2 r3 r4 r5 r6 r7 r8 fun h =>
    Ld h (a4.add 1) (Value.int .i64) fun t14 => If (decide (t14 < (s.n : Int))) (Ld h (a4.add 1) (Value.int .i64) fun t21 => Kp [{ v := .iface 69 (.agg #[.int .i64 52, .int .i64 t21]), recovered := false }] h)
      (Ld9 h a2 fun r0 r1 r2 r3 r4 r5 r6 r7 r8 => Fn21 r0 r1 r2 r3 r4 r5 r6 r7 r8 h (fun t25 h => If (!t25) (Kp [{ v := .iface 69 (.agg #[.int .i64 50, .int .i64 0]), recovered := false }] h)
        (Ld9 h a2 fun r0 r1 r2 r3 r4 r5 r6 r7 r8 => St9 h a2 r0 r1 r2 r3 r4 r5 r6 r7 r8 fun h => St3 h a3 0 Sl.nil 0 fun h => R12 a2 a3 K h)) Kp)) Kp
noncomputable def fr12 (s : Sl) (a2 a3 : Addr) : Fr := ((([Sl.v s].map some ++ List.replicate (Tryd.f12.ntmps - [Sl.v s].length) none).set 2 (some (.pointer (some a2)))).set 3 (some (.pointer (some a3))))
/-- **GET**: its text, the deferred closure told by what it does. -/
theorem Fn12.of {s : Sl} {h : Hp} {K : K12} {Kp : List PanicEntry → Hp → Prop}
    (H : New h #[.int .i64 0, Sl.v Sl.nil, Sl.v Sl.nil, .int .i64 0, .bool false, .int .i64 0, .int .i64 0, Sl.v Sl.nil, Sl.v Sl.nil] 29 fun a2 h => New h #[.int .i64 0, Sl.v Sl.nil, .int .i64 0] 39 fun a3 h =>
      S12c s a2 a3 h K fun ch h => ∃ e : Er, ch = stopV e ∧ S29p e a2 a3 h fun h => R12 a2 a3 K h) : Fn12 s h K Kp := by
  have := fn_defer (P := Tryd.prog) (ann := []) (D := DrawSem Tryd.prog []) (drawOk _) (f := 12) (g := 29) (fn := Tryd.f12) (c1 := sub [0] code12) (c2 := sub [1, 1] code12) (id := 1) (o1 := opc (sub [1] code12) 0) (o2 := opc (sub [1] code12) 1) (tc := 5) (capOps := #[.tmp 2, .tmp 3]) (call := callOf (opc (sub [1] code12) 1)) [2, 3]
    (zs := zs12) (args := [Sl.v s]) (h := h) (Kv := kv12 K) (Kp := Kp) Tryd.func12 (by kernel_rfl) (by kernel_rfl) (by kernel_rfl) (by kernel_rfl) (by kernel_rfl) (by kernel_rfl) (by kernel_rfl) (by kernel_rfl) (by kernel_rfl) (by kernel_rfl) (by kernel_rfl) (by kernel_rfl) ?_
  · exact cast (by kernel_rfl) this
  · have X : ∀ a2 a3 h, (S12c s a2 a3 h K fun ch h => ∃ e : Er, ch = stopV e ∧ S29p e a2 a3 h fun h => R12 a2 a3 K h) → ∃ (caps : List Value) (KpX : List PanicEntry → Hp → Prop), Nat.blt 5 (fr12 s a2 a3).length = true ∧ evs (ev (fr12 s a2 a3)) [.tmp 2, .tmp 3] = some caps ∧
          sem Tryd.prog [] (DrawSem Tryd.prog []) none (sub [1, 1] code12) (retQ Tryd.prog Tryd.f12.results.toList zs12 (kv12 K)) KpX ((fr12 s a2 a3).set 5 (some (.func (.func 29) #[] caps.toArray))) h ∧
          (∀ w, DefRun Tryd.prog 29 caps .returning w fun u' w' => u' = .returning ∧ Same w w' ∧ hpz w' = hpz w) ∧
          (∀ ch w, KpX ch (hpz w) → DefRun Tryd.prog 29 caps (.panicking ch) w fun u' w' => settle u' = .returning ∧ Same w w' ∧ retV Tryd.prog Tryd.f12.results.toList (keepT [2, 3] ((fr12 s a2 a3).set 5 (some (.func (.func 29) #[] caps.toArray)))) (hpz w') fun vs => resUn zs12 (oneOr vs) fun v => kv12 K v (hpz w')) := by
      intro a2 a3 h hh
      refine ⟨[.pointer (some a2), .pointer (some a3)], fun ch h => ∃ e : Er, ch = stopV e ∧ S29p e a2 a3 h fun h => R12 a2 a3 K h, by kernel_rfl, by kernel_rfl, cast (by kernel_rfl) hh, fun w => ?_, ?_⟩
      · exact D29n (K := fun h' => h' = hpz w) rfl w rfl
      · rintro ch w ⟨e, rfl, q⟩
        refine (D29p q w rfl).mono ?_
        rintro e' u' w' ⟨hv, rfl, hs, r⟩
        exact ⟨hv, by kernel_rfl, hs, cast (by kernel_rfl) r⟩
    have Y : New h #[.int .i64 0, Sl.v Sl.nil, Sl.v Sl.nil, .int .i64 0, .bool false, .int .i64 0, .int .i64 0, Sl.v Sl.nil, Sl.v Sl.nil] 29 fun a2 h => New h #[.int .i64 0, Sl.v Sl.nil, .int .i64 0] 39 fun a3 h =>
        ∃ (caps : List Value) (KpX : List PanicEntry → Hp → Prop), Nat.blt 5 (fr12 s a2 a3).length = true ∧ evs (ev (fr12 s a2 a3)) [.tmp 2, .tmp 3] = some caps ∧
          sem Tryd.prog [] (DrawSem Tryd.prog []) none (sub [1, 1] code12) (retQ Tryd.prog Tryd.f12.results.toList zs12 (kv12 K)) KpX ((fr12 s a2 a3).set 5 (some (.func (.func 29) #[] caps.toArray))) h ∧
          (∀ w, DefRun Tryd.prog 29 caps .returning w fun u' w' => u' = .returning ∧ Same w w' ∧ hpz w' = hpz w) ∧
          (∀ ch w, KpX ch (hpz w) → DefRun Tryd.prog 29 caps (.panicking ch) w fun u' w' => settle u' = .returning ∧ Same w w' ∧ retV Tryd.prog Tryd.f12.results.toList (keepT [2, 3] ((fr12 s a2 a3).set 5 (some (.func (.func 29) #[] caps.toArray)))) (hpz w') fun vs => resUn zs12 (oneOr vs) fun v => kv12 K v (hpz w')) := X _ _ _ H
    exact cast (by kernel_rfl) Y
end Go.Proofs.YtfomkkdijjfpiaaDoor
/- meta.Get answers as the plain decoder. -/
namespace Go.Proofs.YtfomkkdijjfpiaaDoor
open Go Go.Sh Go.WideShapes
theorem numD_lt {l : List UInt8} {w a x a' : Nat} (h : numD l w a = .ok (x, a')) : x < 256 ^ w := by
  unfold numD takeD at h
  split at h <;> try cases h
  rename_i q
  split at q <;> cases q
  have := leN_lt (List.take w (List.drop a l))
  exact Nat.lt_of_lt_of_le this (Nat.pow_le_pow_right (by omega) (by simp; omega))
theorem textD_lt {l : List UInt8} {w a a' : Nat} {x : ByteArray} (h : textD l w a = .ok (x, a')) : x.size < 256 ^ w := by
  unfold textD at h
  split at h <;> try cases h
  rename_i n a1 q
  have hn := numD_lt q
  unfold takeD at h
  split at h <;> try cases h
  rename_i y a2 q2
  split at q2 <;> cases q2
  have : (bs ((l.drop a1).take n)).size = ((l.drop a1).take n).length := by simp [bs, ByteArray.size]
  rw [this]
  simp; omega
theorem repD_all {α : Type} {P : α → Prop} {f : Nat → Nat → Except Er (α × Nat × Nat)} (hf : ∀ a n x a' n', f a n = .ok (x, a', n') → P x) : ∀ {c a n : Nat} {xs : List α} {a' n' : Nat}, repD f c a n = .ok (xs, a', n') → xs.length = c ∧ ∀ x ∈ xs, P x
  | 0, a, n, xs, a', n', h => by unfold repD at h; cases h; exact ⟨rfl, by simp⟩
  | c + 1, a, n, xs, a', n', h => by
    unfold repD at h
    cases hq : f a n with
    | error e => rw [hq] at h; cases h
    | ok y =>
      obtain ⟨x, a1, n1⟩ := y
      rw [hq] at h
      simp only at h
      cases hr : repD f c a1 n1 with
      | error e => rw [hr] at h; cases h
      | ok z =>
        obtain ⟨ys, a2, n2⟩ := z
        rw [hr] at h
        cases h
        obtain ⟨h1, h2⟩ := repD_all hf hr
        exact ⟨by simp [h1], fun y hy => by
          rcases List.mem_cons.1 hy with rfl | hy
          · exact hf _ _ _ _ _ hq
          · exact h2 y hy⟩
theorem midD_lt {l : List UInt8} {k a : Nat} {m : Nat × Nat × Nat × Nat} {a' : Nat} (h : midD l k a = .ok (m, a')) : m.2.2.2 < 256 := by
  unfold midD at h
  split at h
  · split at h <;> cases h; exact (by decide : 0 < 256)
  split at h
  · split at h <;> cases h; exact (by decide : 1 < 256)
  split at h
  · split at h <;> try cases h
    split at h <;> cases h; exact (by decide : 1 < 256)
  split at h
  · split at h <;> cases h
    rename_i q; exact numD_lt q
  split at h <;> cases h <;> decide
theorem smls.mem : ∀ {fs : List Fld}, (∀ f ∈ fs, f.sml) → smls fs
  | [], _ => by unfold smls; trivial
  | f :: fs, h => by unfold smls; exact ⟨h f (by simp), smls.mem fun g hg => h g (by simp [hg])⟩
theorem fieldD_sml {l : List UInt8} : ∀ (fuel a n : Nat) (f : Fld) (a' n' : Nat), fieldD l fuel a n = .ok (f, a', n') → f.sml
  | 0, a, n, f, a', n', h => by unfold fieldD at h; cases h
  | fuel + 1, a, n, f, a', n', h => by
    unfold fieldD at h
    split at h <;> try cases h
    split at h <;> try cases h
    rename_i nm a1 q1
    split at h <;> try cases h
    split at h <;> try cases h
    split at h <;> try cases h
    rename_i w i x c a4 q4
    split at h <;> try cases h
    rename_i cs a5 n5 q5
    have h1 := textD_lt q1
    have h2 := midD_lt q4
    obtain ⟨h3, h4⟩ := repD_all (fun a n x a' n' => fieldD_sml fuel a n x a' n') q5
    unfold Fld.sml
    simp only at h2
    have : M63 = 9223372036854775807 := rfl
    exact ⟨by omega, by omega, smls.mem h4⟩
theorem schemaD_sml {l : List UInt8} {a n : Nat} {x : List Fld × List Md} {a' n' : Nat} (h : schemaD l a n = .ok (x, a', n')) : smls x.1 := by
  unfold schemaD at h
  split at h <;> try cases h
  split at h <;> try cases h
  rename_i q
  split at h <;> try cases h
  split at h <;> try cases h
  exact smls.mem (repD_all (fun a n x a' n' => fieldD_sml 64 a n x a' n') q).2
theorem bodyD_fs {l : List UInt8} {k id : Int} {de : Bool} {a n : Nat} {H : Hd} {a' n' : Nat} (h : bodyD l k id de a n = .ok (H, a', n')) : H.fs = [] := by
  unfold bodyD at h
  split at h <;> try cases h
  split at h <;> try cases h
  split at h <;> try cases h
  split at h <;> try cases h
  split at h <;> try cases h
  split at h <;> try cases h
  rfl
theorem headD_sml {l : List UInt8} {H : Hd} {a' n' : Nat} (h : headD l = .ok (H, a', n')) : smls H.fs := by
  unfold headD at h
  split at h <;> try cases h
  split at h <;> try cases h
  split at h <;> try cases h
  split at h <;> try cases h
  unfold restD at h
  have nl : ∀ {H : Hd}, H.fs = [] → smls H.fs := fun e => by rw [e]; unfold smls; trivial
  split at h
  · split at h <;> try cases h
    rename_i q; exact schemaD_sml q
  split at h
  · split at h <;> try cases h
    split at h <;> try cases h
    exact nl (bodyD_fs h)
  · exact nl (bodyD_fs h)
theorem getD_headD {l : List UInt8} {H : Hd} (h : getD l = .ok H) : HdOk H ∧ smls H.fs ∧ ∃ n', headD l = .ok (H, l.length, n') ∨ ∃ a, l.length < a ∧ headD l = .ok (H, a, n') := by
  unfold getD at h
  split at h <;> try cases h
  rename_i H' a n q
  split at h <;> try cases h
  split at h <;> cases h
  rename_i c hok
  refine ⟨hok, headD_sml q, n, ?_⟩
  by_cases e : a = l.length
  · subst e; exact .inl q
  · exact .inr ⟨a, by omega, q⟩
theorem Sv.rd {h : Hp} {s : Sl} {vs : List Value} (sv : Sv h s vs) : rd h s.a (s.n * 1) vs := by
  obtain ⟨h1, h2, h3⟩ := sv
  unfold Sh.rd
  cases hs : s.a with
  | none =>
    cases vs with
    | nil => rfl
    | cons x xs =>
      obtain ⟨a, ha, _⟩ := h3 (s.n - 1) (by simp at h1; omega)
      rw [hs] at ha; cases ha
  | some a =>
    refine ⟨by omega, fun i v hv => ?_⟩
    have : i < vs.length := (List.getElem?_eq_some_iff.1 hv).1
    obtain ⟨a', ha, hc⟩ := h3 (s.n - 1) (by omega)
    rw [hs] at ha; cases ha
    exact hc i v hv
/-- bytes are copied to new memory -/
theorem Ap_copy {h : Hp} {t : Sl} {x : List UInt8} {K : Sl → Hp → Prop} (hv : Sv h t (bv x)) (hx : x.length < 2 ^ 40) (hk : ∀ t1 h1, Grw h h1 → Sh h.size h1.size 1 h1 t1 (bv x) 5 → K t1 h1) : Ap h 5 #[(.int .u8 (0 : Int))] 1 1 (⟨none, 0, 0⟩ : Sl) t.n (rd h t.a (t.n * 1)) K := by
  have hn := hv.1
  have hn2 := hn
  rw [bv_len] at hn2
  refine Ap_sh (lo := h.size) (s := ⟨none, 0, 0⟩) (vs := []) (Sh.nil _ _ _ _ _) (Nat.le_refl _) rfl (new := bv x) (by omega) (fun v hv => ?_) (Sv.rd hv) (by simp only; omega) (by simp only; omega) fun s' h' f at' o _ => ?_
  · obtain ⟨b, _, rfl⟩ := List.mem_map.1 hv; rfl
  · exact hk s' h' (f.mono fun d hd _ => absurd hd (Sl.at_nil d)).grw (by simpa using o)
end Go.Proofs.YtfomkkdijjfpiaaDoor
/- The document's reader: numbers, texts; a fault stays. -/
namespace Go.Proofs.YtfomkkdijjfpiaaDoor
open Go Go.Sh Go.WideShapes
abbrev Ste := Except Er (Nat × Nat)
def takeE (l : List UInt8) (n : Nat) : Ste → List UInt8 × Ste
  | .error e => ([], .error e)
  | .ok (a, m) => match takeD l n a with | .error e => ([], .error e) | .ok (x, a') => (x, .ok (a', m))
def numE (l : List UInt8) (w : Nat) : Ste → Nat × Ste
  | .error e => (0, .error e)
  | .ok (a, m) => match numD l w a with | .error e => (0, .error e) | .ok (x, a') => (x, .ok (a', m))
def amongE (l : List UInt8) (lo hi : Nat) : Ste → Nat × Ste
  | .error e => (0, .error e)
  | .ok (a, m) => match numD l 1 a with | .error e => (0, .error e) | .ok (x, a') => (x, if lo ≤ x ∧ x ≤ hi then .ok (a', m) else .error (8, a))
def textE (l : List UInt8) (w : Nat) (st : Ste) : ByteArray × Ste :=
  let r := numE l w st
  let q := takeE l r.1 r.2
  (bs q.1, q.2)
/-- what the six cells hold -/
def rowE (s : Sl) : Ste → Array Value → Prop
  | .ok (a, n), cs => cs = #[Sl.v s, .int .i64 a, .int .i64 n, .int .i64 0, .slice none 0 0, .int .i64 0]
  | .error e, cs => e.1 ≠ 0 ∧ ∃ a n : Nat, cs = #[Sl.v s, .int .i64 a, .int .i64 n, .int .i64 e.1, .slice none 0 0, .int .i64 e.2]
def okE (l : List UInt8) : Ste → Prop
  | .ok (a, _) => a ≤ l.length
  | .error _ => True
/-- the document's reader at p -/
structure Re (h0 : Hp) (p : Nat) (s : Sl) (l : List UInt8) (h : Hp) (st : Ste) : Prop where
  blk : ∃ cs, rowE s st cs ∧ Blk h p cs 77
  g : Grw h0 h
  hp : h0.size ≤ p
  sv : Sv h0 s (bv l)
  hl : l.length ≤ 9223372036854775807
  ok : okE l st
section
variable {h0 : Hp} {p : Nat} {s : Sl} {l : List UInt8} {h h' : Hp} {st : Ste}
theorem Re.grw (r : Re h0 p s l h st) (g : Grw h h') : Re h0 p s l h' st := ⟨by obtain ⟨cs, e, k⟩ := r.blk; exact ⟨cs, e, k.grw g⟩, Grw.trans r.g g, r.hp, r.sv, r.hl, r.ok⟩
theorem Re.tn {S : Nat → Prop} (r : Re h0 p s l h st) (f : Tn S h h') (hp : ¬ S p) (hS : ∀ d, S d → h0.size ≤ d) : Re h0 p s l h' st :=
  ⟨by obtain ⟨cs, e, k⟩ := r.blk; exact ⟨cs, e, f.blk k hp⟩, ⟨Nat.le_trans r.g.1 f.1, fun c hc => (f.2 c (Nat.lt_of_lt_of_le hc r.g.1) (fun q => by have := hS c q; omega)).trans (r.g.2 c hc)⟩, r.hp, r.sv, r.hl, r.ok⟩
theorem Re.fr {b : Nat} (r : Re h0 p s l h st) (f : Tn (· = b) h h') (hb : b ≠ p) (hb0 : h0.size ≤ b) : Re h0 p s l h' st := r.tn f (fun e => hb e.symm) fun d q => by omega
theorem Re.okk {a n : Nat} (r : Re h0 p s l h (.ok (a, n))) : Blk h p #[Sl.v s, .int .i64 a, .int .i64 n, .int .i64 0, .slice none 0 0, .int .i64 0] 77 ∧ a ≤ l.length := by
  obtain ⟨cs, e, k⟩ := r.blk; exact ⟨e ▸ k, r.ok⟩
theorem Re.err {e : Er} (r : Re h0 p s l h (.error e)) : e.1 ≠ 0 ∧ ∃ a n : Nat, Blk h p #[Sl.v s, .int .i64 a, .int .i64 n, .int .i64 e.1, .slice none 0 0, .int .i64 e.2] 77 := by
  obtain ⟨cs, ⟨q, a, n, e⟩, k⟩ := r.blk; exact ⟨q, a, n, e ▸ k⟩
theorem Re.lt (r : Re h0 p s l h st) : p < h.size := by obtain ⟨cs, _, k⟩ := r.blk; exact k.lt
/-- a fault is noted -/
theorem wrong_e {a n : Nat} {e y : Int} {K : Hp → Prop} {Kp : List PanicEntry → Hp → Prop} (r : Re h0 p s l h (.ok (a, n))) (he : e ≠ 0)
    (hk : ∀ h', Tn (· = p) h h' → Re h0 p s l h' (.error (e, y)) → K h') : Fn35 (some ⟨p, 0, none⟩) e y h K Kp := by
  obtain ⟨k, ha⟩ := r.okk
  refine Fn35.of ?_
  unfold S35
  simp only [NN_some, add_blk, Nat.zero_add, Nat.reduceAdd]
  refine Ld_blk k rfl (If_t rfl ?_)
  refine St_i k (by simp) rfl fun h1 o1 k => St_i k (by simp) rfl fun h2 o2 k => St_i k (by simp) rfl fun h3 o3 k => ?_
  have o := (o1.trans o2).trans o3
  exact hk h3 o.fr ⟨⟨_, ⟨he, a, n, by simp⟩, k⟩, Tn.old r.hp r.g o.fr, r.hp, r.sv, r.hl, trivial⟩
theorem take_e {n : Nat} {x : Int} {K : Sl → Hp → Prop} {Kp : List PanicEntry → Hp → Prop} (r : Re h0 p s l h st) (hx : x = n) (hn : n < 2 ^ 40)
    (hk : ∀ t h', Tn (· = p) h h' → Re h0 p s l h' (takeE l n st).2 → Sv h' t (bv (takeE l n st).1) → K t h') : Fn50 (some ⟨p, 0, none⟩) x h K Kp := by
  subst hx
  have hs := r.sv.1
  rw [bv_len] at hs
  have hl := r.hl
  refine Fn50.of ?_
  unfold S50
  simp only [NN_some, add_blk, Nat.zero_add]
  cases st with
  | error e =>
    obtain ⟨he, a, m, k⟩ := r.err
    exact Ld_blk k rfl (If_t (by simp [he]) (hk _ h (Tn.refl _ _) r (Sv.nil h)))
  | ok am =>
    obtain ⟨a, m⟩ := am
    obtain ⟨k, ha⟩ := r.okk
    refine Ld_blk k rfl (If_f (by simp) (Ld_blk k rfl (Ld_blk k rfl (Wr_i64 (by omega) (by omega) (If_i (fun c => ?_) fun c => ?_)))))
    · simp only [decide_eq_true_eq, decide_eq_false_iff_not, beq_iff_eq, beq_eq_false_iff_ne, ne_eq, reduceCtorEq, true_iff, false_iff, Bool.not_eq_true', Bool.not_eq_false', bne_iff_ne, bne_eq_false_iff_eq, Bool.not_true, Bool.not_false, Decidable.not_not] at c
      have e : takeD l n a = .error (51, a) := by unfold takeD; rw [if_neg (by omega)]
      refine Ld_blk k rfl (wrong_e r (by omega) fun h1 f1 r1 => ?_)
      have ee : takeE l n (.ok (a, m)) = ([], .error (51, a)) := by simp only [takeE, e]
      rw [ee] at hk
      exact hk _ h1 f1 r1 (Sv.nil h1)
    · simp only [decide_eq_true_eq, decide_eq_false_iff_not, beq_iff_eq, beq_eq_false_iff_ne, ne_eq, reduceCtorEq, true_iff, false_iff, Bool.not_eq_true', Bool.not_eq_false', bne_iff_ne, bne_eq_false_iff_eq, Bool.not_true, Bool.not_false, Decidable.not_not] at c
      have e : takeD l n a = .ok ((l.drop a).take n, a + n) := by unfold takeD; rw [if_pos (by omega)]
      have ee : takeE l n (.ok (a, m)) = ((l.drop a).take n, .ok (a + n, m)) := by simp only [takeE, e]
      rw [ee] at hk
      refine J50_1.of ?_
      unfold JT50_1
      simp only [NN_some, add_blk, Nat.zero_add]
      refine Ld_blk k rfl (Ld_blk k rfl (Ld_blk k rfl (Wr_i64 (by omega) (by omega) ?_)))
      refine Sv.cut (r.sv.grw r.g) (lo := a) (hi := a + n) (by omega) (by omega) (by omega) (by omega) fun t ht hv => ?_
      have e1 : a + n - a = n := by omega
      rw [e1] at ht hv
      refine Ap_copy hv (by simp; omega) fun t1 h1 g1 hv1 => ?_
      have r1 := r.grw g1
      refine J50_2.of ?_
      unfold JT50_2
      simp only [NN_some, add_blk, Nat.zero_add]
      refine Ld_blk r1.okk.1 rfl (Wr_i64 (by omega) (by omega) (St_i r1.okk.1 (by simp) rfl fun h2 o2 k2 => ?_))
      have r2 : Re h0 p s l h2 (.ok (a + n, m)) := ⟨⟨_, rfl, by simpa using k2⟩, Tn.old r1.hp r1.g o2.fr, r.hp, r.sv, r.hl, by show a + n ≤ l.length; omega⟩
      exact hk t1 h2 ((Tn.of_grw g1).trans o2.fr) r2 (hv1.fr o2.fr fun b h3 _ q => by have := r.lt; omega).sv
theorem takeE_len {n : Nat} {st : Ste} (h : (takeE l n st).1 ≠ []) : (takeE l n st).1.length = n ∧ ∀ e, (takeE l n st).2 ≠ .error e := by
  cases st with
  | error e => exact absurd rfl h
  | ok am =>
    obtain ⟨a, m⟩ := am
    simp only [takeE] at h ⊢
    unfold takeD at h ⊢
    split
    · rename_i q; rw [q] at h; exact absurd rfl h
    · rename_i x a' q
      split at q <;> cases q
      rename_i c
      exact ⟨by simp; omega, fun e q => by cases q⟩
theorem numE_eq {w : Nat} {st : Ste} : numE l w st = (leN (takeE l w st).1, (takeE l w st).2) := by
  cases st with
  | error e => rfl
  | ok am =>
    obtain ⟨a, m⟩ := am
    simp only [numE, takeE, numD]
    cases takeD l w a with
    | error e => rfl
    | ok y => rfl
theorem number_e {w : Nat} {x : Int} {K : Int → Hp → Prop} {Kp : List PanicEntry → Hp → Prop} (r : Re h0 p s l h st) (hx : x = w) (hw : w ≤ 4)
    (hk : ∀ h', Tn (· = p) h h' → Re h0 p s l h' (numE l w st).2 → K ((numE l w st).1 : Int) h') : Fn33 (some ⟨p, 0, none⟩) x h K Kp := by
  refine Fn33.of ?_
  unfold S33
  refine take_e r hx (by omega) fun t h1 f1 r1 hv => ?_
  have hkk := hk h1 f1 (by rw [numE_eq]; exact r1)
  rw [numE_eq] at hkk
  clear hk
  have hyl : (takeE l w st).1.length ≤ w := by
    by_cases e : (takeE l w st).1 = []
    · rw [e]; exact Nat.zero_le _
    · exact Nat.le_of_eq (takeE_len e).1
  generalize (takeE l w st).1 = y at hv hkk hyl
  have hn := hv.1
  rw [bv_len] at hn
  refine Wr_i64 (by omega) (by omega) ?_
  refine L33_1.rule (fun acc k h' => h' = h1 ∧ ∃ i : Nat, k = (i : Int) - 1 ∧ i ≤ y.length ∧ acc = (leN (y.drop i) : Int)) (fun _ k _ => (k + 1).toNat) ⟨rfl, y.length, by omega, Nat.le_refl _, by simp [leN]⟩ ?_
  rintro acc k h2 ⟨rfl, i, rfl, hi, rfl⟩ N1 hN
  unfold T33_1
  refine If_i (fun c => ?_) fun c => ?_
  · simp only [decide_eq_true_eq, decide_eq_false_iff_not, beq_iff_eq, beq_eq_false_iff_ne, ne_eq, reduceCtorEq, true_iff, false_iff, Bool.not_eq_true', Bool.not_eq_false', bne_iff_ne, bne_eq_false_iff_eq, Bool.not_true, Bool.not_false, Decidable.not_not] at c
    obtain ⟨j, rfl⟩ : ∃ j, i = j + 1 := ⟨i - 1, by omega⟩
    have ei : y[j]? = some y[j] := List.getElem?_eq_getElem hi
    have hd : y.drop j = y[j] :: y.drop (j + 1) := List.drop_eq_getElem_cons hi
    generalize y[j] = b at ei hd
    have hb := b.toNat_lt
    have hacc := leN_lt (y.drop (j + 1))
    have hlen : (y.drop (j + 1)).length ≤ 3 := by simp; omega
    have hp : (256 : Nat) ^ (y.drop (j + 1)).length ≤ 256 ^ 3 := Nat.pow_le_pow_right (by omega) hlen
    have e1 : (((j + 1 : Nat) : Int) - 1).toNat = j := by omega
    refine Wr_i64 (by omega) (by omega) ?_
    refine hv.ix (v := .int .u8 (b.toNat : Int)) (by omega) (by omega) (by rw [e1, bv, List.getElem?_map, ei]; rfl) fun pa ca => ?_
    refine ⟨_, ca, Wr_i64 (by omega) (by omega) (Wr_i64 (by omega) (by omega) (Wr_i64 (by omega) (by omega) ?_))⟩
    refine hN _ _ _ ⟨rfl, j, by omega, by omega, ?_⟩ (by omega)
    rw [hd, leN]; omega
  · simp only [decide_eq_true_eq, decide_eq_false_iff_not, beq_iff_eq, beq_eq_false_iff_ne, ne_eq, reduceCtorEq, true_iff, false_iff, Bool.not_eq_true', Bool.not_eq_false', bne_iff_ne, bne_eq_false_iff_eq, Bool.not_true, Bool.not_false, Decidable.not_not] at c
    have : i = 0 := by omega
    subst this
    simpa using hkk
theorem within_e {lo hi : Nat} {x y : Int} {K : Int → Hp → Prop} {Kp : List PanicEntry → Hp → Prop} (r : Re h0 p s l h st) (hx : x = lo) (hy : y = hi)
    (hk : ∀ h', Tn (· = p) h h' → Re h0 p s l h' (amongE l lo hi st).2 → K ((amongE l lo hi st).1 : Int) h') : Fn31 (some ⟨p, 0, none⟩) x y h K Kp := by
  subst hx hy
  refine Fn31.of ?_
  unfold S31
  simp only [NN_some, add_blk, Nat.zero_add]
  cases st with
  | error e =>
    obtain ⟨he, a, m, k⟩ := r.err
    refine Ld_blk k rfl ?_
    refine number_e (w := 1) r rfl (by omega) fun h1 f1 r1 => ?_
    obtain ⟨he, a, m, k⟩ := r1.err
    refine Ld_blk k rfl (If_f (by simp [he]) (hk h1 f1 r1))
  | ok am =>
    obtain ⟨a, m⟩ := am
    refine Ld_blk r.okk.1 rfl ?_
    refine number_e (w := 1) r rfl (by omega) fun h1 f1 r1 => ?_
    cases hq : numD l 1 a with
    | error e =>
      have e1 : numE l 1 (.ok (a, m)) = (0, .error e) := by simp only [numE, hq]
      have e2 : amongE l lo hi (.ok (a, m)) = (0, .error e) := by simp only [amongE, hq]
      rw [e1] at r1 ⊢
      rw [e2] at hk
      obtain ⟨he, a', m', k⟩ := r1.err
      exact Ld_blk k rfl (If_f (by simp [he]) (hk h1 f1 r1))
    | ok z =>
      obtain ⟨z, a1⟩ := z
      have e1 : numE l 1 (.ok (a, m)) = (z, .ok (a1, m)) := by simp only [numE, hq]
      have e2 : amongE l lo hi (.ok (a, m)) = (z, if lo ≤ z ∧ z ≤ hi then .ok (a1, m) else .error (8, (a : Int))) := by simp only [amongE, hq]
      rw [e1] at r1 ⊢
      rw [e2] at hk
      refine Ld_blk r1.okk.1 rfl (If_t (by simp) (If_i (fun c => ?_) fun c => If_i (fun c2 => ?_) fun c2 => ?_))
      · simp only [decide_eq_true_eq, decide_eq_false_iff_not, beq_iff_eq, beq_eq_false_iff_ne, ne_eq, reduceCtorEq, true_iff, false_iff, Bool.not_eq_true', Bool.not_eq_false', bne_iff_ne, bne_eq_false_iff_eq, Bool.not_true, Bool.not_false, Decidable.not_not] at c
        rw [if_neg (by omega)] at hk
        exact wrong_e r1 (by omega) fun h2 f2 r2 => hk h2 (f1.trans f2) r2
      · simp only [decide_eq_true_eq, decide_eq_false_iff_not, beq_iff_eq, beq_eq_false_iff_ne, ne_eq, reduceCtorEq, true_iff, false_iff, Bool.not_eq_true', Bool.not_eq_false', bne_iff_ne, bne_eq_false_iff_eq, Bool.not_true, Bool.not_false, Decidable.not_not] at c2
        rw [if_neg (by omega)] at hk
        exact wrong_e r1 (by omega) fun h2 f2 r2 => hk h2 (f1.trans f2) r2
      · simp only [decide_eq_true_eq, decide_eq_false_iff_not, beq_iff_eq, beq_eq_false_iff_ne, ne_eq, reduceCtorEq, true_iff, false_iff, Bool.not_eq_true', Bool.not_eq_false', bne_iff_ne, bne_eq_false_iff_eq, Bool.not_true, Bool.not_false, Decidable.not_not] at c c2
        rw [if_pos (by omega)] at hk
        exact hk h1 f1 r1
theorem numE_lt {w : Nat} {st : Ste} : (numE l w st).1 < 256 ^ w := by
  cases st with
  | error e => exact Nat.pow_pos (by omega)
  | ok am =>
    obtain ⟨a, m⟩ := am
    simp only [numE]
    cases hq : numD l w a with
    | error e => exact Nat.pow_pos (by omega)
    | ok y => exact numD_lt (a' := y.2) hq
theorem text_e {w : Nat} {x : Int} {K : ByteArray → Hp → Prop} {Kp : List PanicEntry → Hp → Prop} (r : Re h0 p s l h st) (hx : x = w) (hw : w ≤ 4)
    (hk : ∀ h', Tn (· = p) h h' → Re h0 p s l h' (textE l w st).2 → K (textE l w st).1 h') : Fn49 (some ⟨p, 0, none⟩) x h K Kp := by
  refine Fn49.of ?_
  unfold S49
  refine number_e r hx hw fun h1 f1 r1 => ?_
  have h4 : (256 : Nat) ^ w ≤ 256 ^ 4 := Nat.pow_le_pow_right (by omega) hw
  have := numE_lt (l := l) (w := w) (st := st)
  refine take_e r1 rfl (by omega) fun t h2 f2 r2 hv => ?_
  exact Bts_i hv (hk h2 (f1.trans f2) r2)
end
end Go.Proofs.YtfomkkdijjfpiaaDoor
/- The document's reader: a field's lists. -/
namespace Go.Proofs.YtfomkkdijjfpiaaDoor
open Go Go.Sh Go.WideShapes
/-- one field more, by way of a variable and a copy -/
theorem grow_e {D : Nat → Prop} {lo b5 i : Nat} {h : Hp} {sl t : Sl} {xs : List Fld} {f : Fld} {cs : Array Value} {el : TypeId} {C : Sl → Hp → Prop} (A : Acc D lo h sl xs) (hf : FsD D h t f.cs) (hDl : ∀ d, D d → d < h.size) (hlo : lo ≤ h.size) (k5 : Blk h b5 cs el) (hi : cs[i]? = some (Sl.v sl)) (hn : xs.length ≤ 70000)
    (hk : ∀ s' h', Tn (fun c => sl.at c ∧ lo ≤ c) h h' → Acc D lo h' s' (xs ++ [f]) → C s' h') :
    New h #[(.string (bs [])), (.bool false), (.int .i64 (0 : Int)), (.int .i64 (0 : Int)), (.int .i64 (0 : Int)), (.int .i64 (0 : Int)), (.slice none 0 0)] 63 fun a6 h2 =>
        St h2 a6 (.string f.name) fun h3 => St h3 (a6.add 1) (.bool f.nul) fun h4 => St h4 (a6.add 2) (.int .i64 f.k) fun h5 => St h5 (a6.add 3) (.int .i64 f.w) fun h6 => St h6 (a6.add 4) (.int .i64 f.id) fun h7 => St h7 (a6.add 5) (.int .i64 f.ix) fun h8 => St h8 (a6.add 6) (Sl.v t) fun h9 =>
        Ld h9 ⟨b5, i, none⟩ (Sl.v) fun t26 => Ld h9 a6 (Value.string) fun t27_0 => Ld h9 (a6.add 1) (Value.bool) fun t27_1 => Ld h9 (a6.add 2) (Value.int .i64) fun t27_2 => Ld h9 (a6.add 3) (Value.int .i64) fun t27_3 => Ld h9 (a6.add 4) (Value.int .i64) fun t27_4 => Ld h9 (a6.add 5) (Value.int .i64) fun t27_5 => Ld h9 (a6.add 6) (Sl.v) fun t27_6 =>
        New h9 #[(.string t27_0), (.bool t27_1), (.int .i64 t27_2), (.int .i64 t27_3), (.int .i64 t27_4), (.int .i64 t27_5), (Sl.v t27_6)] 63 fun a28 h10 =>
        Ap h10 63 #[(.string (bs [])), (.bool false), (.int .i64 (0 : Int)), (.int .i64 (0 : Int)), (.int .i64 (0 : Int)), (.int .i64 (0 : Int)), (.slice none 0 0)] 7 80 t26 1 (rd h10 (some a28) (1 * 7)) C := by
  have lc := SyH.start No h
  refine lc.new fun b6 _ hb6 _ lc => ?_
  refine lc.st 0 rfl rfl rfl fun _ _ lc => ?_; simp only [Nat.zero_add, List.set_cons_zero, List.set_cons_succ, List.setIfInBounds_toArray] at lc; refine lc.sto 0 rfl rfl rfl fun _ _ lc => ?_; simp only [Nat.zero_add, List.set_cons_zero, List.set_cons_succ, List.setIfInBounds_toArray] at lc; refine lc.sto 0 rfl rfl rfl fun _ _ lc => ?_; simp only [Nat.zero_add, List.set_cons_zero, List.set_cons_succ, List.setIfInBounds_toArray] at lc; refine lc.sto 0 rfl rfl rfl fun _ _ lc => ?_; simp only [Nat.zero_add, List.set_cons_zero, List.set_cons_succ, List.setIfInBounds_toArray] at lc; refine lc.sto 0 rfl rfl rfl fun _ _ lc => ?_; simp only [Nat.zero_add, List.set_cons_zero, List.set_cons_succ, List.setIfInBounds_toArray] at lc; refine lc.sto 0 rfl rfl rfl fun _ _ lc => ?_; simp only [Nat.zero_add, List.set_cons_zero, List.set_cons_succ, List.setIfInBounds_toArray] at lc; refine lc.sto 0 rfl rfl rfl fun _ _ lc => ?_; simp only [Nat.zero_add, List.set_cons_zero, List.set_cons_succ, List.setIfInBounds_toArray] at lc
  rename_i h9 _
  simp only [add_blk, Nat.reduceAdd]
  have g9 := lc.grw
  have k6 : B63 h9 b6 f.name f.nul f.k f.w f.id f.ix t := lc.blk (i := 0) rfl
  clear lc
  refine Ld_blk (k5.grw g9) hi ?_
  refine Ld_blk k6 rfl (Ld_blk k6 rfl (Ld_blk k6 rfl (Ld_blk k6 rfl (Ld_blk k6 rfl (Ld_blk k6 rfl (Ld_blk k6 rfl ?_))))))
  refine New_i fun b7 h10 e7 g10 k7 _ => ?_
  have g := Grw.trans g9 g10
  have A3 : Acc D lo h10 sl xs := A.fr (S := No) (Tn.of_grw g) (fun _ _ q => q) (fun _ _ _ q => q) (fun _ q => q) (fun _ q => .inl q)
  have hf3 : FsD D h10 t f.cs := FsD.fr (S := No) (Tn.of_grw g) (fun d hd => ⟨fun q => q, hd⟩) f.cs hf
  refine Acc.ap A3 hf3 (fun d hd => Nat.lt_of_lt_of_le (hDl d hd) g.1) (Nat.le_trans hlo g.1) k7 hn fun s' h4 f4 A4 => hk s' h4 ((Tn.of_grw (S := fun c => sl.at c ∧ lo ≤ c) g).trans f4) A4
/-- seven cells are copied and handed over -/
theorem copy7 {h : Hp} {b4 b5 : Nat} {nm : ByteArray} {nul : Bool} {k w id ix : Int} {sl : Sl} {cs : Array Value} {K : ByteArray → Bool → Int → Int → Int → Int → Sl → Hp → Prop} (k4 : Blk h b4 cs 63) (hc : cs.size = 7) (k5 : B63 h b5 nm nul k w id ix sl) (hk : ∀ h', Only b4 h h' → K nm nul k w id ix sl h') :
    Ld h ⟨b5, 0, none⟩ (Value.string) fun t0 => Ld h ⟨b5, 1, none⟩ (Value.bool) fun t1 => Ld h ⟨b5, 2, none⟩ (Value.int .i64) fun t2 => Ld h ⟨b5, 3, none⟩ (Value.int .i64) fun t3 => Ld h ⟨b5, 4, none⟩ (Value.int .i64) fun t4 => Ld h ⟨b5, 5, none⟩ (Value.int .i64) fun t5 => Ld h ⟨b5, 6, none⟩ (Sl.v) fun t6 =>
    St h ⟨b4, 0, none⟩ (.string t0) fun h1 => St h1 ⟨b4, 1, none⟩ (.bool t1) fun h2 => St h2 ⟨b4, 2, none⟩ (.int .i64 t2) fun h3 => St h3 ⟨b4, 3, none⟩ (.int .i64 t3) fun h4 => St h4 ⟨b4, 4, none⟩ (.int .i64 t4) fun h5 => St h5 ⟨b4, 5, none⟩ (.int .i64 t5) fun h6 => St h6 ⟨b4, 6, none⟩ (Sl.v t6) fun h7 =>
    Ld h7 ⟨b4, 0, none⟩ (Value.string) fun r0 => Ld h7 ⟨b4, 1, none⟩ (Value.bool) fun r1 => Ld h7 ⟨b4, 2, none⟩ (Value.int .i64) fun r2 => Ld h7 ⟨b4, 3, none⟩ (Value.int .i64) fun r3 => Ld h7 ⟨b4, 4, none⟩ (Value.int .i64) fun r4 => Ld h7 ⟨b4, 5, none⟩ (Value.int .i64) fun r5 => Ld h7 ⟨b4, 6, none⟩ (Sl.v) fun r6 => K r0 r1 r2 r3 r4 r5 r6 h7 := by
  obtain ⟨v0, v1, v2, v3, v4, v5, v6, e⟩ := len7 (l := cs.toList) (by simpa using hc)
  obtain rfl : cs = #[v0, v1, v2, v3, v4, v5, v6] := by cases cs; simp_all
  refine Ld_blk k5 rfl (Ld_blk k5 rfl (Ld_blk k5 rfl (Ld_blk k5 rfl (Ld_blk k5 rfl (Ld_blk k5 rfl (Ld_blk k5 rfl ?_))))))
  refine St_i k4 (by simp) rfl fun h2 o2 k4 => St_i k4 (by simp) rfl fun h3 o3 k4 => St_i k4 (by simp) rfl fun h4 o4 k4 => St_i k4 (by simp) rfl fun h5 o5 k4 => St_i k4 (by simp) rfl fun h6 o6 k4 => St_i k4 (by simp) rfl fun h7 o7 k4 => St_i k4 (by simp) rfl fun h8 o8 k4 => ?_
  have k4 : B63 h8 b4 nm nul k w id ix sl := by simp at k4; exact k4
  have o := ((((((o2.trans o3).trans o4).trans o5).trans o6).trans o7).trans o8)
  refine Ld_blk k4 rfl (Ld_blk k4 rfl (Ld_blk k4 rfl (Ld_blk k4 rfl (Ld_blk k4 rfl (Ld_blk k4 rfl (Ld_blk k4 rfl ?_))))))
  exact hk h8 o
def stn : Ste → Prop
  | .ok (_, n) => n ≤ 256
  | .error _ => True
/-- what is read, and the reader behind it -/
def Rel {α : Type} (f : Nat → Nat → Except Er (α × Nat × Nat)) (st : Ste) (x : α) (st' : Ste) : Prop :=
  match st with
  | .error e => st' = .error e
  | .ok (a, n) => match f a n with
    | .error e => st' = .error e
    | .ok (y, a', n') => x = y ∧ st' = .ok (a', n')
/-- what the document's reader does with a field -/
def FieldE (h0 : Hp) (p : Nat) (s : Sl) (l : List UInt8) (fuel : Nat) : Prop := ∀ {h : Hp} {st : Ste} {x : Int} {K : ByteArray → Bool → Int → Int → Int → Int → Sl → Hp → Prop} {Kp : List PanicEntry → Hp → Prop}, Re h0 p s l h st → stn st → fuel ≤ 64 → x = 64 - (fuel : Int) →
  (∀ f st' t h', Tn (· = p) h h' → Re h0 p s l h' st' → stn st' → Rel (fieldD l fuel) st f st' → FsD (In h.size h'.size) h' t f.cs → K f.name f.nul f.k f.w f.id f.ix t h') → Fn48 (some ⟨p, 0, none⟩) x h K Kp
/-- within a list: what has been read so far -/
def Mid {α : Type} (f : Nat → Nat → Except Er (α × Nat × Nat)) (c : Nat) (st : Ste) (xs : List α) (i : Nat) (st' : Ste) : Prop :=
  match st with
  | .error e => st' = .error e
  | .ok (a, n) => match st' with
    | .error e => repD f c a n = .error e
    | .ok (a', n') => repD f c a n = preD xs (repD f (c - i) a' n')
theorem Mid.start {α : Type} {f : Nat → Nat → Except Er (α × Nat × Nat)} {c : Nat} {st : Ste} : Mid f c st [] 0 st := by
  unfold Mid
  cases st with
  | error e => rfl
  | ok am => exact repD_start
theorem Mid.snoc {α : Type} {f : Nat → Nat → Except Er (α × Nat × Nat)} {c i a n : Nat} {st st' : Ste} {xs : List α} {x : α} (hi : i < c) (m : Mid f c st xs i (.ok (a, n))) (r : Rel f (.ok (a, n)) x st') : Mid f c st (xs ++ [x]) (i + 1) st' := by
  unfold Mid at m ⊢
  cases st with
  | error e => cases m
  | ok am =>
    simp only [Rel] at m r ⊢
    cases hf : f a n with
    | error e => rw [hf] at r; simp only at r; subst r; exact repD_err hi m hf
    | ok y =>
      obtain ⟨y, a', n'⟩ := y
      rw [hf] at r
      obtain ⟨rfl, rfl⟩ := r
      exact repD_snoc hi m hf
theorem Mid.stop {α : Type} {f : Nat → Nat → Except Er (α × Nat × Nat)} {c i : Nat} {st : Ste} {e : Er} {xs : List α} (m : Mid f c st xs i (.error e)) : Rel (repD f c) st xs (.error e) := by
  unfold Mid at m
  unfold Rel
  cases st with
  | error e => exact m
  | ok am => simp only at m ⊢; rw [m]
theorem Mid.done {α : Type} {f : Nat → Nat → Except Er (α × Nat × Nat)} {c : Nat} {st st' : Ste} {xs : List α} (m : Mid f c st xs c st') : Rel (repD f c) st xs st' := by
  cases st' with
  | error e => exact m.stop
  | ok am =>
    unfold Mid at m
    unfold Rel
    cases st with
    | error e => cases m
    | ok am => simp only at m ⊢; rw [repD_end m]; exact ⟨rfl, rfl⟩
theorem childE {h0 : Hp} {p : Nat} {s : Sl} {l : List UInt8} {fuel : Nat} (IH : FieldE h0 p s l fuel) (hfu : fuel < 64) {h : Hp} {st : Ste} {c b4 b5 : Nat} {x y : Int} {nm : ByteArray} {nul : Bool} {k w id ix : Int} {K : ByteArray → Bool → Int → Int → Int → Int → Sl → Hp → Prop} {Kp : List PanicEntry → Hp → Prop} (r : Re h0 p s l h st) (hn : stn st)
    (hx : x + 1 = 64 - (fuel : Int)) (hc : c < 256) (hy : y = c) (k4 : B63 h b4 (bs []) false 0 0 0 0 Sl.nil) (k5 : B63 h b5 nm nul k w id ix Sl.nil) (n45 : b4 ≠ b5) (n4 : b4 ≠ p) (n5 : b5 ≠ p) (l4 : h0.size ≤ b4) (l5 : h0.size ≤ b5)
    (hk : ∀ cs st' t h', Tn (fun d => d = p ∨ d = b4 ∨ d = b5) h h' → Re h0 p s l h' st' → stn st' → Rel (repD (fieldD l fuel) c) st cs st' → FsD (In h.size h'.size) h' t cs → K nm nul k w id ix t h') : J48_2 (some ⟨p, 0, none⟩) x ⟨b4, 0, none⟩ ⟨b5, 0, none⟩ y K Kp h := by
  subst hy
  have i4 := k4.lt
  have i5 := k5.lt
  have ip := r.lt
  refine J48_2.of ?_
  unfold JT48_2
  refine L48_3.rule (fun z h1 => ∃ (i : Nat) (xs : List Fld) (sl : Sl) (st' : Ste) (D : Nat → Prop), z = i ∧ i ≤ c ∧ xs.length = i ∧ Tn (fun d => d = p ∨ d = b4 ∨ d = b5) h h1 ∧ Re h0 p s l h1 st' ∧ stn st' ∧ B63 h1 b5 nm nul k w id ix sl ∧ B63 h1 b4 (bs []) false 0 0 0 0 Sl.nil ∧
    Acc D h.size h1 sl xs ∧ (∀ d, D d → h.size ≤ d ∧ d < h1.size) ∧ Mid (fieldD l fuel) c st xs i st') (fun z _ => c - z.toNat)
    ⟨0, [], Sl.nil, st, No, rfl, by omega, rfl, Tn.refl _ _, r, hn, k5, k4, Acc.nil, fun _ q => q.elim, Mid.start⟩ ?_
  rintro z h1 ⟨i, xs, sl, st1, D, rfl, hi, hxs, f1, r1, hn1, k5, k4, A, hD, eq⟩ N1 hN
  unfold T48_3
  simp only [add_blk, Nat.reduceAdd, NN_some, Nat.zero_add]
  have fin : Rel (repD (fieldD l fuel) c) st xs st1 → ∀ h', Only b4 h1 h' → K nm nul k w id ix sl h' := fun q h' o => by
    have hfs := A.fsd (D' := In h.size h1.size) (fun d hd => hD d hd) (fun d h1 h2 => ⟨h1, h2⟩)
    exact hk xs st1 sl h' (f1.trans' o.fr fun d hd _ => .inr (.inl hd)) (r1.fr o.fr n4 l4) hn1 q (FsD.fr o.fr (fun d hd => ⟨fun e => by have := hd.1; omega, hd.1, by have := o.1; have := hd.2; omega⟩) xs hfs)
  refine If_i (fun c1 => ?_) fun c1 => ?_
  · simp only [decide_eq_true_eq, decide_eq_false_iff_not, beq_iff_eq, beq_eq_false_iff_ne, ne_eq, reduceCtorEq, true_iff, false_iff, Bool.not_eq_true', Bool.not_eq_false', bne_iff_ne, bne_eq_false_iff_eq, Bool.not_true, Bool.not_false, Decidable.not_not] at c1
    cases st1 with
    | error e =>
      obtain ⟨he, a, m, kp⟩ := r1.err
      exact Ld_blk kp rfl (If_t (by simp [he]) (copy7 k4 rfl k5 (fin eq.stop)))
    | ok am =>
      obtain ⟨a1, n1⟩ := am
      refine Ld_blk r1.okk.1 rfl (If_f (by simp) (Wr_i64 (by omega) (by omega) ?_))
      refine IH r1 hn1 (by omega) hx fun f st2 t h2 f2 r2 hn2 q hf => ?_
      have k5' := f2.blk k5 n5
      have hD2 : ∀ d, (D d ∨ In h1.size h2.size d) → h.size ≤ d ∧ d < h2.size := fun d hd => by
        rcases hd with hd | hd
        · have := hD d hd; have := f2.1; omega
        · have := f1.1; exact ⟨by have := hd.1; omega, hd.2⟩
      have A2 : Acc (fun d => D d ∨ In h1.size h2.size d) h.size h2 sl xs := A.fr f2 (fun d hd e => by have := hD d hd; omega) (fun d h1 _ e => by omega) (fun d hd => .inl hd) (fun d hd => by rcases hd with hd | hd; exact .inl hd; exact .inr hd.1)
      have hf2 : FsD (fun d => D d ∨ In h1.size h2.size d) h2 t f.cs := FsD.fr (S := No) (Tn.refl _ _) (fun d hd => ⟨fun q => q, .inr hd⟩) f.cs hf
      refine grow_e A2 hf2 (fun d hd => (hD2 d hd).2) (by have := f1.1; have := f2.1; omega) k5' (i := 6) rfl (by omega) fun s' h4 f4 A4 => ?_
      have k5 := f4.blk k5' (fun q => by have := q.2; omega)
      have k4 := f4.blk (f2.blk k4 n4) (fun q => by have := q.2; omega)
      refine St_i k5 (by simp) rfl fun h5 o5 k5 => ?_
      have f15 : Tn (fun d => d = p ∨ d = b4 ∨ d = b5) h h5 := ((f1.trans (f2.mono fun d hd _ => .inl hd)).trans' f4 (fun d hd hlt => by have := hd.2; omega)).trans' o5.fr fun d hd _ => .inr (.inr hd)
      have r4 := r2.tn f4 (fun q => by have := q.2; omega) (fun d q => by have := q.2; have := r.g.1; omega)
      refine Wr_i64 (by omega) (by omega) (hN _ _ ⟨i + 1, xs ++ [f], s', st2, _, by simp, by omega, by simp [hxs], f15, r4.fr o5.fr n5 l5, hn2, by simpa using k5, o5.blk k4 n45, A4.fr o5.fr (fun d hd e => by have := hD2 d hd; omega) (fun d h1 _ e => by omega) (fun _ q => q) (fun _ q => .inl q), fun d hd => ?_, eq.snoc (by omega) q⟩ (by omega))
      have := hD2 d hd
      have := f4.1; have := o5.1
      omega
  · simp only [decide_eq_true_eq, decide_eq_false_iff_not, beq_iff_eq, beq_eq_false_iff_ne, ne_eq, reduceCtorEq, true_iff, false_iff, Bool.not_eq_true', Bool.not_eq_false', bne_iff_ne, bne_eq_false_iff_eq, Bool.not_true, Bool.not_false, Decidable.not_not] at c1
    have : i = c := by omega
    subst this
    exact copy7 k4 rfl k5 (fin eq.done)
end Go.Proofs.YtfomkkdijjfpiaaDoor
/- The document's reader: a field. -/
namespace Go.Proofs.YtfomkkdijjfpiaaDoor
open Go Go.Sh Go.WideShapes
def midE (l : List UInt8) (k : Nat) (st : Ste) : (Nat × Nat × Nat × Nat) × Ste :=
  if k = 14 then (((numE l 2 st).1, 0, 0, 0), (numE l 2 st).2)
  else if k = 16 then (((numE l 2 st).1, 0, 0, 1), (numE l 2 st).2)
  else if k = 19 then ((0, (numE l 2 st).1, (numE l 1 (numE l 2 st).2).1, 1), (numE l 1 (numE l 2 st).2).2)
  else if k = 17 ∨ k = 18 then ((0, 0, 0, (numE l 1 st).1), (numE l 1 st).2)
  else if k = 15 ∨ k = 20 then ((0, 0, 0, 1), st)
  else ((0, 0, 0, 0), st)
section
variable {l : List UInt8} {w lo hi k a a' n x : Nat} {e : Er} {y : ByteArray} {st : Ste}
theorem numE_err (h : numD l w a = .error e) : numE l w (.ok (a, n)) = (0, .error e) := by simp only [numE, h]
theorem numE_ok (h : numD l w a = .ok (x, a')) : numE l w (.ok (a, n)) = (x, .ok (a', n)) := by simp only [numE, h]
theorem numE_stay : numE l w (.error e) = (0, .error e) := rfl
theorem amongE_err (h : amongD l lo hi a = .error e) : (amongE l lo hi (.ok (a, n))).2 = .error e := by
  unfold amongD at h
  cases hq : numD l 1 a with
  | error e' => rw [hq] at h; cases h; simp only [amongE, hq]
  | ok z =>
    obtain ⟨z, a1⟩ := z
    rw [hq] at h
    simp only at h
    simp only [amongE, hq]
    split at h <;> cases h
    rename_i c; rw [if_neg c]
theorem amongE_ok (h : amongD l lo hi a = .ok (x, a')) : amongE l lo hi (.ok (a, n)) = (x, .ok (a', n)) := by
  unfold amongD at h
  cases hq : numD l 1 a with
  | error e' => rw [hq] at h; cases h
  | ok z =>
    obtain ⟨z, a1⟩ := z
    rw [hq] at h
    simp only at h
    simp only [amongE, hq]
    split at h <;> cases h
    rename_i c; rw [if_pos c]
theorem amongE_stay : amongE l lo hi (.error e) = (0, .error e) := rfl
theorem textE_err (h : textD l w a = .error e) : (textE l w (.ok (a, n))).2 = .error e := by
  unfold textD at h
  cases hq : numD l w a with
  | error e' => rw [hq] at h; cases h; simp only [textE, numE, hq, takeE]
  | ok z =>
    obtain ⟨z, a1⟩ := z
    rw [hq] at h
    simp only at h
    simp only [textE, numE, hq, takeE]
    cases ht : takeD l z a1 with
    | error e' => rw [ht] at h; cases h; rfl
    | ok y => rw [ht] at h; cases h
theorem textE_ok (h : textD l w a = .ok (y, a')) : textE l w (.ok (a, n)) = (y, .ok (a', n)) := by
  unfold textD at h
  cases hq : numD l w a with
  | error e' => rw [hq] at h; cases h
  | ok z =>
    obtain ⟨z, a1⟩ := z
    rw [hq] at h
    simp only at h
    simp only [textE, numE, hq, takeE]
    cases ht : takeD l z a1 with
    | error e' => rw [ht] at h; cases h
    | ok y => rw [ht] at h; cases h; rfl
theorem textE_stay : textE l w (.error e) = (bs [], .error e) := rfl
theorem midE_stay : (midE l k (.error e)).2 = .error e := by
  unfold midE; simp only [numE_stay]
  split; rfl
  split; rfl
  split; rfl
  split; rfl
  split <;> rfl
theorem midE_err (h : midD l k a = .error e) : (midE l k (.ok (a, n))).2 = .error e := by
  unfold midD at h
  unfold midE
  split at h
  · rename_i c; rw [if_pos c]
    cases hq : numD l 2 a with
    | error e' => rw [hq] at h; cases h; rw [numE_err hq]
    | ok z => rw [hq] at h; cases h
  rename_i c; rw [if_neg c]
  split at h
  · rename_i c; rw [if_pos c]
    cases hq : numD l 2 a with
    | error e' => rw [hq] at h; cases h; rw [numE_err hq]
    | ok z => rw [hq] at h; cases h
  rename_i c; rw [if_neg c]
  split at h
  · rename_i c; rw [if_pos c]
    cases hq : numD l 2 a with
    | error e' => rw [hq] at h; cases h; rw [numE_err hq]; rfl
    | ok z =>
      obtain ⟨z, a1⟩ := z
      rw [hq] at h
      simp only at h
      rw [numE_ok hq]
      cases hq2 : numD l 1 a1 with
      | error e' => rw [hq2] at h; cases h; simp only [numE_err hq2]
      | ok z => rw [hq2] at h; cases h
  rename_i c; rw [if_neg c]
  split at h
  · rename_i c; rw [if_pos c]
    cases hq : numD l 1 a with
    | error e' => rw [hq] at h; cases h; rw [numE_err hq]
    | ok z => rw [hq] at h; cases h
  split at h <;> cases h
theorem midE_ok {m : Nat × Nat × Nat × Nat} (h : midD l k a = .ok (m, a')) : midE l k (.ok (a, n)) = (m, .ok (a', n)) := by
  unfold midD at h
  unfold midE
  split at h
  · rename_i c; rw [if_pos c]
    cases hq : numD l 2 a with
    | error e' => rw [hq] at h; cases h
    | ok z => rw [hq] at h; cases h; rw [numE_ok hq]
  rename_i c; rw [if_neg c]
  split at h
  · rename_i c; rw [if_pos c]
    cases hq : numD l 2 a with
    | error e' => rw [hq] at h; cases h
    | ok z => rw [hq] at h; cases h; rw [numE_ok hq]
  rename_i c; rw [if_neg c]
  split at h
  · rename_i c; rw [if_pos c]
    cases hq : numD l 2 a with
    | error e' => rw [hq] at h; cases h
    | ok z =>
      obtain ⟨z, a1⟩ := z
      rw [hq] at h
      simp only at h
      rw [numE_ok hq]
      cases hq2 : numD l 1 a1 with
      | error e' => rw [hq2] at h; cases h
      | ok z => rw [hq2] at h; cases h; simp only [numE_ok hq2]
  rename_i c; rw [if_neg c]
  split at h
  · rename_i c; rw [if_pos c]
    cases hq : numD l 1 a with
    | error e' => rw [hq] at h; cases h
    | ok z => rw [hq] at h; cases h; rw [numE_ok hq]
  rename_i c; rw [if_neg c]
  split at h
  · rename_i c; rw [if_pos c]; cases h; rfl
  · rename_i c; rw [if_neg c]; cases h; rfl
theorem stn_take (h : stn st) : stn (takeE l n st).2 := by
  cases st with
  | error e => trivial
  | ok am =>
    obtain ⟨a, m⟩ := am
    simp only [takeE]
    cases takeD l n a with
    | error e => trivial
    | ok y => exact h
theorem stn_num (h : stn st) : stn (numE l w st).2 := by rw [numE_eq]; exact stn_take h
theorem stn_text (h : stn st) : stn (textE l w st).2 := stn_take (stn_num h)
theorem stn_among (h : stn st) : stn (amongE l lo hi st).2 := by
  cases st with
  | error e => trivial
  | ok am =>
    obtain ⟨a, m⟩ := am
    simp only [amongE]
    cases numD l 1 a with
    | error e => trivial
    | ok y => simp only; split; exact h; trivial
theorem stn_mid (h : stn st) : stn (midE l k st).2 := by
  unfold midE
  split; exact stn_num h
  split; exact stn_num h
  split; exact stn_num (stn_num h)
  split; exact stn_num h
  split <;> exact h
theorem midE_lt : (midE l k st).1.2.2.2 < 256 := by
  unfold midE
  split; exact (by decide : 0 < 256)
  split; exact (by decide : 1 < 256)
  split; exact (by decide : 1 < 256)
  split; exact numE_lt (w := 1)
  split
  · exact (by decide : 1 < 256)
  · exact (by decide : 0 < 256)
end
/-- a field, read in one go -/
theorem field_chain {l : List UInt8} {fuel a n : Nat} {cs : List Fld} {st5 : Ste} (hn : n + 1 ≤ 256) (r : Rel (repD (fieldD l fuel) (midE l (amongE l 1 20 (amongE l 0 1 (textE l 1 (.ok (a, n + 1))).2).2).1 (amongE l 1 20 (amongE l 0 1 (textE l 1 (.ok (a, n + 1))).2).2).2).1.2.2.2) (midE l (amongE l 1 20 (amongE l 0 1 (textE l 1 (.ok (a, n + 1))).2).2).1 (amongE l 1 20 (amongE l 0 1 (textE l 1 (.ok (a, n + 1))).2).2).2).2 cs st5) :
    Rel (fieldD l (fuel + 1)) (.ok (a, n)) (.mk (textE l 1 (.ok (a, n + 1))).1 ((amongE l 0 1 (textE l 1 (.ok (a, n + 1))).2).1 == 1) ((amongE l 1 20 (amongE l 0 1 (textE l 1 (.ok (a, n + 1))).2).2).1 : Nat) ((midE l (amongE l 1 20 (amongE l 0 1 (textE l 1 (.ok (a, n + 1))).2).2).1 (amongE l 1 20 (amongE l 0 1 (textE l 1 (.ok (a, n + 1))).2).2).2).1.1 : Nat) ((midE l (amongE l 1 20 (amongE l 0 1 (textE l 1 (.ok (a, n + 1))).2).2).1 (amongE l 1 20 (amongE l 0 1 (textE l 1 (.ok (a, n + 1))).2).2).2).1.2.1 : Nat) ((midE l (amongE l 1 20 (amongE l 0 1 (textE l 1 (.ok (a, n + 1))).2).2).1 (amongE l 1 20 (amongE l 0 1 (textE l 1 (.ok (a, n + 1))).2).2).2).1.2.2.1 : Nat) cs) st5 := by
  unfold Rel
  simp only
  rw [show fieldD l (fuel + 1) a n = _ by unfold fieldD; exact if_neg (by omega)]
  cases q1 : textD l 1 a with
  | error e => rw [textE_err q1, amongE_stay, amongE_stay, midE_stay] at r; exact r
  | ok y =>
    obtain ⟨nm, a1⟩ := y
    rw [textE_ok q1] at r ⊢
    simp only at r ⊢
    cases q2 : amongD l 0 1 a1 with
    | error e => rw [amongE_err q2, amongE_stay, midE_stay] at r; exact r
    | ok y =>
      obtain ⟨nul, a2⟩ := y
      rw [amongE_ok q2] at r ⊢
      simp only at r ⊢
      cases q3 : amongD l 1 20 a2 with
      | error e => rw [amongE_err q3, midE_stay] at r; exact r
      | ok y =>
        obtain ⟨k, a3⟩ := y
        rw [amongE_ok q3] at r ⊢
        simp only at r ⊢
        cases q4 : midD l k a3 with
        | error e => rw [midE_err q4] at r; exact r
        | ok y =>
          obtain ⟨⟨w, i, x, c⟩, a4⟩ := y
          rw [midE_ok q4] at r ⊢
          simp only [Rel] at r ⊢
          cases q5 : repD (fieldD l fuel) c a4 (n + 1) with
          | error e => rw [q5] at r; exact r
          | ok y =>
            obtain ⟨xs, a5, n5⟩ := y
            rw [q5] at r
            obtain ⟨rfl, rfl⟩ := r
            exact ⟨rfl, rfl⟩
end Go.Proofs.YtfomkkdijjfpiaaDoor
/- The document's reader: a field, the walk. -/
namespace Go.Proofs.YtfomkkdijjfpiaaDoor
open Go Go.Sh Go.WideShapes
theorem field_e {h0 : Hp} {p : Nat} {s : Sl} {l : List UInt8} : ∀ fuel : Nat, FieldE h0 p s l fuel := by
  intro fuel
  induction fuel with
  | zero =>
    intro h st x K Kp r hn hfu hx hk
    refine Fn48.of ?_
    unfold S48
    refine New_i fun b4 h1 e1 g1 k4 _ => New_i fun b5 h2 e2 g2 k5 _ => ?_
    have ip := r.lt
    have s1 := g1.1
    have s2 := g2.1
    have hg := r.g.1
    have r2 := (r.grw g1).grw g2
    have k4 := k4.grw g2
    have i4 := k4.lt
    have f2 : Tn (· = p) h h2 := Tn.of_grw (Grw.trans g1 g2)
    have n45 : b4 ≠ b5 := by omega
    simp only [NN_some, add_blk, Nat.zero_add]
    have fin : ∀ h3 st', Tn (· = p) h2 h3 → Re h0 p s l h3 st' → stn st' → Rel (fieldD l 0) st (.mk (bs []) false 0 0 0 0 []) st' → ∀ h', Only b4 h3 h' → K (bs []) false 0 0 0 0 Sl.nil h' := fun h3 st' f3 r3 hn3 q h' o => by
      refine hk (.mk (bs []) false 0 0 0 0 []) st' Sl.nil h' (((f2.trans f3).trans' o.fr fun d hd hlt => by omega)) (r3.fr o.fr (by omega) (by omega)) hn3 q (by simp only [Fld.cs]; unfold FsD; exact ⟨rfl, Nat.le_refl _⟩)
    cases st with
    | error e =>
      obtain ⟨he, a, m, kp⟩ := r2.err
      exact Ld_blk kp rfl (If_t (by simp [he]) (copy7 k4 rfl k5 (fin h2 (.error e) (Tn.refl _ _) r2 trivial rfl)))
    | ok am =>
      obtain ⟨a, n⟩ := am
      obtain ⟨kp, ha⟩ := r2.okk
      have hn : n ≤ 256 := hn
      refine Ld_blk kp rfl (If_f (by simp) (Ld_blk kp rfl (Wr_i64 (by omega) (by omega) (St_i kp (by simp) rfl fun h3 o3 kp => ?_))))
      have kp : Blk h3 p #[Sl.v s, .int .i64 a, .int .i64 ((n + 1 : Nat) : Int), .int .i64 0, .slice none 0 0, .int .i64 0] 77 := by simpa using kp
      have r3 : Re h0 p s l h3 (.ok (a, n + 1)) := ⟨⟨_, rfl, kp⟩, Tn.old r.hp r2.g o3.fr, r.hp, r.sv, r.hl, ha⟩
      have k4 := o3.blk k4 (by omega)
      have k5 := o3.blk k5 (by omega)
      have w : Fn35 (some ⟨p, 0, none⟩) (50 : Int) a h3 (fun h4 => K (bs []) false 0 0 0 0 Sl.nil h4 → True) Kp → True := fun _ => trivial
      refine Ld_blk kp rfl (If_i (fun c => Ld_blk kp rfl ?_) fun c => If_t (by simp only [decide_eq_true_eq, decide_eq_false_iff_not, beq_iff_eq, beq_eq_false_iff_ne, ne_eq, reduceCtorEq, true_iff, false_iff, Bool.not_eq_true', Bool.not_eq_false', bne_iff_ne, bne_eq_false_iff_eq, Bool.not_true, Bool.not_false, Decidable.not_not]; omega) (Ld_blk kp rfl ?_))
      all_goals
        refine wrong_e r3 (by omega) fun h4 f4 r4 => ?_
        exact copy7 (f4.blk k4 (by omega)) rfl (f4.blk k5 (by omega)) (fin h4 _ (o3.fr.trans f4) r4 trivial (by unfold Rel; simp only [fieldD]))
  | succ fuel IH =>
    intro h st x K Kp r hn hfu hx hk
    refine Fn48.of ?_
    unfold S48
    refine New_i fun b4 h1 e1 g1 k4 _ => New_i fun b5 h2 e2 g2 k5 _ => ?_
    have ip := r.lt
    have s1 := g1.1
    have s2 := g2.1
    have hg := r.g.1
    have r2 := (r.grw g1).grw g2
    have k4 := k4.grw g2
    have i4 := k4.lt
    have f2 : Tn (· = p) h h2 := Tn.of_grw (Grw.trans g1 g2)
    have n45 : b4 ≠ b5 := by omega
    have n4 : b4 ≠ p := by omega
    have n5 : b5 ≠ p := by omega
    have l4 : h0.size ≤ b4 := by omega
    have l5 : h0.size ≤ b5 := by omega
    simp only [NN_some, add_blk, Nat.zero_add]
    have fin : ∀ h3 st', Tn (· = p) h2 h3 → Re h0 p s l h3 st' → stn st' → Rel (fieldD l (fuel + 1)) st (.mk (bs []) false 0 0 0 0 []) st' → ∀ h', Only b4 h3 h' → K (bs []) false 0 0 0 0 Sl.nil h' := fun h3 st' f3 r3 hn3 q h' o => by
      refine hk (.mk (bs []) false 0 0 0 0 []) st' Sl.nil h' (((f2.trans f3).trans' o.fr fun d hd hlt => by omega)) (r3.fr o.fr (by omega) (by omega)) hn3 q (by simp only [Fld.cs]; unfold FsD; exact ⟨rfl, Nat.le_refl _⟩)
    cases st with
    | error e =>
      obtain ⟨he, a, m, kp⟩ := r2.err
      exact Ld_blk kp rfl (If_t (by simp [he]) (copy7 k4 rfl k5 (fin h2 (.error e) (Tn.refl _ _) r2 trivial rfl)))
    | ok am =>
      obtain ⟨a, n⟩ := am
      obtain ⟨kp, ha⟩ := r2.okk
      have hn : n ≤ 256 := hn
      refine Ld_blk kp rfl (If_f (by simp) (Ld_blk kp rfl (Wr_i64 (by omega) (by omega) (St_i kp (by simp) rfl fun h3 o3 kp => ?_))))
      have kp : Blk h3 p #[Sl.v s, .int .i64 a, .int .i64 ((n + 1 : Nat) : Int), .int .i64 0, .slice none 0 0, .int .i64 0] 77 := by simpa using kp
      have r3 : Re h0 p s l h3 (.ok (a, n + 1)) := ⟨⟨_, rfl, kp⟩, Tn.old r.hp r2.g o3.fr, r.hp, r.sv, r.hl, ha⟩
      have k4 := o3.blk k4 (by omega)
      have k5 := o3.blk k5 (by omega)
      have f3 : Tn (fun d => d = p ∨ d = b4 ∨ d = b5) h h3 := (f2.trans o3.fr).mono fun d hd _ => .inl hd
      refine Ld_blk kp rfl (If_i (fun c => Ld_blk kp rfl ?_) fun c => If_f (by simp only [decide_eq_true_eq, decide_eq_false_iff_not, beq_iff_eq, beq_eq_false_iff_ne, ne_eq, reduceCtorEq, true_iff, false_iff, Bool.not_eq_true', Bool.not_eq_false', bne_iff_ne, bne_eq_false_iff_eq, Bool.not_true, Bool.not_false, Decidable.not_not]; omega) ?_)
      · simp only [decide_eq_true_eq, decide_eq_false_iff_not, beq_iff_eq, beq_eq_false_iff_ne, ne_eq, reduceCtorEq, true_iff, false_iff, Bool.not_eq_true', Bool.not_eq_false', bne_iff_ne, bne_eq_false_iff_eq, Bool.not_true, Bool.not_false, Decidable.not_not] at c
        refine wrong_e r3 (by omega) fun h4 f4 r4 => ?_
        exact copy7 (f4.blk k4 (by omega)) rfl (f4.blk k5 (by omega)) (fin h4 _ (o3.fr.trans f4) r4 trivial (by unfold Rel; simp only; rw [show fieldD l (fuel + 1) a n = .error (50, (a : Int)) by unfold fieldD; exact if_pos (by omega)]))
      simp only [decide_eq_true_eq, decide_eq_false_iff_not, beq_iff_eq, beq_eq_false_iff_ne, ne_eq, reduceCtorEq, true_iff, false_iff, Bool.not_eq_true', Bool.not_eq_false', bne_iff_ne, bne_eq_false_iff_eq, Bool.not_true, Bool.not_false, Decidable.not_not] at c
      have hn3 : stn (.ok (a, n + 1)) := by show n + 1 ≤ 256; omega
      have key := @field_chain l fuel a n
      have key := fun cs st5 => @key cs st5 (by omega)
      have hx1 : x + 1 = 64 - (fuel : Int) := by omega
      generalize (Except.ok (a, n + 1) : Ste) = st0 at r3 hn3 key
      clear kp fin ha c
      refine J48_1.of ?_
      unfold JT48_1
      simp only [add_blk, Nat.reduceAdd]
      refine text_e (w := 1) r3 rfl (by omega) fun h4 f4 r4 => ?_
      have hn4 := stn_text (l := l) (w := 1) hn3
      have k4 := f4.blk k4 n4
      have k5 := f4.blk k5 n5
      have f4 : Tn (fun d => d = p ∨ d = b4 ∨ d = b5) h h4 := f3.trans (f4.mono fun d hd _ => .inl hd)
      generalize textE l 1 st0 = q1 at r4 hn4 key ⊢
      refine St_i k5 (by simp) rfl fun h5 o5 k5 => ?_
      have k4 := o5.blk k4 n45
      have r5 := r4.fr o5.fr n5 l5
      have f5 : Tn (fun d => d = p ∨ d = b4 ∨ d = b5) h h5 := f4.trans (o5.fr.mono fun d hd _ => .inr (.inr hd))
      refine within_e (lo := 0) (hi := 1) r5 rfl rfl fun h6 f6 r6 => ?_
      have hn6 := stn_among (l := l) (lo := 0) (hi := 1) hn4
      have k4 := f6.blk k4 n4
      have k5 := f6.blk k5 n5
      have f6 : Tn (fun d => d = p ∨ d = b4 ∨ d = b5) h h6 := f5.trans (f6.mono fun d hd _ => .inl hd)
      generalize amongE l 0 1 q1.2 = q2 at r6 hn6 key ⊢
      refine St_i k5 (by simp) rfl fun h7 o7 k5 => ?_
      have k4 := o7.blk k4 n45
      have r7 := r6.fr o7.fr n5 l5
      have f7 : Tn (fun d => d = p ∨ d = b4 ∨ d = b5) h h7 := f6.trans (o7.fr.mono fun d hd _ => .inr (.inr hd))
      refine within_e (lo := 1) (hi := 20) r7 rfl rfl fun h8 f8 r8 => ?_
      have hn8 := stn_among (l := l) (lo := 1) (hi := 20) hn6
      have k4 := f8.blk k4 n4
      have k5 := f8.blk k5 n5
      have f8 : Tn (fun d => d = p ∨ d = b4 ∨ d = b5) h h8 := f7.trans (f8.mono fun d hd _ => .inl hd)
      generalize amongE l 1 20 q2.2 = q3 at r8 hn8 key ⊢
      refine St_i k5 (by simp) rfl fun h9 o9 k5 => ?_
      have k4 := o9.blk k4 n45
      have r9 := r8.fr o9.fr n5 l5
      have f9 : Tn (fun d => d = p ∨ d = b4 ∨ d = b5) h h9 := f8.trans (o9.fr.mono fun d hd _ => .inr (.inr hd))
      have e2 : ((q2.1 : Int) == 1) = (q2.1 == 1) := by
        rw [Bool.eq_iff_iff, beq_iff_eq, beq_iff_eq]; omega
      have k5 : B63 h9 b5 q1.1 (q2.1 == 1) q3.1 0 0 0 Sl.nil := by rw [← e2]; simp at k5; exact k5
      obtain ⟨k, st3⟩ := q3
      simp only at key r9 hn8 k5 ⊢
      have hm := stn_mid (l := l) (k := k) hn8
      have hc := midE_lt (l := l) (k := k) (st := st3)
      have leaf : ∀ (w i x' c : Nat) st' h', Tn (fun d => d = p ∨ d = b4 ∨ d = b5) h9 h' → Re h0 p s l h' st' → B63 h' b5 q1.1 (q2.1 == 1) k w i x' Sl.nil → midE l k st3 = ((w, i, x', c), st') → J48_2 (some ⟨p, 0, none⟩) x ⟨b4, 0, none⟩ ⟨b5, 0, none⟩ (c : Int) K Kp h' → True := fun _ _ _ _ _ _ _ _ _ _ _ => trivial
      have leaf : ∀ (w i x' c : Nat) st' h', Tn (fun d => d = p ∨ d = b5) h9 h' → Re h0 p s l h' st' → B63 h' b5 q1.1 (q2.1 == 1) k w i x' Sl.nil → midE l k st3 = ((w, i, x', c), st') → J48_2 (some ⟨p, 0, none⟩) x ⟨b4, 0, none⟩ ⟨b5, 0, none⟩ (c : Int) K Kp h' := by
        intro w i x' c st' h' f r' k5 e
        rw [e] at hm hc key
        refine childE IH (by omega) r' hm hx1 hc rfl (f.blk k4 (by omega)) k5 n45 n4 n5 l4 l5 fun cs st5 t h'' f' r'' hn' q hfs => ?_
        refine hk (.mk q1.1 (q2.1 == 1) k w i x' cs) st5 t h'' ((((f9.trans' f fun d hd _ => by omega).trans f').mono fun d hd hlt => by omega)) r'' hn' (key cs st5 q) (FsD.fr (S := No) (Tn.refl _ _) (fun d hd => ⟨fun q => q, ?_⟩) cs hfs)
        have := hd.1; have := hd.2; have := f9.1; have := f.1
        exact ⟨by omega, by omega⟩
      refine Ld_blk k5 rfl ?_
      have fp : ∀ {h h' : Hp}, Tn (· = p) h h' → Tn (fun d => d = p ∨ d = b5) h h' := fun f => f.mono fun d hd _ => .inl hd
      have num17 : (k = 17 ∨ k = 18) → Fn33 (some ⟨p, 0, none⟩) 1 h9 (fun t81 h7 => J48_2 (some ⟨p, 0, none⟩) x ⟨b4, 0, none⟩ ⟨b5, 0, none⟩ t81 K Kp h7) Kp := fun c => by
        refine number_e (w := 1) r9 rfl (by omega) fun h10 f10 r10 => ?_
        exact leaf 0 0 0 _ _ h10 (fp f10) r10 (f10.blk k5 n5) (by unfold midE; rw [if_neg (by omega), if_neg (by omega), if_neg (by omega), if_pos c])
      have one : k = 15 ∨ k = 20 → J48_2 (some ⟨p, 0, none⟩) x ⟨b4, 0, none⟩ ⟨b5, 0, none⟩ 1 K Kp h9 := fun c =>
        leaf 0 0 0 1 _ h9 (Tn.refl _ _) r9 k5 (by unfold midE; rw [if_neg (by omega), if_neg (by omega), if_neg (by omega), if_neg (by omega), if_pos c])
      have zero : ¬ (k = 14 ∨ k = 15 ∨ k = 16 ∨ k = 17 ∨ k = 18 ∨ k = 19 ∨ k = 20) → J48_2 (some ⟨p, 0, none⟩) x ⟨b4, 0, none⟩ ⟨b5, 0, none⟩ 0 K Kp h9 := fun c =>
        leaf 0 0 0 0 _ h9 (Tn.refl _ _) r9 k5 (by unfold midE; rw [if_neg (by omega), if_neg (by omega), if_neg (by omega), if_neg (by omega), if_neg (by omega)])
      refine If_i (fun c => ?_) fun c14 => If_i (fun c => ?_) fun c16 => If_i (fun c => ?_) fun c19 => If_i (fun c => If_t c (num17 ?_)) fun c17 => If_i (fun c => num17 ?_) fun c18 => If_i (fun c => If_t c (one ?_)) fun c15 => If_i (fun c => one ?_) fun c20 => zero ?_
      · simp only [decide_eq_true_eq, decide_eq_false_iff_not, beq_iff_eq, beq_eq_false_iff_ne, ne_eq, reduceCtorEq, true_iff, false_iff, Bool.not_eq_true', Bool.not_eq_false', bne_iff_ne, bne_eq_false_iff_eq, Bool.not_true, Bool.not_false, Decidable.not_not] at c
        refine number_e (w := 2) r9 rfl (by omega) fun h10 f10 r10 => St_i (f10.blk k5 n5) (by simp) rfl fun h11 o11 k5 => ?_
        exact leaf _ 0 0 0 _ h11 ((fp f10).trans (o11.fr.mono fun d hd _ => .inr hd)) (r10.fr o11.fr n5 l5) (by simp at k5; exact k5) (by unfold midE; rw [if_pos (by omega)])
      · simp only [decide_eq_true_eq, decide_eq_false_iff_not, beq_iff_eq, beq_eq_false_iff_ne, ne_eq, reduceCtorEq, true_iff, false_iff, Bool.not_eq_true', Bool.not_eq_false', bne_iff_ne, bne_eq_false_iff_eq, Bool.not_true, Bool.not_false, Decidable.not_not] at c c14
        refine number_e (w := 2) r9 rfl (by omega) fun h10 f10 r10 => St_i (f10.blk k5 n5) (by simp) rfl fun h11 o11 k5 => ?_
        exact leaf _ 0 0 1 _ h11 ((fp f10).trans (o11.fr.mono fun d hd _ => .inr hd)) (r10.fr o11.fr n5 l5) (by simp at k5; exact k5) (by unfold midE; rw [if_neg (by omega), if_pos (by omega)])
      · simp only [decide_eq_true_eq, decide_eq_false_iff_not, beq_iff_eq, beq_eq_false_iff_ne, ne_eq, reduceCtorEq, true_iff, false_iff, Bool.not_eq_true', Bool.not_eq_false', bne_iff_ne, bne_eq_false_iff_eq, Bool.not_true, Bool.not_false, Decidable.not_not] at c c14 c16
        refine number_e (w := 2) r9 rfl (by omega) fun h10 f10 r10 => St_i (f10.blk k5 n5) (by simp) rfl fun h11 o11 k5 => ?_
        refine number_e (w := 1) (r10.fr o11.fr n5 l5) rfl (by omega) fun h12 f12 r12 => St_i (f12.blk k5 n5) (by simp) rfl fun h13 o13 k5 => ?_
        exact leaf 0 _ _ 1 _ h13 ((((fp f10).trans (o11.fr.mono fun d hd _ => .inr hd)).trans (fp f12)).trans (o13.fr.mono fun d hd _ => .inr hd)) (r12.fr o13.fr n5 l5) (by simp at k5; exact k5) (by unfold midE; rw [if_neg (by omega), if_neg (by omega), if_pos (by omega)])
      all_goals simp only [decide_eq_true_eq, decide_eq_false_iff_not, beq_iff_eq, beq_eq_false_iff_ne, ne_eq, reduceCtorEq, true_iff, false_iff, Bool.not_eq_true', Bool.not_eq_false', bne_iff_ne, bne_eq_false_iff_eq, Bool.not_true, Bool.not_false, Decidable.not_not] at *
      all_goals omega
end Go.Proofs.YtfomkkdijjfpiaaDoor
/- The document's reader: a schema. -/
namespace Go.Proofs.YtfomkkdijjfpiaaDoor
open Go Go.Sh Go.WideShapes
theorem copy2 {h : Hp} {b2 b3 : Nat} {t1 t2 : Sl} {cs : Array Value} {K : Sl → Sl → Hp → Prop} (k2 : Blk h b2 cs 25) (hc : cs.size = 2) (k3 : B25 h b3 t1 t2) (hk : ∀ h', Only b2 h h' → K t1 t2 h') :
    Ld h ⟨b3, 0, none⟩ (Sl.v) fun t0 => Ld h ⟨b3, 1, none⟩ (Sl.v) fun t1 => St h ⟨b2, 0, none⟩ (Sl.v t0) fun h1 => St h1 ⟨b2, 1, none⟩ (Sl.v t1) fun h2 => Ld h2 ⟨b2, 0, none⟩ (Sl.v) fun r0 => Ld h2 ⟨b2, 1, none⟩ (Sl.v) fun r1 => K r0 r1 h2 := by
  obtain ⟨v0, v1, e⟩ := len2 (l := cs.toList) (by simpa using hc)
  obtain rfl : cs = #[v0, v1] := by cases cs; simp_all
  refine Ld_blk k3 rfl (Ld_blk k3 rfl (St_i k2 (by simp) rfl fun h1 o1 k2 => St_i k2 (by simp) rfl fun h2 o2 k2 => ?_))
  have k2 : B25 h2 b2 t1 t2 := by simp at k2; exact k2
  exact Ld_blk k2 rfl (Ld_blk k2 rfl (hk h2 (o1.trans o2)))
theorem note_chain {l : List UInt8} {a n : Nat} : Rel (noteD l) (.ok (a, n)) ((textE l 2 (.ok (a, n))).1, (textE l 2 (textE l 2 (.ok (a, n))).2).1) (textE l 2 (textE l 2 (.ok (a, n))).2).2 := by
  unfold Rel
  simp only [noteD]
  cases q1 : textD l 2 a with
  | error e => rw [textE_err q1, textE_stay]
  | ok y =>
    obtain ⟨x, a1⟩ := y
    rw [textE_ok q1]
    simp only
    cases q2 : textD l 2 a1 with
    | error e => rw [textE_err q2]
    | ok y =>
      obtain ⟨z, a2⟩ := y
      rw [textE_ok q2]
      exact ⟨rfl, rfl⟩
theorem notesE {h0 : Hp} {p : Nat} {s : Sl} {l : List UInt8} {h : Hp} {st : Ste} {c b2 b3 : Nat} {y : Int} {t1 : Sl} {cs : Array Value} {K : Sl → Sl → Hp → Prop} {Kp : List PanicEntry → Hp → Prop} (r : Re h0 p s l h st) (hn : stn st) (hc : c < 65536) (hy : y = c)
    (k2 : Blk h b2 cs 25) (hcs : cs.size = 2) (k3 : B25 h b3 t1 Sl.nil) (n23 : b2 ≠ b3) (n2 : b2 ≠ p) (n3 : b3 ≠ p) (l2 : h0.size ≤ b2) (l3 : h0.size ≤ b3)
    (hk : ∀ ms st' t h', Tn (fun d => d = p ∨ d = b3 ∨ d = b2) h h' → Re h0 p s l h' st' → stn st' → Rel (repD (noteD l) c) st ms st' → Sh h.size h'.size 2 h' t (mdsV ms) 66 → K t1 t h') : L32_2 (some ⟨p, 0, none⟩) ⟨b2, 0, none⟩ ⟨b3, 0, none⟩ y K Kp 0 h := by
  subst hy
  have i2 := k2.lt
  have i3 := k3.lt
  have ip := r.lt
  refine L32_2.rule (fun z h1 => ∃ (i : Nat) (xs : List Md) (sl : Sl) (st' : Ste), z = i ∧ i ≤ c ∧ xs.length = i ∧ Tn (fun d => d = p ∨ d = b3) h h1 ∧ Re h0 p s l h1 st' ∧ stn st' ∧ B25 h1 b3 t1 sl ∧ Blk h1 b2 cs 25 ∧ Sh h.size h1.size 2 h1 sl (mdsV xs) 66 ∧ Mid (noteD l) c st xs i st') (fun z _ => c - z.toNat)
    ⟨0, [], Sl.nil, st, rfl, by omega, rfl, Tn.refl _ _, r, hn, k3, k2, Sh.nil _ _ _ _ _, Mid.start⟩ ?_
  rintro z h1 ⟨i, xs, sl, st1, rfl, hi, hxs, f1, r1, hn1, k3, k2, o1, eq⟩ N1 hN
  unfold T32_2
  simp only [add_blk, Nat.reduceAdd, NN_some, Nat.zero_add]
  have fin : Rel (repD (noteD l) c) st xs st1 → ∀ h', Only b2 h1 h' → K t1 sl h' := fun q h' o =>
    hk xs st1 sl h' ((f1.mono fun d hd _ => by omega).trans' o.fr fun d hd _ => .inr (.inr hd)) (r1.fr o.fr n2 l2) hn1 q ((o1.fr o.fr fun b hb _ e => by omega).wide (Nat.le_refl _) (by rw [o.1]; exact Nat.le_refl _))
  refine If_i (fun c1 => ?_) fun c1 => ?_
  · simp only [decide_eq_true_eq, decide_eq_false_iff_not, beq_iff_eq, beq_eq_false_iff_ne, ne_eq, reduceCtorEq, true_iff, false_iff, Bool.not_eq_true', Bool.not_eq_false', bne_iff_ne, bne_eq_false_iff_eq, Bool.not_true, Bool.not_false, Decidable.not_not] at c1
    cases st1 with
    | error e =>
      obtain ⟨he, a, m, kp⟩ := r1.err
      exact Ld_blk kp rfl (If_t (by simp [he]) (copy2 k2 hcs k3 (fin eq.stop)))
    | ok am =>
      obtain ⟨a1, n1⟩ := am
      refine Ld_blk r1.okk.1 rfl (If_f (by simp) ?_)
      have ch := note_chain (l := l) (a := a1) (n := n1)
      have hch := eq.snoc (by omega) ch
      clear ch
      refine New_i fun b8 h2 e8 g2 k8 _ => ?_
      have r2 := r1.grw g2
      have k3 := k3.grw g2
      have k2 := k2.grw g2
      have i1 := f1.1
      have n8 : b8 ≠ p := by omega
      refine text_e (w := 2) r2 rfl (by omega) fun h3 f3 r3 => ?_
      have hn3 := stn_text (l := l) (w := 2) hn1
      generalize textE l 2 (.ok (a1, n1)) = q1 at r3 hn3 hch ⊢
      refine St_i (f3.blk k8 n8) (by simp) rfl fun h4 o4 k8 => ?_
      refine text_e (w := 2) (r3.fr o4.fr n8 (by have := r.g.1; omega)) rfl (by omega) fun h5 f5 r5 => ?_
      have hn5 := stn_text (l := l) (w := 2) hn3
      generalize textE l 2 q1.2 = q2 at r5 hn5 hch ⊢
      have k8 := f5.blk k8 n8
      simp only [add_blk, Nat.reduceAdd]
      refine St_i k8 (by simp) rfl fun h6 o6 k8 => ?_
      have k8 : Blk h6 b8 #[.string q1.1, .string q2.1] 66 := by simp at k8; exact k8
      have f26 : Tn (fun d => d = p ∨ d = b8) h2 h6 := (((f3.mono fun d hd _ => .inl hd).trans' o4.fr fun d hd _ => .inr hd).trans' f5 fun d hd _ => .inl hd).trans' o6.fr fun d hd _ => .inr hd
      have r6 := r5.fr o6.fr n8 (by have := r.g.1; omega)
      have k3 := f26.blk k3 (by omega)
      have k2 := f26.blk k2 (by omega)
      refine Ld_blk k3 rfl (Ld_blk k8 rfl (Ld_blk k8 rfl ?_))
      refine New_i fun bx h7 ex g7 kx _ => ?_
      have o7 := (((o1.grw g2).fr f26 fun b hb h' e => by have := f1.1; omega).grw g7).wide (lo' := h.size) (hi' := h7.size) (Nat.le_refl _) (by have := g2.1; have := f26.1; have := g7.1; omega)
      have hln := o7.n
      rw [mdsV_len] at hln
      refine Ap_sh o7 (by have := g2.1; have := f26.1; have := g7.1; omega) rfl (new := mdRow (q1.1, q2.1)) rfl (by simp [mdRow, one]) (rd_blk kx rfl) (by omega) (by omega) fun s' h8 f8 at8 o8 hn8 => ?_
      have hb8 : ∀ d, sl.at d → h.size ≤ d := fun d hd => (o7.at hd).1
      have hb9 : ∀ d, sl.at d → d < h1.size := fun d hd => (o1.at hd).2
      have k3 := f8.blk (k3.grw g7) (fun q => by have := hb8 _ q; omega)
      have k2 := f8.blk (k2.grw g7) (fun q => by have := hb8 _ q; omega)
      refine St_i k3 (by simp) rfl fun h9 o9 k3 => ?_
      have k3 : B25 h9 b3 t1 s' := by simp at k3; exact k3
      have f19 : Tn (fun d => d = p ∨ d = b3) h h9 := ((((f1.trans' (Tn.of_grw (S := No) g2) fun _ q => q.elim).trans' f26 fun d hd hlt => by omega).trans' (Tn.of_grw (S := No) g7) fun _ q => q.elim).trans' f8 fun d hd hlt => by have := hb8 d hd; omega).trans' o9.fr fun d hd _ => .inr hd
      have r8 := (r6.grw g7).tn f8 (fun q => by have := hb8 _ q; omega) (fun d q => by have := hb8 d q; have := r.g.1; omega)
      refine Wr_i64 (by omega) (by omega) (hN _ _ ⟨i + 1, xs ++ [(q1.1, q2.1)], s', q2.2, by simp, by omega, by simp [hxs], f19, r8.fr o9.fr n3 l3, hn5, k3, o9.blk k2 n23, ?_, hch⟩ (by omega))
      rw [mdsV_snoc]
      exact (o8.fr o9.fr fun b hb _ e => by omega).wide (Nat.le_refl _) (by rw [o9.1]; exact Nat.le_refl _)
  · simp only [decide_eq_true_eq, decide_eq_false_iff_not, beq_iff_eq, beq_eq_false_iff_ne, ne_eq, reduceCtorEq, true_iff, false_iff, Bool.not_eq_true', Bool.not_eq_false', bne_iff_ne, bne_eq_false_iff_eq, Bool.not_true, Bool.not_false, Decidable.not_not] at c1
    have : i = c := by omega
    subst this
    exact copy2 k2 hcs k3 (fin eq.done)
theorem schema_chain {l : List UInt8} {st st2 st4 : Ste} {fs : List Fld} {ms : List Md} (r1 : Rel (repD (fieldD l 64) (numE l 2 st).1) (numE l 2 st).2 fs st2) (r2 : Rel (repD (noteD l) (numE l 2 st2).1) (numE l 2 st2).2 ms st4) : Rel (schemaD l) st (fs, ms) st4 := by
  cases st with
  | error e =>
    rw [numE_stay] at r1
    simp only [Rel] at r1 ⊢
    subst r1
    rw [numE_stay] at r2
    exact r2
  | ok am =>
    obtain ⟨a, n⟩ := am
    unfold Rel
    simp only [schemaD]
    have stop : ∀ e, st2 = .error e → st4 = .error e := fun e q => by subst q; rw [numE_stay] at r2; exact r2
    cases q1 : numD l 2 a with
    | error e =>
      rw [numE_err q1] at r1
      exact stop e r1
    | ok y =>
      obtain ⟨c, a1⟩ := y
      rw [numE_ok q1] at r1
      simp only [Rel] at r1 ⊢
      cases q2 : repD (fieldD l 64) c a1 n with
      | error e => rw [q2] at r1; exact stop e r1
      | ok y =>
        obtain ⟨xs, a2, n2⟩ := y
        rw [q2] at r1
        obtain ⟨rfl, rfl⟩ := r1
        simp only
        cases q3 : numD l 2 a2 with
        | error e => rw [numE_err q3] at r2; exact r2
        | ok y =>
          obtain ⟨c2, a3⟩ := y
          rw [numE_ok q3] at r2
          simp only [Rel] at r2 ⊢
          cases q4 : repD (noteD l) c2 a3 n2 with
          | error e => rw [q4] at r2; exact r2
          | ok y =>
            obtain ⟨ys, a4, n4⟩ := y
            rw [q4] at r2
            obtain ⟨rfl, rfl⟩ := r2
            exact ⟨rfl, rfl⟩
theorem schema_e {h0 : Hp} {p : Nat} {s : Sl} {l : List UInt8} {h : Hp} {st : Ste} {K : Sl → Sl → Hp → Prop} {Kp : List PanicEntry → Hp → Prop} (r : Re h0 p s l h st) (hn : stn st)
    (hk : ∀ fs ms st' t1 t2 h', Tn (· = p) h h' → Re h0 p s l h' st' → stn st' → Rel (schemaD l) st (fs, ms) st' → FsD (In h.size h'.size) h' t1 fs → Sh h.size h'.size 2 h' t2 (mdsV ms) 66 → K t1 t2 h') : Fn32 (some ⟨p, 0, none⟩) h K Kp := by
  refine Fn32.of ?_
  unfold S32
  refine New_i fun b2 h1 e1 g1 k2 _ => New_i fun b3 h2 e2 g2 k3 _ => ?_
  have ip := r.lt
  have s1 := g1.1
  have s2 := g2.1
  have hg := r.g.1
  have r2 := (r.grw g1).grw g2
  have k2 := k2.grw g2
  have i2 := k2.lt
  have f2 : Tn (· = p) h h2 := Tn.of_grw (Grw.trans g1 g2)
  have n23 : b2 ≠ b3 := by omega
  have n2 : b2 ≠ p := by omega
  have n3 : b3 ≠ p := by omega
  have l2 : h0.size ≤ b2 := by omega
  have l3 : h0.size ≤ b3 := by omega
  refine number_e (w := 2) r2 rfl (by omega) fun h3 f3 r3 => ?_
  have hn3 := stn_num (l := l) (w := 2) hn
  have hc3 := numE_lt (l := l) (w := 2) (st := st)
  have k2 := f3.blk k2 n2
  have k3 := f3.blk k3 n3
  have i3' := k3.lt
  have f3 := f2.trans f3
  have ch := fun fs ms st2 st4 => @schema_chain l st st2 st4 fs ms
  generalize numE l 2 st = q0 at r3 hn3 hc3 ch ⊢
  obtain ⟨c, st0⟩ := q0
  simp only at r3 hn3 hc3 ch ⊢
  have i3 := f3.1
  refine L32_3.rule (fun z h4 => ∃ (i : Nat) (xs : List Fld) (sl : Sl) (st' : Ste) (D : Nat → Prop), z = i ∧ i ≤ c ∧ xs.length = i ∧ Tn (fun d => d = p ∨ d = b3) h3 h4 ∧ Re h0 p s l h4 st' ∧ stn st' ∧ B25 h4 b3 sl Sl.nil ∧ B25 h4 b2 Sl.nil Sl.nil ∧
    Acc D h3.size h4 sl xs ∧ (∀ d, D d → h3.size ≤ d ∧ d < h4.size) ∧ Mid (fieldD l 64) c st0 xs i st') (fun z _ => c - z.toNat)
    ⟨0, [], Sl.nil, st0, No, rfl, by omega, rfl, Tn.refl _ _, r3, hn3, k3, k2, Acc.nil, fun _ q => q.elim, Mid.start⟩ ?_
  rintro z h4 ⟨i, xs, sl, st1, D, rfl, hi, hxs, f4, r4, hn4, k3, k2, A, hD, eq⟩ N1 hN
  unfold T32_3
  simp only [add_blk, Nat.reduceAdd, NN_some, Nat.zero_add]
  have f4' : Tn (fun d => d = p ∨ d = b3) h h4 := (f3.mono fun d hd _ => .inl hd).trans f4
  have hfs : ∀ {h'}, Tn (fun d => d = p ∨ d = b3 ∨ d = b2) h4 h' → FsD (In h.size h'.size) h' sl xs := fun {h'} f => by
    have := A.fsd (D' := In h3.size h4.size) (fun d hd => hD d hd) (fun d h1 h2 => ⟨h1, h2⟩)
    exact FsD.fr f (fun d hd => by have := hd.1; have := hd.2; have := f.1; exact ⟨fun q => by omega, by constructor <;> omega⟩) xs this
  refine If_i (fun c1 => ?_) fun c1 => ?_
  · simp only [decide_eq_true_eq, decide_eq_false_iff_not, beq_iff_eq, beq_eq_false_iff_ne, ne_eq, reduceCtorEq, true_iff, false_iff, Bool.not_eq_true', Bool.not_eq_false', bne_iff_ne, bne_eq_false_iff_eq, Bool.not_true, Bool.not_false, Decidable.not_not] at c1
    cases st1 with
    | error e =>
      obtain ⟨he, a, m, kp⟩ := r4.err
      refine Ld_blk kp rfl (If_t (by simp [he]) (copy2 k2 rfl k3 fun h5 o5 => ?_))
      exact hk xs [] (.error e) sl Sl.nil h5 ((f4'.trans' o5.fr fun d hd hlt => by omega).mono fun d hd hlt => by omega) (r4.fr o5.fr n2 l2) trivial (ch xs [] _ _ eq.stop rfl) (hfs (o5.fr.mono fun d hd _ => .inr (.inr hd))) (Sh.nil _ _ _ _ _)
    | ok am =>
      obtain ⟨a1, n1⟩ := am
      refine Ld_blk r4.okk.1 rfl (If_f (by simp) ?_)
      refine field_e 64 r4 hn4 (by omega) (by omega) fun f st2 t h5 f5 r5 hn5 q hf => ?_
      have k3' := f5.blk k3 n3
      have hD2 : ∀ d, (D d ∨ In h4.size h5.size d) → h3.size ≤ d ∧ d < h5.size := fun d hd => by
        rcases hd with hd | hd
        · have := hD d hd; have := f5.1; omega
        · have := f4.1; exact ⟨by have := hd.1; omega, hd.2⟩
      have A2 : Acc (fun d => D d ∨ In h4.size h5.size d) h3.size h5 sl xs := A.fr f5 (fun d hd e => by have := hD d hd; omega) (fun d h1 _ e => by omega) (fun d hd => .inl hd) (fun d hd => by rcases hd with hd | hd; exact .inl hd; exact .inr hd.1)
      have hf2 : FsD (fun d => D d ∨ In h4.size h5.size d) h5 t f.cs := FsD.fr (S := No) (Tn.refl _ _) (fun d hd => ⟨fun q => q, .inr hd⟩) f.cs hf
      refine grow_e A2 hf2 (fun d hd => (hD2 d hd).2) (by have := f4.1; have := f5.1; omega) k3' (i := 0) rfl (by omega) fun s' h6 f6 A6 => ?_
      have k3 := f6.blk k3' (fun q => by have := q.2; omega)
      have k2 := f6.blk (f5.blk k2 n2) (fun q => by have := q.2; omega)
      refine St_i k3 (by simp) rfl fun h7 o7 k3 => ?_
      have f17 : Tn (fun d => d = p ∨ d = b3) h3 h7 := ((f4.trans (f5.mono fun d hd _ => .inl hd)).trans' f6 (fun d hd hlt => by have := hd.2; omega)).trans' o7.fr fun d hd _ => .inr hd
      have r6 := r5.tn f6 (fun q => by have := q.2; omega) (fun d q => by have := q.2; have := r.g.1; omega)
      refine Wr_i64 (by omega) (by omega) (hN _ _ ⟨i + 1, xs ++ [f], s', st2, _, by simp, by omega, by simp [hxs], f17, r6.fr o7.fr n3 l3, hn5, by simpa using k3, o7.blk k2 n23, A6.fr o7.fr (fun d hd e => by have := hD2 d hd; omega) (fun d h1 _ e => by omega) (fun _ q => q) (fun _ q => .inl q), fun d hd => ?_, eq.snoc (by omega) q⟩ (by omega))
      have := hD2 d hd
      have := f6.1; have := o7.1
      omega
  · simp only [decide_eq_true_eq, decide_eq_false_iff_not, beq_iff_eq, beq_eq_false_iff_ne, ne_eq, reduceCtorEq, true_iff, false_iff, Bool.not_eq_true', Bool.not_eq_false', bne_iff_ne, bne_eq_false_iff_eq, Bool.not_true, Bool.not_false, Decidable.not_not] at c1
    have : i = c := by omega
    subst this
    refine J32_1.of ?_
    unfold JT32_1
    have q1 := eq.done
    refine number_e (w := 2) r4 rfl (by omega) fun h5 f5 r5 => ?_
    have hn5 := stn_num (l := l) (w := 2) hn4
    have hc5 := numE_lt (l := l) (w := 2) (st := st1)
    have ch := fun ms st4 => ch xs ms st1 st4 q1
    generalize numE l 2 st1 = q5 at r5 hn5 hc5 ch ⊢
    have i4 := f4'.1
    have i5 := f5.1
    refine notesE r5 hn5 (by simpa using hc5) rfl (f5.blk k2 n2) rfl (f5.blk k3 n3) n23 n2 n3 l2 l3 fun ms st' t h' f r' hn' q o => ?_
    have f6 : Tn (fun d => d = p ∨ d = b3 ∨ d = b2) h4 h' := (f5.mono fun d hd _ => .inl hd).trans f
    exact hk xs ms st' sl t h' ((f4'.trans' f6 fun d hd hlt => by omega).mono fun d hd hlt => by omega) r' hn' (ch ms st' q) (hfs f6) (o.wide (by omega) (Nat.le_refl _))
end Go.Proofs.YtfomkkdijjfpiaaDoor
/- The document's reader: nodes, slots, a body. -/
namespace Go.Proofs.YtfomkkdijjfpiaaDoor
open Go Go.Sh Go.WideShapes
theorem node_chain {l : List UInt8} {a n : Nat} : Rel (nodeD l) (.ok (a, n)) (((numE l 4 (.ok (a, n))).1 : Int), ((numE l 4 (numE l 4 (.ok (a, n))).2).1 : Int)) (numE l 4 (numE l 4 (.ok (a, n))).2).2 := by
  unfold Rel
  simp only [nodeD]
  cases q1 : numD l 4 a with
  | error e => rw [numE_err q1, numE_stay]
  | ok y =>
    obtain ⟨x, a1⟩ := y
    rw [numE_ok q1]
    simp only
    cases q2 : numD l 4 a1 with
    | error e => rw [numE_err q2]
    | ok y => obtain ⟨z, a2⟩ := y; rw [numE_ok q2]; exact ⟨rfl, rfl⟩
theorem slot_chain {l : List UInt8} {a n : Nat} : Rel (slotD l) (.ok (a, n)) (((numE l 4 (.ok (a, n))).1 : Int), ((numE l 4 (numE l 4 (.ok (a, n))).2).1 : Int), ((numE l 4 (numE l 4 (numE l 4 (.ok (a, n))).2).2).1 : Int)) (numE l 4 (numE l 4 (numE l 4 (.ok (a, n))).2).2).2 := by
  unfold Rel
  simp only [slotD]
  cases q1 : numD l 4 a with
  | error e => rw [numE_err q1, numE_stay, numE_stay]
  | ok y =>
    obtain ⟨x, a1⟩ := y
    rw [numE_ok q1]
    simp only
    cases q2 : numD l 4 a1 with
    | error e => rw [numE_err q2, numE_stay]
    | ok y =>
      obtain ⟨z, a2⟩ := y
      rw [numE_ok q2]
      simp only
      cases q3 : numD l 4 a2 with
      | error e => rw [numE_err q3]
      | ok y => obtain ⟨z, a3⟩ := y; rw [numE_ok q3]; exact ⟨rfl, rfl⟩
abbrev KH := Int → Sl → Sl → Int → Bool → Int → Int → Sl → Sl → Hp → Prop
theorem Copy9 {h : Hp} {b3 b4 : Nat} {k id rows press : Int} {s1 s2 s7 s8 : Sl} {de : Bool} {cs : Array Value} {K : KH} (k4 : Blk h b4 cs 29) (hc : cs.size = 9) (k3 : B9 h b3 k s1 s2 id de rows press s7 s8) (hk : ∀ h', Only b4 h h' → K k s1 s2 id de rows press s7 s8 h') :
    Ld h ⟨b3, 0, none⟩ (Value.int .i64) fun t0 => Ld h ⟨b3, 1, none⟩ (Sl.v) fun t1 => Ld h ⟨b3, 2, none⟩ (Sl.v) fun t2 => Ld h ⟨b3, 3, none⟩ (Value.int .i64) fun t3 => Ld h ⟨b3, 4, none⟩ (Value.bool) fun t4 => Ld h ⟨b3, 5, none⟩ (Value.int .i64) fun t5 => Ld h ⟨b3, 6, none⟩ (Value.int .i64) fun t6 => Ld h ⟨b3, 7, none⟩ (Sl.v) fun t7 => Ld h ⟨b3, 8, none⟩ (Sl.v) fun t8 =>
    St h ⟨b4, 0, none⟩ (.int .i64 t0) fun h1 => St h1 ⟨b4, 1, none⟩ (Sl.v t1) fun h2 => St h2 ⟨b4, 2, none⟩ (Sl.v t2) fun h3 => St h3 ⟨b4, 3, none⟩ (.int .i64 t3) fun h4 => St h4 ⟨b4, 4, none⟩ (.bool t4) fun h5 => St h5 ⟨b4, 5, none⟩ (.int .i64 t5) fun h6 => St h6 ⟨b4, 6, none⟩ (.int .i64 t6) fun h7 => St h7 ⟨b4, 7, none⟩ (Sl.v t7) fun h8 => St h8 ⟨b4, 8, none⟩ (Sl.v t8) fun h9 =>
    Ld h9 ⟨b4, 0, none⟩ (Value.int .i64) fun r0 => Ld h9 ⟨b4, 1, none⟩ (Sl.v) fun r1 => Ld h9 ⟨b4, 2, none⟩ (Sl.v) fun r2 => Ld h9 ⟨b4, 3, none⟩ (Value.int .i64) fun r3 => Ld h9 ⟨b4, 4, none⟩ (Value.bool) fun r4 => Ld h9 ⟨b4, 5, none⟩ (Value.int .i64) fun r5 => Ld h9 ⟨b4, 6, none⟩ (Value.int .i64) fun r6 => Ld h9 ⟨b4, 7, none⟩ (Sl.v) fun r7 => Ld h9 ⟨b4, 8, none⟩ (Sl.v) fun r8 => K r0 r1 r2 r3 r4 r5 r6 r7 r8 h9 :=
  Ld_blk k3 rfl (Ld_blk k3 rfl (Ld_blk k3 rfl (Ld_blk k3 rfl (Ld_blk k3 rfl (Ld_blk k3 rfl (Ld_blk k3 rfl (Ld_blk k3 rfl (Ld_blk k3 rfl (copy9 k4 hc hk)))))))))
theorem slotsE {h0 : Hp} {p : Nat} {s : Sl} {l : List UInt8} {h : Hp} {st : Ste} {c b3 b4 : Nat} {y : Int} {k id rows press : Int} {s1 s2 s7 : Sl} {de : Bool} {cs : Array Value} {K : KH} {Kp : List PanicEntry → Hp → Prop} (r : Re h0 p s l h st) (hn : stn st) (hc : c < 65536) (hy : y = c)
    (k4 : Blk h b4 cs 29) (hcs : cs.size = 9) (k3 : B9 h b3 k s1 s2 id de rows press s7 Sl.nil) (n34 : b3 ≠ b4) (n3 : b3 ≠ p) (n4 : b4 ≠ p) (l3 : h0.size ≤ b3) (l4 : h0.size ≤ b4)
    (hk : ∀ ms st' t h', Tn (fun d => d = p ∨ d = b3 ∨ d = b4) h h' → Re h0 p s l h' st' → stn st' → Rel (repD (slotD l) c) st ms st' → Sh h.size h'.size 3 h' t (bfsV ms) 57 → K k s1 s2 id de rows press s7 t h') : L34_2 (some ⟨p, 0, none⟩) ⟨b3, 0, none⟩ ⟨b4, 0, none⟩ y K Kp 0 h := by
  subst hy
  have i3 := k3.lt
  have i4 := k4.lt
  have ip := r.lt
  have hg := r.g.1
  refine L34_2.rule (fun z h1 => ∃ (i : Nat) (xs : List Bf) (sl : Sl) (st' : Ste), z = i ∧ i ≤ c ∧ xs.length = i ∧ Tn (fun d => d = p ∨ d = b3) h h1 ∧ Re h0 p s l h1 st' ∧ stn st' ∧ B9 h1 b3 k s1 s2 id de rows press s7 sl ∧ Blk h1 b4 cs 29 ∧ Sh h.size h1.size 3 h1 sl (bfsV xs) 57 ∧ Mid (slotD l) c st xs i st') (fun z _ => c - z.toNat)
    ⟨0, [], Sl.nil, st, rfl, by omega, rfl, Tn.refl _ _, r, hn, k3, k4, Sh.nil _ _ _ _ _, Mid.start⟩ ?_
  rintro z h1 ⟨i, xs, sl, st1, rfl, hi, hxs, f1, r1, hn1, k3, k4, o1, eq⟩ N1 hN
  unfold T34_2
  simp only [add_blk, Nat.reduceAdd, NN_some, Nat.zero_add]
  have fin : Rel (repD (slotD l) c) st xs st1 → ∀ h', Only b4 h1 h' → K k s1 s2 id de rows press s7 sl h' := fun q h' o =>
    hk xs st1 sl h' ((f1.mono fun d hd _ => by omega).trans' o.fr fun d hd _ => .inr (.inr hd)) (r1.fr o.fr n4 l4) hn1 q ((o1.fr o.fr fun b hb _ e => by omega).wide (Nat.le_refl _) (by rw [o.1]; exact Nat.le_refl _))
  refine If_i (fun c1 => ?_) fun c1 => ?_
  · simp only [decide_eq_true_eq, decide_eq_false_iff_not, beq_iff_eq, beq_eq_false_iff_ne, ne_eq, reduceCtorEq, true_iff, false_iff, Bool.not_eq_true', Bool.not_eq_false', bne_iff_ne, bne_eq_false_iff_eq, Bool.not_true, Bool.not_false, Decidable.not_not] at c1
    cases st1 with
    | error e =>
      obtain ⟨he, a, m, kp⟩ := r1.err
      exact Ld_blk kp rfl (If_t (by simp [he]) (Copy9 k4 hcs k3 (fin eq.stop)))
    | ok am =>
      obtain ⟨a1, n1⟩ := am
      refine Ld_blk r1.okk.1 rfl (If_f (by simp) ?_)
      have ch := slot_chain (l := l) (a := a1) (n := n1)
      have hch := eq.snoc (by omega) ch
      clear ch
      refine New_i fun b8 h2 e8 g2 k8 _ => ?_
      have r2 := r1.grw g2
      have k3 := k3.grw g2
      have k4 := k4.grw g2
      have i1 := f1.1
      have n8 : b8 ≠ p := by omega
      have l8 : h0.size ≤ b8 := by omega
      refine number_e (w := 4) r2 rfl (by omega) fun h3 f3 r3 => ?_
      have hn3 := stn_num (l := l) (w := 4) hn1
      generalize numE l 4 (.ok (a1, n1)) = q1 at r3 hn3 hch ⊢
      refine St_i (f3.blk k8 n8) (by simp) rfl fun h4 o4 k8 => ?_
      refine number_e (w := 4) (r3.fr o4.fr n8 l8) rfl (by omega) fun h5 f5 r5 => ?_
      have hn5 := stn_num (l := l) (w := 4) hn3
      generalize numE l 4 q1.2 = q2 at r5 hn5 hch ⊢
      have k8 := f5.blk k8 n8
      simp only [add_blk, Nat.reduceAdd]
      refine St_i k8 (by simp) rfl fun h6 o6 k8 => ?_
      refine number_e (w := 4) (r5.fr o6.fr n8 l8) rfl (by omega) fun h7 f7 r7 => ?_
      have hn7 := stn_num (l := l) (w := 4) hn5
      generalize numE l 4 q2.2 = q3 at r7 hn7 hch ⊢
      have k8 := f7.blk k8 n8
      refine St_i k8 (by simp) rfl fun h8 o8 k8 => ?_
      have k8 : Blk h8 b8 #[.int .i64 q1.1, .int .i64 q2.1, .int .i64 q3.1] 57 := by simp at k8; exact k8
      have f28 : Tn (fun d => d = p ∨ d = b8) h2 h8 := (((((f3.mono fun d hd _ => .inl hd).trans' o4.fr fun d hd _ => .inr hd).trans' f5 fun d hd _ => .inl hd).trans' o6.fr fun d hd _ => .inr hd).trans' f7 fun d hd _ => .inl hd).trans' o8.fr fun d hd _ => .inr hd
      have r8 := r7.fr o8.fr n8 l8
      have k3 := f28.blk k3 (by omega)
      have k4 := f28.blk k4 (by omega)
      refine Ld_blk k3 rfl (Ld_blk k8 rfl (Ld_blk k8 rfl (Ld_blk k8 rfl ?_)))
      refine New_i fun bx h9 ex g9 kx _ => ?_
      have o9 := (((o1.grw g2).fr f28 fun b hb h' e => by omega).grw g9).wide (lo' := h.size) (hi' := h9.size) (Nat.le_refl _) (by have := g2.1; have := f28.1; have := g9.1; omega)
      have hln := o9.n
      rw [bfsV_len] at hln
      refine Ap_sh o9 (by have := g2.1; have := f28.1; have := g9.1; omega) rfl (new := bfRow ((q1.1 : Int), (q2.1 : Int), (q3.1 : Int))) rfl (by simp [bfRow, one]) (rd_blk kx rfl) (by omega) (by omega) fun s' ha fa ata oa hna => ?_
      have hb8 : ∀ d, sl.at d → h.size ≤ d := fun d hd => (o9.at hd).1
      have hb9 : ∀ d, sl.at d → d < h1.size := fun d hd => (o1.at hd).2
      have k3 := fa.blk (k3.grw g9) (fun q => by have := hb8 _ q; omega)
      have k4 := fa.blk (k4.grw g9) (fun q => by have := hb8 _ q; omega)
      refine St_i k3 (by simp [vals9]) rfl fun hb ob k3 => ?_
      have k3 : B9 hb b3 k s1 s2 id de rows press s7 s' := by simp [vals9] at k3; exact k3
      have f1b : Tn (fun d => d = p ∨ d = b3) h hb := ((((f1.trans' (Tn.of_grw (S := No) g2) fun _ q => q.elim).trans' f28 fun d hd hlt => by omega).trans' (Tn.of_grw (S := No) g9) fun _ q => q.elim).trans' fa fun d hd hlt => by have := hb8 d hd; omega).trans' ob.fr fun d hd _ => .inr hd
      have ra := (r8.grw g9).tn fa (fun q => by have := hb8 _ q; omega) (fun d q => by have := hb8 d q; omega)
      refine Wr_i64 (by omega) (by omega) (hN _ _ ⟨i + 1, xs ++ [((q1.1 : Int), (q2.1 : Int), (q3.1 : Int))], s', q3.2, by simp, by omega, by simp [hxs], f1b, ra.fr ob.fr n3 l3, hn7, k3, ob.blk k4 n34.symm, ?_, hch⟩ (by omega))
      rw [bfsV_snoc]
      exact (oa.fr ob.fr fun b hb _ e => by omega).wide (Nat.le_refl _) (by rw [ob.1]; exact Nat.le_refl _)
  · simp only [decide_eq_true_eq, decide_eq_false_iff_not, beq_iff_eq, beq_eq_false_iff_ne, ne_eq, reduceCtorEq, true_iff, false_iff, Bool.not_eq_true', Bool.not_eq_false', bne_iff_ne, bne_eq_false_iff_eq, Bool.not_true, Bool.not_false, Decidable.not_not] at c1
    have : i = c := by omega
    subst this
    exact Copy9 k4 hcs k3 (fin eq.done)
theorem body_chain {l : List UInt8} {k id : Int} {de : Bool} {st st4 st6 : Ste} {nodes : List Nd} {bufs : List Bf} (r1 : Rel (repD (nodeD l) (numE l 2 (numE l 1 (numE l 4 st).2).2).1) (numE l 2 (numE l 1 (numE l 4 st).2).2).2 nodes st4) (r2 : Rel (repD (slotD l) (numE l 2 st4).1) (numE l 2 st4).2 bufs st6) :
    Rel (bodyD l k id de) st ⟨k, [], [], id, de, (numE l 4 st).1, (numE l 1 (numE l 4 st).2).1, nodes, bufs⟩ st6 := by
  have stop : ∀ e, st4 = .error e → st6 = .error e := fun e q => by subst q; rw [numE_stay] at r2; exact r2
  cases st with
  | error e =>
    rw [numE_stay, numE_stay, numE_stay] at r1
    exact stop e r1
  | ok am =>
    obtain ⟨a, n⟩ := am
    unfold Rel
    simp only [bodyD]
    cases q1 : numD l 4 a with
    | error e => rw [numE_err q1, numE_stay, numE_stay] at r1; exact stop e r1
    | ok y =>
      obtain ⟨rows, a1⟩ := y
      rw [numE_ok q1] at r1 ⊢
      simp only at r1 ⊢
      cases q2 : numD l 1 a1 with
      | error e => rw [numE_err q2, numE_stay] at r1; exact stop e r1
      | ok y =>
        obtain ⟨press, a2⟩ := y
        rw [numE_ok q2] at r1 ⊢
        simp only at r1 ⊢
        cases q3 : numD l 2 a2 with
        | error e => rw [numE_err q3] at r1; exact stop e r1
        | ok y =>
          obtain ⟨c, a3⟩ := y
          rw [numE_ok q3] at r1
          simp only [Rel] at r1 ⊢
          cases q4 : repD (nodeD l) c a3 n with
          | error e => rw [q4] at r1; exact stop e r1
          | ok y =>
            obtain ⟨xs, a4, n4⟩ := y
            rw [q4] at r1
            obtain ⟨rfl, rfl⟩ := r1
            simp only
            cases q5 : numD l 2 a4 with
            | error e => rw [numE_err q5] at r2; exact r2
            | ok y =>
              obtain ⟨c2, a5⟩ := y
              rw [numE_ok q5] at r2
              simp only [Rel] at r2 ⊢
              cases q6 : repD (slotD l) c2 a5 n4 with
              | error e => rw [q6] at r2; exact r2
              | ok y =>
                obtain ⟨ys, a6, n6⟩ := y
                rw [q6] at r2
                obtain ⟨rfl, rfl⟩ := r2
                exact ⟨rfl, rfl⟩
theorem body_e {h0 : Hp} {p : Nat} {s : Sl} {l : List UInt8} {h : Hp} {st : Ste} {k id : Int} {s1 s2 : Sl} {de : Bool} {K : KH} {Kp : List PanicEntry → Hp → Prop} (r : Re h0 p s l h st) (hn : stn st)
    (hk : ∀ (rows press : Nat) nodes bufs st' t7 t8 h', Tn (· = p) h h' → Re h0 p s l h' st' → stn st' → Rel (bodyD l k id de) st ⟨k, [], [], id, de, rows, press, nodes, bufs⟩ st' → Sh h.size h'.size 2 h' t7 (ndsV nodes) 55 → Sh h.size h'.size 3 h' t8 (bfsV bufs) 57 → K k s1 s2 id de rows press t7 t8 h') :
    Fn34 (some ⟨p, 0, none⟩) k s1 s2 id de 0 0 Sl.nil Sl.nil h K Kp := by
  refine Fn34.of ?_
  unfold S34
  refine New_i fun b3 h1 e1 g1 k3 _ => New_i fun b4 h2 e2 g2 k4 _ => ?_
  have ip := r.lt
  have z1 := g1.1
  have z2 := g2.1
  have hg := r.g.1
  have r2 := (r.grw g1).grw g2
  have k3 := k3.grw g2
  have i3 := k3.lt
  have i4 := k4.lt
  have f2 : Tn (fun d => d = p ∨ d = b3) h h2 := Tn.of_grw (Grw.trans g1 g2)
  have n34 : b3 ≠ b4 := by omega
  have n3 : b3 ≠ p := by omega
  have n4 : b4 ≠ p := by omega
  have l3 : h0.size ≤ b3 := by omega
  have l4 : h0.size ≤ b4 := by omega
  simp only [add_blk, Nat.reduceAdd, Nat.zero_add]
  have fp : ∀ {h h' : Hp}, Tn (· = p) h h' → Tn (fun d => d = p ∨ d = b3) h h' := fun f => f.mono fun d hd _ => .inl hd
  have fb : ∀ {h h' : Hp}, Only b3 h h' → Tn (fun d => d = p ∨ d = b3) h h' := fun f => f.fr.mono fun d hd _ => .inr hd
  have ch := fun nodes bufs st4 st6 => @body_chain l k id de st st4 st6 nodes bufs
  refine number_e (w := 4) r2 rfl (by omega) fun h3 f3 r3 => ?_
  have hn3 := stn_num (l := l) (w := 4) hn
  generalize numE l 4 st = q1 at r3 hn3 ch ⊢
  refine St_i (f3.blk k3 n3) (by simp) rfl fun h4 o4 k3 => ?_
  have f4 := (f2.trans (fp f3)).trans (fb o4)
  refine number_e (w := 1) (r3.fr o4.fr n3 l3) rfl (by omega) fun h5 f5 r5 => ?_
  have hn5 := stn_num (l := l) (w := 1) hn3
  generalize numE l 1 q1.2 = q2 at r5 hn5 ch ⊢
  refine St_i (f5.blk k3 n3) (by simp) rfl fun h6 o6 k3 => ?_
  have f6 := (f4.trans (fp f5)).trans (fb o6)
  refine number_e (w := 2) (r5.fr o6.fr n3 l3) rfl (by omega) fun h7 f7 r7 => ?_
  have hn7 := stn_num (l := l) (w := 2) hn5
  have hc7 := numE_lt (l := l) (w := 2) (st := q2.2)
  generalize numE l 2 q2.2 = q3 at r7 hn7 hc7 ch ⊢
  have k3 := f7.blk k3 n3
  have k4 := (((f3.blk k4 n4 |> fun k => o4.blk k n34.symm) |> fun k => f5.blk k n4) |> fun k => o6.blk k n34.symm) |> fun k => f7.blk k n4
  have f7 := f6.trans (fp f7)
  have k3 : B9 h7 b3 k s1 s2 id de q1.1 q2.1 Sl.nil Sl.nil := by simp at k3; exact k3
  obtain ⟨c, st0⟩ := q3
  simp only at r7 hn7 hc7 ch ⊢
  have i7 := f7.1
  have i3 := k3.lt
  have i4 := k4.lt
  refine L34_3.rule (fun z h8 => ∃ (i : Nat) (xs : List Nd) (sl : Sl) (st' : Ste), z = i ∧ i ≤ c ∧ xs.length = i ∧ Tn (fun d => d = p ∨ d = b3) h7 h8 ∧ Re h0 p s l h8 st' ∧ stn st' ∧ B9 h8 b3 k s1 s2 id de q1.1 q2.1 sl Sl.nil ∧ Blk h8 b4 _ 29 ∧ Sh h7.size h8.size 2 h8 sl (ndsV xs) 55 ∧ Mid (nodeD l) c st0 xs i st') (fun z _ => c - z.toNat)
    ⟨0, [], Sl.nil, st0, rfl, by omega, rfl, Tn.refl _ _, r7, hn7, k3, k4, Sh.nil _ _ _ _ _, Mid.start⟩ ?_
  rintro z h8 ⟨i, xs, sl, st1, rfl, hi, hxs, f8, r8, hn8, k3, k4, o8, eq⟩ N1 hN
  unfold T34_3
  simp only [add_blk, Nat.reduceAdd, NN_some, Nat.zero_add]
  have i8 := f8.1
  refine If_i (fun c1 => ?_) fun c1 => ?_
  · simp only [decide_eq_true_eq, decide_eq_false_iff_not, beq_iff_eq, beq_eq_false_iff_ne, ne_eq, reduceCtorEq, true_iff, false_iff, Bool.not_eq_true', Bool.not_eq_false', bne_iff_ne, bne_eq_false_iff_eq, Bool.not_true, Bool.not_false, Decidable.not_not] at c1
    cases st1 with
    | error e =>
      obtain ⟨he, a, m, kp⟩ := r8.err
      refine Ld_blk kp rfl (If_t (by simp [he]) (Copy9 k4 rfl k3 fun h9 o9 => ?_))
      have f9 := f7.trans f8
      exact hk q1.1 q2.1 xs [] (.error e) sl Sl.nil h9 ((f9.trans' (T := (· = b4)) (S := fun d => d = p ∨ d = b3) o9.fr fun d hd hlt => by omega).mono fun d hd hlt => by omega) (r8.fr o9.fr n4 l4) trivial (ch xs [] _ _ eq.stop rfl)
        ((o8.fr o9.fr fun b h1 h2 e => by omega).wide (by omega) (by rw [o9.1]; exact Nat.le_refl _)) (Sh.nil _ _ _ _ _)
    | ok am =>
      obtain ⟨a1, n1⟩ := am
      refine Ld_blk r8.okk.1 rfl (If_f (by simp) ?_)
      have hch := eq.snoc (by omega) (node_chain (l := l) (a := a1) (n := n1))
      refine New_i fun b8 h9 e8 g9 k8 _ => ?_
      have r9 := r8.grw g9
      have k3 := k3.grw g9
      have k4 := k4.grw g9
      have n8 : b8 ≠ p := by have := r8.lt; omega
      have l8 : h0.size ≤ b8 := by have := r8.g.1; omega
      refine number_e (w := 4) r9 rfl (by omega) fun ha fa ra => ?_
      have hna := stn_num (l := l) (w := 4) hn8
      generalize numE l 4 (.ok (a1, n1)) = p1 at ra hna hch ⊢
      refine St_i (fa.blk k8 n8) (by simp) rfl fun hb ob k8 => ?_
      refine number_e (w := 4) (ra.fr ob.fr n8 l8) rfl (by omega) fun hc fc rc => ?_
      have hnc := stn_num (l := l) (w := 4) hna
      generalize numE l 4 p1.2 = p2 at rc hnc hch ⊢
      have k8 := fc.blk k8 n8
      simp only [add_blk, Nat.reduceAdd]
      refine St_i k8 (by simp) rfl fun hd od k8 => ?_
      have k8 : Blk hd b8 #[.int .i64 p1.1, .int .i64 p2.1] 55 := by simp at k8; exact k8
      have f9d : Tn (fun d => d = p ∨ d = b8) h9 hd := (((fa.mono fun d hd _ => .inl hd).trans' ob.fr fun d hd _ => .inr hd).trans' fc fun d hd _ => .inl hd).trans' od.fr fun d hd _ => .inr hd
      have rd := rc.fr od.fr n8 l8
      have k3 := f9d.blk k3 (by omega)
      have k4 := f9d.blk k4 (by omega)
      refine Ld_blk k3 rfl (Ld_blk k8 rfl (Ld_blk k8 rfl ?_))
      refine New_i fun bx he ex ge kx _ => ?_
      have ip7 : p < h7.size := r7.lt
      have oe := (((o8.grw g9).fr f9d fun b hb h' e => by omega).grw ge).wide (lo' := h7.size) (hi' := he.size) (Nat.le_refl _) (by have := g9.1; have := f9d.1; have := ge.1; omega)
      have hln := oe.n
      rw [ndsV_len] at hln
      refine Ap_sh oe (by have := g9.1; have := f9d.1; have := ge.1; omega) rfl (new := ndRow ((p1.1 : Int), (p2.1 : Int))) rfl (by simp [ndRow, one]) (rd_blk kx rfl) (by omega) (by omega) fun s' hf ff atf of hnf => ?_
      have hb8 : ∀ d, sl.at d → h7.size ≤ d := fun d hd => (oe.at hd).1
      have k3 := ff.blk (k3.grw ge) (fun q => by have := hb8 _ q; omega)
      have k4 := ff.blk (k4.grw ge) (fun q => by have := hb8 _ q; omega)
      refine St_i k3 (by simp [vals9]) rfl fun hg' og k3 => ?_
      have k3 : B9 hg' b3 k s1 s2 id de q1.1 q2.1 s' Sl.nil := by simp [vals9] at k3; exact k3
      have f7g : Tn (fun d => d = p ∨ d = b3) h7 hg' := ((((f8.trans' (Tn.of_grw (S := No) g9) fun _ q => q.elim).trans' f9d fun d hd hlt => by omega).trans' (Tn.of_grw (S := No) ge) fun _ q => q.elim).trans' ff fun d hd hlt => by have := hb8 d hd; omega).trans' og.fr fun d hd _ => .inr hd
      have rf := (rd.grw ge).tn ff (fun q => by have := hb8 _ q; omega) (fun d q => by have := hb8 d q; omega)
      refine Wr_i64 (by omega) (by omega) (hN _ _ ⟨i + 1, xs ++ [((p1.1 : Int), (p2.1 : Int))], s', p2.2, by simp, by omega, by simp [hxs], f7g, rf.fr og.fr n3 l3, hnc, k3, og.blk k4 n34.symm, ?_, hch⟩ (by omega))
      rw [ndsV_snoc]
      exact (of.fr og.fr fun b hb _ e => by omega).wide (Nat.le_refl _) (by rw [og.1]; exact Nat.le_refl _)
  · simp only [decide_eq_true_eq, decide_eq_false_iff_not, beq_iff_eq, beq_eq_false_iff_ne, ne_eq, reduceCtorEq, true_iff, false_iff, Bool.not_eq_true', Bool.not_eq_false', bne_iff_ne, bne_eq_false_iff_eq, Bool.not_true, Bool.not_false, Decidable.not_not] at c1
    have : i = c := by omega
    subst this
    refine J34_1.of ?_
    unfold JT34_1
    have e1 := eq.done
    refine number_e (w := 2) r8 rfl (by omega) fun h9 f9 r9 => ?_
    have hn9 := stn_num (l := l) (w := 2) hn8
    have hc9 := numE_lt (l := l) (w := 2) (st := st1)
    have ch := fun bufs st6 => ch xs bufs st1 st6 e1
    generalize numE l 2 st1 = q9 at r9 hn9 hc9 ch ⊢
    have i9 := f9.1
    refine slotsE r9 hn9 (by simpa using hc9) rfl (f9.blk k4 n4) rfl (f9.blk k3 n3) n34 n3 n4 l3 l4 fun ms st' t h' f r' hn' q o => ?_
    have f10 : Tn (fun d => d = p ∨ d = b3 ∨ d = b4) h8 h' := (f9.mono fun d hd _ => .inl hd).trans f
    have ip7 : p < h7.size := r7.lt
    exact hk q1.1 q2.1 xs ms st' sl t h' (((f7.trans f8).trans' f10 fun d hd hlt => by omega).mono fun d hd hlt => by omega) r' hn' (ch ms st' q) ((o8.fr f10 fun b h1 h2 e => by omega).wide (by omega) (by have := f10.1; omega)) (o.wide (by omega) (Nat.le_refl _))
end Go.Proofs.YtfomkkdijjfpiaaDoor
/- meta.Get answers as the plain decoder: the walk. -/
namespace Go.Proofs.YtfomkkdijjfpiaaDoor
open Go Go.Sh Go.WideShapes
abbrev B3 (h : Hp) (b : Nat) (e : Int) (s : Sl) (y : Int) : Prop := Blk h b #[.int .i64 e, Sl.v s, .int .i64 y] 39
theorem St9_i {h : Hp} {b : Nat} {cs : Array Value} {k id rows press : Int} {s1 s2 s7 s8 : Sl} {de : Bool} {K : Hp → Prop} (k2 : Blk h b cs 29) (hc : cs.size = 9) (hk : ∀ h', Only b h h' → B9 h' b k s1 s2 id de rows press s7 s8 → K h') : St9 h ⟨b, 0, none⟩ k s1 s2 id de rows press s7 s8 K := by
  obtain ⟨v0, v1, v2, v3, v4, v5, v6, v7, v8, e⟩ := len9 (l := cs.toList) (by simpa using hc)
  obtain rfl : cs = #[v0, v1, v2, v3, v4, v5, v6, v7, v8] := by cases cs; simp_all
  unfold St9
  simp only [add_blk, Nat.reduceAdd]
  refine St_i k2 (by simp) rfl fun h1 o1 k2 => St_i k2 (by simp) rfl fun h2 o2 k2 => St_i k2 (by simp) rfl fun h3 o3 k2 => St_i k2 (by simp) rfl fun h4 o4 k2 => St_i k2 (by simp) rfl fun h5 o5 k2 => St_i k2 (by simp) rfl fun h6 o6 k2 => St_i k2 (by simp) rfl fun h7 o7 k2 => St_i k2 (by simp) rfl fun h8 o8 k2 => St_i k2 (by simp) rfl fun h9 o9 k2 => ?_
  exact hk h9 ((((((((o1.trans o2).trans o3).trans o4).trans o5).trans o6).trans o7).trans o8).trans o9) (by simp at k2; exact k2)
theorem Ld9_i {h : Hp} {b : Nat} {k id rows press : Int} {s1 s2 s7 s8 : Sl} {de : Bool} {K : Int → Sl → Sl → Int → Bool → Int → Int → Sl → Sl → Prop} (k2 : B9 h b k s1 s2 id de rows press s7 s8) (hk : K k s1 s2 id de rows press s7 s8) : Ld9 h ⟨b, 0, none⟩ K := by
  unfold Ld9
  simp only [add_blk, Nat.reduceAdd]
  exact Ld_blk k2 rfl (Ld_blk k2 rfl (Ld_blk k2 rfl (Ld_blk k2 rfl (Ld_blk k2 rfl (Ld_blk k2 rfl (Ld_blk k2 rfl (Ld_blk k2 rfl (Ld_blk k2 rfl hk))))))))
theorem St3_i {h : Hp} {b : Nat} {cs : Array Value} {e y : Int} {s : Sl} {K : Hp → Prop} (k2 : Blk h b cs 39) (hc : cs.size = 3) (hk : ∀ h', Only b h h' → B3 h' b e s y → K h') : St3 h ⟨b, 0, none⟩ e s y K := by
  obtain ⟨v0, v1, v2, e⟩ := len3 (l := cs.toList) (by simpa using hc)
  obtain rfl : cs = #[v0, v1, v2] := by cases cs; simp_all
  unfold St3
  simp only [add_blk, Nat.reduceAdd]
  refine St_i k2 (by simp) rfl fun h1 o1 k2 => St_i k2 (by simp) rfl fun h2 o2 k2 => St_i k2 (by simp) rfl fun h3 o3 k2 => ?_
  exact hk h3 ((o1.trans o2).trans o3) (by simp at k2; exact k2)
theorem Ld3_i {h : Hp} {b : Nat} {e y : Int} {s : Sl} {K : Int → Sl → Int → Prop} (k2 : B3 h b e s y) (hk : K e s y) : Ld3 h ⟨b, 0, none⟩ K := by
  unfold Ld3
  simp only [add_blk, Nat.reduceAdd]
  exact Ld_blk k2 rfl (Ld_blk k2 rfl (Ld_blk k2 rfl hk))
section
variable {h : Hp} {b : Nat} {cs : Array Value} {k id rows press : Int} {s1 s2 s7 s8 : Sl} {de : Bool} {e y : Int} {s : Sl}
theorem St9_s {K : Hp → Prop} (k2 : Blk h b cs 29) (hc : cs.size = 9) (hk : ∀ h', Only b h h' → B9 h' b k s1 s2 id de rows press s7 s8 → K h') :
    St h ⟨b, 0, none⟩ (.int .i64 k) fun h => St h ⟨b, 1, none⟩ (Sl.v s1) fun h => St h ⟨b, 2, none⟩ (Sl.v s2) fun h => St h ⟨b, 3, none⟩ (.int .i64 id) fun h => St h ⟨b, 4, none⟩ (.bool de) fun h => St h ⟨b, 5, none⟩ (.int .i64 rows) fun h => St h ⟨b, 6, none⟩ (.int .i64 press) fun h => St h ⟨b, 7, none⟩ (Sl.v s7) fun h => St h ⟨b, 8, none⟩ (Sl.v s8) K := by
  have := St9_i (K := K) k2 hc hk
  unfold St9 at this
  simp only [add_blk, Nat.reduceAdd] at this
  exact this
theorem Ld9_s {K : Int → Sl → Sl → Int → Bool → Int → Int → Sl → Sl → Prop} (k2 : B9 h b k s1 s2 id de rows press s7 s8) (hk : K k s1 s2 id de rows press s7 s8) :
    Ld h ⟨b, 0, none⟩ (Value.int .i64) fun r0 => Ld h ⟨b, 1, none⟩ (Sl.v) fun r1 => Ld h ⟨b, 2, none⟩ (Sl.v) fun r2 => Ld h ⟨b, 3, none⟩ (Value.int .i64) fun r3 => Ld h ⟨b, 4, none⟩ (Value.bool) fun r4 => Ld h ⟨b, 5, none⟩ (Value.int .i64) fun r5 => Ld h ⟨b, 6, none⟩ (Value.int .i64) fun r6 => Ld h ⟨b, 7, none⟩ (Sl.v) fun r7 => Ld h ⟨b, 8, none⟩ (Sl.v) fun r8 => K r0 r1 r2 r3 r4 r5 r6 r7 r8 := by
  have := Ld9_i (K := K) k2 hk
  unfold Ld9 at this
  simp only [add_blk, Nat.reduceAdd] at this
  exact this
theorem St3_s {K : Hp → Prop} (k2 : Blk h b cs 39) (hc : cs.size = 3) (hk : ∀ h', Only b h h' → B3 h' b e s y → K h') : St h ⟨b, 0, none⟩ (.int .i64 e) fun h => St h ⟨b, 1, none⟩ (Sl.v s) fun h => St h ⟨b, 2, none⟩ (.int .i64 y) K := by
  have := St3_i (K := K) k2 hc hk
  unfold St3 at this
  simp only [add_blk, Nat.reduceAdd] at this
  exact this
theorem Ld3_s {K : Int → Sl → Int → Prop} (k2 : B3 h b e s y) (hk : K e s y) : Ld h ⟨b, 0, none⟩ (Value.int .i64) fun r0 => Ld h ⟨b, 1, none⟩ (Sl.v) fun r1 => Ld h ⟨b, 2, none⟩ (Value.int .i64) fun r2 => K r0 r1 r2 := by
  have := Ld3_i (K := K) k2 hk
  unfold Ld3 at this
  simp only [add_blk, Nat.reduceAdd] at this
  exact this
end
/-- behind a fault -/
theorem fault_m {e : Er} {h0 h : Hp} {b2 b3 : Nat} {cs cs' : Array Value} {K : K12} (k2 : Blk h b2 cs 29) (hc : cs.size = 9) (k3 : Blk h b3 cs' 39) (hc' : cs'.size = 3) (n2 : h0.size ≤ b2) (n3 : h0.size ≤ b3) (g : Grw h0 h)
    (hk : ∀ h', Grw h0 h' → K 0 Sl.nil Sl.nil 0 false 0 0 Sl.nil Sl.nil e.1 Sl.nil e.2 h') : S29p e ⟨b2, 0, none⟩ ⟨b3, 0, none⟩ h fun h => R12 ⟨b2, 0, none⟩ ⟨b3, 0, none⟩ K h := by
  have n23 : b2 ≠ b3 := fun q => by
    subst q
    have e := k2.symm.trans k3
    simp at e
  have i2 := k2.lt
  have i3 := k3.lt
  unfold S29p
  refine New_i fun b4 h1 e4 g1 k4 _ => ?_
  have k2 := k2.grw g1
  have k3 := k3.grw g1
  simp only [add_blk, Nat.reduceAdd]
  refine St_i k4 (by simp) rfl fun h2 o2 k4 => St_i k4 (by simp) rfl fun h3 o3 k4 => ?_
  have k4 : Blk h3 b4 #[.int .i64 e.1, .int .i64 e.2] 69 := by simpa using k4
  have o := o2.trans o3
  have k2 := o.blk k2 (by omega)
  have k3 := o.blk k3 (by omega)
  have g3 := o.grw (Grw.trans g g1) (by have := g.1; omega)
  refine Ld_blk k4 rfl (Ld_blk k4 rfl (St9_i k2 hc fun h5 o5 k2 => ?_))
  have k4' := o5.blk k4 (by omega)
  refine Keep_i k4 k4' rfl (Keep_i k4 k4' rfl (St3_i (o5.blk k3 (by omega)) hc' fun h6 o6 k3 => ?_))
  have k2 := o6.blk k2 n23
  unfold R12
  exact Ld9_i k2 (Ld3_i k3 (hk h6 (o6.grw (o5.grw g3 n2) n3)))
theorem get_m {h : Hp} {s : Sl} {l : List UInt8} {K : K12} {Kp : List PanicEntry → Hp → Prop} (tb : KTab h) (sv : Sv h s (bv l)) (hl : l.length ≤ 9223372036854775807)
    (he : ∀ e, getD l = .error e → ∀ h', Grw h h' → K 0 Sl.nil Sl.nil 0 false 0 0 Sl.nil Sl.nil e.1 Sl.nil e.2 h')
    (hk : ∀ H, getD l = .ok H → ∀ s1 s2 s7 s8 h', Grw h h' → HdD h.size h'.size h' H s1 s2 s7 s8 → K H.k s1 s2 H.id H.de H.rows H.press s7 s8 0 Sl.nil 0 h') : Fn12 s h K Kp := by
  have hn := sv.1
  rw [bv_len] at hn
  refine Fn12.of ?_
  refine New_i fun b2 h1 e2 g1 k2 _ => New_i fun b3 h2 e3 g2 k3 _ => ?_
  have k2 := k2.grw g2
  have g12 := Grw.trans g1 g2
  have i2 := k2.lt
  have i3 := k3.lt
  have s1 := g1.1
  have s2 := g2.1
  unfold S12c
  refine New_i fun b4 h3 e4 g3 k4 _ => ?_
  have k2 := k2.grw g3
  have k3 := k3.grw g3
  have g13 := Grw.trans g12 g3
  have R3 : Rm h b4 s l h3 0 0 := ⟨k4, g13, by omega, sv, hl, Nat.zero_le _⟩
  refine head_m R3 (fun e q h4 f4 => ?_) fun H a n q t1 t2 t7 t8 h4 f4 r4 D => ?_
  · exact ⟨e, rfl, fault_m (h0 := h) (f4.blk k2 (by omega)) rfl (f4.blk k3 (by omega)) rfl (by omega) (by omega) (Tn.old (by omega) g13 f4) fun h' g => he e (by unfold getD; rw [q]) h' g⟩
  · have k2 := f4.blk k2 (by omega)
    have k3 := f4.blk k3 (by omega)
    refine St9_i k2 rfl fun h5 o5 k2 => ?_
    have k3 := o5.blk k3 (by omega)
    have r5 := r4.fr o5.fr (by omega) (by omega)
    have g5 := r5.g
    have ha := r5.ha
    have D := D.fr o5.fr (fun b h1 h2 e => by omega) (Nat.le_refl _) (Nat.le_refl _)
    simp only [add_blk, Nat.reduceAdd]
    refine Ld_blk r5.blk rfl (If_i (fun c => ?_) fun c => ?_)
    · simp only [decide_eq_true_eq, decide_eq_false_iff_not, beq_iff_eq, beq_eq_false_iff_ne, ne_eq, reduceCtorEq, true_iff, false_iff, Bool.not_eq_true', Bool.not_eq_false', bne_iff_ne, bne_eq_false_iff_eq, Bool.not_true, Bool.not_false, Decidable.not_not] at c
      refine Ld_blk r5.blk rfl ⟨(52, a), rfl, fault_m (h0 := h) k2 rfl k3 rfl (by omega) (by omega) g5 fun h' g => he (52, a) (by unfold getD; rw [q]; simp only; rw [if_pos (by omega)]) h' g⟩
    · simp only [decide_eq_true_eq, decide_eq_false_iff_not, beq_iff_eq, beq_eq_false_iff_ne, ne_eq, reduceCtorEq, true_iff, false_iff, Bool.not_eq_true', Bool.not_eq_false', bne_iff_ne, bne_eq_false_iff_eq, Bool.not_true, Bool.not_false, Decidable.not_not] at c
      refine Ld9_i k2 ?_
      have may : ∃ m : Bool, (m = true ↔ HdOk H) := by
        by_cases q : HdOk H
        · exact ⟨true, by simp [q]⟩
        · exact ⟨false, by simp [q]⟩
      obtain ⟨m, hm⟩ := may
      refine may_c hm (headD_sml q) (tb.grw g5) (Grw.refl _) D.h fun h6 g6 => ?_
      have k2 := k2.grw g6
      have k3 := k3.grw g6
      have g6' := Grw.trans g5 g6
      cases m with
      | false =>
        refine ⟨(50, 0), rfl, fault_m (h0 := h) k2 rfl k3 rfl (by omega) (by omega) g6' fun h' g => he (50, 0) ?_ h' g⟩
        unfold getD; rw [q]; simp only
        rw [if_neg (by omega), if_neg (fun x => by have := hm.2 x; simp at this)]
      | true =>
        refine Ld9_i k2 (St9_i k2 rfl fun h7 o7 k2 => ?_)
        have k3 := o7.blk k3 (by omega)
        refine St3_i k3 rfl fun h8 o8 k3 => ?_
        have k2 := o8.blk k2 (by omega)
        unfold R12
        refine Ld9_i k2 (Ld3_i k3 (hk H ?_ t1 t2 t7 t8 h8 (o8.grw (o7.grw g6' (by omega)) (by omega)) ?_))
        · unfold getD; rw [q]; simp only
          rw [if_neg (by omega), if_pos (hm.1 rfl)]
        · have D6 := D.fr (S := No) (Tn.of_grw g6) (fun _ _ _ q => q) (Nat.le_refl _) (Nat.le_refl _)
          have D7 := D6.fr o7.fr (fun b h1 h2 e => by omega) (Nat.le_refl _) (Nat.le_refl _)
          have f1 := f4.1
          have z5 := o5.1
          have z6 := g6.1
          have z7 := o7.1
          have z8 := o8.1
          exact D7.fr o8.fr (fun b h1 h2 e => by omega) (by omega) (by omega)
end Go.Proofs.YtfomkkdijjfpiaaDoor
/- The document's Get: its end; the chain of a head. -/
namespace Go.Proofs.YtfomkkdijjfpiaaDoor
open Go Go.Sh Go.WideShapes
theorem Keep3_i {h h' : Hp} {b i : Nat} {X : Prop} {cs : Array Value} {el el' : TypeId} (k : Blk h b cs el) (k' : Blk h' b cs el') (hx : X) : Keep h h' ⟨b, i, none⟩ 3 X :=
  ⟨fun j hj => by rw [add_blk, cell_blk k, cell_blk k'], hx⟩
/-- what Get makes of the state at the end -/
def EndE (H : Hd) : Ste → Except Er Hd → Prop
  | .error e, r => r = .error e
  | .ok _, r => r = .ok H
theorem end_e {h0 : Hp} {p : Nat} {s : Sl} {l : List UInt8} {h : Hp} {st : Ste} {b2 b3 b5 : Nat} {H : Hd} {s1 s2 s7 s8 : Sl} {cs2 cs3 : Array Value} {K : K12} {Kp : List PanicEntry → Hp → Prop} (r : Re h0 p s l h st) (k2 : Blk h b2 cs2 29) (hc2 : cs2.size = 9) (k3 : Blk h b3 cs3 39) (hc3 : cs3.size = 3)
    (k5 : B9 h b5 H.k s1 s2 H.id H.de H.rows H.press s7 s8) (n2 : b2 ≠ p) (n3 : b3 ≠ p) (n25 : b2 ≠ b5) (n35 : b3 ≠ b5) (n23 : b2 ≠ b3)
    (he : ∀ e, st = .error e → ∀ h', Tn (fun d => d = b2 ∨ d = b3) h h' → K 0 Sl.nil Sl.nil 0 false 0 0 Sl.nil Sl.nil e.1 Sl.nil e.2 h')
    (hk : (∀ e, st ≠ .error e) → ∀ h', Tn (fun d => d = b2 ∨ d = b3) h h' → K H.k s1 s2 H.id H.de H.rows H.press s7 s8 0 Sl.nil 0 h') : J13_3 ⟨b2, 0, none⟩ ⟨b3, 0, none⟩ ⟨p, 0, none⟩ ⟨b5, 0, none⟩ K Kp h := by
  refine J13_3.of ?_
  unfold JT13_3
  simp only [add_blk, Nat.reduceAdd]
  cases st with
  | error e =>
    obtain ⟨q, a, m, kp⟩ := r.err
    refine Ld_blk kp rfl (If_t (by simp [q]) (Ld_blk kp rfl (Ld_blk kp (x := Sl.nil) rfl (Ld_blk kp rfl ?_))))
    refine St9_s (s1 := Sl.nil) (s2 := Sl.nil) (s7 := Sl.nil) (s8 := Sl.nil) k2 hc2 fun h1 o1 k2 => ?_
    refine Keep3_i kp (o1.blk kp n2.symm) (St3_s (s := Sl.nil) (o1.blk k3 n23.symm) hc3 fun h2 o2 k3 => ?_)
    have k2 := o2.blk k2 n23
    refine Ld9_s k2 (Ld3_s k3 (he e rfl h2 ((o1.fr.mono fun d hd _ => .inl hd).trans' o2.fr fun d hd _ => .inr hd)))
  | ok am =>
    obtain ⟨a, n⟩ := am
    refine Ld_blk r.okk.1 rfl (If_f (by simp) (Ld9_s k5 ?_))
    refine St9_s k2 hc2 fun h1 o1 k2 => St3_s (s := Sl.nil) (o1.blk k3 n23.symm) hc3 fun h2 o2 k3 => ?_
    have k2 := o2.blk k2 n23
    exact Ld9_s k2 (Ld3_s k3 (hk (fun e q => by cases q) h2 ((o1.fr.mono fun d hd _ => .inl hd).trans' o2.fr fun d hd _ => .inr hd)))
theorem last_e {h0 : Hp} {p : Nat} {s : Sl} {l : List UInt8} {h : Hp} {st : Ste} {b2 b3 b5 : Nat} {H : Hd} {s1 s2 s7 s8 : Sl} {cs2 cs3 : Array Value} {K : K12} {Kp : List PanicEntry → Hp → Prop} (r : Re h0 p s l h st) (k2 : Blk h b2 cs2 29) (hc2 : cs2.size = 9) (k3 : Blk h b3 cs3 39) (hc3 : cs3.size = 3)
    (k5 : B9 h b5 H.k s1 s2 H.id H.de H.rows H.press s7 s8) (n2 : b2 ≠ p) (n3 : b3 ≠ p) (n25 : b2 ≠ b5) (n35 : b3 ≠ b5) (n23 : b2 ≠ b3) (n5 : b5 ≠ p) (q : Rel (fun _ _ => headD l) (.ok (0, 0)) H st) (hh : HdH h H s1 s2 s7 s8)
    (he : ∀ e, getD l = .error e → ∀ h', Tn (fun d => d = b2 ∨ d = b3 ∨ d = p) h h' → K 0 Sl.nil Sl.nil 0 false 0 0 Sl.nil Sl.nil e.1 Sl.nil e.2 h')
    (hk : getD l = .ok H → ∀ h', Tn (fun d => d = b2 ∨ d = b3 ∨ d = p) h h' → K H.k s1 s2 H.id H.de H.rows H.press s7 s8 0 Sl.nil 0 h') : J13_1 s ⟨b2, 0, none⟩ ⟨b3, 0, none⟩ ⟨p, 0, none⟩ ⟨b5, 0, none⟩ K Kp h := by
  have hs := r.sv.1
  rw [bv_len] at hs
  have i2 := k2.lt
  have i3 := k3.lt
  have ip := r.lt
  have w : ∀ {h h' : Hp}, Tn (fun d => d = b2 ∨ d = b3) h h' → Tn (fun d => d = b2 ∨ d = b3 ∨ d = p) h h' := fun f => f.mono fun d hd _ => by omega
  have wp : ∀ {h h' : Hp}, Tn (· = p) h h' → Tn (fun d => d = b2 ∨ d = b3 ∨ d = p) h h' := fun f => f.mono fun d hd _ => .inr (.inr hd)
  -- with a fault
  have bad : ∀ e h1, getD l = .error e → Tn (fun d => d = b2 ∨ d = b3 ∨ d = p) h h1 → Re h0 p s l h1 (.error e) → Blk h1 b2 cs2 29 → Blk h1 b3 cs3 39 → B9 h1 b5 H.k s1 s2 H.id H.de H.rows H.press s7 s8 → J13_3 ⟨b2, 0, none⟩ ⟨b3, 0, none⟩ ⟨p, 0, none⟩ ⟨b5, 0, none⟩ K Kp h1 := fun e h1 g f r1 k2 k3 k5 =>
    end_e r1 k2 hc2 k3 hc3 k5 n2 n3 n25 n35 n23 (fun e' q' h' f' => by cases q'; exact he e g h' (f.trans (w f'))) fun x => absurd rfl (x e)
  have bad2 : ∀ e h1, getD l = .error e → Tn (fun d => d = b2 ∨ d = b3 ∨ d = p) h h1 → Re h0 p s l h1 (.error e) → Blk h1 b2 cs2 29 → Blk h1 b3 cs3 39 → B9 h1 b5 H.k s1 s2 H.id H.de H.rows H.press s7 s8 → J13_2 ⟨b2, 0, none⟩ ⟨b3, 0, none⟩ ⟨p, 0, none⟩ ⟨b5, 0, none⟩ K Kp h1 := fun e h1 g f r1 k2 k3 k5 => by
    refine J13_2.of ?_
    unfold JT13_2
    simp only [add_blk, Nat.reduceAdd]
    obtain ⟨q, a, m, kp⟩ := r1.err
    exact Ld_blk kp rfl (If_f (by simp [q]) (bad e h1 g f r1 k2 k3 k5))
  refine J13_1.of ?_
  unfold JT13_1
  simp only [add_blk, Nat.reduceAdd]
  cases st with
  | error e =>
    have g : getD l = .error e := by
      unfold getD
      unfold Rel at q
      simp only at q
      cases hq : headD l with
      | error e' => rw [hq] at q; cases q; rfl
      | ok y => rw [hq] at q; obtain ⟨_, q⟩ := q; cases q
    obtain ⟨q, a, m, kp⟩ := r.err
    exact Ld_blk kp rfl (If_f (by simp [q]) (bad2 e h g (Tn.refl _ _) r k2 k3 k5))
  | ok am =>
    obtain ⟨a, n⟩ := am
    obtain ⟨kp, ha⟩ := r.okk
    have hq : headD l = .ok (H, a, n) := by
      unfold Rel at q
      simp only at q
      cases hq : headD l with
      | error e' => rw [hq] at q; cases q
      | ok y => obtain ⟨y, a', n'⟩ := y; rw [hq] at q; obtain ⟨rfl, q⟩ := q; cases q; rfl
    refine Ld_blk kp rfl (If_t (by simp) (Ld_blk kp rfl (If_i (fun c => Ld_blk kp rfl ?_) fun c => ?_)))
    · simp only [decide_eq_true_eq, decide_eq_false_iff_not, beq_iff_eq, beq_eq_false_iff_ne, ne_eq, reduceCtorEq, true_iff, false_iff, Bool.not_eq_true', Bool.not_eq_false', bne_iff_ne, bne_eq_false_iff_eq, Bool.not_true, Bool.not_false, Decidable.not_not] at c
      refine wrong_e r (by omega) fun h1 f1 r1 => ?_
      exact bad2 (52, a) h1 (by unfold getD; rw [hq]; simp only; rw [if_pos (by omega)]) (wp f1) r1 (f1.blk k2 n2) (f1.blk k3 n3) (f1.blk k5 n5)
    · simp only [decide_eq_true_eq, decide_eq_false_iff_not, beq_iff_eq, beq_eq_false_iff_ne, ne_eq, reduceCtorEq, true_iff, false_iff, Bool.not_eq_true', Bool.not_eq_false', bne_iff_ne, bne_eq_false_iff_eq, Bool.not_true, Bool.not_false, Decidable.not_not] at c
      refine J13_2.of ?_
      unfold JT13_2
      simp only [add_blk, Nat.reduceAdd]
      refine Ld_blk kp rfl (If_t (by simp) (Ld9_s k5 ?_))
      have may : ∃ m : Bool, (m = true ↔ HdOk H) := by
        by_cases q : HdOk H
        · exact ⟨true, by simp [q]⟩
        · exact ⟨false, by simp [q]⟩
      obtain ⟨m, hm⟩ := may
      refine rmay_c hm (Grw.refl _) hh fun h6 g6 => ?_
      have r6 := r.grw g6
      have k2 := k2.grw g6
      have k3 := k3.grw g6
      have k5 := k5.grw g6
      have f6 : Tn (fun d => d = b2 ∨ d = b3 ∨ d = p) h h6 := Tn.of_grw g6
      cases m with
      | false =>
        refine If_t rfl (wrong_e r6 (by omega) fun h7 f7 r7 => ?_)
        refine bad (50, 0) h7 ?_ (f6.trans (wp f7)) r7 (f7.blk k2 n2) (f7.blk k3 n3) (f7.blk k5 n5)
        unfold getD; rw [hq]; simp only
        rw [if_neg (by omega), if_neg (fun x => by have := hm.2 x; simp at this)]
      | true =>
        refine If_f rfl (end_e r6 k2 hc2 k3 hc3 k5 n2 n3 n25 n35 n23 (fun e q => by cases q) fun _ h' f' => hk ?_ h' (f6.trans (w f')))
        unfold getD; rw [hq]; simp only
        rw [if_neg (by omega), if_pos (hm.1 rfl)]
/-- a head, read in one go -/
theorem head_chain {l : List UInt8} : ∃ P : Hd → Ste → Prop, (∀ H st, P H st → Rel (fun _ _ => headD l) (.ok (0, 0)) H st) ∧
    (let q1 := amongE l 1 3 (.ok (0, 0)); let q2 := amongE l 1 1 q1.2; let q3 := amongE l 0 0 q2.2; let q4 := amongE l 0 0 q3.2;
    (q1.1 = 1 → ∀ fs ms st, Rel (schemaD l) q4.2 (fs, ms) st → P ⟨1, fs, ms, 0, false, 0, 0, [], []⟩ st) ∧
    (q1.1 = 2 → let q5 := numE l 2 q4.2; let q6 := amongE l 0 1 q5.2; ∀ H st, Rel (bodyD l 2 q5.1 (q6.1 == 1)) q6.2 H st → P H st) ∧
    (q1.1 = 3 → ∀ H st, Rel (bodyD l 3 0 false) q4.2 H st → P H st) ∧
    (q1.1 ≠ 1 → q1.1 ≠ 2 → q1.1 ≠ 3 → ∀ H, P H q4.2)) := by
  refine ⟨Rel (fun _ _ => headD l) (.ok (0, 0)), fun _ _ h => h, ?_⟩
  simp only
  have he : ∀ H st, Rel (fun _ _ => headD l) (.ok (0, 0)) H st ↔ (match headD l with | .error e => st = .error e | .ok (y, a', n') => H = y ∧ st = .ok (a', n')) := fun H st => by
    unfold Rel; simp only; cases headD l <;> rfl
  simp only [he]
  clear he
  unfold headD
  have stS : ∀ {e : Er} {x : List Fld × List Md} {st}, Rel (schemaD l) (.error e) x st → st = .error e := fun h => h
  have stB : ∀ {e : Er} {k id de} {x : Hd} {st}, Rel (bodyD l k id de) (.error e) x st → st = .error e := fun h => h
  cases p1 : amongD l 1 3 0 with
  | error e =>
    have p1 := amongE_err (n := 0) p1
    generalize amongE l 1 3 (.ok (0, 0)) = q1 at p1 ⊢
    obtain ⟨k, st1⟩ := q1
    simp only at p1 ⊢
    subst p1
    simp only [amongE_stay, numE_stay]
    exact ⟨fun _ _ _ _ r => r, fun _ _ _ r => r, fun _ _ _ r => r, fun _ _ _ _ => trivial⟩
  | ok y =>
    obtain ⟨k, a1⟩ := y
    rw [amongE_ok p1]
    have hk : 1 ≤ k ∧ k ≤ 3 := (amongD_le p1 (Nat.zero_le _)).2.2
    simp only
    cases p2 : amongD l 1 1 a1 with
    | error e =>
      have p2 := amongE_err (n := 0) p2
      generalize amongE l 1 1 (.ok (a1, 0)) = q2 at p2 ⊢
      obtain ⟨x, st2⟩ := q2
      simp only at p2 ⊢
      subst p2
      simp only [amongE_stay, numE_stay]
      exact ⟨fun _ _ _ _ r => r, fun _ _ _ r => r, fun _ _ _ r => r, fun _ _ _ _ => trivial⟩
    | ok y =>
      obtain ⟨x2, a2⟩ := y
      rw [amongE_ok p2]
      simp only
      cases p3 : amongD l 0 0 a2 with
      | error e =>
        have p3 := amongE_err (n := 0) p3
        generalize amongE l 0 0 (.ok (a2, 0)) = q3 at p3 ⊢
        obtain ⟨x, st2⟩ := q3
        simp only at p3 ⊢
        subst p3
        simp only [amongE_stay, numE_stay]
        exact ⟨fun _ _ _ _ r => r, fun _ _ _ r => r, fun _ _ _ r => r, fun _ _ _ _ => trivial⟩
      | ok y =>
        obtain ⟨x3, a3⟩ := y
        rw [amongE_ok p3]
        simp only
        cases p4 : amongD l 0 0 a3 with
        | error e =>
          have p4 := amongE_err (n := 0) p4
          generalize amongE l 0 0 (.ok (a3, 0)) = q4 at p4 ⊢
          obtain ⟨x, st2⟩ := q4
          simp only at p4 ⊢
          subst p4
          simp only [amongE_stay, numE_stay]
          exact ⟨fun _ _ _ _ r => r, fun _ _ _ r => r, fun _ _ _ r => r, fun _ _ _ _ => trivial⟩
        | ok y =>
          obtain ⟨x4, a4⟩ := y
          rw [amongE_ok p4]
          simp only
          unfold restD
          refine ⟨fun e fs ms st r => ?_, fun e H st r => ?_, fun e H st r => ?_, fun e1 e2 e3 => by omega⟩
          · subst e
            rw [if_pos rfl]
            unfold Rel at r
            simp only at r
            cases q5 : schemaD l a4 0 with
            | error e => rw [q5] at r; exact r
            | ok y =>
              obtain ⟨y, a5, n5⟩ := y
              rw [q5] at r
              obtain ⟨rfl, rfl⟩ := r
              exact ⟨rfl, rfl⟩
          · subst e
            rw [if_neg (by omega), if_pos rfl]
            cases q5 : numD l 2 a4 with
            | error e => rw [numE_err q5, amongE_stay] at r; exact r
            | ok y =>
              obtain ⟨id, a5⟩ := y
              rw [numE_ok q5] at r
              simp only at r ⊢
              cases q6 : amongD l 0 1 a5 with
              | error e => rw [amongE_err q6] at r; exact r
              | ok y =>
                obtain ⟨de, a6⟩ := y
                rw [amongE_ok q6] at r
                unfold Rel at r
                simp only at r ⊢
                cases hb : bodyD l 2 id (de == 1) a6 0 with
                | error e => rw [hb] at r; exact r
                | ok y => rw [hb] at r; exact r
          · subst e
            rw [if_neg (by omega), if_neg (by omega)]
            unfold Rel at r
            simp only at r ⊢
            cases hb : bodyD l 3 0 false a4 0 with
            | error e => rw [hb] at r; exact r
            | ok y => rw [hb] at r; exact r
end Go.Proofs.YtfomkkdijjfpiaaDoor
/- The document's Get, the whole. -/
namespace Go.Proofs.YtfomkkdijjfpiaaDoor
open Go Go.Sh Go.WideShapes
theorem Tn.grw0 {S : Nat → Prop} {h0 h h' : Hp} (g : Grw h0 h) (f : Tn S h h') (hS : ∀ d, S d → h0.size ≤ d) : Grw h0 h' :=
  ⟨Nat.le_trans g.1 f.1, fun c hc => (f.2 c (Nat.lt_of_lt_of_le hc g.1) (fun q => by have := hS c q; omega)).trans (g.2 c hc)⟩
theorem rget_c {h : Hp} {s : Sl} {l : List UInt8} {K : K12} {Kp : List PanicEntry → Hp → Prop} (sv : Sv h s (bv l)) (hl : l.length ≤ 9223372036854775807)
    (he : ∀ e, getD l = .error e → ∀ h', Grw h h' → K 0 Sl.nil Sl.nil 0 false 0 0 Sl.nil Sl.nil e.1 Sl.nil e.2 h')
    (hk : ∀ H, getD l = .ok H → ∀ s1 s2 s7 s8 h', Grw h h' → HdD h.size h'.size h' H s1 s2 s7 s8 → K H.k s1 s2 H.id H.de H.rows H.press s7 s8 0 Sl.nil 0 h') : Fn13 s h K Kp := by
  refine Fn13.of ?_
  unfold S13
  refine New_i fun b2 h1 e1 g1 k2 _ => New_i fun b3 h2 e2 g2 k3 _ => New_i fun p h3 e3 g3 kp _ => New_i fun b5 h4 e4 g4 k5 _ => ?_
  have z1 := g1.1
  have z2 := g2.1
  have z3 := g3.1
  have z4 := g4.1
  have k2 := ((k2.grw g2).grw g3).grw g4
  have k3 := (k3.grw g3).grw g4
  have kp := kp.grw g4
  have i2 := k2.lt
  have i3 := k3.lt
  have ip := kp.lt
  have i5 := k5.lt
  have G4 : Grw h h4 := Grw.trans (Grw.trans (Grw.trans g1 g2) g3) g4
  have n2 : b2 ≠ p := by have := (k2.lt); omega
  have n3 : b3 ≠ p := by omega
  have n5 : b5 ≠ p := by omega
  have n25 : b2 ≠ b5 := by omega
  have n35 : b3 ≠ b5 := by omega
  have n23 : b2 ≠ b3 := by omega
  have l5 : h.size ≤ b5 := by omega
  have r4 : Re h p s l h4 (.ok (0, 0)) := ⟨⟨_, rfl, kp⟩, G4, by omega, sv, hl, Nat.zero_le _⟩
  obtain ⟨P, hP, ch⟩ := @head_chain l
  simp only at ch
  -- what is written: the reader's cells and the head's
  have T0 : Tn (fun d => d = p ∨ d = b5) h4 h4 := Tn.refl _ _
  have fp : ∀ {h h' : Hp}, Tn (· = p) h h' → Tn (fun d => d = p ∨ d = b5) h h' := fun f => f.mono fun d hd _ => .inl hd
  have fb : ∀ {h h' : Hp}, Only b5 h h' → Tn (fun d => d = p ∨ d = b5) h h' := fun f => f.fr.mono fun d hd _ => .inr hd
  simp only [add_blk, Nat.reduceAdd, Nat.zero_add]
  have last : ∀ (H : Hd) st s1 s2 s7 s8 h', Tn (fun d => d = p ∨ d = b5) h4 h' → Re h p s l h' st → B9 h' b5 H.k s1 s2 H.id H.de H.rows H.press s7 s8 → P H st → HdD h4.size h'.size h' H s1 s2 s7 s8 → J13_1 s ⟨b2, 0, none⟩ ⟨b3, 0, none⟩ ⟨p, 0, none⟩ ⟨b5, 0, none⟩ K Kp h' := by
    intro H st s1 s2 s7 s8 h' f r k5 q D
    have k2 := f.blk k2 (by omega)
    have k3 := f.blk k3 (by omega)
    have i4 := f.1
    have G : ∀ h'', Tn (fun d => d = b2 ∨ d = b3 ∨ d = p) h' h'' → Grw h h'' := fun h'' f' => Tn.grw0 (Tn.grw0 G4 f fun d hd => by omega) f' fun d hd => by omega
    refine last_e r k2 rfl k3 rfl k5 n2 n3 n25 n35 n23 n5 (hP H st q) D.h (fun e g h'' f' => he e g h'' (G h'' f')) fun g h'' f' => hk H g s1 s2 s7 s8 h'' (G h'' f') ?_
    exact D.fr f' (fun b h1 h2 e => by omega) (by omega) f'.1
  refine within_e (lo := 1) (hi := 3) r4 rfl rfl fun h5 f5 r5 => ?_
  have hn5 := stn_among (l := l) (lo := 1) (hi := 3) (st := .ok (0, 0)) (by show 0 ≤ 256; omega)
  generalize amongE l 1 3 (.ok (0, 0)) = q1 at r5 hn5 ch ⊢
  refine St_i (f5.blk k5 n5) (by simp) rfl fun h6 o6 k5 => ?_
  have f6 := (T0.trans (fp f5)).trans (fb o6)
  refine within_e (lo := 1) (hi := 1) (r5.fr o6.fr n5 l5) rfl rfl fun h7 f7 r7 => ?_
  have hn7 := stn_among (l := l) (lo := 1) (hi := 1) hn5
  generalize amongE l 1 1 q1.2 = q2 at r7 hn7 ch ⊢
  refine within_e (lo := 0) (hi := 0) r7 rfl rfl fun h8 f8 r8 => ?_
  have hn8 := stn_among (l := l) (lo := 0) (hi := 0) hn7
  generalize amongE l 0 0 q2.2 = q3 at r8 hn8 ch ⊢
  refine within_e (lo := 0) (hi := 0) r8 rfl rfl fun h9 f9 r9 => ?_
  have hn9 := stn_among (l := l) (lo := 0) (hi := 0) hn8
  generalize amongE l 0 0 q3.2 = q4 at r9 hn9 ch ⊢
  have f79 := (f7.trans f8).trans f9
  have k5 := f79.blk k5 n5
  have f9' := f6.trans (fp f79)
  obtain ⟨kk, st1⟩ := q1
  simp only at ch k5 ⊢
  have k5 : B9 h9 b5 kk Sl.nil Sl.nil 0 false 0 0 Sl.nil Sl.nil := by simp at k5; exact k5
  have i9 := f9'.1
  have nilD : ∀ {h : Hp} {H : Hd} {lo}, H.fs = [] → H.ms = [] → H.nodes = [] → H.bufs = [] → HdD lo h.size h H Sl.nil Sl.nil Sl.nil Sl.nil := fun e1 e2 e3 e4 => ⟨by rw [e1]; unfold FsD; exact ⟨rfl, Nat.le_refl _⟩, by rw [e2]; exact Sh.nil _ _ _ _ _, by rw [e3]; exact Sh.nil _ _ _ _ _, by rw [e4]; exact Sh.nil _ _ _ _ _⟩
  refine Ld_blk k5 rfl (If_i (fun c => ?_) fun c => If_i (fun c2 => ?_) fun c2 => If_i (fun c3 => ?_) fun c3 => ?_)
  · simp only [decide_eq_true_eq, decide_eq_false_iff_not, beq_iff_eq, beq_eq_false_iff_ne, ne_eq, reduceCtorEq, true_iff, false_iff, Bool.not_eq_true', Bool.not_eq_false', bne_iff_ne, bne_eq_false_iff_eq, Bool.not_true, Bool.not_false, Decidable.not_not] at c
    have hk1 : kk = 1 := by omega
    subst hk1
    refine schema_e r9 hn9 fun fs ms st t1 t2 ha fa ra hna q hf ho => ?_
    refine St_i (fa.blk k5 n5) (by simp [vals9]) rfl fun hb ob k5 => St_i k5 (by simp [vals9]) rfl fun hc oc k5 => ?_
    have k5 : B9 hc b5 1 t1 t2 0 false 0 0 Sl.nil Sl.nil := by simp [vals9] at k5; exact k5
    have o := ob.trans oc
    refine last ⟨1, fs, ms, 0, false, 0, 0, [], []⟩ st t1 t2 Sl.nil Sl.nil hc ((f9'.trans (fp fa)).trans (fb o)) (ra.fr o.fr n5 l5) k5 (ch.1 rfl fs ms st q) ?_
    have ia := fa.1
    have D : HdD h9.size ha.size ha ⟨1, fs, ms, 0, false, 0, 0, [], []⟩ t1 t2 Sl.nil Sl.nil := ⟨hf, ho, Sh.nil _ _ _ _ _, Sh.nil _ _ _ _ _⟩
    exact D.fr o.fr (fun b h1 h2 e => by omega) (by omega) (by rw [o.1]; exact Nat.le_refl _)
  · simp only [decide_eq_true_eq, decide_eq_false_iff_not, beq_iff_eq, beq_eq_false_iff_ne, ne_eq, reduceCtorEq, true_iff, false_iff, Bool.not_eq_true', Bool.not_eq_false', bne_iff_ne, bne_eq_false_iff_eq, Bool.not_true, Bool.not_false, Decidable.not_not] at c2
    have hk2 : kk = 2 := by omega
    subst hk2
    have k5 : B9 h9 b5 2 Sl.nil Sl.nil 0 false 0 0 Sl.nil Sl.nil := k5
    have ch2 := ch.2.1 rfl
    refine number_e (w := 2) r9 rfl (by omega) fun ha fa ra => ?_
    have hna := stn_num (l := l) (w := 2) hn9
    generalize numE l 2 q4.2 = q5 at ra hna ch2 ⊢
    refine St_i (fa.blk k5 n5) (by simp [vals9]) rfl fun hb ob k5 => ?_
    refine within_e (lo := 0) (hi := 1) (ra.fr ob.fr n5 l5) rfl rfl fun hc fc rc => ?_
    have hnc := stn_among (l := l) (lo := 0) (hi := 1) hna
    generalize amongE l 0 1 q5.2 = q6 at rc hnc ch2 ⊢
    refine St_i (fc.blk k5 n5) (by simp [vals9]) rfl fun hd od k5 => ?_
    have e2 : ((q6.1 : Int) == 1) = (q6.1 == 1) := by
      rw [Bool.eq_iff_iff, beq_iff_eq, beq_iff_eq]; omega
    have k5 : B9 hd b5 2 Sl.nil Sl.nil q5.1 (q6.1 == 1) 0 0 Sl.nil Sl.nil := by rw [← e2]; simp [vals9] at k5; exact k5
    have fd := (((f9'.trans (fp fa)).trans (fb ob)).trans (fp fc)).trans (fb od)
    have id := fd.1
    refine Ld9_s k5 (body_e (rc.fr od.fr n5 l5) hnc fun rows press nodes bufs st t7 t8 he fe re hne q o7 o8 => ?_)
    refine St9_s (fe.blk k5 n5) rfl fun hf of k5 => ?_
    refine last ⟨2, [], [], q5.1, q6.1 == 1, rows, press, nodes, bufs⟩ st Sl.nil Sl.nil t7 t8 hf ((fd.trans (fp fe)).trans (fb of)) (re.fr of.fr n5 l5) k5 (ch2 _ st q) ?_
    have D : HdD hd.size he.size he ⟨2, [], [], q5.1, q6.1 == 1, rows, press, nodes, bufs⟩ Sl.nil Sl.nil t7 t8 := ⟨by unfold FsD; exact ⟨rfl, Nat.le_refl _⟩, Sh.nil _ _ _ _ _, o7, o8⟩
    exact D.fr of.fr (fun b h1 h2 e => by omega) (by omega) (by rw [of.1]; exact Nat.le_refl _)
  · simp only [decide_eq_true_eq, decide_eq_false_iff_not, beq_iff_eq, beq_eq_false_iff_ne, ne_eq, reduceCtorEq, true_iff, false_iff, Bool.not_eq_true', Bool.not_eq_false', bne_iff_ne, bne_eq_false_iff_eq, Bool.not_true, Bool.not_false, Decidable.not_not] at c3
    have hk3 : kk = 3 := by omega
    subst hk3
    have k5 : B9 h9 b5 3 Sl.nil Sl.nil 0 false 0 0 Sl.nil Sl.nil := k5
    refine Ld9_s k5 (body_e r9 hn9 fun rows press nodes bufs st t7 t8 he fe re hne q o7 o8 => ?_)
    refine St9_s (fe.blk k5 n5) rfl fun hf of k5 => ?_
    refine last ⟨3, [], [], 0, false, rows, press, nodes, bufs⟩ st Sl.nil Sl.nil t7 t8 hf ((f9'.trans (fp fe)).trans (fb of)) (re.fr of.fr n5 l5) k5 (ch.2.2.1 rfl _ st q) ?_
    have D : HdD h9.size he.size he ⟨3, [], [], 0, false, rows, press, nodes, bufs⟩ Sl.nil Sl.nil t7 t8 := ⟨by unfold FsD; exact ⟨rfl, Nat.le_refl _⟩, Sh.nil _ _ _ _ _, o7, o8⟩
    exact D.fr of.fr (fun b h1 h2 e => by omega) (by omega) (by rw [of.1]; exact Nat.le_refl _)
  · simp only [decide_eq_true_eq, decide_eq_false_iff_not, beq_iff_eq, beq_eq_false_iff_ne, ne_eq, reduceCtorEq, true_iff, false_iff, Bool.not_eq_true', Bool.not_eq_false', bne_iff_ne, bne_eq_false_iff_eq, Bool.not_true, Bool.not_false, Decidable.not_not] at c c2 c3
    exact last ⟨kk, [], [], 0, false, 0, 0, [], []⟩ q4.2 Sl.nil Sl.nil Sl.nil Sl.nil h9 f9' r9 k5 (ch.2.2.2 (by omega) (by omega) (by omega) _) (nilD rfl rfl rfl rfl)
end Go.Proofs.YtfomkkdijjfpiaaDoor
/- Equal heads are told equal. -/
namespace Go.Proofs.YtfomkkdijjfpiaaDoor
open Go Go.Sh Go.WideShapes
theorem Keep_cs {h h' : Hp} {a : Addr} {n : Nat} {X : Prop} {vs : List Value} (k : Cs h a vs) (k' : Cs h' a vs) (hn : vs.length = n) (hx : X) : Keep h h' a n X :=
  ⟨fun j hj => by
    have hj' : vs[j]? = some vs[j] := List.getElem?_eq_getElem (by omega)
    rw [k j _ hj', k' j _ hj'], hx⟩
theorem fault_same {e y : Int} {s t : Sl} {h : Hp} {K : Bool → Hp → Prop} {Kp : List PanicEntry → Hp → Prop} (hs : s.n = 0) (ht : t.n = 0) (hk : ∀ h', Grw h h' → K true h') : Fn14 e s y e t y h K Kp := by
  refine Fn14.of ?_
  unfold S14
  refine New_i fun b2 h1 e1 g1 k2 _ => New_i fun b3 h2 e2 g2 k3 _ => ?_
  have k2 := k2.grw g2
  simp only [add_blk, Nat.reduceAdd]
  refine Ld_blk k2 rfl (Ld_blk k3 rfl (If_f (by simp) (Ld_blk k2 rfl (Ld_blk k3 rfl ?_))))
  refine J14_3.of ?_
  unfold JT14_3
  simp only [add_blk, Nat.reduceAdd]
  refine If_f (by simp) (Ld_blk k2 rfl (Ld_blk k3 rfl (If_f (by simp [hs, ht]) ?_)))
  refine J14_1.of ?_
  unfold JT14_1
  refine L14_2.rule (fun x h' => x = 0 ∧ h' = h2) (fun _ _ => 0) ⟨rfl, rfl⟩ ?_
  rintro x h' ⟨rfl, rfl⟩ N1 hN
  unfold T14_2
  simp only [add_blk, Nat.reduceAdd]
  exact Ld_blk k2 rfl (If_f (by simp [hs]) (hk _ (Grw.trans g1 g2)))
/-- equal fields are told equal -/
def SameF : Fld → Prop
  | .mk _ _ _ _ _ _ cs => cs.length ≤ 9223372036854775807 → smls cs → ∀ {h0 h : Hp} {a b : Sl} {K : Bool → Hp → Prop} {Kp : List PanicEntry → Hp → Prop}, Grw h0 h → FsH h0 a cs → FsH h0 b cs → (∀ h', Grw h h' → K true h') → Fn36 a b h K Kp
theorem same_row {n : ByteArray} {nul : Bool} {k w id ix : Int} {u v x0 x1 : Sl} {i : Nat} {p q : Nat} {h : Hp} {N1 : Fr → Hp → Prop} {K : Bool → Hp → Prop} {Kp : List PanicEntry → Hp → Prop}
    (kp : Blk h p #[.string n, .bool nul, .int .i64 k, .int .i64 w, .int .i64 id, .int .i64 ix, Sl.v u] 63) (kq : Blk h q #[.string n, .bool nul, .int .i64 k, .int .i64 w, .int .i64 id, .int .i64 ix, Sl.v v] 63) (hi : (i : Int) < 9223372036854775807)
    (ih : ∀ (K : Bool → Hp → Prop), (∀ h', Grw h h' → K true h') → Fn36 u v h K Kp) (hN : ∀ h', Grw h h' → N1 (mk36_1 x0 x1 ((i + 1 : Nat) : Int)) h') : J36_2 x0 x1 (i : Int) ⟨p, 0, none⟩ ⟨q, 0, none⟩ N1 K Kp h := by
  refine J36_2.of ?_
  unfold JT36_2
  simp only [add_blk, Nat.reduceAdd]
  refine Ld_blk kp rfl (Ld_blk kq rfl (If_f (by simp) (Ld_blk kp rfl (Ld_blk kq rfl ?_))))
  refine J36_4.of ?_
  unfold JT36_4
  simp only [add_blk, Nat.reduceAdd]
  refine If_f (by simp) (Ld_blk kp rfl (Ld_blk kq rfl ?_))
  refine J36_5.of ?_
  unfold JT36_5
  simp only [add_blk, Nat.reduceAdd]
  refine If_f (by simp) (Ld_blk kp rfl (Ld_blk kq rfl ?_))
  refine J36_6.of ?_
  unfold JT36_6
  simp only [add_blk, Nat.reduceAdd]
  refine If_f (by simp) (Ld_blk kp rfl (Ld_blk kq rfl ?_))
  refine J36_7.of ?_
  unfold JT36_7
  simp only [add_blk, Nat.reduceAdd]
  refine If_f (by simp) (Ld_blk kp rfl (Ld_blk kq rfl (If_f (by simp) ?_)))
  refine J36_3.of ?_
  unfold JT36_3
  simp only [add_blk, Nat.reduceAdd]
  refine Ld_blk kp rfl (Ld_blk kq rfl (ih _ fun h' g => If_f rfl (Wr_i64 (by omega) (by omega) ?_)))
  have e : (i : Int) + 1 = ((i + 1 : Nat) : Int) := by omega
  rw [e]; exact hN h' g
theorem St7_i {h : Hp} {b : Nat} {cs : Array Value} {n : ByteArray} {nul : Bool} {k w id ix : Int} {u : Sl} {K : Hp → Prop} (k5 : Blk h b cs 63) (hc : cs.size = 7)
    (hk : ∀ h', Only b h h' → Blk h' b #[.string n, .bool nul, .int .i64 k, .int .i64 w, .int .i64 id, .int .i64 ix, Sl.v u] 63 → K h') :
    St h ⟨b, 0, none⟩ (.string n) fun h3 => St h3 ((⟨b, 0, none⟩ : Addr).add 1) (.bool nul) fun h4 => St h4 ((⟨b, 0, none⟩ : Addr).add 2) (.int .i64 k) fun h5 => St h5 ((⟨b, 0, none⟩ : Addr).add 3) (.int .i64 w) fun h6 =>
      St h6 ((⟨b, 0, none⟩ : Addr).add 4) (.int .i64 id) fun h7 => St h7 ((⟨b, 0, none⟩ : Addr).add 5) (.int .i64 ix) fun h8 => St h8 ((⟨b, 0, none⟩ : Addr).add 6) (Sl.v u) K := by
  obtain ⟨v0, v1, v2, v3, v4, v5, v6, e⟩ := len7 (l := cs.toList) (by simpa using hc)
  obtain rfl : cs = #[v0, v1, v2, v3, v4, v5, v6] := by cases cs; simp_all
  simp only [add_blk, Nat.reduceAdd]
  refine St_i k5 (by simp) rfl fun h2 o2 k5 => St_i k5 (by simp) rfl fun h3 o3 k5 => St_i k5 (by simp) rfl fun h4 o4 k5 => St_i k5 (by simp) rfl fun h5 o5 k5 => St_i k5 (by simp) rfl fun h6 o6 k5 => St_i k5 (by simp) rfl fun h7 o7 k5 => St_i k5 (by simp) rfl fun h8 o8 k5 => ?_
  exact hk h8 ((((((o2.trans o3).trans o4).trans o5).trans o6).trans o7).trans o8) (by simp at k5; exact k5)
theorem two_a {n n' : ByteArray} {nul nul' : Bool} {k w id ix k' w' id' ix' : Int} {u v : Sl} {h : Hp} {pa pb : Addr} {C : Addr → Addr → Hp → Prop} (hc : Cs h pa (vals7 n nul k w id ix u)) (hd : Cs h pb (vals7 n' nul' k' w' id' ix' v))
    (fin : ∀ (p q : Nat) h2, Grw h h2 → Blk h2 p #[.string n, .bool nul, .int .i64 k, .int .i64 w, .int .i64 id, .int .i64 ix, Sl.v u] 63 → Blk h2 q #[.string n', .bool nul', .int .i64 k', .int .i64 w', .int .i64 id', .int .i64 ix', Sl.v v] 63 → C ⟨p, 0, none⟩ ⟨q, 0, none⟩ h2) :
      New h #[(.string (bs [])), (.bool false), (.int .i64 (0 : Int)), (.int .i64 (0 : Int)), (.int .i64 (0 : Int)), (.int .i64 (0 : Int)), (.slice none 0 0)] 63 fun a6 h1 =>
      Keep h h1 pb 7 <|
      Keep h h1 pa 7 <|
      New h1 #[(.string (bs [])), (.bool false), (.int .i64 (0 : Int)), (.int .i64 (0 : Int)), (.int .i64 (0 : Int)), (.int .i64 (0 : Int)), (.slice none 0 0)] 63 fun a7 h2 =>
      Keep h1 h2 pb 7 <|
      Keep h1 h2 pa 7 <|
      St h2 a6 (.string n) fun h3 =>
      St h3 (a6.add 1) (.bool nul) fun h4 =>
      St h4 (a6.add 2) (.int .i64 k) fun h5 =>
      St h5 (a6.add 3) (.int .i64 w) fun h6 =>
      St h6 (a6.add 4) (.int .i64 id) fun h7 =>
      St h7 (a6.add 5) (.int .i64 ix) fun h8 =>
      St h8 (a6.add 6) (Sl.v u) fun h9 =>
      Keep h2 h9 pb 7 <|
      St h9 a7 (.string n') fun h10 =>
      St h10 (a7.add 1) (.bool nul') fun h11 =>
      St h11 (a7.add 2) (.int .i64 k') fun h12 =>
      St h12 (a7.add 3) (.int .i64 w') fun h13 =>
      St h13 (a7.add 4) (.int .i64 id') fun h14 =>
      St h14 (a7.add 5) (.int .i64 ix') fun h15 =>
      St h15 (a7.add 6) (Sl.v v) fun h16 => C a6 a7 h16 := by
  refine New_i fun b1 h1 e1 g1 k1 _ => ?_
  have hda := hd.grw g1
  have hca := hc.grw g1
  refine Keep_cs hd hda rfl (Keep_cs hc hca rfl ?_)
  refine New_i fun b2 h2 e2 g2 k2 _ => ?_
  have hdb := hda.grw g2
  refine Keep_cs hda hdb rfl (Keep_cs hca (hca.grw g2) rfl ?_)
  have k1 := k1.grw g2
  have i1 := k1.lt
  have z1 := g1.1
  have g12 := Grw.trans g1 g2
  refine St7_i k1 rfl fun h3 o3 k3 => ?_
  have g3 := o3.grw g12 (by omega)
  refine Keep_cs hdb (hd.grw g3) rfl ?_
  refine St7_i (o3.blk k2 (by omega)) rfl fun h4 o4 k4 => ?_
  exact fin _ _ _ (o4.grw g3 (by omega)) (o4.blk k3 (by omega)) k4
theorem two_b {n n' : ByteArray} {nul nul' : Bool} {k w id ix k' w' id' ix' : Int} {u v : Sl} {h : Hp} {pa pb : Addr} {C : Addr → Addr → Hp → Prop} (hc : Cs h pa (vals7 n nul k w id ix u)) (hd : Cs h pb (vals7 n' nul' k' w' id' ix' v))
    (fin : ∀ (p q : Nat) h2, Grw h h2 → Blk h2 p #[.string n, .bool nul, .int .i64 k, .int .i64 w, .int .i64 id, .int .i64 ix, Sl.v u] 63 → Blk h2 q #[.string n', .bool nul', .int .i64 k', .int .i64 w', .int .i64 id', .int .i64 ix', Sl.v v] 63 → C ⟨p, 0, none⟩ ⟨q, 0, none⟩ h2) :
      New h #[(.string (bs [])), (.bool false), (.int .i64 (0 : Int)), (.int .i64 (0 : Int)), (.int .i64 (0 : Int)), (.int .i64 (0 : Int)), (.slice none 0 0)] 63 fun a7 h1 =>
      Keep h h1 pb 7 <|
      Keep h h1 pa 7 <|
      New h1 #[(.string (bs [])), (.bool false), (.int .i64 (0 : Int)), (.int .i64 (0 : Int)), (.int .i64 (0 : Int)), (.int .i64 (0 : Int)), (.slice none 0 0)] 63 fun a6 h2 =>
      Keep h1 h2 pb 7 <|
      Keep h1 h2 pa 7 <|
      St h2 a6 (.string n) fun h3 =>
      St h3 (a6.add 1) (.bool nul) fun h4 =>
      St h4 (a6.add 2) (.int .i64 k) fun h5 =>
      St h5 (a6.add 3) (.int .i64 w) fun h6 =>
      St h6 (a6.add 4) (.int .i64 id) fun h7 =>
      St h7 (a6.add 5) (.int .i64 ix) fun h8 =>
      St h8 (a6.add 6) (Sl.v u) fun h9 =>
      Keep h2 h9 pb 7 <|
      St h9 a7 (.string n') fun h10 =>
      St h10 (a7.add 1) (.bool nul') fun h11 =>
      St h11 (a7.add 2) (.int .i64 k') fun h12 =>
      St h12 (a7.add 3) (.int .i64 w') fun h13 =>
      St h13 (a7.add 4) (.int .i64 id') fun h14 =>
      St h14 (a7.add 5) (.int .i64 ix') fun h15 =>
      St h15 (a7.add 6) (Sl.v v) fun h16 => C a6 a7 h16 := by
  refine New_i fun b1 h1 e1 g1 k1 _ => ?_
  have hda := hd.grw g1
  have hca := hc.grw g1
  refine Keep_cs hd hda rfl (Keep_cs hc hca rfl ?_)
  refine New_i fun b2 h2 e2 g2 k2 _ => ?_
  have hdb := hda.grw g2
  refine Keep_cs hda hdb rfl (Keep_cs hca (hca.grw g2) rfl ?_)
  have k1 := k1.grw g2
  have i1 := k1.lt
  have z1 := g1.1
  have g12 := Grw.trans g1 g2
  refine St7_i k2 rfl fun h3 o3 k3 => ?_
  have g3 := o3.grw g12 (by omega)
  refine Keep_cs hdb (hd.grw g3) rfl ?_
  refine St7_i (o3.blk k1 (by omega)) rfl fun h4 o4 k4 => ?_
  exact fin _ _ _ (o4.grw g3 (by omega)) (o4.blk k3 (by omega)) k4
theorem same_fs {cs : List Fld} (IH : ∀ f ∈ cs, SameF f) (hl : cs.length ≤ 9223372036854775807) (hs : smls cs) {h0 h : Hp} {a b : Sl} {K : Bool → Hp → Prop} {Kp : List PanicEntry → Hp → Prop} (g : Grw h0 h) (ha : FsH h0 a cs) (hb : FsH h0 b cs) (hk : ∀ h', Grw h h' → K true h') : Fn36 a b h K Kp := by
  have na := ha.n
  have nb := hb.n
  refine Fn36.of ?_
  unfold S36
  refine If_f (by simp [na.1, nb.1]) ?_
  refine L36_1.rule (fun x h' => ∃ i : Nat, x = i ∧ i ≤ cs.length ∧ Grw h h') (fun x _ => cs.length - x.toNat) ⟨0, rfl, by omega, Grw.refl _⟩ ?_
  rintro x h1 ⟨i, rfl, hi, g1⟩ N1 hN
  unfold T36_1
  refine If_i (fun c => ?_) fun c => ?_
  · simp only [decide_eq_true_eq, decide_eq_false_iff_not, beq_iff_eq, beq_eq_false_iff_ne, ne_eq, reduceCtorEq, true_iff, false_iff, Bool.not_eq_true', Bool.not_eq_false', bne_iff_ne, bne_eq_false_iff_eq, Bool.not_true, Bool.not_false, Decidable.not_not] at c
    have hi' : i < cs.length := by omega
    have hj : cs[i]? = some cs[i] := List.getElem?_eq_getElem hi'
    have hmem : cs[i] ∈ cs := List.getElem_mem hi'
    generalize cs[i] = f at hj hmem
    have IHf := IH f hmem
    have hsf := hs.get f hmem
    have g2 := Grw.trans g g1
    refine ha.ix rfl hj fun pa fa => ?_
    obtain ⟨n, nul, k, wd, id, ix, ds⟩ := f
    unfold Fld.sml at hsf
    have IHf := @IHf hsf.2.1 hsf.2.2
    unfold FldH at fa
    obtain ⟨u, hc, hu⟩ := fa
    have hc1 := hc.grw g2
    have c0 := hc1 0 _ rfl; have c1 := hc1 1 _ rfl; have c2 := hc1 2 _ rfl; have c3 := hc1 3 _ rfl; have c4 := hc1 4 _ rfl; have c5 := hc1 5 _ rfl; have c6 := hc1 6 _ rfl
    rw [add_zero'] at c0
    refine ⟨_, c0, _, c1, _, c2, _, c3, _, c4, _, c5, _, c6, ?_⟩
    refine hb.ix rfl hj fun pb fb => ?_
    unfold FldH at fb
    obtain ⟨v, hd, hv⟩ := fb
    have hd1 := hd.grw g2
    have d0 := hd1 0 _ rfl; have d1 := hd1 1 _ rfl; have d2 := hd1 2 _ rfl; have d3 := hd1 3 _ rfl; have d4 := hd1 4 _ rfl; have d5 := hd1 5 _ rfl; have d6 := hd1 6 _ rfl
    rw [add_zero'] at d0
    refine ⟨_, d0, _, d1, _, d2, _, d3, _, d4, _, d5, _, d6, ?_⟩
    have fin : ∀ (p q : Nat) h2, Grw h1 h2 → Blk h2 p #[.string n, .bool nul, .int .i64 k, .int .i64 wd, .int .i64 id, .int .i64 ix, Sl.v u] 63 → Blk h2 q #[.string n, .bool nul, .int .i64 k, .int .i64 wd, .int .i64 id, .int .i64 ix, Sl.v v] 63 → J36_2 a b (i : Int) ⟨p, 0, none⟩ ⟨q, 0, none⟩ N1 K Kp h2 := fun p q h2 g3 kp kq =>
      same_row kp kq (by omega) (fun K hK => IHf (Grw.trans g2 g3) hu hv hK) fun h' g' => hN _ _ ⟨i + 1, rfl, by omega, Grw.trans g1 (Grw.trans g3 g')⟩ (by omega)
    exact ⟨two_a hc1 hd1 fin, two_b hc1 hd1 fin⟩
  · simp only [decide_eq_true_eq, decide_eq_false_iff_not, beq_iff_eq, beq_eq_false_iff_ne, ne_eq, reduceCtorEq, true_iff, false_iff, Bool.not_eq_true', Bool.not_eq_false', bne_iff_ne, bne_eq_false_iff_eq, Bool.not_true, Bool.not_false, Decidable.not_not] at c
    exact hk _ g1
theorem same_f : ∀ f : Fld, SameF f
  | .mk _ _ _ _ _ _ cs => fun hl hs _ _ _ _ _ _ g ha hb hk => same_fs (fun f _ => same_f f) hl hs g ha hb hk
structure Hd.sz (H : Hd) : Prop where
  fs : H.fs.length ≤ 9223372036854775807
  sm : smls H.fs
  ms : H.ms.length ≤ 9223372036854775807
  nodes : H.nodes.length ≤ 9223372036854775807
  bufs : H.bufs.length ≤ 9223372036854775807
theorem HdH.grw {h h' : Hp} {H : Hd} {s1 s2 s7 s8 : Sl} (hh : HdH h H s1 s2 s7 s8) (g : Grw h h') : HdH h' H s1 s2 s7 s8 := ⟨FsH.grw g _ hh.fs, hh.ms.grw g, hh.nodes.grw g, hh.bufs.grw g⟩
theorem ba_refl (a : ByteArray) : (a == a) = true := by
  cases a with | mk d =>
  show (d == d) = true
  exact beq_self_eq_true d
theorem head_same {H : Hd} (sz : H.sz) {h0 h : Hp} {s1 s2 s7 s8 t1 t2 t7 t8 : Sl} {K : Bool → Hp → Prop} {Kp : List PanicEntry → Hp → Prop} (g : Grw h0 h) (ha : HdH h0 H s1 s2 s7 s8) (hb : HdH h0 H t1 t2 t7 t8) (hk : ∀ h', Grw h h' → K true h') :
    Fn15 H.k s1 s2 H.id H.de H.rows H.press s7 s8 H.k t1 t2 H.id H.de H.rows H.press t7 t8 h K Kp := by
  have a2 : s2.n = H.ms.length := by simpa using ha.ms.1
  have b2 : t2.n = H.ms.length := by simpa using hb.ms.1
  have a7 : s7.n = H.nodes.length := by simpa using ha.nodes.1
  have b7 : t7.n = H.nodes.length := by simpa using hb.nodes.1
  have a8 : s8.n = H.bufs.length := by simpa using ha.bufs.1
  have b8 : t8.n = H.bufs.length := by simpa using hb.bufs.1
  have z2 := sz.ms
  have z7 := sz.nodes
  have z8 := sz.bufs
  refine Fn15.of ?_
  unfold S15
  refine New_i fun x h1 e1 g1 kx _ => New_i fun y h2 e2 g2 ky _ => ?_
  have kx := kx.grw g2
  have g02 := Grw.trans g (Grw.trans g1 g2)
  have ha := ha.grw g02
  have hb := hb.grw g02
  have hk : ∀ h', Grw h2 h' → K true h' := fun h' g' => hk h' (Grw.trans (Grw.trans g1 g2) g')
  simp only [add_blk, Nat.reduceAdd]
  refine Ld_blk kx rfl (Ld_blk ky rfl (If_f (by simp) (Ld_blk kx rfl (Ld_blk ky rfl ?_))))
  refine J15_10.of ?_
  unfold JT15_10
  simp only [add_blk, Nat.reduceAdd]
  refine If_f (by simp) (Ld_blk kx rfl (Ld_blk ky rfl ?_))
  refine J15_11.of ?_
  unfold JT15_11
  simp only [add_blk, Nat.reduceAdd]
  refine If_f (by simp) (Ld_blk kx rfl (Ld_blk ky rfl ?_))
  refine J15_12.of ?_
  unfold JT15_12
  simp only [add_blk, Nat.reduceAdd]
  refine If_f (by simp) (Ld_blk kx rfl (Ld_blk ky rfl (If_f (by simp) ?_)))
  refine J15_1.of ?_
  unfold JT15_1
  simp only [add_blk, Nat.reduceAdd]
  refine Ld_blk kx rfl (Ld_blk ky rfl (If_f (by simp [a2, b2]) (Ld_blk kx rfl (Ld_blk ky rfl ?_))))
  refine J15_9.of ?_
  unfold JT15_9
  simp only [add_blk, Nat.reduceAdd]
  refine If_f (by simp [a7, b7]) (Ld_blk kx rfl (Ld_blk ky rfl (If_f (by simp [a8, b8]) ?_)))
  refine J15_2.of ?_
  unfold JT15_2
  refine L15_8.rule (fun z h' => h2 = h' ∧ ∃ i : Nat, z = i ∧ i ≤ H.ms.length) (fun z _ => H.ms.length - z.toNat) ⟨rfl, 0, rfl, by omega⟩ ?_
  rintro z h' ⟨rfl, i, rfl, hi⟩ N1 hN
  unfold T15_8
  simp only [add_blk, Nat.reduceAdd]
  refine Ld_blk kx rfl (If_i (fun c => ?_) fun c => ?_)
  · simp only [decide_eq_true_eq, decide_eq_false_iff_not, beq_iff_eq, beq_eq_false_iff_ne, ne_eq, reduceCtorEq, true_iff, false_iff, Bool.not_eq_true', Bool.not_eq_false', bne_iff_ne, bne_eq_false_iff_eq, Bool.not_true, Bool.not_false, Decidable.not_not] at c
    have hj : H.ms[i]? = some H.ms[i] := List.getElem?_eq_getElem (by omega)
    generalize H.ms[i] = r at hj
    refine Ld_blk kx rfl (ha.ms.ix rfl hj fun a ca => ?_)
    refine ⟨_, Cs.c0 ca, _, ca 1 _ rfl, Ld_blk ky rfl (hb.ms.ix rfl hj fun b cb => ?_)⟩
    refine ⟨_, Cs.c0 cb, _, cb 1 _ rfl, If_f (by simp [ba_refl]) (Wr_i64 (by omega) (by omega) (hN _ _ ⟨rfl, i + 1, by omega, by omega⟩ (by omega)))⟩
  clear hi c hN N1
  refine J15_3.of ?_
  unfold JT15_3
  refine L15_7.rule (fun z h' => h2 = h' ∧ ∃ i : Nat, z = i ∧ i ≤ H.nodes.length) (fun z _ => H.nodes.length - z.toNat) ⟨rfl, 0, rfl, by omega⟩ ?_
  rintro z h' ⟨rfl, i, rfl, hi⟩ N1 hN
  unfold T15_7
  simp only [add_blk, Nat.reduceAdd]
  refine Ld_blk kx rfl (If_i (fun c => ?_) fun c => ?_)
  · simp only [decide_eq_true_eq, decide_eq_false_iff_not, beq_iff_eq, beq_eq_false_iff_ne, ne_eq, reduceCtorEq, true_iff, false_iff, Bool.not_eq_true', Bool.not_eq_false', bne_iff_ne, bne_eq_false_iff_eq, Bool.not_true, Bool.not_false, Decidable.not_not] at c
    have hj : H.nodes[i]? = some H.nodes[i] := List.getElem?_eq_getElem (by omega)
    generalize H.nodes[i] = r at hj
    refine Ld_blk kx rfl (ha.nodes.ix rfl hj fun a ca => ?_)
    refine ⟨_, Cs.c0 ca, _, ca 1 _ rfl, Ld_blk ky rfl (hb.nodes.ix rfl hj fun b cb => ?_)⟩
    refine ⟨_, Cs.c0 cb, _, cb 1 _ rfl, If_f (by simp) (Wr_i64 (by omega) (by omega) (hN _ _ ⟨rfl, i + 1, by omega, by omega⟩ (by omega)))⟩
  clear hi c hN N1
  refine J15_4.of ?_
  unfold JT15_4
  refine L15_6.rule (fun z h' => h2 = h' ∧ ∃ i : Nat, z = i ∧ i ≤ H.bufs.length) (fun z _ => H.bufs.length - z.toNat) ⟨rfl, 0, rfl, by omega⟩ ?_
  rintro z h' ⟨rfl, i, rfl, hi⟩ N1 hN
  unfold T15_6
  simp only [add_blk, Nat.reduceAdd]
  refine Ld_blk kx rfl (If_i (fun c => ?_) fun c => ?_)
  · simp only [decide_eq_true_eq, decide_eq_false_iff_not, beq_iff_eq, beq_eq_false_iff_ne, ne_eq, reduceCtorEq, true_iff, false_iff, Bool.not_eq_true', Bool.not_eq_false', bne_iff_ne, bne_eq_false_iff_eq, Bool.not_true, Bool.not_false, Decidable.not_not] at c
    have hj : H.bufs[i]? = some H.bufs[i] := List.getElem?_eq_getElem (by omega)
    generalize H.bufs[i] = r at hj
    refine Ld_blk kx rfl (ha.bufs.ix rfl hj fun a ca => ?_)
    refine ⟨_, Cs.c0 ca, _, ca 1 _ rfl, _, ca 2 _ rfl, Ld_blk ky rfl (hb.bufs.ix rfl hj fun b cb => ?_)⟩
    refine ⟨_, Cs.c0 cb, _, cb 1 _ rfl, _, cb 2 _ rfl, If_f (by simp) (Wr_i64 (by omega) (by omega) (hN _ _ ⟨rfl, i + 1, by omega, by omega⟩ (by omega)))⟩
  refine J15_5.of ?_
  unfold JT15_5
  simp only [add_blk, Nat.reduceAdd]
  exact Ld_blk kx rfl (Ld_blk ky rfl (same_fs (fun f _ => same_f f) sz.fs sz.sm (Grw.refl _) ha.fs hb.fs fun h' g' => hk h' g'))
end Go.Proofs.YtfomkkdijjfpiaaDoor
/- What Get answers, in one word. -/
namespace Go.Proofs.YtfomkkdijjfpiaaDoor
open Go Go.Sh Go.WideShapes
/-- the zero head -/
def HdZ : Hd := ⟨0, [], [], 0, false, 0, 0, [], []⟩
theorem HdZ_D {lo hi : Nat} {h : Hp} : HdD lo hi h HdZ Sl.nil Sl.nil Sl.nil Sl.nil := ⟨by unfold HdZ FsD; exact ⟨rfl, Nat.le_refl _⟩, Sh.nil _ _ _ _ _, Sh.nil _ _ _ _ _, Sh.nil _ _ _ _ _⟩
theorem HdZ_sz : HdZ.sz := ⟨by decide, by unfold HdZ smls; trivial, by decide, by decide, by decide⟩
theorem HdOk.sz {H : Hd} (h : HdOk H) (hs : smls H.fs) : H.sz := by
  rcases h with ⟨_, _, _, _, _, h1, h2, h3, h4, _⟩ | ⟨_, h1, h2, _, _, _, _, h3, h4, _⟩
  · exact ⟨by omega, hs, by omega, by omega, by omega⟩
  · exact ⟨by omega, hs, by omega, by omega, by omega⟩
/-- what Get answers: the head, the number of the fault, its place -/
def GetR (l : List UInt8) (H : Hd) (e y : Int) : Prop := match getD l with
  | .error er => H = HdZ ∧ e = er.1 ∧ y = er.2
  | .ok G => H = G ∧ e = 0 ∧ y = 0
theorem GetR.err {l : List UInt8} {er : Er} (q : getD l = .error er) : GetR l HdZ er.1 er.2 := by unfold GetR; rw [q]; exact ⟨rfl, rfl, rfl⟩
theorem GetR.okk {l : List UInt8} {H : Hd} (q : getD l = .ok H) : GetR l H 0 0 := by unfold GetR; rw [q]; exact ⟨rfl, rfl, rfl⟩
theorem GetR.eq {l : List UInt8} {H G : Hd} {e y e' y' : Int} (a : GetR l H e y) (b : GetR l G e' y') : H = G ∧ e = e' ∧ y = y' := by
  unfold GetR at a b
  cases hq : getD l with
  | error er => rw [hq] at a b; obtain ⟨rfl, rfl, rfl⟩ := a; obtain ⟨rfl, rfl, rfl⟩ := b; exact ⟨rfl, rfl, rfl⟩
  | ok X => rw [hq] at a b; obtain ⟨rfl, rfl, rfl⟩ := a; obtain ⟨rfl, rfl, rfl⟩ := b; exact ⟨rfl, rfl, rfl⟩
theorem GetR.sz {l : List UInt8} {H : Hd} {e y : Int} (a : GetR l H e y) : H.sz := by
  unfold GetR at a
  cases hq : getD l with
  | error er => rw [hq] at a; obtain ⟨rfl, _⟩ := a; exact HdZ_sz
  | ok X => rw [hq] at a; obtain ⟨rfl, _⟩ := a; exact (getD_headD hq).1.sz (getD_headD hq).2.1
theorem get_r {h : Hp} {s : Sl} {l : List UInt8} {K : K12} {Kp : List PanicEntry → Hp → Prop} (tb : KTab h) (sv : Sv h s (bv l)) (hl : l.length ≤ 9223372036854775807)
    (hk : ∀ H e y, GetR l H e y → ∀ s1 s2 s7 s8 h', Grw h h' → HdD h.size h'.size h' H s1 s2 s7 s8 → K H.k s1 s2 H.id H.de H.rows H.press s7 s8 e Sl.nil y h') : Fn12 s h K Kp :=
  get_m tb sv hl (fun e q h' g => hk HdZ e.1 e.2 (.err q) Sl.nil Sl.nil Sl.nil Sl.nil h' g HdZ_D) fun H q s1 s2 s7 s8 h' g D => hk H 0 0 (.okk q) s1 s2 s7 s8 h' g D
end Go.Proofs.YtfomkkdijjfpiaaDoor
/- The law MetaGets. -/
namespace Go.Proofs.YtfomkkdijjfpiaaDoor
open Go Go.Sh Go.WideShapes
theorem rget_r {h : Hp} {s : Sl} {l : List UInt8} {K : K12} {Kp : List PanicEntry → Hp → Prop} (sv : Sv h s (bv l)) (hl : l.length ≤ 9223372036854775807)
    (hk : ∀ H e y, GetR l H e y → ∀ s1 s2 s7 s8 h', Grw h h' → HdD h.size h'.size h' H s1 s2 s7 s8 → K H.k s1 s2 H.id H.de H.rows H.press s7 s8 e Sl.nil y h') : Fn13 s h K Kp :=
  rget_c sv hl (fun e q h' g => hk HdZ e.1 e.2 (.err q) Sl.nil Sl.nil Sl.nil Sl.nil h' g HdZ_D) fun H q s1 s2 s7 s8 h' g D => hk H 0 0 (.okk q) s1 s2 s7 s8 h' g D
theorem law4 {l : List UInt8} {h : Hp} {s : Sl} {K : Bool → Hp → Prop} {Kp : List PanicEntry → Hp → Prop} (tb : KTab h) (sv : Sv h s (bv l)) (hl : l.length ≤ 9223372036854775807) (hk : ∀ h', Grw h h' → K true h') : Fn4 s h K Kp := by
  refine Fn4.of ?_
  unfold S4
  refine get_r tb sv hl fun H e y q s1 s2 s7 s8 h1 g1 D1 => ?_
  refine New_i fun b3 h2 e3 g2 k3 _ => New_i fun b4 h3 e4 g3 k4 _ => ?_
  have k3 := k3.grw g3
  have i3 := k3.lt
  have z2 := g2.1
  have g03 := Grw.trans g1 (Grw.trans g2 g3)
  refine St9_i k3 rfl fun h4 o4 k3 => St3_i (o4.blk k4 (by omega)) rfl fun h5 o5 k4 => ?_
  have k3 := o5.blk k3 (by omega)
  have g15 : Grw h1 h5 := o5.grw (o4.grw (Grw.trans g2 g3) (by omega)) (by omega)
  have g05 := Grw.trans g1 g15
  refine rget_r (sv.grw g05) hl fun H' e' y' q' t1 t2 t7 t8 h6 g6 D6 => ?_
  obtain ⟨rfl, rfl, rfl⟩ := q.eq q'
  refine New_i fun b5 h7 e5 g7 k5 _ => New_i fun b6 h8 e6 g8 k6 _ => ?_
  have k5 := k5.grw g8
  have i5 := k5.lt
  have z7 := g7.1
  refine St9_i k5 rfl fun h9 o9 k5 => St3_i (o9.blk k6 (by omega)) rfl fun ha oa k6 => ?_
  have k5 := oa.blk k5 (by omega)
  have g6a : Grw h6 ha := oa.grw (o9.grw (Grw.trans g7 g8) (by omega)) (by omega)
  have g5a := Grw.trans g6 g6a
  have k3 := k3.grw g5a
  have k4 := k4.grw g5a
  refine Ld3_i k4 (Ld3_i k6 (fault_same rfl rfl fun hb gb => If_t rfl ?_))
  have gab := Grw.trans g05 (Grw.trans g5a gb)
  refine Ld9_i (k3.grw gb) (Ld9_i (k5.grw gb) (head_same q.sz (Grw.refl _) (D1.h.grw (Grw.trans g15 (Grw.trans g5a gb))) (D6.h.grw (Grw.trans g6a gb)) fun hc gc => ?_))
  refine J4_1.of ?_
  unfold JT4_1
  refine If_t rfl (fixed_c (tb.grw (Grw.trans gab gc)) fun hd gd => hk hd (Grw.trans gab (Grw.trans gc gd)))
end Go.Proofs.YtfomkkdijjfpiaaDoor
