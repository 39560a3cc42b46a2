import Derived.Test.YtcgdhhchjgbhnaaGreatDoorCutsJ3
import Derived.Test.YtcgdhhchjgbhnaaGreatDoorCutsShGlue
import Derived.SizedLaws
import Derived.Test.YtcgdhhchjgbhnaaGreatDoorCards
import Derived.Test.YtcgdhhchjgbhnaaGreatDoorTie
set_option linter.unusedSimpArgs false
set_option linter.unusedVariables false
set_option maxRecDepth 100000
set_option maxHeartbeats 1000000
/- Arrays as they stand in a heap; Check, Open, parts. -/
namespace Go.Proofs.YtcgdhhchjgbhnaaGreatDoor
open Go Go.Sh Go.WideShapes
theorem dsml.of : ∀ {ds : List Dat}, (∀ d ∈ ds, d.sml) → dsml ds
  | [], _ => by unfold dsml; trivial
  | d :: ds, h => by unfold dsml; exact ⟨h d (by simp), dsml.of fun x hx => h x (by simp [hx])⟩
theorem Dat.sml.of {d : Dat} (h : (d.bufs.length ≤ 70000 ∧ ∀ l ∈ d.bufs, l.length ≤ 70000) ∧ (d.cs.length ≤ 70000 ∧ dsml d.cs) ∧ d.ds.length ≤ 70000 ∧ dsml d.ds) : d.sml := by cases d; unfold Dat.sml; exact h
theorem arr_sml : ∀ (n : Nat) (f : Fld) (d : Dat), f.dep ≤ n → f.arr d → d.sml := by
  intro n
  induction n with
  | zero => intro f d h; have := dep_pos f; omega
  | succ n ih =>
    intro f d hd h
    have o := h.siz
    have nb := o.nb
    have bk := bufK_le f.k
    have sub : ∀ c ∈ partsD d, c.sml := fun c hc => by
      obtain ⟨j, hj⟩ := List.mem_iff_getElem?.1 hc
      have hl := (List.getElem?_eq_some_iff.1 hj).1
      have hp := o.parts
      have hg : (pfs f.k f.cs)[j]? = some (pfs f.k f.cs)[j] := List.getElem?_eq_getElem (by omega)
      have := dep_part h.h20 hg
      exact ih _ c (by omega) (h.part hg hj)
    have chl := o.ty.kinds.2.1
    refine Dat.sml.of ⟨⟨by omega, fun l hl => ?_⟩, ?_⟩
    · obtain ⟨j, hj⟩ := List.mem_iff_getElem?.1 hl
      have hl' := (List.getElem?_eq_some_iff.1 hj).1
      have := o.big j hl'
      rw [bufD_get hl'] at hj; cases hj; omega
    · have nd := o.nd
      have nc := o.nc
      by_cases h19 : f.k = 19
      · rw [diK, if_pos h19] at nd
        rw [chK, if_pos h19] at nc
        have hp : partsD d = d.ds := by unfold partsD; rw [if_pos (by omega)]
        rw [hp] at sub
        have hc : d.cs = [] := List.eq_nil_of_length_eq_zero nc
        exact ⟨⟨by omega, by rw [hc]; unfold dsml; trivial⟩, by omega, dsml.of sub⟩
      · rw [diK, if_neg h19] at nd
        have hp : partsD d = d.cs := by unfold partsD; rw [if_neg (by omega)]
        rw [hp] at sub
        have hc : d.ds = [] := List.eq_nil_of_length_eq_zero nd
        have := chK_le f.k f.cs
        exact ⟨⟨by omega, dsml.of sub⟩, by omega, by rw [hc]; unfold dsml; trivial⟩
/-- the family of a kind -/
def famV (k : Int) : Value := if k = 12 ∨ k = 13 then .iface Y192 (.agg #[]) else if k = 15 ∨ k = 16 then .iface Y193 (.agg #[]) else if k = 17 then .iface Y194 (.agg #[]) else if k = 18 then .iface Y195 (.agg #[]) else if k = 19 then .iface Y196 (.agg #[]) else if k = 20 then .iface Y197 (.agg #[]) else .iface Y198 (.agg #[])
theorem family_c {k : Int} {h : Hp} {K : Value → HP} {Kp : PK} (hk : K (famV k) h) : Fn101 k h K Kp := by
  have fin : ∀ v : Value, v = famV k → K v h := fun v e => e ▸ hk
  unfold famV at fin
  have j2 : ∀ b : Bool, (b = true ↔ (k = 15 ∨ k = 16)) → ¬ (k = 12 ∨ k = 13) → J101_2 K Kp k b h := by
    intro b hb hn
    refine J101_2.of (If_i (fun c => fin _ ?_) fun c => ?_)
    · rw [if_neg hn, if_pos (hb.1 c)]
    have hn2 : ¬ (k = 15 ∨ k = 16) := fun q => by rw [hb.2 q] at c; cases c
    refine If_i (fun c1 => fin _ ?_) fun c1 => If_i (fun c2 => fin _ ?_) fun c2 => If_i (fun c3 => fin _ ?_) fun c3 => If_i (fun c4 => fin _ ?_) fun c4 => fin _ ?_
    all_goals simp only [decide_eq_true_eq, decide_eq_false_iff_not, beq_iff_eq, beq_eq_false_iff_ne, ne_eq, reduceCtorEq, true_iff, false_iff, Bool.not_eq_true', Bool.not_eq_false', bne_iff_ne, bne_eq_false_iff_eq, Bool.not_true, Bool.not_false, Decidable.not_not] at *
    all_goals rw [if_neg hn, if_neg hn2]
    · rw [if_pos c1]
    · rw [if_neg c1, if_pos c2]
    · rw [if_neg c1, if_neg c2, if_pos c3]
    · rw [if_neg c1, if_neg c2, if_neg c3, if_pos c4]
    · rw [if_neg c1, if_neg c2, if_neg c3, if_neg c4]
  have j1 : ∀ b : Bool, (b = true ↔ (k = 12 ∨ k = 13)) → J101_1 K Kp k b h := by
    intro b hb
    refine J101_1.of (If_i (fun c => fin _ ?_) fun c => ?_)
    · rw [if_pos (hb.1 c)]
    have hn : ¬ (k = 12 ∨ k = 13) := fun q => by rw [hb.2 q] at c; cases c
    refine If_i (fun c1 => j2 _ ?_ hn) fun c1 => j2 _ ?_ hn
    all_goals simp only [decide_eq_true_eq, decide_eq_false_iff_not, beq_iff_eq, beq_eq_false_iff_ne, ne_eq, reduceCtorEq, true_iff, false_iff, Bool.not_eq_true', Bool.not_eq_false', bne_iff_ne, bne_eq_false_iff_eq, Bool.not_true, Bool.not_false, Decidable.not_not] at *
    all_goals omega
  refine Fn101.of (If_i (fun c => j1 _ ?_) fun c => j1 _ ?_)
  all_goals simp only [decide_eq_true_eq, decide_eq_false_iff_not, beq_iff_eq, beq_eq_false_iff_ne, ne_eq, reduceCtorEq, true_iff, false_iff, Bool.not_eq_true', Bool.not_eq_false', bne_iff_ne, bne_eq_false_iff_eq, Bool.not_true, Bool.not_false, Decidable.not_not] at *
  all_goals omega
abbrev arow (f : Fld) (s : Sl) (d : Dat) (q : Sl × Sl × Sl) (o n : Int) : Array Value := #[.string f.name, .bool f.nul, .int .i64 f.k, .int .i64 f.w, .int .i64 f.id, .int .i64 f.ix, Sl.v s, .int .i64 d.len, .int .i64 d.off, .int .i64 d.nul, Sl.v q.1, Sl.v q.2.1, Sl.v q.2.2, .int .i64 o, .int .i64 n, .pointer none, famV f.k]
/-- an array looked into: rows from o on, n of them -/
structure ArA (D : Nat → Prop) (h : Hp) (b : Nat) (f : Fld) (d : Dat) (o n : Int) (s : Sl) (q : Sl × Sl × Sl) : Prop where
  k : Blk h b (arow f s d q o n) Y109
  fs : FsA D h s f.cs
  dv : DvA D D h q d
section
variable {D D' S : Nat → Prop} {h h' : Hp} {b : Nat} {f : Fld} {d : Dat} {o n : Int} {s : Sl} {q : Sl × Sl × Sl}
theorem ArA.fr (A : ArA D h b f d o n s q) (t : Tn S h h') (hb : ¬ S b) (hn : ∀ x, D x → ¬ S x) (hD : ∀ x, D x → D' x) : ArA D' h' b f d o n s q :=
  ⟨t.blk A.k hb, FsA.fr t hn hD _ A.fs, A.dv.fr t (fun x hx _ => hn x hx) (fun x hx _ => hn x hx) hD hD⟩
theorem ArA.gr (A : ArA D h b f d o n s q) (g : Grw h h') : ArA D h' b f d o n s q := A.fr (S := No) (Tn.of_grw g) (fun x => x) (fun _ _ x => x) fun _ x => x
theorem ArA.mo (A : ArA D h b f d o n s q) (hD : ∀ x, D x → D' x) : ArA D' h b f d o n s q := A.fr (S := No) (Tn.refl _ _) (fun x => x) (fun _ _ x => x) hD
theorem ArA.lt (A : ArA D h b f d o n s q) : ArA (fun x => D x ∧ x < h.size) h b f d o n s q := ⟨A.k, FsA.lt _ A.fs, A.dv.lt⟩
theorem ArA.cf (A : ArA D h b f d o n s q) : Cs h ⟨b, 0, none⟩ (f.row s) := by
  intro i v hv
  rw [add_blk, cell_blk A.k]
  rcases i with _ | _ | _ | _ | _ | _ | _ | i
  all_goals first | exact hv | (simp [Fld.row, vals7] at hv)
theorem ArA.cd (A : ArA D h b f d o n s q) : Cs h ⟨b, 7, none⟩ (d.row q) := by
  intro i v hv
  rw [add_blk, cell_blk A.k]
  rcases i with _ | _ | _ | _ | _ | _ | i
  all_goals first | exact hv | (simp [Dat.row, vals6] at hv)
theorem FrA.get : ∀ {a : Addr} {fs : List Fld} {i : Nat}, FrA D h a i fs → ∀ (j : Nat) f, fs[j]? = some f → FldA D h (a.add ((i + j) * 7)) f
  | _, [], _, _, _, _, hj => by simp at hj
  | _, f :: fs, i, hh, 0, g, hj => by simp at hj; subst hj; unfold FrA at hh; exact hh.1
  | _, f :: fs, i, hh, j + 1, g, hj => by
    unfold FrA at hh
    have := FrA.get hh.2 j g (by simpa using hj)
    have e : i + (j + 1) = i + 1 + j := by omega
    rw [e]; exact this
theorem FldA.row {a : Addr} {f : Fld} (hf : FldA D h a f) : ∃ u, Cs h a (f.row u) ∧ FsA D h u f.cs := by cases f; unfold FldA at hf; exact hf
theorem FsA.ix {s : Sl} {fs : List Fld} (hs : FsA D h s fs) {x : Int} {i : Nat} (hx : x = (i : Int)) {g : Fld} (hj : fs[i]? = some g) {K : Addr → Prop} (hk : ∀ a u, Cs h a (g.row u) → FsA D h u g.cs → K a) : Ix s.a s.n 7 x K := by
  have hn := hs.n
  have hi : i < fs.length := (List.getElem?_eq_some_iff.1 hj).1
  cases fs with
  | nil => simp at hj
  | cons f fs =>
    unfold FsA at hs
    obtain ⟨_, _, a, ha, _, h1, h2⟩ := hs
    have : FldA D h (a.add (i * 7)) g := by
      cases i with
      | zero => simp at hj; subst hj; rw [Nat.zero_mul, add_zero']; exact h1
      | succ j =>
        have := h2.get j g (by simpa using hj)
        have e : 1 + j = j + 1 := by omega
        rw [e] at this; exact this
    obtain ⟨u, c, v⟩ := this.row
    subst hx
    rw [ha]
    exact ⟨by omega, by omega, by rw [Int.toNat_natCast]; exact hk _ _ c v⟩
theorem partfA_c {nm : ByteArray} {nul : Bool} {k w id ix : Int} {cs : List Fld} {j : Nat} {K : KF} {Kp : PK} (hs : FsA D h s cs) (hf : (pfs k cs)[j]? = some f) (h20 : k = 20 → cs.length = 1)
    (hk : ∀ t h', Grw h h' → FsA D h' t f.cs → K f.name f.nul f.k f.w f.id f.ix t h') {x : Int} (hx : x = j) : Fn110 nm nul k w id ix s x h K Kp := by
  subst hx
  refine Fn110.of (New_i fun b2 h1 e2 g1 k2 _ => New_i fun b4 h2 e4 g2 k4 _ => ?_)
  have G := Grw.trans g1 g2
  have k2 := k2.grw g2
  have hb4 : h.size ≤ b4 := by have := g1.1; omega
  simp only [add_blk]
  have out : ∀ {a : Addr} {g : Fld} {u : Sl}, Cs h a (g.row u) → FsA D h u g.cs → g = f → LY29 h2 a fun t0 t1 t2 t3 t4 t5 t6 => SY29 h2 ⟨b4, 0, none⟩ t0 t1 t2 t3 t4 t5 t6 fun h3 => LY29 h3 ⟨b4, 0, none⟩ fun r0 r1 r2 r3 r4 r5 r6 => K r0 r1 r2 r3 r4 r5 r6 h3 := by
    rintro a g u c hu rfl
    refine LY29.c (c.grw G) (SY29.b k4 rfl fun h3 o3 k4 => LY29.b k4 (hk _ _ (Only.grw G o3 hb4) (hu.gr (Only.grw G o3 hb4))))
  have j1 : ∀ i, cs[i]? = some f → (if k = 20 then i = 0 else i = j) → J110_1 K Kp (j : Int) ⟨b2, 0, none⟩ ⟨b4, 0, none⟩ h2 := by
    intro i hi hij
    refine J110_1.of ?_
    simp only [add_blk]
    have hat : ∀ {x : Int}, x = i → Ix s.a s.n 7 x fun a => LY29 h2 a fun t0 t1 t2 t3 t4 t5 t6 => SY29 h2 ⟨b4, 0, none⟩ t0 t1 t2 t3 t4 t5 t6 fun h3 => LY29 h3 ⟨b4, 0, none⟩ fun r0 r1 r2 r3 r4 r5 r6 => K r0 r1 r2 r3 r4 r5 r6 h3 := fun hx =>
      hs.ix hx hi fun a u c hu => out c hu rfl
    refine Ld_blk k2 rfl (If_i (fun c => Ld_blk k2 rfl (hat ?_)) fun c => Ld_blk k2 rfl (hat ?_))
    · simp only [decide_eq_true_eq, decide_eq_false_iff_not, beq_iff_eq, beq_eq_false_iff_ne, ne_eq, reduceCtorEq, true_iff, false_iff, Bool.not_eq_true', Bool.not_eq_false', bne_iff_ne, bne_eq_false_iff_eq, Bool.not_true, Bool.not_false, Decidable.not_not] at c; rw [if_pos c] at hij; omega
    · simp only [decide_eq_true_eq, decide_eq_false_iff_not, beq_iff_eq, beq_eq_false_iff_ne, ne_eq, reduceCtorEq, true_iff, false_iff, Bool.not_eq_true', Bool.not_eq_false', bne_iff_ne, bne_eq_false_iff_eq, Bool.not_true, Bool.not_false, Decidable.not_not] at c; rw [if_neg c] at hij; omega
  unfold pfs at hf
  refine Ld_blk k2 rfl (If_i (fun c => If_i (fun c2 => ?_) fun c2 => ?_) fun c => ?_)
  · simp only [decide_eq_true_eq, decide_eq_false_iff_not, beq_iff_eq, beq_eq_false_iff_ne, ne_eq, reduceCtorEq, true_iff, false_iff, Bool.not_eq_true', Bool.not_eq_false', bne_iff_ne, bne_eq_false_iff_eq, Bool.not_true, Bool.not_false, Decidable.not_not] at c c2
    obtain rfl : j = 0 := by omega
    rw [if_pos c] at hf
    simp only [List.getElem?_cons_zero, Option.some.injEq] at hf
    subst hf
    refine SY29.b k4 rfl fun h3 o3 k4 => LY29.b k4 (hk _ _ (Only.grw G o3 hb4) ?_)
    show FsA D _ _ []
    unfold FsA; exact ⟨rfl, Nat.le_refl _⟩
  · simp only [decide_eq_true_eq, decide_eq_false_iff_not, beq_iff_eq, beq_eq_false_iff_ne, ne_eq, reduceCtorEq, true_iff, false_iff, Bool.not_eq_true', Bool.not_eq_false', bne_iff_ne, bne_eq_false_iff_eq, Bool.not_true, Bool.not_false, Decidable.not_not] at c c2
    rw [if_pos c] at hf
    obtain ⟨i, rfl⟩ : ∃ i, j = i + 1 := ⟨j - 1, by omega⟩
    rw [List.getElem?_cons_succ] at hf
    have := (List.getElem?_eq_some_iff.1 hf).1
    have := h20 c
    obtain rfl : i = 0 := by omega
    exact j1 0 hf (by rw [if_pos c])
  · simp only [decide_eq_true_eq, decide_eq_false_iff_not, beq_iff_eq, beq_eq_false_iff_ne, ne_eq, reduceCtorEq, true_iff, false_iff, Bool.not_eq_true', Bool.not_eq_false', bne_iff_ne, bne_eq_false_iff_eq, Bool.not_true, Bool.not_false, Decidable.not_not] at c
    rw [if_neg c] at hf
    exact j1 j hf (by rw [if_neg c])
theorem opened_c {K : Option Addr → HP} {Kp : PK} (hs : FsA D h s f.cs) (v : DvA D D h q d) (hk : ∀ b' h', Grw h h' → h.size ≤ b' → ArA D h' b' f d d.off d.len s q → K (some ⟨b', 0, none⟩) h') :
    Fn50 f.name f.nul f.k f.w f.id f.ix s d.len d.off d.nul q.1 q.2.1 q.2.2 none h K Kp := by
  refine Fn50.of (New_i fun b3 h1 e1 g1 k3 _ => New_i fun b4 h2 e2 g2 k4 _ => ?_)
  simp only [add_blk]
  have G := Grw.trans g1 g2
  have k3 := k3.grw g2
  refine LY29.b k3 (LY33.b k4 (Ld_blk k4 rfl (Ld_blk k4 rfl (Ld_blk k3 rfl (family_c (Keep_rfl (Keep_rfl (Keep_rfl (Keep_rfl ?_)))))))))
  have na : ∀ {X : Prop}, X → NA (famV f.k) X := fun {X} hX => by unfold famV; (repeat' split) <;> exact ⟨rfl, hX⟩
  exact na (New_i fun b5 h3 e3 g3 k5 _ => hk _ _ (Grw.trans G g3) (by have := G.1; omega) ⟨k5, hs.gr (Grw.trans G g3), v.gr (Grw.trans G g3)⟩)
theorem part_c {g : Fld} {c : Dat} {j : Nat} {x : Int} {K : Option Addr → HP} {Kp : PK} (A : ArA D h b f d o n s q) (h20 : f.k = 20 → f.cs.length = 1) (hx : x = j) (hg : (pfs f.k f.cs)[j]? = some g) (hc : (partsD d)[j]? = some c)
    (hk : ∀ b' s' q' h', Grw h h' → h.size ≤ b' → ArA D h' b' g c c.off c.len s' q' → K (some ⟨b', 0, none⟩) h') : Fn66 (some ⟨b, 0, none⟩) x h K Kp := by
  refine Fn66.of ?_
  simp only [NN_some, add_blk]
  refine LY29.c A.cf (LY33.c A.cd (Ld_blk A.k rfl (partfA_c A.fs hg h20 (fun u h1 g1 fu => Keep_blk A.k g1 (Keep_blk A.k g1 (parts_k (A.dv.gr g1) fun u2 h2 g2 ds => Keep_blk (A.k.grw g1) g2 (ds.ix hx hc fun a qc cc vc => LY33.c cc (opened_c (fu.gr g2) vc fun b' h' g' hb A' => hk _ _ _ _ (Grw.trans (Grw.trans g1 g2) g') (by have := g1.1; have := g2.1; omega) A'))))) hx)))
end
section
variable {h : Hp} {f : Fld} {d : Dat} {s : Sl} {p : Sl × Sl × Sl}
theorem Check_c {K : Int → Sl → Int → HP} {Kp : PK} (ht : Tab h) (hu : UTab h) (hsm : f.sml) (hs : FsH h s f.cs) (v : DvH h p d) (hm : d.mac) (hk : ∀ e l m h', Grw h h' → (e = 0 ↔ FldOk f ∧ f.arr d) → K e l m h') :
    Fn49 f.name f.nul f.k f.w f.id f.ix s d.len d.off d.nul p.1 p.2.1 p.2.2 h K Kp := by
  refine Fn49.of (New_i fun b2 h1 e1 g1 k2 _ => New_i fun b3 h2 e2 g2 k3 _ => New_i fun b4 h3 e3 g3 k4 _ => ?_)
  have G := Grw.trans g1 (Grw.trans g2 g3)
  have k2 := (k2.grw g2).grw g3
  have k3 := k3.grw g3
  have hb4 : h.size ≤ b4 := by have := g1.1; have := g2.1; omega
  have hcf : ∀ {K : Int → Sl → Int → HP}, (∀ e p n h', Grw h3 h' → (e = 0 ↔ FldOk f) → K e p n h') → Fn98 f.name f.nul f.k f.w f.id f.ix s h3 K Kp := fun {K} hkk => by
    obtain ⟨nm, nul, k, w, id, ix, cs⟩ := f
    exact cfield_c (ht.k.grw G) hsm (hs.gr G) hkk
  refine LY29.b k2 (hcf fun e l m h4 g4 he => If_i (fun c => ?_) fun c => LY29.b (k2.grw g4) (LY33.b (k3.grw g4) ?_))
  · simp only [decide_eq_true_eq, decide_eq_false_iff_not, beq_iff_eq, beq_eq_false_iff_ne, ne_eq, reduceCtorEq, true_iff, false_iff, Bool.not_eq_true', Bool.not_eq_false', bne_iff_ne, bne_eq_false_iff_eq, Bool.not_true, Bool.not_false, Decidable.not_not] at c
    exact fault_to (Grw.trans G g4) (k4.grw g4) rfl hb4 fun h' g' => hk _ _ _ h' g' ⟨fun y => absurd y (by decide), fun y => absurd (he.2 y.1) c⟩
  · simp only [decide_eq_true_eq, decide_eq_false_iff_not, beq_iff_eq, beq_eq_false_iff_ne, ne_eq, reduceCtorEq, true_iff, false_iff, Bool.not_eq_true', Bool.not_eq_false', bne_iff_ne, bne_eq_false_iff_eq, Bool.not_true, Bool.not_false, Decidable.not_not] at c
    have G4 := Grw.trans G g4
    refine arrch f.dep f (Nat.le_refl _) (ht.grw G4) (hu.grw G4) hsm (hs.gr G4) (v.gr G4) hm fun e' l' m' t' h5 g5 _ he' _ => New_i fun b5 h6 e6 g6 k5 _ => SY37.b k5 rfl fun h7 o7 k5 => LY37.b k5 ?_
    have g45 := g4.1
    have g5s := g5.1
    have k4l := k4.lt
    have G5 := Grw.trans G4 g5
    have k4 := o7.blk (((k4.grw g4).grw g5).grw g6) (by omega)
    refine SY37.b k4 rfl fun h8 o8 k4 => LY37.b k4 (hk _ _ _ _ (Only.grw (Only.grw (Grw.trans G5 g6) o7 (by have := G5.1; omega)) o8 hb4) ?_)
    rw [he']
    exact ⟨fun y => ⟨he.1 c, y⟩, fun y => y.2⟩
theorem Open_c {D : Nat → Prop} {K : Option Addr → Int → Sl → Int → HP} {Kp : PK} (ht : Tab h) (hu : UTab h) (hsm : f.sml) (hs : FsH h s f.cs) (v0 : DvA D D h p d) (hm : d.mac)
    (hk1 : ∀ e l m h', Grw h h' → e ≠ 0 → ¬ (FldOk f ∧ f.arr d) → K none e l m h')
    (hk2 : FldOk f → f.arr d → ∀ b s' q' h', Grw h h' → h.size ≤ b → ArA (fun x => (D x ∧ x < h.size) ∨ h.size ≤ x) h' b f d d.off d.len s' q' → K (some ⟨b, 0, none⟩) 0 Sl.nil 0 h') :
    Fn12 f.name f.nul f.k f.w f.id f.ix s d.len d.off d.nul p.1 p.2.1 p.2.2 h K Kp := by
  have v : DvH h p d := v0.mo (fun _ _ => trivial) fun _ _ => trivial
  refine Fn12.of (New_i fun b2 h1 e1 g1 k2 _ => New_i fun b3 h2 e2 g2 k3 _ => New_i fun b5 h3 e3 g3 k5 _ => ?_)
  have G := Grw.trans g1 (Grw.trans g2 g3)
  have k2 := (k2.grw g2).grw g3
  have k3 := k3.grw g3
  have hb5 : h.size ≤ b5 := by have := g1.1; have := g2.1; omega
  have k5l := k5.lt
  refine LY29.b k2 (LY33.b k3 (Check_c (ht.grw G) (hu.grw G) hsm (hs.gr G) (v.gr G) hm fun e l m h4 g4 he => New_i fun b6 h5 e6 g6 k6 _ => SY37.b k6 rfl fun h6 o6 k6 => Ld_blk k6 rfl (If_i (fun c => ?_) fun c => ?_)))
  all_goals have g4s := g4.1
  all_goals have k5 := o6.blk ((k5.grw g4).grw g6) (by omega)
  all_goals have G6 := Only.grw (Grw.trans (Grw.trans G g4) g6) o6 (by have := G.1; omega)
  all_goals simp only [decide_eq_true_eq, decide_eq_false_iff_not, beq_iff_eq, beq_eq_false_iff_ne, ne_eq, reduceCtorEq, true_iff, false_iff, Bool.not_eq_true', Bool.not_eq_false', bne_iff_ne, bne_eq_false_iff_eq, Bool.not_true, Bool.not_false, Decidable.not_not] at c
  · refine LY37.b k6 (SY37.b k5 rfl fun h7 o7 k5 => LY37.b k5 (hk1 _ _ _ _ (Only.grw G6 o7 hb5) c fun y => c (he.2 y)))
  · obtain ⟨ok, ar⟩ := he.1 c
    have g36 : Grw h3 h6 := Only.grw (Grw.trans g4 g6) o6 (by omega)
    have g36' := g36
    have k2 := k2.grw g36
    have k3 := k3.grw g36
    have ln := ok.lns.cs
    refine J12_1.of (LY29.b k2 (LY33.b k3 (fcop f.cs (hs.gr G6) ln.1 ln.2 fun t h7 g7 ft => Keep_blk k3 g7 ?_)))
    have v7 := v0.lt.gr (Grw.trans G6 g7)
    have hs7 := (Grw.trans G6 g7).1
    have h56 : b5 < h6.size := by have := g36'.1; omega
    have g7s := g7.1
    refine copied_c d v7 (n0 := h.size) (fun b hb => hb.2) hs7 (arr_sml f.dep f d (Nat.le_refl _) ar) fun p' h8 g8 v8 => ?_
    have G6s' := G6.1
    refine opened_c (D := fun x => x ≠ b5 ∧ ((D x ∧ x < h.size) ∨ h.size ≤ x)) ((FsA.fr (S := No) (Tn.refl _ _) (fun _ _ => id) (fun x (hx : h6.size ≤ x) => ⟨by omega, .inr (by omega)⟩) _ ft).gr g8) (v8.mo (fun x (hx : h7.size ≤ x) => ⟨by omega, .inr (by omega)⟩) fun x hx => ⟨by have := hx.2; omega, .inl hx⟩) fun b' h9 g9 hb A => ?_
    have g69 := Grw.trans (Grw.trans g7 g8) g9
    have G6s := G6.1
    have g8s := g8.1
    exact SY37.b (k5.grw g69) rfl fun h10 o10 k5 => LY37.b k5 (hk2 ok ar _ _ _ _ (Only.grw (Grw.trans G6 g69) o10 hb5) (by omega) (A.fr o10.fr (fun e => by omega) (fun x hx e => hx.1 e) fun _ hx => hx.2))
end
end Go.Proofs.YtcgdhhchjgbhnaaGreatDoor
set_option maxRecDepth 100000
set_option maxHeartbeats 1000000
/- Views into bytes. -/
namespace Go.Proofs.YtcgdhhchjgbhnaaGreatDoor
open Go Go.Sh Go.WideShapes
section
variable {D : Nat → Prop} {h : Hp} {u : Sl} {l : List UInt8} {Kp : PK}
theorem SvA.gr {h' : Hp} {vs : List Value} (v : SvA D h u vs) (g : Grw h h') : SvA D h' u vs := v.fr (S := No) (Tn.of_grw g) (fun _ _ _ => id) fun _ q => q
theorem of_c {K : Sl → Int → Option Addr → HP} (v : SvA D h u (bv l)) (hk : ∀ t h', Grw h h' → SvA D h' t (bv l) → K t 0 none h') : Fn136 u h K Kp := by
  have tn := v.1.1
  rw [bv_len] at tn
  refine Fn136.of (New_i fun b2 h1 e1 g1 k2 _ => Sv_slc (v.1.grw g1) (a := 0) (b := u.n) (m := u.n) rfl rfl rfl (Nat.zero_le _) (by rw [bv_len]; omega) (Nat.le_refl _) v.1.2.1 fun t _ _ ha vt => SY167.b k2 rfl fun h2 o2 k2 => LY167.b k2 (hk _ _ (Only.grw g1 o2 (by omega)) ?_))
  rw [bv_cut, List.drop_zero, List.take_of_length_le (by omega)] at vt
  have w : SvA (fun x => x < h.size ∧ D x) h1 t (bv l) := ⟨vt, fun hv a hat => by
    obtain ⟨y, hy, e⟩ := ha a hat
    have := v.lt.2 hv y hy
    rw [e]; exact ⟨this.2, this.1⟩⟩
  exact w.fr o2.fr (fun x hx _ e => by have := hx.1; omega) fun x hx => hx.2
theorem watched_c {o : Int} {w w0 : Option Addr} {K : Sl → Int → Option Addr → HP} (v : SvA D h u (bv l)) (hk : ∀ h', Grw h h' → SvA D h' u (bv l) → K u o w h') : Fn137 u o w0 w h K Kp := by
  have vl := v.lt
  refine Fn137.of (New_i fun b2 h1 e1 g1 k2 _ => New_i fun b4 h2 e2 g2 k4 _ => ?_)
  have k2l := k2.lt
  simp only [add_blk]
  have G := Grw.trans g1 g2
  refine St_i (k2.grw g2) (by simp) rfl fun h3 o3 k2 => LY167.b k2 (SY167.b (o3.blk k4 (by omega)) rfl fun h4 o4 k4 => LY167.b k4 (hk _ (Only.grw (Only.grw G o3 (by omega)) o4 (by have := g1.1; omega)) ?_))
  exact v.gr (Only.grw (Only.grw G o3 (by omega)) o4 (by have := g1.1; omega))
theorem there_c {o x n : Int} {w : Option Addr} {K : Bool → HP} (hl : u.n ≤ 2 ^ 40) (h1 : 0 ≤ x) (h2 : 0 ≤ n) (h3 : x + n ≤ u.n) (hk : ∀ h', Grw h h' → K true h') : Fn139 u o w x n h K Kp := by
  refine Fn139.of (New_i fun b3 h1' e1 g1 k3 _ => If_t (by simpa using h1) (J139_1.of (by
    have e2 : decide (n ≥ 0) = true := by simpa using h2
    rw [e2]
    refine If_t rfl (Ld_blk k3 rfl ?_)
    have e3 : decide (x ≤ (u.n : Int)) = true := by rw [decide_eq_true_eq]; omega
    rw [e3]
    refine J139_2.of (If_t rfl (Ld_blk k3 rfl (Wr_i64 (by omega) (by omega) ?_)))
    have e4 : decide (n ≤ (u.n : Int) - x) = true := by rw [decide_eq_true_eq]; omega
    rw [e4]; exact hk _ g1)))
theorem read_c {o x n : Int} {a m : Nat} {K : Sl → HP} (v : Sv h u (bv l)) (hl : l.length ≤ 2 ^ 40) (hx : x = a) (hn : n = m) (h3 : a + m ≤ l.length) (hk : ∀ t h', Grw h h' → Sv h' t (bv ((l.drop a).take m)) → K t h') : Fn140 u o none x n h K Kp := by
  subst hx hn
  have un := v.1
  rw [bv_len] at un
  refine Fn140.of (New_i fun b3 h1 e1 g1 k3 _ => ?_)
  simp only [add_blk]
  refine Ld_blk k3 rfl (If_f rfl (J140_1.of (If_f rfl ?_)))
  refine Ld_blk k3 rfl (Wr_i64 (by omega) (by omega) (Wr_i64 (by omega) (by omega) ?_))
  refine Sv_slc (v.grw g1) (a := a) (b := a + m) (m := a + m) (by simp) (by simp) (by simp) (by omega) (by rw [bv_len]; omega) (Nat.le_refl _) (by have := v.2.1; omega) fun t _ _ _ vt => hk _ _ g1 ?_
  rw [bv_cut, show a + m - a = m by omega] at vt
  exact vt
theorem byte_c {o x : Int} {i : Nat} {b : UInt8} {K : Int → Int → HP} (v : Sv h u (bv l)) (hl : l.length ≤ 2 ^ 40) (hx : x = i) (hb : l[i]? = some b) (hk : ∀ h', Grw h h' → K b.toNat 0 h') : Fn115 u o none x h K Kp := by
  have hi := (List.getElem?_eq_some_iff.1 hb).1
  have un := v.1
  rw [bv_len] at un
  refine Fn115.of (New_i fun b3 h1 e1 g1 k3 _ => LY167.b k3 (there_c (by omega) (by omega) (by omega) (by omega) fun h2 g2 => If_f rfl (LY167.b (k3.grw g2) (read_c (v.grw (Grw.trans g1 g2)) hl hx (m := 1) rfl (by omega) fun t h3 g3 vt => ?_))))
  refine Sv_byte vt (i := 0) rfl (b := b) ?_ (hk _ (Grw.trans (Grw.trans g1 g2) g3))
  rw [List.getElem?_take_of_lt (by omega), List.getElem?_drop]; exact hb
theorem wide_c {m : Nat} {K : Bool → HP} (hm : m = 1 ∨ m = 2 ∨ m = 4 ∨ m = 8) (hk : K true h) : Fn163 (m : Int) h K Kp := by
  rcases hm with rfl | rfl | rfl | rfl
  · exact Fn163.of (If_t rfl (J163_1.of (If_t rfl (J163_2.of (If_t rfl hk)))))
  · exact Fn163.of (If_f rfl (J163_1.of (If_t rfl (J163_2.of (If_t rfl hk)))))
  · exact Fn163.of (If_f rfl (J163_1.of (If_f rfl (J163_2.of (If_t rfl hk)))))
  · exact Fn163.of (If_f rfl (J163_1.of (If_f rfl (J163_2.of (If_f rfl hk)))))
theorem num_c {K : Int → HP} (v : Sv h u (bv l)) (hl : l.length ≤ 8) (hk : K (leN l) h) : Fn164 u h K Kp := by
  have un := v.1
  rw [bv_len] at un
  refine Fn164.of ?_
  rw [un]
  refine L164_1.rule (fun x3 x8 h' => h' = h ∧ ∃ i : Nat, x8 = i ∧ i ≤ l.length ∧ x3 = leN (l.take i)) (fun _ x8 _ => l.length - x8.toNat) ⟨rfl, 0, rfl, by omega, by simp [leN]⟩ ?_
  rintro x3 x8 h1 ⟨rfl, i, rfl, hi, rfl⟩ N1 hN
  refine If_i (fun c => ?_) fun c => ?_
  · simp only [decide_eq_true_eq, decide_eq_false_iff_not, beq_iff_eq, beq_eq_false_iff_ne, ne_eq, reduceCtorEq, true_iff, false_iff, Bool.not_eq_true', Bool.not_eq_false', bne_iff_ne, bne_eq_false_iff_eq, Bool.not_true, Bool.not_false, Decidable.not_not] at c
    have hi' : i < l.length := by omega
    have hbi : l[i]? = some l[i] := List.getElem?_eq_getElem hi'
    have htk : l.take (i + 1) = l.take i ++ [l[i]] := List.take_succ_eq_append_getElem hi'
    generalize l[i] = b at hbi htk
    have hb8 := b.toNat_lt
    have hlt := leN_lt (l.take i)
    have tl : (l.take i).length = i := by simp; omega
    rw [tl] at hlt
    rw [← un]
    refine Sv_byte v rfl hbi (Wr_u rfl (Nat.lt_of_lt_of_le hb8 (by decide)) ?_)
    rw [show (8 : Int) * (i : Int) = ((8 * i : Nat) : Int) by omega]
    have hp : b.toNat * 2 ^ (8 * i) < 2 ^ 64 := by
      have q1 : b.toNat * 2 ^ (8 * i) < 2 ^ 8 * 2 ^ (8 * i) := Nat.mul_lt_mul_of_pos_right hb8 (Nat.two_pow_pos _)
      rw [← Nat.pow_add] at q1
      exact Nat.lt_of_lt_of_le q1 (Nat.pow_le_pow_right (by decide) (by omega))
    refine Wr_i64 (by omega) (by omega) (sh_or (k := 8 * i) ?_ hlt hp (Nat.lt_of_lt_of_le hlt (Nat.pow_le_pow_right (by decide) (by omega))) ?_)
    · have : IntKind.bits .u64 = 64 := rfl
      rw [this, Int.toNat_natCast]; omega
    · rw [un]
      refine Wr_i64 (by omega) (by omega) (hN _ _ _ ⟨rfl, i + 1, by simp, by omega, ?_⟩ (by omega))
      rw [htk, leN_snoc, tl]
  · simp only [decide_eq_true_eq, decide_eq_false_iff_not, beq_iff_eq, beq_eq_false_iff_ne, ne_eq, reduceCtorEq, true_iff, false_iff, Bool.not_eq_true', Bool.not_eq_false', bne_iff_ne, bne_eq_false_iff_eq, Bool.not_true, Bool.not_false, Decidable.not_not] at c
    have : i = l.length := by omega
    subst this
    rw [List.take_length]; exact hk
theorem load_c {o x y : Int} {a m : Nat} {K : Int → Int → HP} (v : Sv h u (bv l)) (hl : l.length ≤ 2 ^ 40) (hm : m = 1 ∨ m = 2 ∨ m = 4 ∨ m = 8) (hx : x = a) (hy : y = m) (h3 : a + m ≤ l.length) (hk : ∀ h', Grw h h' → K (nAt l a m) 0 h') : Fn138 u o none x y h K Kp := by
  subst hy
  have un := v.1
  rw [bv_len] at un
  refine Fn138.of (New_i fun b3 h1 e1 g1 k3 _ => wide_c hm (If_f rfl (LY167.b k3 (there_c (by omega) (by omega) (by omega) (by omega) fun h2 g2 => If_f rfl (LY167.b (k3.grw g2) (read_c (v.grw (Grw.trans g1 g2)) hl hx rfl h3 fun t h3' g3 vt => num_c vt (by simp; omega) (hk _ (Grw.trans (Grw.trans g1 g2) g3))))))))
theorem sg_wrap {x m : Nat} (hm : m = 1 ∨ m = 2 ∨ m = 4 ∨ m = 8) (hx : x < 2 ^ (8 * m)) : Int.fdiv (IntKind.i64.wrap (IntKind.u64.wrap ((x : Int) * 2 ^ (64 - 8 * m)))) (2 ^ (64 - 8 * m)) = sg m x := by
  have ax : ∀ y : Int, Int.fdiv y (2 ^ (64 - 8 * m)) = y / 2 ^ (64 - 8 * m) := fun y => Int.fdiv_eq_ediv_of_nonneg _ (Int.le_of_lt (Int.pow_pos (by decide)))
  rw [ax]
  unfold sg
  rcases hm with rfl | rfl | rfl | rfl
  all_goals simp only [IntKind.wrap, IntKind.signed, IntKind.bits]
  all_goals simp at hx ⊢
  all_goals (repeat' split)
  all_goals omega
theorem sgv_c {o x y : Int} {a m : Nat} {K : Int → Int → HP} (v : Sv h u (bv l)) (hl : l.length ≤ 2 ^ 40) (hm : m = 1 ∨ m = 2 ∨ m = 4 ∨ m = 8) (hx : x = a) (hy : y = m) (h3 : a + m ≤ l.length) (hk : ∀ h', Grw h h' → K (sg m (nAt l a m)) 0 h') : Fn113 u o none x y h K Kp := by
  have hlt := nAt_lt l a m
  refine Fn113.of (New_i fun b3 h1 e1 g1 k3 _ => LY167.b k3 (load_c (v.grw g1) hl hm hx hy h3 fun h2 g2 => If_f rfl ?_))
  subst hy
  have e1 : (64 : Int) - 8 * (m : Int) = ((64 - 8 * m : Nat) : Int) := by omega
  have e2 : min (Int.toNat ((64 - 8 * m : Nat) : Int)) 64 = 64 - 8 * m := by rw [Int.toNat_natCast]; omega
  refine Wr_i64 (by omega) (by omega) (Wr_i64 (by omega) (by omega) ?_)
  rw [e1]
  refine Nn_i (by omega) ?_
  unfold Wr
  refine Nn_i (by omega) ?_
  unfold Lt
  have e3 : IntKind.bits .u64 = 64 := rfl
  have e4 : IntKind.bits .i64 = 64 := rfl
  rw [e3, e4, e2, sg_wrap hm hlt]
  exact hk _ (Grw.trans g1 g2)
theorem text_v {o x n : Int} {a m : Nat} {K : ByteArray → Int → HP} (v : Sv h u (bv l)) (hl : l.length ≤ 2 ^ 40) (hx : x = a) (hn : n = m) (h3 : a + m ≤ l.length) (hk : ∀ h', Grw h h' → K (bs ((l.drop a).take m)) 0 h') : Fn189 u o none x n h K Kp := by
  have un := v.1
  rw [bv_len] at un
  refine Fn189.of (New_i fun b3 h1 e1 g1 k3 _ => LY167.b k3 (there_c (by omega) (by omega) (by omega) (by omega) fun h2 g2 => If_f rfl (LY167.b (k3.grw g2) (read_c (v.grw (Grw.trans g1 g2)) hl hx hn h3 fun t h3' g3 vt => ⟨(l.drop a).take m, ?_, hk _ (Grw.trans (Grw.trans g1 g2) g3)⟩))))
  have := vt.rd1 vt.na
  rw [Nat.mul_one] at this
  exact this
end
section
variable {D : Nat → Prop} {h : Hp} {b : Nat} {f : Fld} {d : Dat} {o n : Int} {s : Sl} {q : Sl × Sl × Sl} {Kp : PK}
theorem bytes_v {x : Int} {j : Nat} {K : Sl → Int → Option Addr → HP} (A : ArA D h b f d o n s q) (hx : x = j) (hj : j < d.bufs.length) (hk : ∀ u h', Grw h h' → SvA D h' u (bv (bufD d.bufs j)) → K u 0 none h') : Fn112 (some ⟨b, 0, none⟩) x h K Kp := by
  refine Fn112.of (New_i fun b4 h1 e1 g1 k4 _ => ?_)
  simp only [NN_some, add_blk]
  have A1 := A.lt.gr g1
  refine Ld_blk A1.k rfl (A1.dv.b.ix hx hj fun a t ca vt => ⟨_, ca, Ld_blk A1.k rfl (of_c vt fun t2 h2 g2 v2 => Keep_blk A1.k g2 (watched_c v2 fun h3 g3 v3 => SY167.b ((k4.grw g2).grw g3) rfl fun h4 o4 k4 => LY167.b k4 (hk _ _ (Only.grw (Grw.trans g1 (Grw.trans g2 g3)) o4 (by omega)) (v3.fr o4.fr (fun x hx _ e => by have := hx.2; omega) fun x hx => hx.1))))⟩)
/-- null by the validity, looked into -/
theorem nullAt_c {r : Int} {i : Nat} {K : Bool → HP} (A : ArA D h b f d o n s q) (hr : r = i) (h1 : hasV f.k = true → 1 ≤ d.bufs.length) (hl : (bufD d.bufs 0).length ≤ 2 ^ 40) (hi : (bufD d.bufs 0).length ≠ 0 → i / 8 < (bufD d.bufs 0).length) (h40 : i ≤ 2 ^ 40)
    (hk : ∀ h', Grw h h' → K (nullB f.k d.bufs i) h') : Fn68 (some ⟨b, 0, none⟩) r h K Kp := by
  subst hr
  refine Fn68.of ?_
  simp only [NN_some, add_blk]
  refine Ld_blk A.k rfl (If_i (fun c1 => ?_) fun c1 => Ld_blk A.k rfl (hasv_c ?_))
  · have := hk _ (Grw.refl _); unfold nullB at this; rw [c1, Bool.true_or] at this; exact this
  refine If_i (fun c2 => ?_) fun c2 => ?_
  · rw [Bool.not_eq_true'] at c2
    have := hk _ (Grw.refl _); unfold nullB at this; rw [c1, c2, Bool.false_and, Bool.false_or] at this; exact this
  rw [Bool.not_eq_false'] at c2
  have hb := h1 c2
  refine Ld_blk A.k rfl (A.dv.b.ix rfl hb fun a t ca vt => ⟨_, ca, ?_⟩)
  have tn := vt.1.1
  rw [bv_len] at tn
  refine If_i (fun c3 => ?_) fun c3 => J68_1.of (bytes_v A (j := 0) rfl hb fun u h1 g1 v1 => ?_)
  · simp only [decide_eq_true_eq, decide_eq_false_iff_not, beq_iff_eq, beq_eq_false_iff_ne, ne_eq, reduceCtorEq, true_iff, false_iff, Bool.not_eq_true', Bool.not_eq_false', bne_iff_ne, bne_eq_false_iff_eq, Bool.not_true, Bool.not_false, Decidable.not_not] at c3
    have e : (bufD d.bufs 0).length = 0 := by omega
    have := hk _ (Grw.refl _); unfold nullB at this; rw [c1, c2, e] at this; exact this
  · simp only [decide_eq_true_eq, decide_eq_false_iff_not, beq_iff_eq, beq_eq_false_iff_ne, ne_eq, reduceCtorEq, true_iff, false_iff, Bool.not_eq_true', Bool.not_eq_false', bne_iff_ne, bne_eq_false_iff_eq, Bool.not_true, Bool.not_false, Decidable.not_not] at c3
    have hne : (bufD d.bufs 0).length ≠ 0 := by omega
    have hlt := hi hne
    have e1 : Int.tdiv (i : Int) 8 = ((i / 8 : Nat) : Int) := rfl
    have e2 : Int.tmod (i : Int) 8 = ((i % 8 : Nat) : Int) := rfl
    have hbi : (bufD d.bufs 0)[i / 8]? = some (bufD d.bufs 0)[i / 8] := List.getElem?_eq_getElem hlt
    have hg : (bufD d.bufs 0).getD (i / 8) 0 = (bufD d.bufs 0)[i / 8] := by simp [hlt]
    have hnl : nullB f.k d.bufs i = !bitL (bufD d.bufs 0) i := by
      unfold nullB; rw [c1, c2]
      have : ((bufD d.bufs 0).length != 0) = true := by rw [bne_iff_ne]; exact hne
      rw [this]; rfl
    rw [hnl] at hk
    unfold bitL at hk
    rw [hg] at hk
    generalize (bufD d.bufs 0)[i / 8] = y at hbi hk
    refine Dv_i (by decide) (Wr_i64 (by rw [e1]; omega) (by rw [e1]; omega) (byte_c v1.1 hl e1 hbi fun h2 g2 => Dv_i (by decide) ?_))
    unfold Lt
    rw [e2]
    refine Nn_i (by omega) ?_
    have e3 : Int.fdiv (y.toNat : Int) (2 ^ (min (Int.toNat ((i % 8 : Nat) : Int)) (IntKind.bits .u8))) = ((y.toNat / 2 ^ (i % 8) : Nat) : Int) := by
      have : min (Int.toNat ((i % 8 : Nat) : Int)) (IntKind.bits .u8) = i % 8 := by
        have : IntKind.bits .u8 = 8 := rfl
        rw [this, Int.toNat_natCast]; omega
      rw [this, Int.fdiv_eq_ediv_of_nonneg _ (Int.le_of_lt (Int.pow_pos (by decide)))]
      norm_cast
    rw [e3]
    show K (bitsV .and .u8 ((y.toNat / 2 ^ (i % 8) : Nat) : Int) 1 == 0) h2
    rw [and1]
    have : ((((y.toNat / 2 ^ (i % 8)) % 2 : Nat) : Int) == 0) = !(y.toNat / 2 ^ (i % 8) % 2 == 1) := by
      rw [Bool.eq_iff_iff]; simp only [beq_iff_eq, Bool.not_eq_true', beq_eq_false_iff_ne, ne_eq]; omega
    rw [this]; exact hk _ (Grw.trans g1 g2)
theorem number_c {k r : Int} {i : Nat} {K : Int → HP} (A : ArA D h b f d o n s q) (hk3 : 3 ≤ k ∧ k ≤ 11) (hr : r = i) (hb : 1 < d.bufs.length) (hl : (bufD d.bufs 1).length ≤ 2 ^ 40) (hi : (i + 1) * (widK k).toNat ≤ (bufD d.bufs 1).length) (hk : ∀ h', Grw h h' → K (numN k (bufD d.bufs 1) i) h') : Fn194 (some ⟨b, 0, none⟩) k r h K Kp := by
  subst hr
  have wk : (widK k).toNat = 1 ∨ (widK k).toNat = 2 ∨ (widK k).toNat = 4 ∨ (widK k).toNat = 8 := by unfold widK; repeat' split <;> omega
  have wi : widK k = ((widK k).toNat : Int) := by omega
  have e0 : (i + 1) * (widK k).toNat = i * (widK k).toNat + (widK k).toNat := by rw [Nat.add_mul, Nat.one_mul]
  have e1 : (i : Int) * widK k = ((i * (widK k).toNat : Nat) : Int) := by rw [wi]; simp
  have lt := nAt_lt (bufD d.bufs 1) (i * (widK k).toNat) (widK k).toNat
  have l64 : nAt (bufD d.bufs 1) (i * (widK k).toNat) (widK k).toNat < 2 ^ 64 := Nat.lt_of_lt_of_le lt (Nat.pow_le_pow_right (by decide) (by omega))
  have uns : ¬ (3 ≤ k ∧ k ≤ 6) → Fn112 (some ⟨b, 0, none⟩) 1 h (fun t0 t1 t2 h2 => Wr .i64 ((i : Int) * widK k) fun t36 => Fn138 t0 t1 t2 t36 (widK k) h2 (fun t38_0 t38_1 h3 => Wr .i64 t38_0 fun t42 => K t42 h3) Kp) Kp := fun no =>
    bytes_v A (j := 1) rfl hb fun u h1 g1 v1 => Wr_i64 (by omega) (by omega) (load_c v1.1 hl wk e1 wi (by omega) fun h2 g2 => by
      have := hk _ (Grw.trans g1 g2)
      unfold numN at this
      rw [if_neg no] at this
      unfold Wr
      have e : IntKind.i64.wrap (nAt (bufD d.bufs 1) (i * (widK k).toNat) (widK k).toNat : Int) = sg 8 (nAt (bufD d.bufs 1) (i * (widK k).toNat) (widK k).toNat) := by
        unfold sg
        rw [IntKind.wrap_i64]
        split <;> omega
      rw [e]; exact this)
  refine Fn194.of (awidth_c (by omega) (If_t (by simpa using hk3.1) (If_i (fun c => ?_) fun c => uns ?_)))
  · simp only [decide_eq_true_eq, decide_eq_false_iff_not, beq_iff_eq, beq_eq_false_iff_ne, ne_eq, reduceCtorEq, true_iff, false_iff, Bool.not_eq_true', Bool.not_eq_false', bne_iff_ne, bne_eq_false_iff_eq, Bool.not_true, Bool.not_false, Decidable.not_not] at c
    refine bytes_v A (j := 1) rfl hb fun u h1 g1 v1 => Wr_i64 (by omega) (by omega) (sgv_c v1.1 hl wk e1 wi (by omega) fun h2 g2 => ?_)
    have := hk _ (Grw.trans g1 g2)
    unfold numN at this
    rw [if_pos ⟨hk3.1, c⟩] at this
    exact this
  · simp only [decide_eq_true_eq, decide_eq_false_iff_not, beq_iff_eq, beq_eq_false_iff_ne, ne_eq, reduceCtorEq, true_iff, false_iff, Bool.not_eq_true', Bool.not_eq_false', bne_iff_ne, bne_eq_false_iff_eq, Bool.not_true, Bool.not_false, Decidable.not_not] at c; omega
end
end Go.Proofs.YtcgdhhchjgbhnaaGreatDoor
set_option maxRecDepth 100000
set_option maxHeartbeats 1000000
/- What may be weighed; runs, offsets, items looked into. -/
namespace Go.Proofs.YtcgdhhchjgbhnaaGreatDoor
open Go Go.Sh Go.WideShapes
abbrev Lc (h : Hp) (bl : Nat) (L : Int) : Prop := Blk h bl #[.int .i64 L] Y6
theorem weigh_c {h : Hp} {bl : Nat} {L n : Int} {K : HP} {Kp : PK} (k : Lc h bl L) (h0 : 0 ≤ n) (h1 : n ≤ L) (h2 : L ≤ 2 ^ 40) (hk : ∀ h', Only bl h h' → Lc h' bl (L - n) → K h') : Fn162 (some ⟨bl, 0, none⟩) n h K Kp := by
  refine Fn162.of ?_
  simp only [NN_some]
  refine Ld_blk k rfl (Wr_i64 (by omega) (by omega) (St_i k (by simp) rfl fun h1 o1 k1 => Ld_blk k1 rfl (If_f ?_ (hk _ o1 k1))))
  rw [decide_eq_false_iff_not]; omega
theorem UTab.fr {S : Nat → Prop} {h h' : Hp} (t : UTab h) (f : Tn S h h') (h1 : ¬ S 1) (h2 : ¬ S 2) : UTab h' :=
  ⟨fun i hi => f.cell (t.f i hi) h1, fun i hi => ⟨f.cell (t.a i hi).1 h2, f.cell (t.a i hi).2 h2⟩⟩
abbrev KV := Bool → Int → ByteArray → Sl → HP
/-- what is done with a value -/
def VK (h : Hp) (bl : Nat) (L : Int) (v : Val) (K : KV) : Prop := ∀ t h', Tn (· = bl) h h' → Lc h' bl (L - v.wgt) → VsA (Nw h) h' t v.items → K v.nul v.num (bs v.text) t h'
theorem VK.fin {h0 h : Hp} {bl b8 : Nat} {L : Int} {v : Val} {K : KV} {cs : Array Value} {u : Sl} {el : TypeId} (hk : VK h0 bl L v K) (t : Tn (· = bl) h0 h) (kl : Lc h bl (L - v.wgt)) (k8 : Blk h b8 cs el) (hs : cs.size = 4) (h8 : h0.size ≤ b8) (hbl : bl < h0.size) (w : VsA (fun c => h0.size ≤ c ∧ c ≠ b8) h u v.items) :
    SY66 h ⟨b8, 0, none⟩ v.nul v.num (bs v.text) u fun h' => LY66 h' ⟨b8, 0, none⟩ fun r0 r1 r2 r3 => K r0 r1 r2 r3 h' :=
  SY66.b k8 hs fun h' o' k8 => LY66.b k8 (hk _ _ (t.trans' o'.fr fun d hd hlt => by omega) (o'.blk kl (by omega)) (VsA.fr o'.fr (fun x hx _ e => hx.2 e) (fun x hx => hx.1) _ w))
theorem arr_offs {f : Fld} {d : Dat} {i : Nat} (h : f.arr d) (hk : f.k = 12 ∨ f.k = 13 ∨ f.k = 15) (lo : d.off.toNat ≤ i) (hi : i < d.off.toNat + d.len.toNat) :
    1 < d.bufs.length ∧ 4 * i + 8 ≤ (bufD d.bufs 1).length ∧ (bufD d.bufs 1).length ≤ 65536 ∧ 0 ≤ i32 (bufD d.bufs 1) i ∧ i32 (bufD d.bufs 1) i ≤ i32 (bufD d.bufs 1) (i + 1) ∧ i32 (bufD d.bufs 1) (i + 1) ≤ mostD f.k d := by
  have o := h.siz
  have ro := (Fld.arr_eq.1 h).ro
  have nb := o.nb
  have o0 := o.o0
  have l0 := o.l0
  have hb1 : 1 < d.bufs.length := by unfold bufK at nb; (repeat' split at nb) <;> omega
  have n1 := o.need 1 hb1
  rw [needB, if_neg (by omega), if_neg (by omega), if_neg (by omega), if_pos hk] at n1
  have h1 := (ro.off hk).1 (i - d.off.toNat + 1) (by omega)
  have h2 := (ro.off hk).1 (i - d.off.toNat) (by omega)
  have e1 : offN d (i - d.off.toNat + 1) = i32 (bufD d.bufs 1) (i + 1) := by unfold offN; congr 1; omega
  have e2 : offN d (i - d.off.toNat) = i32 (bufD d.bufs 1) i := by unfold offN; congr 1; omega
  have q3 := h1.2.2 _ rfl
  rw [e1, e2] at q3
  rw [e1] at h1
  rw [e2] at h2
  have big := o.big 1 hb1
  exact ⟨hb1, by omega, big, h2.1, q3, h1.2.1⟩
section
variable {D : Nat → Prop} {h : Hp} {b : Nat} {f : Fld} {d : Dat} {o n : Int} {s : Sl} {q : Sl × Sl × Sl} {Kp : PK}
theorem run_c {r : Int} {i : Nat} {K : Int → HP} (A : ArA D h b f d o n s q) (ar : f.arr d) (k20 : f.k = 20) (hr : r = i) (lo : d.off.toNat ≤ i) (hi : i < d.off.toNat + d.len.toNat) (hk : ∀ h', Grw h h' → K (runN (part d 0) i) h') : Fn67 (some ⟨b, 0, none⟩) r h K Kp := by
  subst hr
  have a := Fld.arr_eq.1 ar
  have so := ar.siz
  have o0 := so.o0
  have l0 := so.l0
  have pl := so.parts
  have hE := a.eo k20
  have hE' := hE
  obtain ⟨e, v', q0, q1, _, _, _⟩ := hE'
  have hcs : partsD d = d.cs := by have := so.nd; unfold partsD; rw [diK, if_neg (by omega)] at this; rw [if_neg (by omega)]
  have hf0 : (pfs f.k f.cs)[0]? = some endsF := by rw [pfs, if_pos k20]; rfl
  have hc0 : (partsD d)[0]? = some e := by rw [hcs]; exact q0
  have hp : part d 0 = e := part_of hc0
  rw [hp] at hk
  have ea := ar.part hf0 hc0
  have ec := arr_endC ea
  have pc := arr_partC ea
  have eb := ec.b
  have ee1 := ec.e1
  have ee2 := ec.e2
  have el := pc.l
  have eoo := pc.o
  obtain ⟨j, hj, hj1, hj2, hj3, _⟩ := run_lt q0 q1 hE (r := i) (by omega)
  rw [hj3] at hk
  refine Fn67.of (part_c A ar.h20 (j := 0) rfl hf0 hc0 fun b' s' q' h1 g1 hb A' => ?_)
  simp only [NN_some, add_blk]
  refine Ld_blk A'.k rfl ?_
  refine L67_1.rule (fun _ x15 h' => ∃ i' : Nat, x15 = i' ∧ i' ≤ j ∧ Grw h1 h') (fun _ x15 _ => j - x15.toNat) ⟨0, rfl, by omega, Grw.refl _⟩ ?_
  rintro x4 x15 h2 ⟨i', rfl, hi', g2⟩ N1 hN
  have A2 := A'.gr g2
  simp only [NN_some, add_blk]
  refine If_t (by rw [decide_eq_true_eq]; omega) (Ld_blk A2.k rfl (Wr_i64 (by omega) (by omega) (Wr_i64 (by omega) (by omega) (bytes_v A2 (j := 1) rfl (by omega) fun u h3 g3 v3 => Keep_blk A2.k g3 (sgv_c v3.1 (by omega) (m := 4) (by omega) (a := 4 * (e.off.toNat + i')) (by omega) rfl (by omega) fun h4 g4 => ?_)))))
  have een : sg 4 (nAt (bufD e.bufs 1) (4 * (e.off.toNat + i')) 4) = endN e i' := rfl
  rw [een]
  refine If_i (fun c => ?_) fun c => ?_
  · simp only [decide_eq_true_eq, decide_eq_false_iff_not, beq_iff_eq, beq_eq_false_iff_ne, ne_eq, reduceCtorEq, true_iff, false_iff, Bool.not_eq_true', Bool.not_eq_false', bne_iff_ne, bne_eq_false_iff_eq, Bool.not_true, Bool.not_false, Decidable.not_not] at c
    obtain rfl : i' = j := by
      rcases Nat.lt_or_ge i' j with q | q
      · have := hj2 i' q; omega
      · omega
    exact hk _ (Grw.trans g1 (Grw.trans g2 (Grw.trans g3 g4)))
  · simp only [decide_eq_true_eq, decide_eq_false_iff_not, beq_iff_eq, beq_eq_false_iff_ne, ne_eq, reduceCtorEq, true_iff, false_iff, Bool.not_eq_true', Bool.not_eq_false', bne_iff_ne, bne_eq_false_iff_eq, Bool.not_true, Bool.not_false, Decidable.not_not] at c
    have : i' ≠ j := by rintro rfl; omega
    exact Wr_i64 (by omega) (by omega) (hN _ _ _ ⟨i' + 1, by simp, by omega, Grw.trans g2 (Grw.trans g3 g4)⟩ (by omega))
theorem between_c {r mst : Int} {i : Nat} {K : Int → Int → HP} (A : ArA D h b f d o n s q) (hr : r = i) (hb : 1 < d.bufs.length) (h1 : 4 * i + 8 ≤ (bufD d.bufs 1).length) (h2 : (bufD d.bufs 1).length ≤ 65536) (h3 : 0 ≤ i32 (bufD d.bufs 1) i) (h4 : i32 (bufD d.bufs 1) i ≤ i32 (bufD d.bufs 1) (i + 1)) (h5 : i32 (bufD d.bufs 1) (i + 1) ≤ mst)
    (hk : ∀ h', Grw h h' → K (i32 (bufD d.bufs 1) i) (i32 (bufD d.bufs 1) (i + 1)) h') : Fn141 (some ⟨b, 0, none⟩) r mst h K Kp := by
  subst hr
  refine Fn141.of (bytes_v A (j := 1) rfl hb fun u h1' g1 v1 => New_i fun b8 h2' e2 g2 k8 _ => SY167.b k8 rfl fun h3' o3 k8 => LY167.b k8 (Wr_i64 (by omega) (by omega) ?_))
  have g3 : Grw h1' h3' := Only.grw g2 o3 (by omega)
  refine sgv_c (v1.1.grw g3) (by omega) (m := 4) (by omega) (a := 4 * i) (by omega) rfl (by omega) fun h4' g4 => LY167.b (k8.grw g4) (Wr_i64 (by omega) (by omega) (Wr_i64 (by omega) (by omega) (sgv_c (v1.1.grw (Grw.trans g3 g4)) (by omega) (m := 4) (by omega) (a := 4 * (i + 1)) (by omega) rfl (by omega) fun h5' g5 => ?_)))
  have e1 : sg 4 (nAt (bufD d.bufs 1) (4 * i) 4) = i32 (bufD d.bufs 1) i := rfl
  have e2 : sg 4 (nAt (bufD d.bufs 1) (4 * (i + 1)) 4) = i32 (bufD d.bufs 1) (i + 1) := rfl
  rw [e1, e2]
  refine If_f (by rw [decide_eq_false_iff_not]; omega) ?_
  have e3 : decide (i32 (bufD d.bufs 1) (i + 1) < i32 (bufD d.bufs 1) i) = false := by rw [decide_eq_false_iff_not]; omega
  rw [e3]
  exact J141_1.of (If_f rfl (If_f (by rw [decide_eq_false_iff_not]; omega) (hk _ (Grw.trans g1 (Grw.trans g3 (Grw.trans g4 g5))))))
/-- the items of a row -/
def itA (f : Fld) (d : Dat) (i : Nat) : Nat := if f.k = 16 then i * f.w.toNat else offR d i
def itN (f : Fld) (d : Dat) (i : Nat) : Nat := if f.k = 16 then f.w.toNat else offR d (i + 1) - offR d i
theorem span_le {f : Fld} {d : Dat} {i : Nat} (ar : f.arr d) (k16 : f.k = 16) {c : Dat} (hc : (partsD d)[0]? = some c) (hi : i < d.off.toNat + d.len.toNat) : i * f.w.toNat + f.w.toNat ≤ c.len.toNat ∧ 1 ≤ f.w ∧ f.w ≤ 64 := by
  have so := ar.siz
  have o0 := so.o0
  have l0 := so.l0
  have sh := so.ty.kinds.1
  unfold Shaped at sh
  have hcs : partsD d = d.cs := by have := so.nd; unfold partsD; rw [diK, if_neg (by omega)] at this; rw [if_neg (by omega)]
  rw [hcs] at hc
  have hch := (so.ch 0 c hc).1 k16
  have hw : (f.w.toNat : Int) = f.w ∧ f.w ≤ 64 := by omega
  have h1 : (i + 1) * f.w.toNat ≤ (d.off + d.len).toNat * f.w.toNat := Nat.mul_le_mul_right _ (by omega)
  have h2 : (((d.off + d.len).toNat * f.w.toNat : Nat) : Int) = (d.off + d.len) * f.w := by rw [Int.natCast_mul, hw.1, Int.toNat_of_nonneg (by omega)]
  have h3 : (i + 1) * f.w.toNat = i * f.w.toNat + f.w.toNat := by rw [Nat.add_mul, Nat.one_mul]
  omega
theorem items_c {r : Int} {i : Nat} {c : Dat} {K : Int → Int → HP} (A : ArA D h b f d o n s q) (ar : f.arr d) (kk : f.k = 15 ∨ f.k = 16) (hr : r = i) (lo : d.off.toNat ≤ i) (hi : i < d.off.toNat + d.len.toNat) (hc : (partsD d)[0]? = some c)
    (hk : ∀ x y h', Grw h h' → x = (itA f d i : Int) → y = ((itA f d i + itN f d i : Nat) : Int) → itA f d i + itN f d i ≤ c.len.toNat → K x y h') : Fn116 (some ⟨b, 0, none⟩) r h K Kp := by
  subst hr
  have cp := (fun (so : SizOk f.nul f.k f.w f.id f.ix f.cs d) => so.parts) ar.siz
  have so := ar.siz
  have hcs : partsD d = d.cs := by have := so.nd; unfold partsD; rw [diK, if_neg (by omega)] at this; rw [if_neg (by omega)]
  have l1 := so.l1
  have o1 := so.o1
  have o0 := so.o0
  have l0 := so.l0
  unfold itA itN at hk
  refine Fn116.of ?_
  simp only [NN_some, add_blk]
  refine Ld_blk A.k rfl (If_i (fun c1 => Ld_blk A.k rfl ?_) fun c1 => J116_1.of ?_)
  · simp only [decide_eq_true_eq, decide_eq_false_iff_not, beq_iff_eq, beq_eq_false_iff_ne, ne_eq, reduceCtorEq, true_iff, false_iff, Bool.not_eq_true', Bool.not_eq_false', bne_iff_ne, bne_eq_false_iff_eq, Bool.not_true, Bool.not_false, Decidable.not_not] at c1
    rw [if_pos c1, if_pos c1] at hk
    obtain ⟨q1, q2, q3⟩ := span_le ar c1 hc hi
    have hw : (f.w.toNat : Int) = f.w := by omega
    have e1 : (i : Int) * f.w = ((i * f.w.toNat : Nat) : Int) := by rw [Int.natCast_mul, hw]
    have e2 : ((i : Int) + 1) * f.w = ((i * f.w.toNat + f.w.toNat : Nat) : Int) := by rw [Int.add_mul, e1]; omega
    have q4 : i * f.w.toNat ≤ 8192 * 64 := Nat.mul_le_mul (by omega) (by omega)
    exact Wr_i64 (by omega) (by omega) (Wr_i64 (by omega) (by omega) (Ld_blk A.k rfl (Wr_i64 (by omega) (by omega) (hk _ _ _ (Grw.refl _) e1 e2 q1))))
  · simp only [decide_eq_true_eq, decide_eq_false_iff_not, beq_iff_eq, beq_eq_false_iff_ne, ne_eq, reduceCtorEq, true_iff, false_iff, Bool.not_eq_true', Bool.not_eq_false', bne_iff_ne, bne_eq_false_iff_eq, Bool.not_true, Bool.not_false, Decidable.not_not] at c1
    rw [if_neg c1, if_neg c1] at hk
    have k15 : f.k = 15 := by omega
    simp only [NN_some, add_blk]
    rw [hcs] at hc
    obtain ⟨hb1, z1, z2, z3, z4, z5⟩ := arr_offs ar (by omega) lo hi
    have hm : mostD f.k d = c.len := by
      rw [mostD, if_pos k15]
      cases hcs' : d.cs with
      | nil => rw [hcs'] at hc; simp at hc
      | cons x xs => rw [hcs'] at hc; simp at hc; rw [hc]
    rw [hm] at z5
    refine Ld_blk A.k rfl (A.dv.c.ix rfl hc fun a q' ca _ => ⟨_, add_0 a ▸ ca 0 _ rfl, between_c A rfl hb1 z1 z2 z3 z4 z5 fun h1 g1 => hk _ _ _ g1 ?_ ?_ ?_⟩)
    all_goals unfold offR
    all_goals omega
end
end Go.Proofs.YtcgdhhchjgbhnaaGreatDoor
set_option maxRecDepth 100000
set_option maxHeartbeats 1000000
/- Values read: those without items. -/
namespace Go.Proofs.YtcgdhhchjgbhnaaGreatDoor
open Go Go.Sh Go.WideShapes
/-- what is known where a row is read -/
structure Vc (D : Nat → Prop) (h : Hp) (b bl : Nat) (f : Fld) (d : Dat) (o n : Int) (s : Sl) (q : Sl × Sl × Sl) (L : Int) (i : Nat) : Prop where
  A : ArA D h b f d o n s q
  bn : b ≠ bl
  dn : ¬ D bl
  ar : f.arr d
  lo : d.off.toNat ≤ i
  hi : i < d.off.toNat + d.len.toNat
  kl : Lc h bl L
  wl : ((f.val d i).wgt : Int) ≤ L
  lm : L ≤ 2 ^ 40
  tb : UTab h
  b2 : 2 < bl
theorem val_eq' (f : Fld) (d : Dat) (i : Nat) : f.val d i = valK f.k f.w f.ix ((pfs f.k f.cs).map Fld.val) d i := by rw [Fld.val_eq]
theorem tx_bs (l : List UInt8) : tx (bs l) = l := rfl
section
variable {D : Nat → Prop} {h : Hp} {b bl i : Nat} {f : Fld} {d : Dat} {o n r L : Int} {s : Sl} {q : Sl × Sl × Sl} {K : KV} {Kp : PK}
theorem Vc.gr {h' : Hp} (V : Vc D h b bl f d o n s q L i) (g : Grw h h') : Vc D h' b bl f d o n s q L i := ⟨V.A.gr g, V.bn, V.dn, V.ar, V.lo, V.hi, V.kl.grw g, V.wl, V.lm, V.tb.grw g, V.b2⟩
theorem Vc.bd (V : Vc D h b bl f d o n s q L i) : 0 ≤ d.len ∧ d.len ≤ 4096 ∧ 0 ≤ d.off ∧ d.off ≤ 4096 ∧ i ≤ 8192 ∧ d.off + d.len ≤ 4096 ∧ 0 ≤ L := by
  have so := V.ar.siz
  have h1 := so.l0
  have h2 := so.l1
  have h3 := so.o0
  have h4 := so.o1
  have h5 := V.hi
  have h6 := so.e1
  have h7 := V.wl
  omega
theorem Vc.af {h' : Hp} (V : Vc D h b bl f d o n s q L i) (t : Tn (· = bl) h h') : ArA D h' b f d o n s q := V.A.fr t V.bn (fun x hx e => V.dn (e ▸ hx)) fun _ x => x
theorem Vc.tbf {h' : Hp} (V : Vc D h b bl f d o n s q L i) (t : Tn (· = bl) h h') : UTab h' := V.tb.fr t (by have := V.b2; omega) (by have := V.b2; omega)
def ValC (m : Nat) : Prop := ∀ (f : Fld), f.dep ≤ m → ∀ {D : Nat → Prop} {h : Hp} {b bl i : Nat} {d : Dat} {o n r L : Int} {s : Sl} {q : Sl × Sl × Sl} {K : KV} {Kp : PK}, Vc D h b bl f d o n s q L i → r = i → VK h bl L (f.val d i) K → Fn135 (some ⟨b, 0, none⟩) r (some ⟨bl, 0, none⟩) h K Kp
def OwnC (m : Nat) : Prop := ∀ (f : Fld), f.dep ≤ m → ∀ {D : Nat → Prop} {h : Hp} {b bl i : Nat} {d : Dat} {o n x L : Int} {s : Sl} {q : Sl × Sl × Sl} {K : KV} {Kp : PK}, Vc D h b bl f d o n s q L i → o + x = i → VK h bl L (f.val d i) K → Fn109 (some ⟨b, 0, none⟩) x (some ⟨bl, 0, none⟩) h K Kp
theorem own_of {m : Nat} (IH : ValC m) : OwnC m := by
  intro f hd D h b bl i d o n x L s q K Kp V hx hk
  have bd := V.bd
  have bll := V.kl.lt
  refine Fn109.of (New_i fun b6 h1 e1 g1 k6 _ => ?_)
  simp only [NN_some, add_blk]
  have g1s := g1.1
  refine Ld_blk (V.A.gr g1).k rfl (Wr_i64 (by omega) (by omega) (IH f hd (V.gr g1) hx fun t h2 t2 kl2 w2 => ?_))
  have k6l := k6.lt
  exact hk.fin ((Tn.of_grw g1).trans t2) kl2 (t2.blk k6 (by omega)) rfl (by omega) bll (w2.mo fun c (hc : h1.size ≤ c) => ⟨by omega, by omega⟩)
theorem texts_c (V : Vc D h b bl f d o n s q L i) (hr : r = i) (kk : f.k = 12 ∨ f.k = 13) (hnb : nullB f.k d.bufs i = false) (hk : VK h bl L (f.val d i) K) : Fn188 (some ⟨b, 0, none⟩) r (some ⟨bl, 0, none⟩) h K Kp := by
  subst hr
  have bd := V.bd
  have V' := V
  obtain ⟨A, bn, dn, ar, lo, hi, kl, wl, lm, tb, b2⟩ := V'
  have ev : f.val d i = .mk false 0 (((bufD d.bufs 2).drop (offR d i)).take (offR d (i + 1) - offR d i)) [] := by rw [val_eq', valK, if_neg (by rw [hnb]; simp), if_pos kk]
  obtain ⟨hb1, z1, z2, z3, z4, z5⟩ := arr_offs ar (by omega) lo hi
  have hm : mostD f.k d = ((bufD d.bufs 2).length : Int) := by rw [mostD, if_neg (by omega)]
  rw [hm] at z5
  have nb := ar.siz.nb
  have hb3 : d.bufs.length = 3 := by rw [bufK, if_neg (by omega), if_pos kk] at nb; omega
  have big2 := ar.siz.big 2 (by omega)
  have z6 := i32_lt (bufD d.bufs 1) i
  have z7 := i32_lt (bufD d.bufs 1) (i + 1)
  have o1 : (offR d i : Int) = i32 (bufD d.bufs 1) i := by unfold offR; omega
  have o2 : (offR d (i + 1) : Int) = i32 (bufD d.bufs 1) (i + 1) := by unfold offR; omega
  have hutf : f.k = 12 → utf (((bufD d.bufs 2).drop (offR d i)).take (offR d (i + 1) - offR d i)) = true := by
    intro k12
    have := ((Fld.arr_eq.1 ar).ro.off (by omega)).2 k12 (i - d.off.toNat) (by omega) (by rw [show d.off.toNat + (i - d.off.toNat) = i by omega]; exact hnb)
    have e1 : offN d (i - d.off.toNat) = i32 (bufD d.bufs 1) i := by unfold offN; congr 1; omega
    have e2 : offN d (i - d.off.toNat + 1) = i32 (bufD d.bufs 1) (i + 1) := by unfold offN; congr 1; omega
    rw [e1, e2] at this
    exact this
  rw [ev] at hk wl
  have lt : (((bufD d.bufs 2).drop (offR d i)).take (offR d (i + 1) - offR d i)).length = offR d (i + 1) - offR d i := by simp; omega
  simp only [Val.wgt, wsum, lt] at wl
  have wgt : ((Val.mk false 0 (((bufD d.bufs 2).drop (offR d i)).take (offR d (i + 1) - offR d i)) []).wgt : Int) = 16 + i32 (bufD d.bufs 1) (i + 1) - i32 (bufD d.bufs 1) i := by
    simp only [Val.wgt, wsum, lt]; omega
  have bll := kl.lt
  refine Fn188.of (New_i fun b4 h1 e1 g1 k4 _ => New_i fun b8 h2 e2 g2 k8 _ => ?_)
  simp only [NN_some, add_blk]
  have G := Grw.trans g1 g2
  have g1s := g1.1
  have k8l := k8.lt
  refine Ld_blk (A.gr G).k rfl ((A.gr G).dv.b.ix rfl (j := 2) (by omega) fun a t ca vt => ⟨_, ca, ?_⟩)
  have tn := vt.1.1
  rw [bv_len] at tn
  refine between_c (A.gr G) rfl hb1 z1 z2 z3 z4 (by omega) fun h3 g3 => J188_1.of (Wr_i64 (by omega) (by omega) (Wr_i64 (by omega) (by omega) (weigh_c ((kl.grw G).grw g3) (by omega) (by omega) lm fun h4 o4 kl4 => ?_)))
  have G3 := Grw.trans G g3
  have T4 : Tn (· = bl) h h4 := (Tn.of_grw G3).trans o4.fr
  refine bytes_v (V.af T4) (j := 2) rfl (by omega) fun u h5 g5 v5 => Wr_i64 (by omega) (by omega) (text_v v5.1 (by omega) (a := offR d i) (m := offR d (i + 1) - offR d i) (by omega) (by omega) (by omega) fun h6 g6 => ?_)
  have T6 : Tn (· = bl) h h6 := T4.trans (Tn.of_grw (Grw.trans g5 g6))
  simp only [NN_some, add_blk]
  have k86 : Blk h6 b8 zY66 Y66 := ((o4.blk (k8.grw g3) (by omega)).grw g5).grw g6
  have fin : ∀ h7, Grw h6 h7 → SY66 h7 ⟨b8, 0, none⟩ false 0 (bs (((bufD d.bufs 2).drop (offR d i)).take (offR d (i + 1) - offR d i))) (⟨none, 0, 0⟩ : Sl) fun h' => LY66 h' ⟨b8, 0, none⟩ fun r0 r1 r2 r3 => K r0 r1 r2 r3 h' := by
    intro h7 g7
    have kl7 : Lc h7 bl (L - (16 + i32 (bufD d.bufs 1) (i + 1) - i32 (bufD d.bufs 1) i)) := (((kl4.grw g5).grw g6).grw g7)
    rw [← wgt] at kl7
    exact hk.fin (T6.trans (Tn.of_grw g7)) kl7 (k86.grw g7) rfl (by omega) bll (VsA.nil _)
  refine Ld_blk (V.af T6).k rfl (If_i (fun c => valids_c (V.tbf T6) (tx_bs _) (by rw [lt]; omega) fun h7 g7 => ?_) fun c => fin _ (Grw.refl _))
  simp only [decide_eq_true_eq, decide_eq_false_iff_not, beq_iff_eq, beq_eq_false_iff_ne, ne_eq, reduceCtorEq, true_iff, false_iff, Bool.not_eq_true', Bool.not_eq_false', bne_iff_ne, bne_eq_false_iff_eq, Bool.not_true, Bool.not_false, Decidable.not_not] at c
  rw [hutf c]
  exact If_f rfl (fin h7 g7)
theorem flats_c (V : Vc D h b bl f d o n s q L i) (hr : r = i) (kk : f.k ≠ 12 ∧ f.k ≠ 13 ∧ f.k ≠ 15 ∧ f.k ≠ 16 ∧ f.k ≠ 17 ∧ f.k ≠ 18 ∧ f.k ≠ 19 ∧ f.k ≠ 20) (hnb : nullB f.k d.bufs i = false) (hk : VK h bl L (f.val d i) K) : Fn196 (some ⟨b, 0, none⟩) r (some ⟨bl, 0, none⟩) h K Kp := by
  subst hr
  have bd := V.bd
  have V' := V
  obtain ⟨A, bn, dn, ar, lo, hi, kl, wl, lm, tb, b2⟩ := V'
  have so := ar.siz
  have sh := so.ty.kinds.1
  unfold Shaped at sh
  have nb := so.nb
  have hk1 : f.k ≠ 1 := by intro e; unfold nullB at hnb; rw [e] at hnb; simp at hnb
  have hb2 : d.bufs.length = 2 := by unfold bufK at nb; (repeat' split at nb) <;> omega
  have n1 := so.need 1 (by omega)
  rw [needB, if_neg (by omega), if_neg (by omega)] at n1
  have big1 := so.big 1 (by omega)
  have bll := kl.lt
  have w16 : 16 ≤ (f.val d i).wgt := by
    rcases hv : f.val d i with ⟨a1, a2, a3, a4⟩
    simp only [Val.wgt]; omega
  refine Fn196.of (New_i fun b4 h1 e1 g1 k4 _ => New_i fun b8 h2 e2 g2 k8 _ => ?_)
  simp only [NN_some, add_blk]
  have G := Grw.trans g1 g2
  have g1s := g1.1
  have k8l := k8.lt
  have ct : Cs h2 ⟨b, 2, none⟩ [.int .i64 f.k, .int .i64 f.w, .int .i64 f.id, .int .i64 f.ix, Sl.v s] := by
    intro j v hv
    rw [add_blk, cell_blk (A.gr G).k]
    rcases j with _ | _ | _ | _ | _ | j
    all_goals first | exact hv | (simp at hv)
  refine LY27.c ct (New_i fun b9 h3 e3 g3 k9 _ => SY27.b k9 rfl fun h4 o4 k9 => ?_)
  have g4 : Grw h2 h4 := Only.grw g3 o4 (by omega)
  have g4s := g4.1
  have G4 := Grw.trans G g4
  have k9l := k9.lt
  refine bytes_v (A.gr G4) (j := 1) rfl (by omega) fun u h5 g5 v5 => New_i fun b10 h6 e6 g6 k10 _ => SY167.b k10 rfl fun h7 o7 k10 => ?_
  have g5s := g5.1
  have g7 : Grw h5 h7 := Only.grw g6 o7 (by omega)
  have g7s := g7.1
  have k10l := k10.lt
  have G7 := Grw.trans G4 (Grw.trans g5 g7)
  refine weigh_c (kl.grw G7) (by omega) (by omega) lm fun h8 o8 kl8 => ?_
  have T8 : Tn (· = bl) h h8 := (Tn.of_grw G7).trans o8.fr
  have k8' : Blk h8 b8 zY66 Y66 := o8.blk (((k8.grw g4).grw g5).grw g7) (by omega)
  have k9' := o8.blk ((k9.grw g5).grw g7) (by omega : b9 ≠ bl)
  have k10' := o8.blk k10 (by omega : b10 ≠ bl)
  have v8 : SvA D h8 u (bv (bufD d.bufs 1)) := (v5.gr g7).fr o8.fr (fun x hx _ e => dn (e ▸ hx)) fun _ x => x
  have fin : ∀ (x : Int) h9, f.val d i = .mk false x [] [] → Grw h8 h9 → SY66 h9 ⟨b8, 0, none⟩ false x (bs []) (⟨none, 0, 0⟩ : Sl) fun h' => LY66 h' ⟨b8, 0, none⟩ fun r0 r1 r2 r3 => K r0 r1 r2 r3 h' := by
    intro x h9 hv g9
    rw [hv] at hk
    exact hk.fin (T8.trans (Tn.of_grw g9)) (kl8.grw g9) (k8'.grw g9) rfl (by omega) bll (VsA.nil _)
  refine Ld_blk k9' rfl (If_i (fun c => LY167.b k10' ?_) fun c => If_i (fun c2 => Ld_blk k9' rfl ?_) fun c2 => Ld_blk k9' rfl ?_)
  · simp only [decide_eq_true_eq, decide_eq_false_iff_not, beq_iff_eq, beq_eq_false_iff_ne, ne_eq, reduceCtorEq, true_iff, false_iff, Bool.not_eq_true', Bool.not_eq_false', bne_iff_ne, bne_eq_false_iff_eq, Bool.not_true, Bool.not_false, Decidable.not_not] at c
    rw [if_pos (by omega)] at n1
    have e1 : Int.tdiv (i : Int) 8 = ((i / 8 : Nat) : Int) := rfl
    have e2 : Int.tmod (i : Int) 8 = ((i % 8 : Nat) : Int) := rfl
    have hlt : i / 8 < (bufD d.bufs 1).length := by omega
    have hbi : (bufD d.bufs 1)[i / 8]? = some (bufD d.bufs 1)[i / 8] := List.getElem?_eq_getElem hlt
    have hg : (bufD d.bufs 1).getD (i / 8) 0 = (bufD d.bufs 1)[i / 8] := by simp [hlt]
    have hv : f.val d i = .mk false (if bitL (bufD d.bufs 1) i then 1 else 0) [] [] := by
      rw [val_eq', valK, if_neg (by rw [hnb]; simp), if_neg (by omega), if_neg (by omega), if_neg (by omega), if_neg (by omega), if_neg (by omega), if_neg (by omega), if_neg (by omega), if_pos c]
    unfold bitL at hv
    rw [hg] at hv
    generalize (bufD d.bufs 1)[i / 8] = y at hbi hv
    refine Dv_i (by decide) (Wr_i64 (by rw [e1]; omega) (by rw [e1]; omega) (byte_c v8.1 (by omega) e1 hbi fun h9 g9 => Dv_i (by decide) ?_))
    unfold Lt
    rw [e2]
    refine Nn_i (by omega) ?_
    have e3 : Int.fdiv (y.toNat : Int) (2 ^ (min (Int.toNat ((i % 8 : Nat) : Int)) (IntKind.bits .u8))) = ((y.toNat / 2 ^ (i % 8) : Nat) : Int) := by
      have : min (Int.toNat ((i % 8 : Nat) : Int)) (IntKind.bits .u8) = i % 8 := by
        have : IntKind.bits .u8 = 8 := rfl
        rw [this, Int.toNat_natCast]; omega
      rw [this, Int.fdiv_eq_ediv_of_nonneg _ (Int.le_of_lt (Int.pow_pos (by decide)))]
      norm_cast
    rw [e3]
    dsimp only
    rw [and1]
    refine Wr_i64 (by omega) (by omega) (fin _ h9 ?_ g9)
    rw [hv]
    have hx : (if (y.toNat / 2 ^ (i % 8) % 2 == 1) = true then (1 : Int) else 0) = ((y.toNat / 2 ^ (i % 8) % 2 : Nat) : Int) := by
      split
      · rename_i e; simp only [beq_iff_eq] at e; omega
      · rename_i e; simp only [beq_iff_eq] at e; omega
    rw [hx]
  · simp only [decide_eq_true_eq, decide_eq_false_iff_not, beq_iff_eq, beq_eq_false_iff_ne, ne_eq, reduceCtorEq, true_iff, false_iff, Bool.not_eq_true', Bool.not_eq_false', bne_iff_ne, bne_eq_false_iff_eq, Bool.not_true, Bool.not_false, Decidable.not_not] at c c2
    have hv : f.val d i = .mk false 0 (((bufD d.bufs 1).drop (i * f.w.toNat)).take f.w.toNat) [] := by
      rw [val_eq', valK, if_neg (by rw [hnb]; simp), if_neg (by omega), if_neg (by omega), if_neg (by omega), if_neg (by omega), if_neg (by omega), if_neg (by omega), if_neg (by omega), if_neg (by omega), if_pos c2]
    have hwd : wdK f.k f.w f.ix = f.w := by rw [wdK, if_pos c2]
    rw [if_neg (by omega), if_neg (by omega), hwd] at n1
    have hw : 1 ≤ f.w ∧ f.w ≤ 16 := by omega
    have hrw : (i + 1) * f.w.toNat ≤ (d.off + d.len).toNat * f.w.toNat := Nat.mul_le_mul_right _ (by omega)
    rw [Nat.add_mul, Nat.one_mul] at hrw
    have e1 : (i : Int) * f.w = ((i * f.w.toNat : Nat) : Int) := by rw [Int.natCast_mul]; congr 1; omega
    have ln : (((bufD d.bufs 1).drop (i * f.w.toNat)).take f.w.toNat).length = f.w.toNat := by simp; omega
    have hwg : (f.val d i).wgt = 16 + f.w.toNat := by rw [hv]; simp only [Val.wgt, wsum, ln]; omega
    refine weigh_c kl8 (by omega) (by omega) (by omega) fun h9 o9 kl9 => ?_
    have T9 : Tn (· = bl) h h9 := T8.trans o9.fr
    have k8'' := o9.blk k8' (by omega : b8 ≠ bl)
    have k9'' := o9.blk k9' (by omega : b9 ≠ bl)
    have k10'' := o9.blk k10' (by omega : b10 ≠ bl)
    have v9 : SvA D h9 u (bv (bufD d.bufs 1)) := v8.fr o9.fr (fun x hx _ e => dn (e ▸ hx)) fun _ x => x
    refine LY167.b k10'' (Ld_blk k9'' rfl (Wr_i64 (by omega) (by omega) (Ld_blk k9'' rfl (text_v v9.1 (by omega) e1 (m := f.w.toNat) (by omega) (by omega) fun h10 g10 => ?_))))
    have kl10 : Lc h10 bl (L - ((f.val d i).wgt : Int)) := by
      have := kl9.grw g10
      rwa [show L - 16 - f.w = L - ((f.val d i).wgt : Int) by omega] at this
    rw [hv] at hk kl10
    exact hk.fin (T9.trans (Tn.of_grw g10)) kl10 (k8''.grw g10) rfl (by omega) bll (VsA.nil _)
  · simp only [decide_eq_true_eq, decide_eq_false_iff_not, beq_iff_eq, beq_eq_false_iff_ne, ne_eq, reduceCtorEq, true_iff, false_iff, Bool.not_eq_true', Bool.not_eq_false', bne_iff_ne, bne_eq_false_iff_eq, Bool.not_true, Bool.not_false, Decidable.not_not] at c c2
    have hv : f.val d i = .mk false (numN f.k (bufD d.bufs 1) i) [] [] := by
      rw [val_eq', valK, if_neg (by rw [hnb]; simp), if_neg (by omega), if_neg (by omega), if_neg (by omega), if_neg (by omega), if_neg (by omega), if_neg (by omega), if_neg (by omega), if_neg c, if_neg c2]
    have hwd : wdK f.k f.w f.ix = widK f.k := by rw [wdK, if_neg (by omega), if_neg (by omega)]
    rw [if_neg (by omega), if_neg (by omega), hwd] at n1
    have hrw : (i + 1) * (widK f.k).toNat ≤ (d.off + d.len).toNat * (widK f.k).toNat := Nat.mul_le_mul_right _ (by omega)
    exact number_c (V.af T8) (by omega) rfl (by omega) (by omega) (by omega) fun h9 g9 => fin _ h9 hv g9
end
end Go.Proofs.YtcgdhhchjgbhnaaGreatDoor
set_option maxRecDepth 100000
set_option maxHeartbeats 1000000
/- Values read: lists of items. -/
namespace Go.Proofs.YtcgdhhchjgbhnaaGreatDoor
open Go Go.Sh Go.WideShapes
theorem Keep_b2 {h h1 : Hp} {b o n : Nat} {cs : Array Value} {el : TypeId} {X : Prop} (k : Blk h b cs el) (k1 : Blk h1 b cs el) (x : X) : Keep h h1 ⟨b, o, none⟩ n X :=
  ⟨fun i _ => by rw [add_blk, cell_blk k1, cell_blk k], x⟩
/-- a value whose list grows -/
structure Ls (h6 h : Hp) (b9 : Nat) (x : Sl) (vs : List Val) : Prop where
  k9 : Blk h b9 #[.bool false, .int .i64 0, .string (bs []), Sl.v x] Y66
  ss : ∃ ss : List Sl, ss.length = vs.length ∧ RowS h6.size 4 h x (List.zipWith Val.row vs ss) Y66 ∧ ∀ (j : Nat) (v : Val) (t : Sl), vs[j]? = some v → ss[j]? = some t → VsA (fun c => h6.size ≤ c ∧ ¬ x.at c) h t v.items
theorem Ls.fr {h6 h h1 : Hp} {b9 bl : Nat} {x : Sl} {vs : List Val} (l : Ls h6 h b9 x vs) (t : Tn (· = bl) h h1) (hb1 : bl < h6.size) (hb2 : b9 ≠ bl) : Ls h6 h1 b9 x vs := by
  obtain ⟨k9, ss, q1, q2, q3⟩ := l
  exact ⟨t.blk k9 hb2, ss, q1, q2.fr t fun b hb _ e => by omega, fun j v u e1 e2 => (VsA.fr t (fun b hb _ e => by have := hb.1; omega) (fun _ q => q) _ (q3 j v u e1 e2))⟩
theorem Ls.sv {h6 h : Hp} {b9 : Nat} {x : Sl} {vs : List Val} {D : Nat → Prop} (l : Ls h6 h b9 x vs) (hD : ∀ b, h6.size ≤ b → D b) : VsA D h x vs := by
  obtain ⟨k9, ss, q1, q2, q3⟩ := l
  exact VsA.snoc q2 q1 hD fun j v t e1 e2 => (q3 j v t e1 e2).mo fun b hb => hD b hb.1
theorem Ls.start {h6 : Hp} {b9 : Nat} (k : Blk h6 b9 zY66 Y66) : Ls h6 h6 b9 Sl.nil [] := ⟨k, [], rfl, RowS.nil _ _ _ _, by simp⟩
theorem Ls.at {h6 h : Hp} {b9 : Nat} {x : Sl} {vs : List Val} (l : Ls h6 h b9 x vs) {c : Nat} (hc : x.at c) : h6.size ≤ c ∧ c < h.size := by
  obtain ⟨k9, ss, q1, q2, q3⟩ := l
  exact q2.at hc
theorem Ls.push {h6 h : Hp} {b9 : Nat} {x t : Sl} {vs : List Val} {v : Val} {R : HP} (l : Ls h6 h b9 x vs) (hb9 : b9 < h6.size) (hs : h6.size ≤ h.size) (hl : vs.length ≤ 100000) (w : VsA (fun c => h6.size ≤ c ∧ ¬ x.at c) h t v.items)
    (hk : ∀ x' h4, Ls h6 h4 b9 x' (vs ++ [v]) → Tn (fun c => c = b9 ∨ h6.size ≤ c) h h4 → R h4) :
    New h #[.bool v.nul, .int .i64 v.num, .string (bs v.text), Sl.v t] Y66 fun a36 h2 => Keep h h2 ⟨b9, 3, none⟩ 1 <| Ap h2 Y66 zY66 4 56 x 1 (rd h2 (some a36) (1 * 4)) fun t37 h3 => St h3 ⟨b9, 3, none⟩ (Sl.v t37) R := by
  obtain ⟨k9, ss, q1, q2, q3⟩ := l
  have xn := q2.n
  rw [List.length_zipWith, q1, Nat.min_self] at xn
  have xat : ∀ c, x.at c → h6.size ≤ c ∧ c < h.size := fun c hc => q2.at hc
  refine New_i fun b36 h2 e36 g2 k36 _ => Keep_blk k9 g2 ?_
  have g2s := g2.1
  refine (q2.grw g2).ap (by omega) rfl (new := [v.row t]) rfl (fun r hr => by simp at hr; subst hr; rfl) (fun r hr => by simp at hr; subst hr; exact vrow_one v t) (by simpa [Val.row, vals4] using rd_blk k36 rfl) (by omega) (by omega) fun s' h3 f3 at3 o3 => ?_
  have nx9 : ¬ x.at b9 := fun hc => by have := xat _ hc; omega
  have k93 := f3.blk (k9.grw g2) nx9
  refine St_i k93 (by simp) rfl fun h4 o4 k94 => hk s' h4 ⟨by simpa using k94, ss ++ [t], by simp [q1], ?_, fun j v' t' e1 e2 => ?_⟩ ?_
  · rw [List.zipWith_append (by omega)]
    exact o3.fr o4.fr fun b hb _ e => by omega
  · have new : ∀ {u : Sl} {ws : List Val}, VsA (fun c => h6.size ≤ c ∧ ¬ x.at c) h u ws → VsA (fun c => h6.size ≤ c ∧ ¬ s'.at c) h4 u ws := fun {u ws} z => by
      have z1 := VsA.fr (S := No) (D' := fun c => (h6.size ≤ c ∧ ¬ x.at c) ∧ c < h.size) (Tn.of_grw g2) (fun _ _ _ => id) (fun _ q => q) _ (VsA.lt _ z)
      have z2 := VsA.fr (D' := fun c => h6.size ≤ c ∧ ¬ s'.at c) f3 (fun b hb _ q => hb.1.2 q) (fun b hb => ⟨hb.1.1, fun q => by
        rcases at3 b q with q | q
        · exact hb.1.2 q
        · have := hb.2; omega⟩) _ z1
      exact VsA.fr o4.fr (fun b hb _ e => by have := hb.1; omega) (fun _ q => q) _ z2
    by_cases hj : j < vs.length
    · rw [List.getElem?_append_left hj] at e1
      rw [List.getElem?_append_left (by omega)] at e2
      exact new (q3 j v' t' e1 e2)
    · have hj2 := (List.getElem?_eq_some_iff.1 e1).1
      simp only [List.length_append, List.length_singleton] at hj2
      obtain rfl : j = vs.length := by omega
      rw [List.getElem?_append_right (Nat.le_refl _)] at e1
      rw [← q1, List.getElem?_append_right (Nat.le_refl _)] at e2
      simp at e1 e2
      subst e1 e2
      exact new w
  · refine ((Tn.of_grw g2 : Tn (fun c => c = b9 ∨ h6.size ≤ c) h h2).trans' f3 fun d hd hlt => .inr (xat d hd).1).trans' o4.fr fun d hd hlt => .inl hd
theorem wsum_take {vs : List Val} (j : Nat) : wsum (vs.take j) = ((vs.map Val.wgt).take j).sum := by rw [wsum_eq, List.map_take]
section
variable {D : Nat → Prop} {h : Hp} {b bl i m : Nat} {f : Fld} {d : Dat} {o n r L : Int} {s : Sl} {q : Sl × Sl × Sl} {K : KV} {Kp : PK}
theorem Vc.ltd (V : Vc D h b bl f d o n s q L i) : Vc (fun x => D x ∧ x < h.size) h b bl f d o n s q L i := ⟨V.A.lt, V.bn, fun e => V.dn e.1, V.ar, V.lo, V.hi, V.kl, V.wl, V.lm, V.tb, V.b2⟩
theorem part_ex (ar : f.arr d) {j : Nat} (hj : j < (partsD d).length) : ∃ g, (pfs f.k f.cs)[j]? = some g ∧ (partsD d)[j]? = some (part d j) ∧ g.arr (part d j) ∧ g.dep < f.dep := by
  have hp := ar.siz.parts
  have hg : (pfs f.k f.cs)[j]? = some (pfs f.k f.cs)[j] := List.getElem?_eq_getElem (by omega)
  exact ⟨_, hg, part_get hj, ar.part hg (part_get hj), dep_part ar.h20 hg⟩
theorem parts_cs (ar : f.arr d) (h19 : f.k ≠ 19) : partsD d = d.cs := by have := ar.siz.nd; unfold partsD; rw [diK, if_neg h19] at this; rw [if_neg (by omega)]
theorem lists_c (IH : OwnC m) (hd : f.dep ≤ m + 1) (V0 : Vc D h b bl f d o n s q L i) (hr : r = i) (kk : f.k = 15 ∨ f.k = 16) (hnb : nullB f.k d.bufs i = false) (hk : VK h bl L (f.val d i) K) : Fn190 (some ⟨b, 0, none⟩) r (some ⟨bl, 0, none⟩) h K Kp := by
  obtain ⟨D', V, dlt⟩ : ∃ D' : Nat → Prop, Vc D' h b bl f d o n s q L i ∧ ∀ x, D' x → x < h.size := ⟨_, V0.ltd, fun x hx => hx.2⟩
  subst hr
  have bd := V.bd
  have V' := V
  obtain ⟨A, bn, dn, ar, lo, hi, kl, wl, lm, tb, b2⟩ := V'
  have so := ar.siz
  have hcs := parts_cs ar (by omega)
  have p0 : 0 < (partsD d).length := by
    have nc := so.nc
    have := so.ty.kinds.1
    unfold Shaped at this
    rw [chK, if_neg (by omega), if_neg (by omega)] at nc
    rw [hcs]; omega
  obtain ⟨g, hg, hc, ga, gd⟩ := part_ex ar p0
  have gso := ga.siz
  have gl0 := gso.l0
  have gl1 := gso.l1
  have go0 := gso.o0
  have go1 := gso.o1
  obtain ⟨vs, hvs⟩ : ∃ vs, vs = (List.range (itN f d i)).map fun j => g.val (part d 0) ((part d 0).off.toNat + (itA f d i + j)) := ⟨_, rfl⟩
  have hv : f.val d i = .mk false 0 [] vs := by
    rw [hvs, val_eq', valK, if_neg (by rw [hnb]; simp), if_neg (by omega)]
    unfold itA itN at0
    rcases kk with e | e
    · rw [if_pos e, if_neg (by omega), if_neg (by omega), getD_map hg]
    · rw [if_neg (by omega), if_pos e, if_pos e, if_pos e, getD_map hg]
  have vl : vs.length = itN f d i := by rw [hvs]; simp
  have vg : ∀ j, j < itN f d i → vs[j]? = some (g.val (part d 0) ((part d 0).off.toNat + (itA f d i + j))) := fun j hj => by rw [hvs]; simp [hj]
  rw [hv] at hk wl
  simp only [Val.wgt, List.length_nil] at wl
  have bll := kl.lt
  have k9b := A.k.lt
  refine Fn190.of (New_i fun b4 h1 e1 g1 k4 _ => New_i fun b8 h2 e2 g2 k8 _ => New_i fun b9 h3 e3 g3 k9 _ => ?_)
  have G3 := Grw.trans g1 (Grw.trans g2 g3)
  have g1s := g1.1
  have g2s := g2.1
  have k8l := k8.lt
  have k9l := k9.lt
  refine items_c (A.gr G3) ar kk rfl lo hi hc fun x y h4 g4 hx hy hle => weigh_c (kl.grw (Grw.trans G3 g4)) (by omega) (by omega) lm fun h5 o5 kl5 => ?_
  have T5 : Tn (· = bl) h h5 := (Tn.of_grw (Grw.trans G3 g4)).trans o5.fr
  have g4s := g4.1
  have s5 : h5.size = h4.size := o5.1
  refine part_c (V.af T5) ar.h20 (j := 0) rfl hg hc fun b' s' q' h6 g6 hb' A6 => ?_
  have g6s := g6.1
  have T6 : Tn (· = bl) h h6 := T5.trans (Tn.of_grw g6)
  have k8' : Blk h6 b8 zY66 Y66 := (o5.blk ((k8.grw g3).grw g4) (by omega)).grw g6
  have k9' : Blk h6 b9 zY66 Y66 := (o5.blk (k9.grw g4) (by omega)).grw g6
  have kl6 := kl5.grw g6
  subst hx hy
  have sumle : ∀ j, wsum (vs.take j) ≤ wsum vs := fun j => by rw [wsum_take, wsum_eq]; have := sum_cut (l := vs.map Val.wgt) 0 j; simpa using this
  refine L190_1.rule (fun x13 h' => ∃ (j : Nat) (x : Sl), x13 = ((itA f d i + j : Nat) : Int) ∧ j ≤ itN f d i ∧ Tn (fun c => c = bl ∨ c = b9) h6 h' ∧ Ls h6 h' b9 x (vs.take j) ∧ Lc h' bl (L - 16 - (wsum (vs.take j) : Nat))) (fun x13 _ => itA f d i + itN f d i - x13.toNat)
    ⟨0, Sl.nil, rfl, by omega, Tn.refl _ _, by simpa using Ls.start k9', by simpa [wsum] using kl6⟩ ?_
  rintro x13 h7 ⟨j, x, rfl, hj, t7, ls, kl7⟩ N1 hN
  have t7s := t7.1
  simp only [add_blk]
  refine If_i (fun c => ?_) fun c => ?_
  · simp only [decide_eq_true_eq, decide_eq_false_iff_not, beq_iff_eq, beq_eq_false_iff_ne, ne_eq, reduceCtorEq, true_iff, false_iff, Bool.not_eq_true', Bool.not_eq_false', bne_iff_ne, bne_eq_false_iff_eq, Bool.not_true, Bool.not_false, Decidable.not_not] at c
    have hj' : j < itN f d i := by omega
    have hvj := vg j hj'
    have hvw : (vs.map Val.wgt)[j]? = some (g.val (part d 0) ((part d 0).off.toNat + (itA f d i + j))).wgt := by simp [hvj]
    have hss := sum_take_succ hvw
    rw [← wsum_take, ← wsum_take] at hss
    have hsl := sumle (j + 1)
    have htk : vs.take (j + 1) = vs.take j ++ [g.val (part d 0) ((part d 0).off.toNat + (itA f d i + j))] := by rw [List.take_add_one, hvj]; rfl
    generalize hvv : g.val (part d 0) ((part d 0).off.toNat + (itA f d i + j)) = v at hss htk
    have A7 : ArA D' h7 b' g (part d 0) (part d 0).off (part d 0).len s' q' := A6.fr t7 (by omega) (fun z hz e => by
      rcases e with e | e
      · exact dn (e ▸ hz)
      · have := dlt z hz; omega) fun _ z => z
    have tb7 : UTab h7 := (V.tbf T6).fr t7 (by omega) (by omega)
    refine Ld_blk ls.k9 rfl (IH g (by omega) (i := (part d 0).off.toNat + (itA f d i + j)) ⟨A7, by omega, dn, ga, by omega, by omega, kl7, by rw [hvv]; omega, by omega, tb7, b2⟩ (by omega) ?_)
    rw [hvv]
    intro t h8 t8 kl8 w8
    have t8s := t8.1
    have ls8 := ls.fr t8 (by omega) (by omega)
    refine Keep_b2 ls.k9 ls8.k9 (ls8.push (by omega) (by omega) (by rw [List.length_take]; have := gl1; omega) (VsA.mo (D' := fun c => h6.size ≤ c ∧ ¬ x.at c) w8 fun c (hc : h7.size ≤ c) => ⟨by omega, fun q => by have := (ls.at q).2; omega⟩) fun x' h9 ls9 t9 => ?_)
    rw [← htk] at ls9
    refine Wr_i64 (by omega) (by omega) (hN _ h9 ⟨j + 1, x', by omega, by omega, ?_, ls9, ?_⟩ (by omega))
    · exact (t7.trans' t8 fun z hz _ => .inl hz).trans' t9 fun z hz hlt => .inr (by omega)
    · have := t9.blk kl8 (by omega)
      rw [hss]
      rwa [show L - 16 - (wsum (vs.take j) : Int) - (v.wgt : Int) = L - 16 - ((wsum (vs.take j) + v.wgt : Nat) : Int) by omega] at this
  · simp only [decide_eq_true_eq, decide_eq_false_iff_not, beq_iff_eq, beq_eq_false_iff_ne, ne_eq, reduceCtorEq, true_iff, false_iff, Bool.not_eq_true', Bool.not_eq_false', bne_iff_ne, bne_eq_false_iff_eq, Bool.not_true, Bool.not_false, Decidable.not_not] at c
    obtain rfl : j = itN f d i := by omega
    rw [List.take_of_length_le (by omega)] at ls kl7
    refine LY66.b ls.k9 (hk.fin (T6.trans' t7 fun z hz hlt => by omega) ?_ (t7.blk k8' (by omega)) rfl (by omega) bll (ls.sv fun c hc => ⟨by omega, by omega⟩))
    have e : L - 16 - (wsum vs : Int) = L - ((Val.mk false 0 [] vs).wgt : Int) := by simp only [Val.wgt, List.length_nil]; omega
    rwa [e] at kl7
end
end Go.Proofs.YtcgdhhchjgbhnaaGreatDoor
set_option maxRecDepth 100000
set_option maxHeartbeats 1000000
/- Values read: parts, codes, dictionaries, runs; all values. -/
namespace Go.Proofs.YtcgdhhchjgbhnaaGreatDoor
open Go Go.Sh Go.WideShapes
section
variable {D : Nat → Prop} {h : Hp} {b bl i m : Nat} {f : Fld} {d : Dat} {o n r L : Int} {s : Sl} {q : Sl × Sl × Sl} {K : KV} {Kp : PK}
theorem structs_c (IH : OwnC m) (hd : f.dep ≤ m + 1) (V0 : Vc D h b bl f d o n s q L i) (hr : r = i) (kk : f.k = 17) (hnb : nullB f.k d.bufs i = false) (hk : VK h bl L (f.val d i) K) : Fn191 (some ⟨b, 0, none⟩) r (some ⟨bl, 0, none⟩) h K Kp := by
  obtain ⟨D', V, dlt⟩ : ∃ D' : Nat → Prop, Vc D' h b bl f d o n s q L i ∧ ∀ x, D' x → x < h.size := ⟨_, V0.ltd, fun x hx => hx.2⟩
  subst hr
  have bd := V.bd
  have V' := V
  obtain ⟨A, bn, dn, ar, lo, hi, kl, wl, lm, tb, b2⟩ := V'
  have so := ar.siz
  have hcs := parts_cs ar (by omega)
  have hpl := so.parts
  have small : (partsD d).length ≤ 32 := by
    have nc := so.nc
    have := so.ty.kinds.2.1
    rw [chK, if_neg (by omega), if_neg (by omega)] at nc
    rw [hcs]; omega
  obtain ⟨vs, hvs⟩ : ∃ vs, vs = (List.range ((pfs f.k f.cs).map Fld.val).length).map fun j => at0 (((pfs f.k f.cs).map Fld.val).getD j vz) (part d j) i := ⟨_, rfl⟩
  have hv : f.val d i = .mk false 0 [] vs := by
    rw [hvs, val_eq', valK, if_neg (by rw [hnb]; simp), if_neg (by omega), if_neg (by omega), if_neg (by omega), if_pos kk]
  have vl : vs.length = (partsD d).length := by rw [hvs]; simp; omega
  rw [hv] at hk wl
  simp only [Val.wgt, List.length_nil] at wl
  have bll := kl.lt
  have k9b := A.k.lt
  refine Fn191.of (New_i fun b4 h1 e1 g1 k4 _ => New_i fun b8 h2 e2 g2 k8 _ => New_i fun b9 h3 e3 g3 k9 _ => ?_)
  have G3 := Grw.trans g1 (Grw.trans g2 g3)
  have g1s := g1.1
  have g2s := g2.1
  have k8l := k8.lt
  have k9l := k9.lt
  refine weigh_c (kl.grw G3) (by omega) (by omega) lm fun h6 o6 kl6 => ?_
  have T6 : Tn (· = bl) h h6 := (Tn.of_grw G3).trans o6.fr
  have s6 : h6.size = h3.size := o6.1
  have A6 := V.af T6
  simp only [NN_some, add_blk]
  refine Ld_blk A6.k rfl ?_
  have k8' : Blk h6 b8 zY66 Y66 := o6.blk (k8.grw g3) (by omega)
  have k9' : Blk h6 b9 zY66 Y66 := o6.blk k9 (by omega)
  have qn := A6.dv.c.n
  rw [← hcs] at qn
  rw [qn.1]
  have sumle : ∀ j, wsum (vs.take j) ≤ wsum vs := fun j => by rw [wsum_take, wsum_eq]; have := sum_cut (l := vs.map Val.wgt) 0 j; simpa using this
  refine L191_1.rule (fun x19 h' => ∃ (j : Nat) (x : Sl), x19 = (j : Int) ∧ j ≤ (partsD d).length ∧ Tn (fun c => c = bl ∨ c = b9) h6 h' ∧ Ls h6 h' b9 x (vs.take j) ∧ Lc h' bl (L - 16 - (wsum (vs.take j) : Nat))) (fun x19 _ => (partsD d).length - x19.toNat)
    ⟨0, Sl.nil, rfl, by omega, Tn.refl _ _, by simpa using Ls.start k9', by simpa [wsum] using kl6⟩ ?_
  rintro x19 h7 ⟨j, x, rfl, hj, t7, ls, kl7⟩ N1 hN
  have t7s := t7.1
  simp only [add_blk]
  refine If_i (fun c => ?_) fun c => ?_
  · simp only [decide_eq_true_eq, decide_eq_false_iff_not, beq_iff_eq, beq_eq_false_iff_ne, ne_eq, reduceCtorEq, true_iff, false_iff, Bool.not_eq_true', Bool.not_eq_false', bne_iff_ne, bne_eq_false_iff_eq, Bool.not_true, Bool.not_false, Decidable.not_not] at c
    have hj' : j < (partsD d).length := by omega
    obtain ⟨g, hg, hc, ga, gd⟩ := part_ex ar hj'
    have gso := ga.siz
    have gl0 := gso.l0
    have gl1 := gso.l1
    have go0 := gso.o0
    have go1 := gso.o1
    have hch := (so.ch j (part d j) (by rw [← hcs]; exact hc)).2 kk
    have hvj : vs[j]? = some (g.val (part d j) ((part d j).off.toNat + i)) := by
      rw [hvs, List.getElem?_map, List.getElem?_range (by simp; omega)]
      simp only [Option.map_some, getD_map hg, at0]
    have hvw : (vs.map Val.wgt)[j]? = some (g.val (part d j) ((part d j).off.toNat + i)).wgt := by simp [hvj]
    have hss := sum_take_succ hvw
    rw [← wsum_take, ← wsum_take] at hss
    have hsl := sumle (j + 1)
    have htk : vs.take (j + 1) = vs.take j ++ [g.val (part d j) ((part d j).off.toNat + i)] := by rw [List.take_add_one, hvj]; rfl
    generalize hvv : g.val (part d j) ((part d j).off.toNat + i) = v at hss htk
    have A7 : ArA D' h7 b f d o n s q := A6.fr t7 (by omega) (fun z hz e => by
      rcases e with e | e
      · exact dn (e ▸ hz)
      · have := dlt z hz; omega) fun _ z => z
    have tb7 : UTab h7 := (V.tbf T6).fr t7 (by omega) (by omega)
    refine Ld_blk ls.k9 rfl (part_c A7 ar.h20 rfl hg hc fun b' s' q' h8 g8 hb' A8 => Keep_blk ls.k9 g8 (IH g (by omega) (i := (part d j).off.toNat + i) ⟨A8, by omega, dn, ga, by omega, by omega, kl7.grw g8, by rw [hvv]; omega, by omega, tb7.grw g8, b2⟩ (by omega) ?_))
    rw [hvv]
    intro t h9 t9 kl9 w9
    have t9s := t9.1
    have g8s := g8.1
    have ls8 : Ls h6 h8 b9 x (vs.take j) := ls.fr (Tn.of_grw g8 : Tn (· = bl) h7 h8) (by omega) (by omega)
    have ls9 := ls8.fr t9 (by omega) (by omega)
    refine Keep_b2 ls8.k9 ls9.k9 (ls9.push (by omega) (by omega) (by rw [List.length_take]; omega) (VsA.mo (D' := fun c => h6.size ≤ c ∧ ¬ x.at c) w9 fun c (hc : h8.size ≤ c) => ⟨by omega, fun q => by have := (ls.at q).2; omega⟩) fun x' h10 ls10 t10 => ?_)
    rw [← htk] at ls10
    refine Wr_i64 (by omega) (by omega) (hN _ h10 ⟨j + 1, x', by omega, by omega, ?_, ls10, ?_⟩ (by omega))
    · exact ((t7.trans (Tn.of_grw g8)).trans' t9 fun z hz _ => .inl hz).trans' t10 fun z hz hlt => .inr (by omega)
    · have := t10.blk kl9 (by omega)
      rw [hss]
      rwa [show L - 16 - (wsum (vs.take j) : Int) - (v.wgt : Int) = L - 16 - ((wsum (vs.take j) + v.wgt : Nat) : Int) by omega] at this
  · simp only [decide_eq_true_eq, decide_eq_false_iff_not, beq_iff_eq, beq_eq_false_iff_ne, ne_eq, reduceCtorEq, true_iff, false_iff, Bool.not_eq_true', Bool.not_eq_false', bne_iff_ne, bne_eq_false_iff_eq, Bool.not_true, Bool.not_false, Decidable.not_not] at c
    obtain rfl : j = (partsD d).length := by omega
    rw [List.take_of_length_le (by omega)] at ls kl7
    refine LY66.b ls.k9 (hk.fin (T6.trans' t7 fun z hz hlt => by omega) ?_ (t7.blk k8' (by omega)) rfl (by omega) bll (ls.sv fun c hc => ⟨by omega, by omega⟩))
    have e : L - 16 - (wsum vs : Int) = L - ((Val.mk false 0 [] vs).wgt : Int) := by simp only [Val.wgt, List.length_nil]; omega
    rwa [e] at kl7
theorem choices_c (IH : OwnC m) (hd : f.dep ≤ m + 1) (V : Vc D h b bl f d o n s q L i) (hr : r = i) (kk : f.k = 18) (hnb : nullB f.k d.bufs i = false) (hk : VK h bl L (f.val d i) K) : Fn192 (some ⟨b, 0, none⟩) r (some ⟨bl, 0, none⟩) h K Kp := by
  subst hr
  have bd := V.bd
  have V' := V
  obtain ⟨A, bn, dn, ar, lo, hi, kl, wl, lm, tb, b2⟩ := V'
  have so := ar.siz
  have hcs := parts_cs ar (by omega)
  have nb := so.nb
  have hb2 : d.bufs.length = 2 := by rw [kk] at nb; simp [bufK] at nb; omega
  have n0 := so.need 0 (by omega)
  have n1 := so.need 1 (by omega)
  rw [needB, if_pos kk] at n0 n1
  have big0 := so.big 0 (by omega)
  have big1 := so.big 1 (by omega)
  obtain ⟨ch, hch, q1, q2⟩ := (Fld.arr_eq.1 ar).ro.code kk (i - d.off.toNat) (by omega)
  have ei : d.off.toNat + (i - d.off.toNat) = i := by omega
  have eoN : offN d (i - d.off.toNat) = i32 (bufD d.bufs 1) i := by unfold offN; rw [ei]
  rw [ei] at hch
  rw [eoN] at q1 q2
  have hC : codeD d i < (partsD d).length := by rw [hcs]; exact (List.getElem?_eq_some_iff.1 hch).1
  obtain ⟨g, hg, hc, ga, gd⟩ := part_ex ar hC
  have hp : part d (codeD d i) = ch := part_of (by rw [hcs]; exact hch)
  rw [hp] at hc ga
  have gso := ga.siz
  have gl1 := gso.l1
  have go0 := gso.o0
  have go1 := gso.o1
  have oR : (offR d i : Int) = i32 (bufD d.bufs 1) i := by unfold offR; omega
  have hv : f.val d i = .mk false (codeD d i) [] [g.val ch (ch.off.toNat + offR d i)] := by
    rw [val_eq', valK, if_neg (by rw [hnb]; simp), if_neg (by omega), if_neg (by omega), if_neg (by omega), if_neg (by omega), if_pos kk, getD_map hg, hp]; rfl
  rw [hv] at hk wl
  simp only [Val.wgt, wsum, List.length_nil] at wl
  have bll := kl.lt
  refine Fn192.of (New_i fun b4 h1 e1 g1 k4 _ => New_i fun b8 h2 e2 g2 k8 _ => ?_)
  have G2 := Grw.trans g1 g2
  have g1s := g1.1
  have k8l := k8.lt
  refine bytes_v (A.gr G2) (j := 0) rfl (by omega) fun u0 h3 g3 v0 => byte_c v0.1 (by omega) (i := i) rfl (getD_some (by omega)) fun h4 g4 => ?_
  have hcd : ((bufD d.bufs 0).getD i 0).toNat = codeD d i := rfl
  rw [hcd]
  have h256 : codeD d i < 256 := UInt8.toNat_lt _
  refine bytes_v (A.gr (Grw.trans G2 (Grw.trans g3 g4))) (j := 1) rfl (by omega) fun u1 h5 g5 v1 => Wr_i64 (by omega) (by omega) (sgv_c v1.1 (by omega) (m := 4) (by omega) (a := 4 * i) (by omega) rfl (by omega) fun h6 g6 => ?_)
  have een : sg 4 (nAt (bufD d.bufs 1) (4 * i) 4) = i32 (bufD d.bufs 1) i := rfl
  rw [een]
  have G6 := Grw.trans G2 (Grw.trans (Grw.trans g3 g4) (Grw.trans g5 g6))
  have A6 := A.gr G6
  have g36 := (Grw.trans (Grw.trans g3 g4) (Grw.trans g5 g6)).1
  simp only [NN_some, add_blk]
  refine Wr_i64 (by omega) (by omega) (Ld_blk A6.k rfl ?_)
  have qn := A6.dv.c.n
  rw [← hcs] at qn
  refine If_f (by rw [decide_eq_false_iff_not]; omega) ?_
  have e3 : decide (i32 (bufD d.bufs 1) i < 0) = false := by rw [decide_eq_false_iff_not]; omega
  rw [e3]
  refine J192_2.of (If_f rfl ?_)
  simp only [NN_some, add_blk]
  refine Ld_blk A6.k rfl (A6.dv.c.ix rfl hch fun a qc cc vc => ⟨_, add_0 a ▸ cc 0 _ rfl, If_f (by rw [decide_eq_false_iff_not]; omega) (J192_1.of ?_)⟩)
  refine weigh_c (kl.grw G6) (by omega) (by omega) lm fun h7 o7 kl7 => Wr_i64 (by omega) (by omega) (Wr_i64 (by omega) (by omega) ?_)
  have T7 : Tn (· = bl) h h7 := (Tn.of_grw G6).trans o7.fr
  have s7 : h7.size = h6.size := o7.1
  refine part_c (V.af T7) ar.h20 rfl hg hc fun b' s' q' h8 g8 hb' A8 => ?_
  have g8s := g8.1
  have T8 := T7.trans (Tn.of_grw g8 : Tn (· = bl) h7 h8)
  have k88 : Blk h8 b8 zY66 Y66 := (o7.blk (k8.grw (Grw.trans (Grw.trans g3 g4) (Grw.trans g5 g6))) (by omega)).grw g8
  refine IH g (by omega) (i := ch.off.toNat + offR d i) ⟨A8, by omega, dn, ga, by omega, by omega, kl7.grw g8, by omega, by omega, V.tbf T8, b2⟩ (by omega) ?_
  intro t h9 t9 kl9 w9
  have t9s := t9.1
  refine New_i fun b67 h10 e67 g10 k67 _ => ?_
  have T10 := (T8.trans t9).trans (Tn.of_grw g10 : Tn (· = bl) h9 h10)
  have kl10 := kl9.grw g10
  rw [show L - 16 - ((g.val ch (ch.off.toNat + offR d i)).wgt : Int) = L - ((Val.mk false (codeD d i) [] [g.val ch (ch.off.toNat + offR d i)]).wgt : Int) by simp only [Val.wgt, wsum, List.length_nil]; omega] at kl10
  refine hk.fin T10 kl10 ((t9.blk k88 (by omega)).grw g10) rfl (by omega) bll (VsA.of rfl (Nat.le_refl _) fun _ => ⟨_, rfl, ⟨by show h.size ≤ b67; omega, by show b67 ≠ b8; omega⟩, fun j v hj => ?_⟩)
  obtain rfl : j = 0 := by have : j < 1 := (List.getElem?_eq_some_iff.1 hj).1
                           omega
  simp only [Val.items, List.getElem?_cons_zero, Option.some.injEq] at hj
  subst hj
  refine VA.of (s := t) ?_ ?_
  · intro k v hv'
    rw [Nat.zero_mul, add_zero', add_blk, cell_blk k67]
    rcases k with _ | _ | _ | _ | k
    all_goals first | exact hv' | (simp [Val.row, vals4] at hv')
  · exact (w9.gr g10).mo fun c (hc : h8.size ≤ c) => ⟨by omega, by omega⟩
theorem dicts_c (IH : OwnC m) (hd : f.dep ≤ m + 1) (V : Vc D h b bl f d o n s q L i) (hr : r = i) (kk : f.k = 19) (hnb : nullB f.k d.bufs i = false) (hk : VK h bl L (f.val d i) K) : Fn193 (some ⟨b, 0, none⟩) r (some ⟨bl, 0, none⟩) h K Kp := by
  subst hr
  have bd := V.bd
  have V' := V
  obtain ⟨A, bn, dn, ar, lo, hi, kl, wl, lm, tb, b2⟩ := V'
  have so := ar.siz
  have nb := so.nb
  have nd := so.nd
  rw [diK, if_pos kk] at nd
  have hds : partsD d = d.ds := by unfold partsD; rw [if_pos (by omega)]
  have sh := so.ty.kinds.1
  unfold Shaped at sh
  have hix : 3 ≤ f.ix ∧ f.ix ≤ 10 := by omega
  have hb2 : d.bufs.length = 2 := by rw [kk] at nb; simp [bufK] at nb; omega
  have n1 := so.need 1 (by omega)
  have hwd : wdK f.k f.w f.ix = widK f.ix := by rw [wdK, if_neg (by omega), if_pos kk]
  rw [needB, if_neg (by omega), if_neg (by omega), if_neg (by omega), if_neg (by omega), hwd] at n1
  have big1 := so.big 1 (by omega)
  obtain ⟨g, hg, hc, ga, gd⟩ := part_ex ar (j := 0) (by rw [hds]; omega)
  have gso := ga.siz
  have gl0 := gso.l0
  have gl1 := gso.l1
  have go0 := gso.o0
  have go1 := gso.o1
  have ei : d.off.toNat + (i - d.off.toNat) = i := by omega
  obtain ⟨mm, hm⟩ := (Fld.arr_eq.1 ar).ro.dict kk (i - d.off.toNat) (by omega) (by rw [ei]; exact hnb)
  rw [ei] at hm
  have hd0 : d.ds[0]? = some (part d 0) := by rw [← hds]; exact hc
  have hv : f.val d i = g.val (part d 0) ((part d 0).off.toNat + nAt (bufD d.bufs 1) (i * (widK f.ix).toNat) (widK f.ix).toNat) := by
    rw [val_eq', valK, if_neg (by rw [hnb]; simp), if_neg (by omega), if_neg (by omega), if_neg (by omega), if_neg (by omega), if_neg (by omega), if_pos kk, getD_map hg]; rfl
  have hmm : numN f.ix (bufD d.bufs 1) i = (nAt (bufD d.bufs 1) (i * (widK f.ix).toNat) (widK f.ix).toNat : Int) ∧ nAt (bufD d.bufs 1) (i * (widK f.ix).toNat) (widK f.ix).toNat < (part d 0).len.toNat := by
    unfold idxD at hm
    split at hm
    · cases hm
    · rename_i hno
      have lt : nAt (bufD d.bufs 1) (i * (widK f.ix).toNat) (widK f.ix).toNat < (part d 0).len.toNat := by
        rcases Nat.lt_or_ge (nAt (bufD d.bufs 1) (i * (widK f.ix).toNat) (widK f.ix).toNat) (part d 0).len.toNat with z | z
        · exact z
        · exact absurd (.inr fun c' hc' => by rw [hd0] at hc'; cases hc'; omega) hno
      refine ⟨?_, lt⟩
      unfold numN sg
      split
      · rename_i e
        rw [if_pos]
        rcases Nat.lt_or_ge (nAt (bufD d.bufs 1) (i * (widK f.ix).toNat) (widK f.ix).toNat) (2 ^ (8 * (widK f.ix).toNat - 1)) with z | z
        · exact z
        · exact absurd (.inl ⟨e.2, z⟩) hno
      · rw [if_pos (by omega)]
  have hrw : (i + 1) * (widK f.ix).toNat ≤ (d.off + d.len).toNat * (widK f.ix).toNat := Nat.mul_le_mul_right _ (by omega)
  generalize nAt (bufD d.bufs 1) (i * (widK f.ix).toNat) (widK f.ix).toNat = M at hv hmm
  have bll := kl.lt
  refine Fn193.of (New_i fun b4 h1 e1 g1 k4 _ => New_i fun b8 h2 e2 g2 k8 _ => ?_)
  have G2 := Grw.trans g1 g2
  have g1s := g1.1
  have k8l := k8.lt
  simp only [NN_some, add_blk]
  refine Ld_blk (A.gr G2).k rfl (number_c (A.gr G2) (by omega) rfl (by omega) (by omega) (by omega) fun h3 g3 => ?_)
  rw [hmm.1]
  have G3 := Grw.trans G2 g3
  have A3 := A.gr G3
  have g3s := g3.1
  have e64 : IntKind.bits .u64 = 64 := rfl
  refine Wr_u rfl (by rw [e64]; omega) (Ld_blk A3.k rfl (A3.dv.x.ix rfl hd0 fun a qc cc vc => ⟨_, add_0 a ▸ cc 0 _ rfl, ?_⟩))
  rw [show (part d 0).len = (((part d 0).len.toNat : Nat) : Int) by omega]
  refine Wr_u rfl (by rw [e64]; omega) (If_f (by rw [decide_eq_false_iff_not]; omega) ?_)
  refine part_c A3 ar.h20 (j := 0) rfl hg hc fun b' s' q' h4 g4 hb' A4 => Wr_i64 (by omega) (by omega) ?_
  have G4 := Grw.trans G3 g4
  have g4s := g4.1
  rw [hv] at hk wl
  refine IH g (by omega) (i := (part d 0).off.toNat + M) ⟨A4, by omega, dn, ga, by omega, by omega, kl.grw G4, wl, lm, tb.grw G4, b2⟩ (by omega) ?_
  intro t h5 t5 kl5 w5
  exact hk.fin ((Tn.of_grw G4).trans t5) kl5 (t5.blk (k8.grw (Grw.trans g3 g4)) (by omega)) rfl (by omega) bll (w5.mo fun c (hc : h4.size ≤ c) => ⟨by omega, by omega⟩)
theorem runs_c (IH : OwnC m) (hd : f.dep ≤ m + 1) (V : Vc D h b bl f d o n s q L i) (hr : r = i) (kk : f.k = 20) (hnb : nullB f.k d.bufs i = false) (hk : VK h bl L (f.val d i) K) : Fn195 (some ⟨b, 0, none⟩) r (some ⟨bl, 0, none⟩) h K Kp := by
  subst hr
  have bd := V.bd
  have V' := V
  obtain ⟨A, bn, dn, ar, lo, hi, kl, wl, lm, tb, b2⟩ := V'
  have so := ar.siz
  have hcs := parts_cs ar (by omega)
  obtain ⟨e, v', z0, z1, z2, z3, z4⟩ := (Fld.arr_eq.1 ar).eo kk
  have p1 : 1 < (partsD d).length := by rw [hcs]; exact (List.getElem?_eq_some_iff.1 z1).1
  obtain ⟨g, hg, hc, ga, gd⟩ := part_ex ar p1
  have hp0 : part d 0 = e := part_of (by rw [hcs]; exact z0)
  have hp1 : part d 1 = v' := part_of (by rw [hcs]; exact z1)
  obtain ⟨j, hj, hj1, hj2, hj3, hj4⟩ := run_lt z0 z1 ((Fld.arr_eq.1 ar).eo kk) (r := i) (by omega)
  have gso := ga.siz
  have gl1 := gso.l1
  have go0 := gso.o0
  have go1 := gso.o1
  have hv : f.val d i = g.val (part d 1) ((part d 1).off.toNat + runN (part d 0) i) := by
    rw [val_eq', valK, if_neg (by rw [hnb]; simp), if_neg (by omega), if_neg (by omega), if_neg (by omega), if_neg (by omega), if_neg (by omega), if_neg (by omega), if_pos kk, getD_map hg]; rfl
  rw [hp0, hj3] at hv
  have bll := kl.lt
  refine Fn195.of (New_i fun b4 h1 e1 g1 k4 _ => New_i fun b8 h2 e2 g2 k8 _ => ?_)
  have G2 := Grw.trans g1 g2
  have g1s := g1.1
  have k8l := k8.lt
  refine part_c (A.gr G2) ar.h20 (j := 1) rfl hg hc fun b' s' q' h3 g3 hb' A3 => run_c (A.gr (Grw.trans G2 g3)) ar kk rfl lo hi fun h4 g4 => ?_
  have G4 := Grw.trans G2 (Grw.trans g3 g4)
  have g3s := g3.1
  have g4s := g4.1
  rw [hp0, hj3]
  rw [hv] at hk wl
  refine IH g (by omega) (i := (part d 1).off.toNat + j) ⟨A3.gr g4, by omega, dn, ga, by omega, by rw [hp1]; omega, kl.grw G4, wl, lm, tb.grw G4, b2⟩ (by omega) ?_
  intro t h5 t5 kl5 w5
  exact hk.fin ((Tn.of_grw G4).trans t5) kl5 (t5.blk (k8.grw (Grw.trans g3 g4)) (by omega)) rfl (by omega) bll (w5.mo fun c (hc : h4.size ≤ c) => ⟨by omega, by omega⟩)
abbrev KI (K : KV) : Value → HP := fun v h' => ∃ r0_0 : Bool, ∃ r0_1 : Int, ∃ r0_2 : ByteArray, ∃ r0_3 : Sl, v = (.agg #[(.bool r0_0), (.int .i64 r0_1), (.string r0_2), (Sl.v r0_3)]) ∧ K r0_0 r0_1 r0_2 r0_3 h'
abbrev CI (t : TypeId) (a : Option Addr) (r : Int) (left : Option Addr) (h : Hp) (K : KV) (Kp : PK) : Prop := CallI Tryz.prog (.iface t (.agg #[])) "colonnade/array.read" [.pointer a, .int .i64 r, .pointer left] h (KI K) Kp
theorem callI_of {t : TypeId} {gi : FuncId} {a left : Option Addr} {r : Int} {h : Hp} {K : Value → HP} {Kp : PK} (h1 : methP Tryz.prog t "colonnade/array.read" = some (gi, false)) (h2 : (recvOk Tryz.prog t false && okFn Tryz.prog gi) = true)
    (hh : CallH Tryz.prog gi [(.agg #[]), (.pointer a), (.int .i64 r), (.pointer left)] h K Kp) : CallI Tryz.prog (.iface t (.agg #[])) "colonnade/array.read" [.pointer a, .int .i64 r, .pointer left] h K Kp := by
  unfold CallI
  simp only [h1, h2]
  exact hh
theorem ci188 {a left : Option Addr} {r : Int} {h : Hp} {K : KV} {Kp : PK} (hh : Fn188 a r left h K Kp) : CI Y192 a r left h K Kp := callI_of (gi := I188) (by kernel_rfl) (by kernel_rfl) hh
theorem ci190 {a left : Option Addr} {r : Int} {h : Hp} {K : KV} {Kp : PK} (hh : Fn190 a r left h K Kp) : CI Y193 a r left h K Kp := callI_of (gi := I190) (by kernel_rfl) (by kernel_rfl) hh
theorem ci191 {a left : Option Addr} {r : Int} {h : Hp} {K : KV} {Kp : PK} (hh : Fn191 a r left h K Kp) : CI Y194 a r left h K Kp := callI_of (gi := I191) (by kernel_rfl) (by kernel_rfl) hh
theorem ci192 {a left : Option Addr} {r : Int} {h : Hp} {K : KV} {Kp : PK} (hh : Fn192 a r left h K Kp) : CI Y195 a r left h K Kp := callI_of (gi := I192) (by kernel_rfl) (by kernel_rfl) hh
theorem ci193 {a left : Option Addr} {r : Int} {h : Hp} {K : KV} {Kp : PK} (hh : Fn193 a r left h K Kp) : CI Y196 a r left h K Kp := callI_of (gi := I193) (by kernel_rfl) (by kernel_rfl) hh
theorem ci195 {a left : Option Addr} {r : Int} {h : Hp} {K : KV} {Kp : PK} (hh : Fn195 a r left h K Kp) : CI Y197 a r left h K Kp := callI_of (gi := I195) (by kernel_rfl) (by kernel_rfl) hh
theorem ci196 {a left : Option Addr} {r : Int} {h : Hp} {K : KV} {Kp : PK} (hh : Fn196 a r left h K Kp) : CI Y198 a r left h K Kp := callI_of (gi := I196) (by kernel_rfl) (by kernel_rfl) hh
theorem read_fam (IH : OwnC m) (hd : f.dep ≤ m + 1) (V : Vc D h b bl f d o n s q L i) (hr : r = i) (hnb : nullB f.k d.bufs i = false) (hk : VK h bl L (f.val d i) K) :
    CallI Tryz.prog (famV f.k) "colonnade/array.read" [.pointer (some ⟨b, 0, none⟩), .int .i64 r, .pointer (some ⟨bl, 0, none⟩)] h (KI K) Kp := by
  unfold famV
  by_cases c1 : f.k = 12 ∨ f.k = 13
  · rw [if_pos c1]; exact ci188 (texts_c V hr c1 hnb hk)
  rw [if_neg c1]
  by_cases c2 : f.k = 15 ∨ f.k = 16
  · rw [if_pos c2]; exact ci190 (lists_c IH hd V hr c2 hnb hk)
  rw [if_neg c2]
  by_cases c3 : f.k = 17
  · rw [if_pos c3]; exact ci191 (structs_c IH hd V hr c3 hnb hk)
  rw [if_neg c3]
  by_cases c4 : f.k = 18
  · rw [if_pos c4]; exact ci192 (choices_c IH hd V hr c4 hnb hk)
  rw [if_neg c4]
  by_cases c5 : f.k = 19
  · rw [if_pos c5]; exact ci193 (dicts_c IH hd V hr c5 hnb hk)
  rw [if_neg c5]
  by_cases c6 : f.k = 20
  · rw [if_pos c6]; exact ci195 (runs_c IH hd V hr c6 hnb hk)
  rw [if_neg c6]
  exact ci196 (flats_c V hr (by omega) hnb hk)
end
theorem nullAt_v {D : Nat → Prop} {h : Hp} {b i : Nat} {f : Fld} {d : Dat} {o n r : Int} {s : Sl} {q : Sl × Sl × Sl} {K : Bool → HP} {Kp : PK} (A : ArA D h b f d o n s q) (ar : f.arr d) (lo : d.off.toNat ≤ i) (hi : i < d.off.toNat + d.len.toNat) (hr : r = i) (hk : ∀ h', Grw h h' → K (nullB f.k d.bufs i) h') : Fn68 (some ⟨b, 0, none⟩) r h K Kp := by
  have so := ar.siz
  have l0 := so.l0
  have l1 := so.l1
  have o0 := so.o0
  have o1 := so.o1
  have hb : hasV f.k = true → 1 ≤ d.bufs.length := so.row.hv
  by_cases hne : (bufD d.bufs 0).length = 0
  · exact nullAt_c A hr hb (by omega) (fun e => absurd hne e) (by omega) hk
  · have hb0 : 0 < d.bufs.length := by
      rcases Nat.eq_zero_or_pos d.bufs.length with z | z
      · have : bufD d.bufs 0 = [] := by unfold bufD; rw [List.eq_nil_of_length_eq_zero z]; rfl
        rw [this] at hne; exact absurd rfl hne
      · exact z
    have n0 := so.need 0 hb0
    have big := so.big 0 hb0
    refine nullAt_c A hr hb (by omega) (fun _ => ?_) (by omega) hk
    by_cases k18 : f.k = 18
    · rw [needB, if_pos k18] at n0; omega
    · rw [needB, if_neg k18, if_neg (by omega), if_pos (.inl rfl)] at n0; omega
theorem valC : ∀ m, ValC m
  | 0 => fun f hd => by have := dep_pos f; omega
  | m + 1 => by
    intro f hd D h b bl i d o n r L s q K Kp V hr hk
    have bll := V.kl.lt
    refine Fn135.of (New_i fun b6 h1 e1 g1 k6 _ => nullAt_v (V.A.gr g1) V.ar V.lo V.hi hr fun h2 g2 => If_i (fun c => ?_) fun c => ?_)
    all_goals have G := Grw.trans g1 g2
    all_goals have g1s := g1.1
    all_goals have g2s := g2.1
    all_goals have k6l := k6.lt
    · have hv : f.val d i = v0 := by rw [val_eq', valK, if_pos c]
      have wl := V.wl
      rw [hv] at hk wl
      have e16 : v0.wgt = 16 := by simp [v0, Val.wgt, wsum]
      rw [e16] at wl
      refine weigh_c (V.kl.grw G) (by omega) (by omega) V.lm fun h3 o3 kl3 => ?_
      have kl3 : Lc h3 bl (L - v0.wgt) := by rw [e16]; exact kl3
      exact hk.fin ((Tn.of_grw G).trans o3.fr) kl3 (o3.blk (k6.grw g2) (by omega)) rfl (by omega) bll (VsA.nil _)
    · simp only [NN_some, add_blk]
      refine Ld_blk (V.A.gr G).k rfl (read_fam (own_of (valC m)) hd (V.gr G) hr c ?_)
      intro t h3 t3 kl3 w3
      exact hk.fin ((Tn.of_grw G).trans t3) kl3 (t3.blk (k6.grw g2) (by omega)) rfl (by omega) bll (w3.mo fun c (hc : h2.size ≤ c) => ⟨by omega, by omega⟩)
theorem own_c (m : Nat) : OwnC m := own_of (valC m)
end Go.Proofs.YtcgdhhchjgbhnaaGreatDoor
set_option maxRecDepth 100000
set_option maxHeartbeats 200000
/- Functions that defer the catching: their texts. -/
namespace Go.Proofs.YtcgdhhchjgbhnaaGreatDoor
open Go Go.Sh Go.WideShapes
noncomputable def code64 : Code := Tryz.f64.body.getD .skip
noncomputable def code65 : Code := Tryz.f65.body.getD .skip
noncomputable def code32 : Code := Tryz.f32.body.getD .skip
noncomputable def code69 : Code := Tryz.f69.body.getD .skip
def opc (c : Code) (i : Nat) : Oper := (regOps (sub [0] c)).getD i default
def callOf (o : Oper) : Call := match o.op with | .call c => c | .defer c => c | _ => default
/-- caught, with nothing to catch -/
theorem D65n {c0 : Addr} {h : Hp} {K : Hp → Prop} (H : K h) : ∀ w, hpz w = h → DefRun Tryz.prog I65 [.pointer (some c0)] .returning w fun u2 w' => u2 = .returning ∧ Same w w' ∧ K (hpz w') :=
  def_recover (P := Tryz.prog) (ann := []) (D := DrawSem Tryz.prog []) (drawOk _) (fn := Tryz.f65) (id := 0) (r1 := opc code65 0) (r2 := opc code65 1) (call := callOf (opc code65 0)) (rest := sub [1] code65) (tr := 5) (t2 := 2) (caps := [.pointer (some c0)]) (K := K) (u := .returning) (u' := .returning) (rv := .nilIface)
    Tryz.func65 (by kernel_rfl) (by kernel_rfl) (by kernel_rfl) (by kernel_rfl) (by kernel_rfl) (by kernel_rfl) (by kernel_rfl) (by kernel_rfl) (by kernel_rfl) (by kernel_rfl) (by kernel_rfl) (.inl ⟨rfl, rfl, rfl⟩) (by kernel_rfl) (cast (by kernel_rfl) H)
def ord64 : OrdT := [(4, (OT.l [0, 1, 2, 3, 4, 5] .fin), [0, 0, 2, 1, 15, 31])]
def z64 : List Value := [(.agg #[(.bool false), (.int .i64 0), (.string (bs [])), (.slice none 0 0)]), (.int .i64 0), (.int .i64 0)]
def kv64 (K : Bool → Int → ByteArray → Sl → Int → Int → HP) : Value → HP := fun v h => rU v fun vs => rG (vs.getD 0 undef) fun cs0 => rB (cs0.getD 0 undef) fun r0_0 => rI (cs0.getD 1 undef) fun r0_1 => rT (cs0.getD 2 undef) fun r0_2 => rS (cs0.getD 3 undef) fun r0_3 => rI (vs.getD 1 undef) fun r1 => rI (vs.getD 2 undef) fun r2 => K r0_0 r0_1 r0_2 r0_3 r1 r2 h
def S64c (a : Option Addr) (i : Int) (a4 a6 : Addr) (K : Bool → Int → ByteArray → Sl → Int → Int → HP) (h2 : Hp) : Prop :=
  New h2 #[(.int .i64 0)] Y6 fun a7 h3 =>
  St h3 a7 (.int .i64 4194304) fun h4 =>
  Fn109 a i (some a7) h4 (fun t10_0 t10_1 t10_2 t10_3 h5 =>
    SY66 h5 a4 t10_0 t10_1 t10_2 t10_3 fun h6 =>
    LY66 h6 a4 fun t11_0 t11_1 t11_2 t11_3 =>
    Ld h6 a7 mI fun t12 =>
    Wr .i64 ((4194304 : Int) - t12) fun t13 =>
    SY66 h6 a4 t11_0 t11_1 t11_2 t11_3 fun h7 =>
    Keep h6 h7 a7 1 <|
    St h7 a6 (.int .i64 0) fun h8 =>
    LY66 h8 a4 fun r0_0 r0_1 r0_2 r0_3 =>
    Ld h8 a6 mI fun r2 =>
    K r0_0 r0_1 r0_2 r0_3 t13 r2 h8) (fun _ _ => False)
/-- what is to be shown where the catching is deferred -/
abbrev DX (ord : OrdT) (fn : Func) (c2 : Code) (zs : List Value) (Kv : Value → HP) (o : Operand) (fr : Fr) (h : Hp) : Prop :=
  ∃ (caps : List Value) (KpX : List PanicEntry → Hp → Prop), evs (ev fr) [o] = some caps ∧ sem Tryz.prog [] (DrawSem Tryz.prog ord) none c2 (retQ Tryz.prog fn.results.toList zs Kv) KpX fr h ∧
    (∀ w, DefRun Tryz.prog I65 caps .returning w fun u' w' => u' = .returning ∧ Same w w' ∧ hpz w' = hpz w) ∧
    (∀ ch w, KpX ch (hpz w) → DefRun Tryz.prog I65 caps (.panicking ch) w fun u' w' => settle u' = .returning ∧ Same w w' ∧ retV Tryz.prog fn.results.toList (keepT [] fr) (hpz w') fun vs => resUn zs (oneOr vs) fun v => Kv v (hpz w'))
theorem DX.of {ord : OrdT} {fn : Func} {c2 : Code} {zs : List Value} {Kv : Value → HP} {o : Operand} {fr : Fr} {h : Hp} {a : Addr} (h1 : evs (ev fr) [o] = some [.pointer (some a)]) (h2 : sem Tryz.prog [] (DrawSem Tryz.prog ord) none c2 (retQ Tryz.prog fn.results.toList zs Kv) (fun _ _ => False) fr h) : DX ord fn c2 zs Kv o fr h :=
  ⟨_, fun _ _ => False, h1, h2, fun w => D65n (K := fun h' => h' = hpz w) rfl w rfl, fun _ _ q => q.elim⟩
abbrev nns (n : Nat) : Fr := List.replicate n none
def fr64 (a : Option Addr) (i : Int) (a4 a6 : Addr) : Fr := [some (.pointer a), some (.int .i64 i), none, none, some (.pointer (some a4)), some (.int .i64 0), some (.pointer (some a6)), none, none, none, none, none, none, none]
theorem Fn64.of {a : Option Addr} {i : Int} {h : Hp} {K : Bool → Int → ByteArray → Sl → Int → Int → HP} {Kp : PK} (H : New h zY66 Y66 fun a4 h1 => New h1 #[(.int .i64 0)] Y34 fun a6 h2 => S64c a i a4 a6 K h2) : Fn64 a i h K Kp := by
  have := fn_defer1 (P := Tryz.prog) (ann := []) (D := DrawSem Tryz.prog ord64) (drawOk _) (f := I64) (g := I65) (fn := Tryz.f64) (pre := [sub [0] code64]) (c2 := sub [1, 1] code64) (id := 1) (o := opc (sub [1] code64) 0) (call := callOf (opc (sub [1] code64) 0)) []
    (zs := z64) (args := [(.pointer a), (.int .i64 i)]) (h := h) (Kv := kv64 K) (Kp := Kp) Tryz.func64 (by kernel_rfl) (by kernel_rfl) (by kernel_rfl) (by kernel_rfl) (by kernel_rfl) (by kernel_rfl) (by kernel_rfl) (by kernel_rfl) ?_
  · exact cast (by kernel_rfl) this
  · have X : ∀ a4 a6 h, S64c a i a4 a6 K h → DX ord64 Tryz.f64 (sub [1, 1] code64) z64 (kv64 K) (.tmp 6) (fr64 a i a4 a6) h := fun a4 a6 h hh => DX.of (a := a6) (by kernel_rfl) (cast (by kernel_rfl) hh)
    have Y : New h zY66 Y66 fun a4 h1 => New h1 #[(.int .i64 0)] Y34 fun a6 h2 => DX ord64 Tryz.f64 (sub [1, 1] code64) z64 (kv64 K) (.tmp 6) (fr64 a i a4 a6) h2 := X _ _ _ H
    exact cast (by kernel_rfl) Y
theorem New_mono {h : Hp} {cs : Array Value} {t : TypeId} {K K' : Addr → HP} (H : New h cs t K) (hk : ∀ a h', K a h' → K' a h') : New h cs t K' := hk _ _ H
theorem If_mono {b : Bool} {A B A' B' : Prop} (h : If b A B) (h1 : A → A') (h2 : B → B') : If b A' B' := by
  cases b
  · exact h2 h
  · exact h1 h
def z32 : List Value := [(.bool false), (.int .i64 0)]
def kv32 (K : Bool → Int → HP) : Value → HP := fun v h => rU v fun vs => rB (vs.getD 0 undef) fun r0 => rI (vs.getD 1 undef) fun r1 => K r0 r1 h
def S32c (a : Option Addr) (i : Int) (a5 : Addr) (K : Bool → Int → HP) (h2 : Hp) : Prop :=
  NN a fun p12 =>
  Ld h2 (p12.add 13) mI fun t14 =>
  Wr .i64 (t14 + i) fun t16 =>
  NN a fun p18 =>
  Ld h2 (p18.add 2) mI fun t22 =>
  If (t22 == 20) (
    Fn66 a 1 h2 (fun t25 h3 =>
      Fn67 a t16 h3 (fun t28 h4 =>
        Fn32 t25 t28 h4 (fun t29_0 t29_1 h5 =>
          St h5 a5 (.int .i64 t29_1) fun h6 =>
          Ld h6 a5 mI fun r1 =>
          K t29_0 r1 h6) (fun _ _ => False)) (fun _ _ => False)) (fun _ _ => False)) (
    Fn68 a t16 h2 (fun t34 h3 =>
      St h3 a5 (.int .i64 0) fun h4 =>
      Ld h4 a5 mI fun r1 =>
      K t34 r1 h4) (fun _ _ => False))
def fr32 (a : Option Addr) (i : Int) (a5 : Addr) (t9 : Bool) : Fr := [some (.pointer a), some (.int .i64 i), none, none, some (.bool false), some (.pointer (some a5)), none, some (.pointer a), some (.int .i64 i), some (.bool t9), some (.bool (!t9)), none, none, none, none, none, none, none, none, none, none, none, none, none, none, none, none, none, none, none, none, none, none, none, none]
theorem Fn32.of {a : Option Addr} {i : Int} {h : Hp} {K : Bool → Int → HP} {Kp : PK} (H :
  New h #[(.int .i64 0)] Y34 fun a5 h1 =>
  Fn63 a i h1 (fun t9 h2 =>
    If (!t9) (
      St h2 a5 (.int .i64 2) fun h3 =>
      Ld h3 a5 mI fun r1 =>
      K false r1 h3) (S32c a i a5 K h2)) (fun _ _ => False)) : Fn32 a i h K Kp := by
  have := fn_defer1 (P := Tryz.prog) (ann := []) (D := DrawSem Tryz.prog []) (drawOk _) (f := I32) (g := I65) (fn := Tryz.f32) (pre := [sub [0] code32, sub [1, 0] code32]) (c2 := sub [1, 1, 1] code32) (id := 3) (o := opc (sub [1, 1] code32) 0) (call := callOf (opc (sub [1, 1] code32) 0)) []
    (zs := z32) (args := [(.pointer a), (.int .i64 i)]) (h := h) (Kv := kv32 K) (Kp := Kp) Tryz.func32 (by kernel_rfl) (by kernel_rfl) (by kernel_rfl) (by kernel_rfl) (by kernel_rfl) (by kernel_rfl) (by kernel_rfl) (by kernel_rfl) ?_
  · exact cast (by kernel_rfl) this
  · have X : ∀ a5 t9 h, S32c a i a5 K h → DX [] Tryz.f32 (sub [1, 1, 1] code32) z32 (kv32 K) (.tmp 5) (fr32 a i a5 t9) h := fun a5 t9 h hh => DX.of (a := a5) (by kernel_rfl) (cast (by kernel_rfl) hh)
    have Y : New h #[(.int .i64 0)] Y34 fun a5 h1 =>
      Fn63 a i h1 (fun t9 h2 =>
        If (!t9) (
          St h2 a5 (.int .i64 2) fun h3 =>
          Ld h3 a5 mI fun r1 =>
          K false r1 h3) (DX [] Tryz.f32 (sub [1, 1, 1] code32) z32 (kv32 K) (.tmp 5) (fr32 a i a5 t9) h2)) (fun _ _ => False) := by
      refine New_mono H fun a5 h1 q => ?_
      refine CallH.mono q (fun v h' => ?_) fun _ _ q => q
      rintro ⟨t9, e, q⟩
      exact ⟨t9, e, If_mono q id (X _ _ _)⟩
    exact cast (by kernel_rfl) Y
end Go.Proofs.YtcgdhhchjgbhnaaGreatDoor
set_option maxRecDepth 100000
set_option maxHeartbeats 200000
/- Items: its text. -/
namespace Go.Proofs.YtcgdhhchjgbhnaaGreatDoor
open Go Go.Sh Go.WideShapes
def z69 : List Value := [(.pointer none), (.int .i64 0)]
def kv69 (K : (Option Addr) → Int → HP) : Value → HP := fun v h => rU v fun vs => rP (vs.getD 0 undef) fun r0 => rI (vs.getD 1 undef) fun r1 => K r0 r1 h
def S69c (x0 : Option Addr) (x1 : Int) (x5 : Addr) (K : (Option Addr) → Int → HP) (h : Hp) : Prop :=
  NN x0 fun p32 =>
  Ld h (p32.add 13) mI fun t34 =>
  Wr .i64 (t34 + x1) fun t36 =>
  Fn68 x0 t36 h (fun t39 h1 =>
    If t39 (
      St h1 x5 (.int .i64 7) fun h2 =>
      Ld h2 x5 mI fun r1 =>
      K none r1 h2) (
      Fn116 x0 t36 h1 (fun t43_0 t43_1 h2 =>
        Fn66 x0 0 h2 (fun t47 h3 =>
          Wr .i64 (t43_1 - t43_0) fun t51 =>
          Fn30 t47 t43_0 t51 h3 (fun t52_0 t52_1 h4 =>
            St h4 x5 (.int .i64 t52_1) fun h5 =>
            Ld h5 x5 mI fun r1 =>
            K t52_0 r1 h5) (fun _ _ => False)) (fun _ _ => False)) (fun _ _ => False))) (fun _ _ => False)
def fr69a (a : Option Addr) (i : Int) (a5 p11 p19 : Addr) (t15 t23 : Int) (t29 : Bool) : Fr := [some (.pointer a), some (.int .i64 i), none, none, some (.pointer none), some (.pointer (some a5)), none, none, none, some (.bool (t23 != (16 : Int))), some (.pointer a), some (.pointer (some p11)), some (.pointer (some p11)), some (.pointer (some (p11.add 2))), some (.pointer (some (p11.add 2))), some (.int .i64 t15), some (.bool (t15 != (15 : Int))), some (.bool true), some (.pointer a), some (.pointer (some p19)), some (.pointer (some p19)), some (.pointer (some (p19.add 2))), some (.pointer (some (p19.add 2))), some (.int .i64 t23), some (.bool (t23 != (16 : Int))), some (.bool (t23 != (16 : Int))), some (.bool (!t29)), some (.pointer a), some (.int .i64 i), some (.bool t29), some (.bool (!t29))] ++ nns 24
def fr69b (a : Option Addr) (i : Int) (a5 p11 : Addr) (t15 : Int) (t29 : Bool) : Fr := [some (.pointer a), some (.int .i64 i), none, none, some (.pointer none), some (.pointer (some a5)), none, none, none, some (.bool false), some (.pointer a), some (.pointer (some p11)), some (.pointer (some p11)), some (.pointer (some (p11.add 2))), some (.pointer (some (p11.add 2))), some (.int .i64 t15), some (.bool (t15 != (15 : Int))), some (.bool false), some (.tuple #[]), some (.tuple #[]), some (.tuple #[]), some (.tuple #[]), some (.tuple #[]), some (.tuple #[]), some (.tuple #[]), some (.bool false), some (.bool (!t29)), some (.pointer a), some (.int .i64 i), some (.bool t29), some (.bool (!t29))] ++ nns 24
/-- its text, the rest told by X and Y -/
abbrev T69 (a : Option Addr) (i : Int) (h : Hp) (K : (Option Addr) → Int → HP) (X : Addr → Addr → Addr → Int → Int → Bool → HP) (Y : Addr → Addr → Int → Bool → HP) : Prop :=
  New h #[(.int .i64 0)] Y34 fun a5 h1 =>
  NN a fun p11 =>
  Ld h1 (p11.add 2) mI fun t15 =>
  If (t15 != 15) (
    NN a fun p19 =>
    Ld h1 (p19.add 2) mI fun t23 =>
    If (t23 != 16) (
      St h1 a5 (.int .i64 5) fun h2 =>
      Ld h2 a5 mI fun r1 =>
      K none r1 h2) (
      Fn63 a i h1 (fun t29 h2 =>
        If (!t29) (
          St h2 a5 (.int .i64 2) fun h3 =>
          Ld h3 a5 mI fun r1 =>
          K none r1 h3) (
          X a5 p11 p19 t15 t23 t29 h2)) (fun _ _ => False))) (
    Fn63 a i h1 (fun t29 h2 =>
      If (!t29) (
        St h2 a5 (.int .i64 2) fun h3 =>
        Ld h3 a5 mI fun r1 =>
        K none r1 h3) (
        Y a5 p11 t15 t29 h2)) (fun _ _ => False))
theorem X69a {a : Option Addr} {i : Int} {K : (Option Addr) → Int → HP} : ∀ a5 p11 p19 t15 t23 t29 h, S69c a i a5 K h → DX [] Tryz.f69 (sub [1, 1, 1] code69) z69 (kv69 K) (.tmp 5) (fr69a a i a5 p11 p19 t15 t23 t29) h := fun a5 p11 p19 t15 t23 t29 h hh => DX.of (a := a5) (by kernel_rfl) (cast (by kernel_rfl) hh)
theorem X69b {a : Option Addr} {i : Int} {K : (Option Addr) → Int → HP} : ∀ a5 p11 t15 t29 h, S69c a i a5 K h → DX [] Tryz.f69 (sub [1, 1, 1] code69) z69 (kv69 K) (.tmp 5) (fr69b a i a5 p11 t15 t29) h := fun a5 p11 t15 t29 h hh => DX.of (a := a5) (by kernel_rfl) (cast (by kernel_rfl) hh)
theorem pre69 (a : Option Addr) (i : Int) (h : Hp) (K : (Option Addr) → Int → HP) (Q : Fr → HP) : T69 a i h K (fun a5 p11 p19 t15 t23 t29 h2 => Q (fr69a a i a5 p11 p19 t15 t23 t29) h2) (fun a5 p11 t15 t29 h2 => Q (fr69b a i a5 p11 t15 t29) h2) =
  semPre Tryz.prog [] (DrawSem Tryz.prog []) [sub [0] code69, sub [1, 0] code69] (fun e fr h1 => match e with | .normal => Q fr h1 | .ret => retV Tryz.prog Tryz.f69.results.toList fr h1 fun vs => resUn z69 (oneOr vs) fun v => kv69 K v h1 | _ => False) ([(.pointer a), (.int .i64 i)].map some ++ List.replicate (Tryz.f69.ntmps - [(Value.pointer a), (Value.int .i64 i)].length) none) h := by kernel_rfl
theorem Fn69.of {a : Option Addr} {i : Int} {h : Hp} {K : (Option Addr) → Int → HP} {Kp : PK} (H : T69 a i h K (fun a5 _ _ _ _ _ h2 => S69c a i a5 K h2) (fun a5 _ _ _ h2 => S69c a i a5 K h2)) : Fn69 a i h K Kp := by
  have := fn_defer1 (P := Tryz.prog) (ann := []) (D := DrawSem Tryz.prog []) (drawOk _) (f := I69) (g := I65) (fn := Tryz.f69) (pre := [sub [0] code69, sub [1, 0] code69]) (c2 := sub [1, 1, 1] code69) (id := 5) (o := opc (sub [1, 1] code69) 0) (call := callOf (opc (sub [1, 1] code69) 0)) []
    (zs := z69) (args := [(.pointer a), (.int .i64 i)]) (h := h) (Kv := kv69 K) (Kp := Kp) Tryz.func69 (by kernel_rfl) (by kernel_rfl) (by kernel_rfl) (by kernel_rfl) (by kernel_rfl) (by kernel_rfl) (by kernel_rfl) (by kernel_rfl) ?_
  · exact cast (by kernel_rfl) this
  · have Z : T69 a i h K (fun a5 p11 p19 t15 t23 t29 h2 => DX [] Tryz.f69 (sub [1, 1, 1] code69) z69 (kv69 K) (.tmp 5) (fr69a a i a5 p11 p19 t15 t23 t29) h2) (fun a5 p11 t15 t29 h2 => DX [] Tryz.f69 (sub [1, 1, 1] code69) z69 (kv69 K) (.tmp 5) (fr69b a i a5 p11 t15 t29) h2) := by
      refine New_mono H fun a5 h1 q => ?_
      cases a with
      | none => exact q.elim
      | some p11 =>
        obtain ⟨t15, c15, q⟩ := q
        refine ⟨t15, c15, If_mono q (fun q => ?_) fun q => ?_⟩
        · obtain ⟨t23, c23, q⟩ := q
          refine ⟨t23, c23, If_mono q id fun q => ?_⟩
          refine CallH.mono q (fun v h' => ?_) fun _ _ q => q
          rintro ⟨t29, e, q⟩
          exact ⟨t29, e, If_mono q id (X69a _ _ _ _ _ _ _)⟩
        · refine CallH.mono q (fun v h' => ?_) fun _ _ q => q
          rintro ⟨t29, e, q⟩
          exact ⟨t29, e, If_mono q id (X69b _ _ _ _ _)⟩
    have hQ := Eq.mp (pre69 a i h K fun fr h => DX [] Tryz.f69 (sub [1, 1, 1] code69) z69 (kv69 K) (.tmp 5) fr h) Z
    refine Eq.mp ?_ hQ
    refine congrArg (fun Q => semPre Tryz.prog [] (DrawSem Tryz.prog []) [sub [0] code69, sub [1, 0] code69] Q _ h) ?_
    funext e fr h1
    cases e <;> rfl
end Go.Proofs.YtcgdhhchjgbhnaaGreatDoor
set_option maxRecDepth 100000
set_option maxHeartbeats 1000000
/- Arrays asked: rows, cuts, nulls, items, parts, data. -/
namespace Go.Proofs.YtcgdhhchjgbhnaaGreatDoor
open Go Go.Sh Go.WideShapes
/-- an array of n rows from o on -/
structure Av (D : Nat → Prop) (h : Hp) (b : Nat) (f : Fld) (d : Dat) (o n : Nat) (s : Sl) (q : Sl × Sl × Sl) : Prop where
  A : ArA D h b f d o n s q
  ar : f.arr d
  lo : d.off.toNat ≤ o
  hi : o + n ≤ d.off.toNat + d.len.toNat
/-- its values -/
def avs (f : Fld) (d : Dat) (o n : Nat) : List Val := (List.range n).map fun i => f.val d (o + i)
theorem avs_len (f : Fld) (d : Dat) (o n : Nat) : (avs f d o n).length = n := by simp [avs]
theorem avs_get {f : Fld} {d : Dat} {o n i : Nat} (h : i < n) : (avs f d o n)[i]? = some (f.val d (o + i)) := by simp [avs, h]
theorem avs_cut {f : Fld} {d : Dat} {o n a m : Nat} (h : a + m ≤ n) : ((avs f d o n).drop a).take m = avs f d (o + a) m := by
  apply List.ext_getElem?
  intro i
  rw [List.getElem?_take]
  split
  · rename_i hi
    rw [List.getElem?_drop, avs_get (by omega), avs_get hi, Nat.add_assoc]
  · rename_i hi
    rw [List.getElem?_eq_none (by rw [avs_len]; omega)]
theorem arr_wt {f : Fld} {d : Dat} (ar : f.arr d) {o n : Nat} (lo : d.off.toNat ≤ o) (hi : o + n ≤ d.off.toNat + d.len.toNat) : wsum (avs f d o n) ≤ 4194304 := by
  have w := (Fld.arr_eq.1 ar).wt
  rw [← Fld.val_eq] at w
  have e : wsum (avs f d o n) = (((wts f.val d).drop (o - d.off.toNat)).take n).sum := by
    rw [wts_cut (by omega), wsum_eq, avs, List.map_map]
    congr 1
    refine List.map_congr_left fun i _ => ?_
    simp only [Function.comp, at0]
    rw [show d.off.toNat + (o - d.off.toNat + i) = o + i by omega]
  rw [e]
  exact Nat.le_trans (sum_cut _ _) w
section
variable {D : Nat → Prop} {h : Hp} {b : Nat} {f : Fld} {d : Dat} {o n : Nat} {s : Sl} {q : Sl × Sl × Sl} {Kp : PK}
theorem Av.gr {h' : Hp} (V : Av D h b f d o n s q) (g : Grw h h') : Av D h' b f d o n s q := ⟨V.A.gr g, V.ar, V.lo, V.hi⟩
theorem Av.bd (V : Av D h b f d o n s q) : o + n ≤ 4096 := by
  have so := V.ar.siz
  have h1 := so.l0
  have h2 := so.o0
  have h3 := so.e1
  have h4 := V.hi
  omega
theorem Av.wt (V : Av D h b f d o n s q) {i : Nat} (hi : i < n) : (f.val d (o + i)).wgt ≤ 4194304 := by
  have := arr_wt V.ar (o := o + i) (n := 1) (by have := V.lo; omega) (by have := V.hi; omega)
  simpa [avs, wsum] using this
theorem UTab.b2 (t : UTab h) : 2 < h.size := cell_lt (t.a 0 (by omega)).1
theorem there_v {x : Int} {K : Bool → HP} (V : Av D h b f d o n s q) (hk : ∀ bb : Bool, (bb = true ↔ 0 ≤ x ∧ x < n) → K bb h) : Fn63 (some ⟨b, 0, none⟩) x h K Kp := by
  refine Fn63.of (If_i (fun c => ?_) fun c => ?_)
  · simp only [NN_some, add_blk]
    simp only [decide_eq_true_eq, decide_eq_false_iff_not, beq_iff_eq, beq_eq_false_iff_ne, ne_eq, reduceCtorEq, true_iff, false_iff, Bool.not_eq_true', Bool.not_eq_false', bne_iff_ne, bne_eq_false_iff_eq, Bool.not_true, Bool.not_false, Decidable.not_not] at c
    refine Ld_blk V.A.k rfl (hk _ ?_)
    rw [decide_eq_true_eq]; omega
  · simp only [decide_eq_true_eq, decide_eq_false_iff_not, beq_iff_eq, beq_eq_false_iff_ne, ne_eq, reduceCtorEq, true_iff, false_iff, Bool.not_eq_true', Bool.not_eq_false', bne_iff_ne, bne_eq_false_iff_eq, Bool.not_true, Bool.not_false, Decidable.not_not] at c
    refine hk _ ?_
    constructor
    · intro q; cases q
    · intro q; omega
theorem get_v {x : Int} {i : Nat} {K : Bool → Int → ByteArray → Sl → Int → Int → HP} (V : Av D h b f d o n s q) (tb : UTab h) (hx : x = i) (hi : i < n) (hk : ∀ t h', Grw h h' → VsA (Nw h) h' t (f.val d (o + i)).items → K (f.val d (o + i)).nul (f.val d (o + i)).num (bs (f.val d (o + i)).text) t (f.val d (o + i)).wgt 0 h') :
    Fn64 (some ⟨b, 0, none⟩) x h K Kp := by
  have bd := V.bd
  have wt := V.wt hi
  have ab := V.A.k.lt
  have t2 := tb.b2
  refine Fn64.of (New_i fun b4 h1 e1 g1 k4 _ => New_i fun b6 h2 e2 g2 k6 _ => New_i fun b7 h3 e3 g3 k7 _ => St_i k7 (by simp) rfl fun h4 o4 k7 => ?_)
  have g1s := g1.1
  have g2s := g2.1
  have k4l := k4.lt
  have k6l := k6.lt
  have g4 : Grw h2 h4 := Only.grw g3 o4 (by omega)
  have G4 := Grw.trans (Grw.trans g1 g2) g4
  have k4 : Blk h4 b4 zY66 Y66 := (k4.grw g2).grw g4
  have k6 := k6.grw g4
  have k7 : Lc h4 b7 4194304 := k7
  refine own_c f.dep f (Nat.le_refl _) (i := o + i) ⟨V.A.lt.gr G4, by omega, fun e => by have := e.2; omega, V.ar, by have := V.lo; omega, by have := V.hi; omega, k7, by omega, by omega, tb.grw G4, by omega⟩ (by omega) fun t h5 t5 kl5 w5 => ?_
  have k4' := t5.blk k4 (by omega : b4 ≠ b7)
  have k6' := t5.blk k6 (by omega : b6 ≠ b7)
  have G5 : Grw h h5 := ((Tn.of_grw G4 : Tn No h h4).trans' t5 fun z hz hlt => by omega).grw
  have k7l := k7.lt
  refine SY66.b k4' rfl fun h6 o6 k4 => LY66.b k4 (Ld_blk (o6.blk kl5 (by omega)) rfl (Wr_i64 (by omega) (by omega) (SY66.b k4 rfl fun h7 o7 k4 => Keep_b2 (o6.blk kl5 (by omega)) (o7.blk (o6.blk kl5 (by omega)) (by omega)) ?_)))
  have k6 := o7.blk (o6.blk k6' (by omega)) (by omega)
  refine St_i k6 (by simp) rfl fun h8 o8 k6 => LY66.b (o8.blk k4 (by omega)) (Ld_blk k6 rfl ?_)
  have e : (4194304 : Int) - (4194304 - ((f.val d (o + i)).wgt : Int)) = ((f.val d (o + i)).wgt : Int) := by omega
  rw [e]
  refine hk t h8 (Only.grw (Only.grw (Only.grw G5 o6 (by omega)) o7 (by omega)) o8 (by omega)) ?_
  have w6 := VsA.fr (D' := Nw h4) o6.fr (fun z (hz : h4.size ≤ z) _ e => by omega) (fun _ z => z) _ w5
  have w7 := VsA.fr (D' := Nw h4) o7.fr (fun z (hz : h4.size ≤ z) _ e => by omega) (fun _ z => z) _ w6
  exact VsA.fr o8.fr (fun z (hz : h4.size ≤ z) _ e => by omega) (fun z (hz : h4.size ≤ z) => by have := G4.1; show h.size ≤ z; omega) _ w7
theorem Get_v {x : Int} {i : Nat} {K : Bool → Int → ByteArray → Sl → Int → HP} (V : Av D h b f d o n s q) (tb : UTab h) (hx : x = i) (hi : i < n) (hk : ∀ t h', Grw h h' → VsA (Nw h) h' t (f.val d (o + i)).items → K (f.val d (o + i)).nul (f.val d (o + i)).num (bs (f.val d (o + i)).text) t 0 h') :
    Fn31 (some ⟨b, 0, none⟩) x h K Kp := by
  refine Fn31.of (New_i fun b4 h1 e1 g1 k4 _ => there_v (V.gr g1) fun bb hb => ?_)
  obtain rfl : bb = true := hb.2 (by omega)
  refine If_f rfl (get_v (V.gr g1) (tb.grw g1) hx hi fun t h2 g2 w2 => New_i fun b6 h3 e3 g3 k6 _ => SY66.b k6 rfl fun h4 o4 k6 => If_f rfl (LY66.b k6 ?_))
  have g1s := g1.1
  have g2s := g2.1
  have k4l := k4.lt
  refine SY66.b (o4.blk ((k4.grw g2).grw g3) (by omega)) rfl fun h5 o5 k4 => LY66.b k4 (hk t h5 (Only.grw (Only.grw (Grw.trans (Grw.trans g1 g2) g3) o4 (by omega)) o5 (by omega)) ?_)
  have w4 := VsA.fr (D' := fun z => h1.size ≤ z ∧ z < h2.size) (S := No) (Tn.of_grw (Only.grw g3 o4 (by omega))) (fun _ _ _ => id) (fun _ z => z) _ w2.lt
  exact VsA.fr o5.fr (fun z hz _ e => by have := hz.1; omega) (fun z hz => by have := hz.1; show h.size ≤ z; omega) _ w4
theorem Len_v {K : Int → HP} (V : Av D h b f d o n s q) (hk : K (n : Int) h) : Fn29 (some ⟨b, 0, none⟩) h K Kp := by
  refine Fn29.of ?_
  simp only [NN_some, add_blk]
  exact Ld_blk V.A.k rfl hk
theorem Cut_v {x y : Int} {K : Option Addr → Int → HP} (V : Av D h b f d o n s q) (hbad : ¬ (0 ≤ x ∧ 0 ≤ y ∧ x + y ≤ n) → K none 2 h)
    (hk : ∀ (a m : Nat), x = a → y = m → a + m ≤ n → ∀ b' h', Grw h h' → h.size ≤ b' → Av D h' b' f d (o + a) m s q → K (some ⟨b', 0, none⟩) 0 h') : Fn30 (some ⟨b, 0, none⟩) x y h K Kp := by
  have bd := V.bd
  have j3 : ∀ bb : Bool, 0 ≤ x → 0 ≤ y → (bb = true ↔ ¬ y ≤ n) → J30_3 K Kp (some ⟨b, 0, none⟩) x y bb h := by
    intro bb h1 h2 h3
    refine J30_3.of (If_i (fun c => hbad fun z => h3.1 c (by omega)) fun c => ?_)
    have hyn : y ≤ n := Decidable.byContradiction fun z => by rw [h3.2 z] at c; cases c
    simp only [NN_some, add_blk]
    refine Ld_blk V.A.k rfl (Wr_i64 (by omega) (by omega) (If_i (fun c2 => hbad ?_) fun c2 => J30_1.of ?_))
    · simp only [decide_eq_true_eq, decide_eq_false_iff_not, beq_iff_eq, beq_eq_false_iff_ne, ne_eq, reduceCtorEq, true_iff, false_iff, Bool.not_eq_true', Bool.not_eq_false', bne_iff_ne, bne_eq_false_iff_eq, Bool.not_true, Bool.not_false, Decidable.not_not] at c2; omega
    · simp only [decide_eq_true_eq, decide_eq_false_iff_not, beq_iff_eq, beq_eq_false_iff_ne, ne_eq, reduceCtorEq, true_iff, false_iff, Bool.not_eq_true', Bool.not_eq_false', bne_iff_ne, bne_eq_false_iff_eq, Bool.not_true, Bool.not_false, Decidable.not_not] at c2
      simp only [NN_some, add_blk]
      have A := V.A
      have al := A.lt
      have of : one (famV f.k) = true := by unfold famV; (repeat' split) <;> rfl
      obtain ⟨a, rfl⟩ : ∃ a : Nat, x = a := ⟨x.toNat, by omega⟩
      obtain ⟨m, rfl⟩ : ∃ m : Nat, y = m := ⟨y.toNat, by omega⟩
      refine LY109.b A.k (New_i fun b8 h1 e1 g1 k8 _ => SY109.l (StL_all k8 rfl (by simp [one, Sl.v]; exact of) fun h2 o2 k8 => ?_))
      have G2 : Grw h h2 := Only.grw g1 o2 (by omega)
      simp only [add_blk]
      refine Ld_blk (A.k.grw G2) rfl (Wr_i64 (by omega) (by omega) (St_i k8 (by simp) rfl fun h3 o3 k8 => St_i k8 (by simp) rfl fun h4 o4 k8 => ?_))
      have G4 := Only.grw (Only.grw G2 o3 (by omega)) o4 (by omega)
      exact hk a m rfl rfl (by omega) b8 h4 G4 (by omega) ⟨⟨by simpa using k8, A.fs.gr G4, A.dv.gr G4⟩, V.ar, by have := V.lo; omega, by have := V.hi; omega⟩
  have j3t : ∀ bb : Bool, bb = true → ¬ (0 ≤ x ∧ 0 ≤ y ∧ x + y ≤ n) → J30_3 K Kp (some ⟨b, 0, none⟩) x y bb h := fun bb h1 h2 => J30_3.of (If_t h1 (hbad h2))
  have j2 : ∀ bb : Bool, 0 ≤ x → (bb = true ↔ ¬ 0 ≤ y) → J30_2 K Kp (some ⟨b, 0, none⟩) x y bb h := by
    intro bb h1 h2
    refine J30_2.of (If_i (fun c => j3t _ rfl fun z => h2.1 c z.2.1) fun c => ?_)
    have hy0 : 0 ≤ y := Decidable.byContradiction fun z => by rw [h2.2 z] at c; cases c
    simp only [NN_some, add_blk]
    refine Ld_blk V.A.k rfl (j3 _ h1 hy0 ?_)
    rw [decide_eq_true_eq]; omega
  refine Fn30.of (If_i (fun c => J30_2.of (If_t rfl (j3t _ rfl ?_))) fun c => j2 _ ?_ ?_)
  · simp only [decide_eq_true_eq, decide_eq_false_iff_not, beq_iff_eq, beq_eq_false_iff_ne, ne_eq, reduceCtorEq, true_iff, false_iff, Bool.not_eq_true', Bool.not_eq_false', bne_iff_ne, bne_eq_false_iff_eq, Bool.not_true, Bool.not_false, Decidable.not_not] at c; omega
  · simp only [decide_eq_true_eq, decide_eq_false_iff_not, beq_iff_eq, beq_eq_false_iff_ne, ne_eq, reduceCtorEq, true_iff, false_iff, Bool.not_eq_true', Bool.not_eq_false', bne_iff_ne, bne_eq_false_iff_eq, Bool.not_true, Bool.not_false, Decidable.not_not] at c; omega
  · rw [decide_eq_true_eq]; omega
end
end Go.Proofs.YtcgdhhchjgbhnaaGreatDoor
set_option maxRecDepth 100000
set_option maxHeartbeats 1000000
/- Arrays asked: nulls, items, parts, data. -/
namespace Go.Proofs.YtcgdhhchjgbhnaaGreatDoor
open Go Go.Sh Go.WideShapes
theorem dict_val {f : Fld} {d : Dat} {i : Nat} (ar : f.arr d) (kk : f.k = 19) (lo : d.off.toNat ≤ i) (hi : i < d.off.toNat + d.len.toNat) (hnb : nullB f.k d.bufs i = false) :
    ∃ g M, f.cs[0]? = some g ∧ g.arr (part d 0) ∧ f.val d i = g.val (part d 0) ((part d 0).off.toNat + M) ∧ M < (part d 0).len.toNat := by
  have so := ar.siz
  have o0 := so.o0
  have l0 := so.l0
  have nd := so.nd
  rw [diK, if_pos kk] at nd
  have hds : partsD d = d.ds := by unfold partsD; rw [if_pos (by omega)]
  obtain ⟨g, hg, hc, ga, gd⟩ := part_ex ar (j := 0) (by rw [hds]; omega)
  have ei : d.off.toNat + (i - d.off.toNat) = i := by omega
  obtain ⟨mm, hm⟩ := (Fld.arr_eq.1 ar).ro.dict kk (i - d.off.toNat) (by omega) (by rw [ei]; exact hnb)
  rw [ei] at hm
  have hd0 : d.ds[0]? = some (part d 0) := by rw [← hds]; exact hc
  have hv : f.val d i = g.val (part d 0) ((part d 0).off.toNat + nAt (bufD d.bufs 1) (i * (widK f.ix).toNat) (widK f.ix).toNat) := by
    rw [val_eq', valK, if_neg (by rw [hnb]; simp), if_neg (by omega), if_neg (by omega), if_neg (by omega), if_neg (by omega), if_neg (by omega), if_pos kk, getD_map hg]; rfl
  refine ⟨g, _, by unfold pfs at hg; rw [if_neg (by omega)] at hg; exact hg, ga, hv, ?_⟩
  unfold idxD at hm
  split at hm
  · cases hm
  · rename_i hno
    rcases Nat.lt_or_ge (nAt (bufD d.bufs 1) (i * (widK f.ix).toNat) (widK f.ix).toNat) (part d 0).len.toNat with z | z
    · exact z
    · exact absurd (.inr fun c' hc' => by rw [hd0] at hc'; cases hc'; omega) hno
theorem nul_eq {f : Fld} {d : Dat} {i : Nat} (hn : f.nls) (ar : f.arr d) (h20 : f.k ≠ 20) (lo : d.off.toNat ≤ i) (hi : i < d.off.toNat + d.len.toNat) : (f.val d i).nul = nullB f.k d.bufs i := by
  cases hnb : nullB f.k d.bufs i with
  | true => rw [val_eq', valK, if_pos hnb]; rfl
  | false =>
    by_cases k19 : f.k = 19
    · obtain ⟨g, M, hg, ga, hv, hM⟩ := dict_val ar k19 lo hi hnb
      obtain ⟨c, hc, hcn⟩ := hn.un.2.1 k19
      rw [hg] at hc; cases hc
      rw [hv]
      have := ga.siz.o0
      exact val_nn g.dep g _ _ (Nat.le_refl _) (hn.un.2.2.get g (List.mem_of_getElem? hg)) ga (by omega) (by omega) hcn
    · rw [val_eq', valK, if_neg (by rw [hnb]; simp)]
      repeat' split
      all_goals first | rfl | omega
section
variable {D : Nat → Prop} {h : Hp} {b : Nat} {f : Fld} {d : Dat} {o n : Nat} {s : Sl} {q : Sl × Sl × Sl} {Kp : PK}
theorem Av.whole (A : ArA D h b f d d.off d.len s q) (ar : f.arr d) : Av D h b f d d.off.toNat d.len.toNat s q := by
  have so := ar.siz
  have h1 := so.l0
  have h2 := so.o0
  refine ⟨?_, ar, Nat.le_refl _, Nat.le_refl _⟩
  rw [Int.toNat_of_nonneg h1, Int.toNat_of_nonneg h2]; exact A
theorem runs_val {i : Nat} (ar : f.arr d) (kk : f.k = 20) (lo : d.off.toNat ≤ i) (hi : i < d.off.toNat + d.len.toNat) :
    ∃ g, f.cs[0]? = some g ∧ (pfs f.k f.cs)[1]? = some g ∧ (partsD d)[1]? = some (part d 1) ∧ g.arr (part d 1) ∧ g.dep < f.dep ∧ f.val d i = g.val (part d 1) ((part d 1).off.toNat + runN (part d 0) i) ∧ runN (part d 0) i < (part d 1).len.toNat := by
  have so := ar.siz
  have o0 := so.o0
  have l0 := so.l0
  have hcs := parts_cs ar (by omega)
  obtain ⟨e, v', z0, z1, z2, z3, z4⟩ := (Fld.arr_eq.1 ar).eo kk
  have p1 : 1 < (partsD d).length := by rw [hcs]; exact (List.getElem?_eq_some_iff.1 z1).1
  obtain ⟨g, hg, hc, ga, gd⟩ := part_ex ar p1
  have hp0 : part d 0 = e := part_of (by rw [hcs]; exact z0)
  have hp1 : part d 1 = v' := part_of (by rw [hcs]; exact z1)
  obtain ⟨j, hj, hj1, hj2, hj3, hj4⟩ := run_lt z0 z1 ((Fld.arr_eq.1 ar).eo kk) (r := i) (by omega)
  have hnb : nullB f.k d.bufs i = false := by unfold nullB hasV; rw [kk]; simp
  refine ⟨g, by unfold pfs at hg; rw [if_pos kk] at hg; simpa using hg, hg, hc, ga, gd, ?_, by rw [hp0, hp1, hj3]; exact hj4⟩
  rw [val_eq', valK, if_neg (by rw [hnb]; simp), if_neg (by omega), if_neg (by omega), if_neg (by omega), if_neg (by omega), if_neg (by omega), if_neg (by omega), if_pos kk, getD_map hg]; rfl
end
theorem Null_v : ∀ (m : Nat) (f : Fld), f.dep ≤ m → f.nls → ∀ {D : Nat → Prop} {h : Hp} {b i : Nat} {d : Dat} {o n : Nat} {s : Sl} {q : Sl × Sl × Sl} {x : Int} {K : Bool → Int → HP} {Kp : PK}, Av D h b f d o n s q → x = i → i < n → (∀ h', Grw h h' → K (f.val d (o + i)).nul 0 h') → Fn32 (some ⟨b, 0, none⟩) x h K Kp := by
  intro m
  induction m with
  | zero => intro f hd; have := dep_pos f; omega
  | succ m ih =>
    intro f hd hn D h b i d o n s q x K Kp V hx hi hk
    subst hx
    have bd := V.bd
    have lo := V.lo
    have hh := V.hi
    refine Fn32.of (New_i fun b5 h1 e1 g1 k5 _ => there_v (V.gr g1) fun bb hb => ?_)
    obtain rfl : bb = true := hb.2 (by omega)
    refine If_f rfl ?_
    unfold S32c
    have A := (V.gr g1).A
    simp only [NN_some, add_blk]
    refine Ld_blk A.k rfl (Wr_i64 (by omega) (by omega) (Ld_blk A.k rfl (If_i (fun c => ?_) fun c => ?_)))
    · simp only [decide_eq_true_eq, decide_eq_false_iff_not, beq_iff_eq, beq_eq_false_iff_ne, ne_eq, reduceCtorEq, true_iff, false_iff, Bool.not_eq_true', Bool.not_eq_false', bne_iff_ne, bne_eq_false_iff_eq, Bool.not_true, Bool.not_false, Decidable.not_not] at c
      obtain ⟨g, hg0, hg, hc, ga, gd, hv, hr⟩ := runs_val V.ar c (i := o + i) (by omega) (by omega)
      refine part_c A V.ar.h20 (j := 1) rfl hg hc fun b' s' q' h2 g2 hb' A2 => run_c (A.gr g2) V.ar c (i := o + i) (by omega) (by omega) (by omega) fun h3 g3 => ?_
      refine ih g (by omega) (hn.un.2.2.get g (List.mem_of_getElem? hg0)) ((Av.whole A2 ga).gr g3) rfl hr fun h4 g4 => ?_
      rw [hv] at hk
      have G4 := Grw.trans g1 (Grw.trans g2 (Grw.trans g3 g4))
      refine St_i (((k5.grw g2).grw g3).grw g4) (by simp) rfl fun h5 o5 k5 => Ld_blk k5 rfl (hk _ (Only.grw G4 o5 (by omega)))
    · simp only [decide_eq_true_eq, decide_eq_false_iff_not, beq_iff_eq, beq_eq_false_iff_ne, ne_eq, reduceCtorEq, true_iff, false_iff, Bool.not_eq_true', Bool.not_eq_false', bne_iff_ne, bne_eq_false_iff_eq, Bool.not_true, Bool.not_false, Decidable.not_not] at c
      rw [nul_eq hn V.ar c (by omega) (by omega)] at hk
      refine nullAt_v A V.ar (i := o + i) (by omega) (by omega) (by omega) fun h2 g2 => ?_
      refine St_i (k5.grw g2) (by simp) rfl fun h5 o5 k5 => Ld_blk k5 rfl (hk _ (Only.grw (Grw.trans g1 g2) o5 (by omega)))
section
variable {D : Nat → Prop} {h : Hp} {b : Nat} {f : Fld} {d : Dat} {o n : Nat} {s : Sl} {q : Sl × Sl × Sl} {Kp : PK}
theorem Av.fr {D' S : Nat → Prop} {h' : Hp} (V : Av D h b f d o n s q) (t : Tn S h h') (hb : ¬ S b) (hn : ∀ x, D x → ¬ S x) (hD : ∀ x, D x → D' x) : Av D' h' b f d o n s q := ⟨V.A.fr t hb hn hD, V.ar, V.lo, V.hi⟩
theorem Av.lt (V : Av D h b f d o n s q) : Av (fun x => D x ∧ x < h.size) h b f d o n s q := ⟨V.A.lt, V.ar, V.lo, V.hi⟩
theorem Items_v {x : Int} {i : Nat} {K : Option Addr → Int → HP} (V : Av D h b f d o n s q) (kk : f.k = 15 ∨ f.k = 16) (hx : x = i) (hi : i < n) (hk1 : nullB f.k d.bufs (o + i) = true → ∀ h', Grw h h' → K none 7 h')
    (hk2 : nullB f.k d.bufs (o + i) = false → ∀ b' g s' q' h', Grw h h' → h.size ≤ b' → (pfs f.k f.cs)[0]? = some g → g.arr (part d 0) → Av D h' b' g (part d 0) ((part d 0).off.toNat + itA f d (o + i)) (itN f d (o + i)) s' q' → K (some ⟨b', 0, none⟩) 0 h') :
    Fn69 (some ⟨b, 0, none⟩) x h K Kp := by
  subst hx
  have bd := V.bd
  have lo := V.lo
  have hh := V.hi
  have so := V.ar.siz
  have hcs := parts_cs V.ar (by omega)
  have p0 : 0 < (partsD d).length := by
    have nc := so.nc
    have := so.ty.kinds.1
    unfold Shaped at this
    rw [chK, if_neg (by omega), if_neg (by omega)] at nc
    rw [hcs]; omega
  obtain ⟨g, hg, hc, ga, gd⟩ := part_ex V.ar p0
  have gso := ga.siz
  have gl0 := gso.l0
  have gl1 := gso.l1
  have go0 := gso.o0
  have rest : ∀ {b5 : Nat} {h2 : Hp} {cs : Array Value}, Grw h h2 → Blk h2 b5 cs Y34 → cs.size = 1 → h.size ≤ b5 → S69c (some ⟨b, 0, none⟩) (i : Int) ⟨b5, 0, none⟩ K h2 := by
    intro b5 h2 cs g2 k5 hcs1 hb5
    obtain ⟨v0, rfl⟩ : ∃ v0, cs = #[v0] := by
      obtain ⟨l⟩ := cs
      rcases l with _ | ⟨v0, _ | ⟨_, _⟩⟩ <;> simp at hcs1
      exact ⟨v0, rfl⟩
    unfold S69c
    have A := (V.lt.gr g2).A
    simp only [NN_some, add_blk]
    refine Ld_blk A.k rfl (Wr_i64 (by omega) (by omega) (nullAt_v A V.ar (i := o + i) (by omega) (by omega) (by omega) fun h3 g3 => If_i (fun c => ?_) fun c => ?_))
    · exact St_i (k5.grw g3) (by simp) rfl fun h5 o5 k5 => Ld_blk k5 rfl (hk1 c _ (Only.grw (Grw.trans g2 g3) o5 hb5))
    · refine items_c (A.gr g3) V.ar kk (i := o + i) (by omega) (by omega) (by omega) hc fun x y h4 g4 hx hy hle => ?_
      refine part_c (A.gr (Grw.trans g3 g4)) V.ar.h20 (j := 0) rfl hg hc fun b' s' q' h5 g5 hb' A5 => ?_
      subst hx hy
      have G5 := Grw.trans g2 (Grw.trans g3 (Grw.trans g4 g5))
      refine Wr_i64 (by omega) (by omega) (Cut_v (Av.whole A5 ga) (fun z => absurd ⟨by omega, by omega, by omega⟩ z) (fun a m ha hm hle' b'' h6 g6 hb'' V6 => ?_))
      have ea : a = itA f d (o + i) := by omega
      have em : m = itN f d (o + i) := by omega
      subst ea em
      have g2s := G5.1
      have k5l := k5.lt
      have g25s := (Grw.trans g3 (Grw.trans g4 g5)).1
      exact St_i ((k5.grw (Grw.trans g3 (Grw.trans g4 g5))).grw g6) (by simp) rfl fun h7 o7 k5' => Ld_blk k5' rfl (hk2 c b'' g s' q' _ (Only.grw (Grw.trans G5 g6) o7 hb5) (by omega) hg ga (V6.fr o7.fr (by omega) (fun z hz e => by have := hz.2; omega) fun z hz => hz.1))
  refine Fn69.of (New_i fun b5 h1 e1 g1 k5 _ => ?_)
  have A := (V.gr g1).A
  have g1s := g1.1
  simp only [NN_some, add_blk]
  refine Ld_blk A.k rfl (If_i (fun c => Ld_blk A.k rfl (If_i (fun c2 => ?_) fun c2 => there_v (V.gr g1) fun bb hb => ?_)) fun c => there_v (V.gr g1) fun bb hb => ?_)
  · simp only [decide_eq_true_eq, decide_eq_false_iff_not, beq_iff_eq, beq_eq_false_iff_ne, ne_eq, reduceCtorEq, true_iff, false_iff, Bool.not_eq_true', Bool.not_eq_false', bne_iff_ne, bne_eq_false_iff_eq, Bool.not_true, Bool.not_false, Decidable.not_not] at c c2; omega
  · obtain rfl : bb = true := hb.2 (by omega)
    exact If_f rfl (rest g1 k5 rfl (by omega))
  · obtain rfl : bb = true := hb.2 (by omega)
    exact If_f rfl (rest g1 k5 rfl (by omega))
theorem Child_v {x : Int} {j : Nat} {K : Option Addr → Int → HP} (V : Av D h b f d o n s q) (kk : f.k = 17) (hx : x = j) (hj : j < (partsD d).length)
    (hk : ∀ b' g s' q' h', Grw h h' → h.size ≤ b' → (pfs f.k f.cs)[j]? = some g → g.arr (part d j) → Av D h' b' g (part d j) ((part d j).off.toNat + o) n s' q' → K (some ⟨b', 0, none⟩) 0 h') : Fn70 (some ⟨b, 0, none⟩) x h K Kp := by
  subst hx
  have bd := V.bd
  have so := V.ar.siz
  have l0 := so.l0
  have o0 := so.o0
  have hcs := parts_cs V.ar (by omega)
  obtain ⟨g, hg, hc, ga, gd⟩ := part_ex V.ar hj
  have gso := ga.siz
  have gl0 := gso.l0
  have go0 := gso.o0
  have hch := (so.ch j (part d j) (by rw [← hcs]; exact hc)).2 kk
  have hi := V.hi
  refine Fn70.of (If_f (by rw [decide_eq_false_iff_not]; omega) ?_)
  simp only [NN_some, add_blk]
  refine LY33.c V.A.cd (parts_k V.A.dv fun u h1 g1 ds => ?_)
  have un := ds.n
  have A1 := V.A.gr g1
  refine If_f (by rw [decide_eq_false_iff_not]; omega) (J70_1.of (part_c A1 V.ar.h20 rfl hg hc fun b' s' q' h2 g2 hb' A2 => ?_))
  simp only [NN_some, add_blk]
  have A1' := A1.gr g2
  refine Ld_blk A1'.k rfl (If_t (by simpa using kk) (Ld_blk A1'.k rfl (Ld_blk A1'.k rfl (Cut_v (Av.whole A2 ga) (fun z => absurd ⟨by omega, by omega, by omega⟩ z) (fun a m ha hm hle b'' h3 g3 hb'' V3 => ?_)))))
  obtain rfl : a = o := by omega
  obtain rfl : m = n := by omega
  have g1s := g1.1
  have g2s := g2.1
  exact hk b'' g s' q' h3 (Grw.trans g1 (Grw.trans g2 g3)) (by omega) hg ga V3
theorem Data_v {K : K6} (V : Av D h b f d o n s q) (hk : ∀ p' h', Grw h h' → DvA (Nw h) (Nw h) h' p' (cutD d f.k o n) → K n o (cntN f.k d.bufs o n) p'.1 p'.2.1 p'.2.2 h') : Fn19 (some ⟨b, 0, none⟩) h K Kp := by
  have bd := V.bd
  refine Fn19.of (New_i fun b2 h1 e1 g1 k2 _ => ?_)
  have A := V.A.gr g1
  simp only [NN_some, add_blk]
  refine LY33.c A.cd (laid_c d A.dv (arr_sml f.dep f d (Nat.le_refl _) V.ar) fun p' h2 g2 v2 => New_i fun b3 h3 e3 g3 k3 _ => SY33.b k3 rfl fun h4 o4 k3 => ?_)
  have g1s := g1.1
  have g2s := g2.1
  have g34 : Grw h2 h4 := Only.grw g3 o4 (by omega)
  have G4 := Grw.trans g2 g34
  have A4 := A.gr G4
  have k2l := k2.lt
  have k3l := k3.lt
  have ab := A.k.lt
  simp only [add_blk]
  refine Ld_blk A4.k rfl (Ld_blk A4.k rfl (St_i k3 (by simp) rfl fun h5 o5 k3 => Keep_b2 A4.k (o5.blk A4.k (by omega)) (St_i k3 (by simp) rfl fun h6 o6 k3 => J19_1.of ?_)))
  have A6 : ArA (fun x => D x ∧ x < h1.size) h6 b f d o n s q := ((A.lt.gr G4).fr o5.fr (by omega) (fun z hz e => by have := hz.2; omega) fun _ z => z).fr o6.fr (by omega) (fun z hz e => by have := hz.2; omega) fun _ z => z
  have T6 : Tn (fun c => c = b3) h4 h6 := o5.fr.trans o6.fr
  have v6 : DvA (fun x => Nw h1 x ∧ x < h2.size) (fun x => Nw h1 x ∧ x < h2.size) h6 p' d := ((v2.lt.gr g34).fr T6 (fun z hz _ e => by have := hz.2; omega) (fun z hz _ e => by have := hz.2; omega) (fun _ z => z) fun _ z => z)
  have k3' : B33 h6 b3 (.mk n o d.nul d.bufs d.cs d.ds) p' := (by simpa using k3 : Blk h6 b3 #[Value.int .i64 n, .int .i64 o, .int .i64 d.nul, Sl.v p'.1, Sl.v p'.2.1, Sl.v p'.2.2] Y33)
  simp only [NN_some, add_blk]
  have hV := V.ar.siz.row.hv
  refine LY29.c A6.cf (LY33.b k3' (count_c (N := n) (O := o) v6.b hV rfl rfl (by omega) (by omega) fun h7 g7 => St_i (k3'.grw g7) (by simp) rfl fun h8 o8 k3 => LY33.b k3 ?_))
  have k27 : Blk h8 b2 zY33 Y33 := o8.blk ((o6.blk (o5.blk (k2.grw G4) (by omega)) (by omega)).grw g7) (by omega)
  have G6 : Grw h h6 := Only.grw (Only.grw (Grw.trans g1 G4) o5 (by omega)) o6 (by omega)
  refine SY33.b k27 rfl fun h9 o9 k2 => LY33.b k2 (hk p' h9 (Only.grw (Only.grw (Grw.trans G6 g7) o8 (by omega)) o9 (by omega)) ?_)
  have v8 := (v6.gr g7).fr (D' := fun x => Nw h1 x ∧ x < h2.size) (E' := fun x => Nw h1 x ∧ x < h2.size) o8.fr (fun z hz _ e => by have := hz.2; omega) (fun z hz _ e => by have := hz.2; omega) (fun _ z => z) fun _ z => z
  have v9 := v8.fr (D' := Nw h) (E' := Nw h) o9.fr (fun z hz _ e => by have : h1.size ≤ z := hz.1; omega) (fun z hz _ e => by have : h1.size ≤ z := hz.1; omega) (fun z hz => by have : h1.size ≤ z := hz.1; show h.size ≤ z; omega) fun z hz => by have : h1.size ≤ z := hz.1; show h.size ≤ z; omega
  exact ⟨v9.b, v9.c, v9.x⟩
end
end Go.Proofs.YtcgdhhchjgbhnaaGreatDoor
set_option maxRecDepth 100000
set_option maxHeartbeats 1000000
/- Ranges over values that stand in the heap; the values of an array. -/
namespace Go.Proofs.YtcgdhhchjgbhnaaGreatDoor
open Go Go.Sh Go.WideShapes
/-- yield is called in a heap that grew from one in which all stood; what is handed over is known there -/
def IterH {α : Type} (P : Program) (fv : Value) (xs : List α) (E : α → List Value → Hp → Hp → Prop) (Pre : Hp → Prop) : Prop :=
  ∀ (l : Nat) (J : List α → Hp → Prop) (h : Hp), h.size = l + 1 → J [] h → (∀ pre h1, J pre h1 → Pre h1) → (∀ pre h1 h2, Grw h1 h2 → J pre h1 → J pre h2) →
    (∀ pre x suf hp h1 args, J pre hp → Grw hp h1 → E x args hp h1 → xs = pre ++ x :: suf → YieldH P l args h1 (fun v h2 => v = .bool true ∧ J (pre ++ [x]) h2) NoP) →
    CallF P fv [.func (.yield l) #[] #[]] h (fun _ h2 => J xs h2) NoP
theorem range_ruleH {P : Program} {ann : Ann} {D : Nat → Array Oper → (Fr → Hp → Prop) → (List PanicEntry → Hp → Prop) → Fr → Hp → Prop} (hD : ∀ r, DrawOk P r D) {g : Operand} {ps : Array Tmp} {assign body : Code} {Q : Qt}
    {Kp : List PanicEntry → Hp → Prop} {fr : Fr} {h : Hp} {fv : Value} (hfv : ev fr g = some fv) {α : Type} {xs : List α} {E : α → List Value → Hp → Hp → Prop} {Pre : Hp → Prop} (hit : IterH P fv xs E Pre) (henc : ∀ x args hp h1, E x args hp h1 → args.length = ps.size)
    (I : List α → Hp → Prop) (h0 : I [] h) (hG : ∀ pre h1 h2, Grw h1 h2 → I pre h1 → I pre h2)
    (hI : ∀ l pre h1 h2, h.size ≤ l → Tw l h1 h2 → I pre h1 → I pre h2) (hPre : ∀ pre h1, I pre h1 → Pre h1)
    (hbody : ∀ l pre x suf hp h1 args, I pre hp → Grw hp h1 → E x args hp h1 → xs = pre ++ x :: suf → h.size ≤ l → (∃ r, h1[l]? = some (.loop r)) → ∀ (N : Hp → Prop) (X : Code → Hp → Prop), (∀ h' h2, Tw l h1 h' → h2[l]? = h'[l]? → I (pre ++ [x]) h2 → N h2) →
      roundSem P ann D l (ann.find (firstId assign + 4000) fr) ps assign body args N X h1)
    (done : ∀ h2, I xs h2 → Q .normal (ann.find (firstId assign + 4000) fr) h2) : sem P ann D none (.rangeFunc g ps assign body) Q Kp fr h := by
  simp only [sem, hfv]
  intro fn tm hag
  simp only [enterH]
  have hsz : h.size ≤ (h.push (.deferred none)).size := by simp
  have hgr : Grw h (h.push (.deferred none)) := Grw.push _ _
  have key : ∀ (hh : Hp) (d : Nat), Grw h hh → CallF P fv [.func (.yield hh.size) #[] #[]] (hh.push (.loop { state := .ready, pending := none, fn, tmps := tm, params := ps, assign, body, defers := d }))
      (fun _ h' => endH hh.size h' fun jump h'' => match jump with
        | none => Q .normal (ann.find (firstId assign + 4000) fr) h''
        | some .ret => Q .ret (ann.find (firstId assign + 4000) fr) h''
        | some (.exit id) => Q (.exit id) (ann.find (firstId assign + 4000) fr) h''
        | _ => False) Kp := by
    intro hh d hgr
    have hsz := hgr.1
    have hl0 : (hh.push (.loop { state := .ready, pending := none, fn, tmps := tm, params := ps, assign, body, defers := d }))[hh.size]? = some (.loop { state := .ready, pending := none, fn, tmps := tm, params := ps, assign, body, defers := d }) := push_at rfl
    let Fld : Loop → Prop := fun r => r.tmps = tm ∧ r.params = ps ∧ r.assign = assign ∧ r.body = body
    refine CallF_mono (hit hh.size (fun pre h1 => I pre h1 ∧ ∃ r, h1[hh.size]? = some (.loop r) ∧ r.state = .ready ∧ r.pending = none ∧ Fld r) _
      (by simp) ⟨hG _ _ _ (Grw.trans hgr (Grw.push _ _)) h0, _, hl0, rfl, rfl, rfl, rfl, rfl, rfl⟩ (fun pre h1 hj => hPre pre h1 hj.1) ?_ ?_) ?_ (fun _ _ hp => hp.elim)
    · rintro pre h1 h2 hg ⟨hi, r, hr, hrest⟩
      exact ⟨hG _ _ _ hg hi, r, grw_loop hg hr, hrest⟩
    · rintro pre x suf hp h1 args ⟨hi, r, hr0, hst, hpd, f1, f2, f3, f4⟩ hg hE hxs
      have hr := grw_loop hg hr0
      have hb := hbody hh.size pre x suf hp h1 args hi hg hE hxs hsz ⟨r, hr⟩
        (fun h2 => I (pre ++ [x]) h2 ∧ ∃ r2, h2[hh.size]? = some (.loop r2) ∧ Fld r2) (fun _ _ => False) ?_
      · refine YieldH_of (ann := ann) hD (fr := ann.find (firstId assign + 4000) fr) hr hst (by rw [f2]; exact henc x args hp h1 hE) (by rw [f1]; exact hag) (by rw [f2, f3, f4]; exact hb) ?_ ?_
        · rintro h2 ⟨hi2, r2, hr2, g1, g2, g3, g4⟩
          refine ⟨r2, hr2, rfl, hI _ _ _ _ hsz (tw_set hr2) hi2, { r2 with state := .ready, pending := none }, ?_, rfl, rfl, g1, g2, g3, g4⟩
          rw [Array.getElem?_setIfInBounds]; simp [(Array.getElem?_eq_some_iff.1 hr2).1]
        · exact fun c h2 q => q.elim
      · rintro h' h2 ⟨_, _, r', st', pd', ht1, ht2⟩ heq hi2
        rw [hr] at ht1; cases ht1
        exact ⟨hi2, _, heq.trans ht2, f1, f2, f3, f4⟩
    · rintro v h2 ⟨hi, r, hr, hst, hpd, _⟩
      simp only [endH, hr, hst, hpd]
      exact ⟨by simp, done _ (hI _ _ _ _ hsz (tw_set hr) hi)⟩
  exact key _ _ hgr
theorem R18H {x2 : Sl} {x3 : Addr} {x7 : Value} {K : Sl → HP} {Kp : PK} {h : Hp} {α : Type} {xs : List α} (E : α → Int → Bool → Int → ByteArray → Sl → Hp → Hp → Prop) {Pre : Hp → Prop} (hit : IterH Tryz.prog x7 xs (fun y args hp h1 => ∃ y0 y1 y2 y3 y4, args = [(.int .i64 y0), (.agg #[(.bool y1), (.int .i64 y2), (.string y3), (Sl.v y4)])] ∧ E y y0 y1 y2 y3 y4 hp h1) Pre) (I : List α → Hp → Prop) (h0 : I [] h)
    (hG : ∀ pre h1 h2, Grw h1 h2 → I pre h1 → I pre h2) (hI : ∀ l pre h1 h2, h.size ≤ l → Tw l h1 h2 → I pre h1 → I pre h2) (hPre : ∀ pre h1, I pre h1 → Pre h1)
    (hbody : ∀ l pre y suf hp h1 y0 y1 y2 y3 y4, I pre hp → Grw hp h1 → E y y0 y1 y2 y3 y4 hp h1 → xs = pre ++ y :: suf → h.size ≤ l → (∃ r, h1[l]? = some (.loop r)) → ∀ (N : Hp → Prop) (X : Code → Hp → Prop), (∀ h' h2, Tw l h1 h' → h2[l]? = h'[l]? → I (pre ++ [y]) h2 → N h2) → RT18_1 l N X x2 x3 x7 y0 y1 y2 y3 y4 h1)
    (done : ∀ h2, I xs h2 → RD18_1 K Kp x2 x3 x7 h2) : R18_1 K Kp x2 x3 x7 h :=
  Eq.mp (by kernel_rfl) (range_ruleH (P := Tryz.prog) (ann := ann18) (D := (DrawSem Tryz.prog ord18)) (fun _ => drawOk _) (g := .tmp 7) (ps := #[8, 9]) (assign := sub [1, 1, 0, 1, 0, 0] code18) (body := sub [1, 1, 0, 1, 0, 1] code18) (Q := ctxQ Tryz.prog ann18 (DrawSem Tryz.prog ord18) none Kp [1, 1, 0, 1, 0] code18 [] (retQ Tryz.prog Tryz.f18.results.toList z18 (kv18 K))) (Kp := Kp) (fr := ([nO, nO, vS x2, vP x3, nO, nO, nO, some x7]++nn 9)) (h := h) (fv := x7) (by kernel_rfl)
    hit (fun _ _ _ _ ea => by obtain ⟨_, _, _, _, _, rfl, _⟩ := ea; rfl) I h0 hG hI hPre
    (by
      intro l pre y suf hp h1 args e0 e00 ea e1 e2 e3 N X hN
      obtain ⟨y0, y1, y2, y3, y4, rfl, eE⟩ := ea
      exact Eq.mp (by kernel_rfl) (hbody l pre y suf hp h1 y0 y1 y2 y3 y4 e0 e00 eE e1 e2 e3 N X hN))
    (fun h2 hi => Eq.mp (by kernel_rfl) (done h2 hi)))
end Go.Proofs.YtcgdhhchjgbhnaaGreatDoor
set_option maxRecDepth 100000
set_option maxHeartbeats 1000000
/- The values of an array, told. -/
namespace Go.Proofs.YtcgdhhchjgbhnaaGreatDoor
open Go Go.Sh Go.WideShapes
theorem cell_nl {h : Hp} {a : Addr} {v : Value} {l : Nat} {r : Loop} (c : cell h a = some v) (hl : h[l]? = some (.loop r)) : a.block ≠ l := by
  intro e
  unfold Go.Sh.cell at c
  rw [e, hl] at c
  simp at c
section
variable {D : Nat → Prop} {h h' : Hp} {l : Nat} {r : Loop}
theorem VA.nlb (hl : h[l]? = some (.loop r)) {a : Addr} {v : Val} (hv : VA D h a v) : a.block ≠ l := by
  obtain ⟨s, c, _⟩ := hv.row
  exact cell_nl (Cs.c0 c) hl
mutual
theorem VsA.nl (hl : h[l]? = some (.loop r)) : ∀ {s : Sl} (vs : List Val), VsA D h s vs → VsA (fun b => D b ∧ b ≠ l) h s vs
  | _, [], hh => by unfold VsA at hh ⊢; exact hh
  | _, v :: vs, hh => by
    unfold VsA at hh ⊢
    obtain ⟨a, b, p, e, q, x, y⟩ := hh
    exact ⟨a, b, p, e, ⟨q, x.nlb hl⟩, VA.nl hl v x, VrA.nl hl vs y⟩
theorem VrA.nl (hl : h[l]? = some (.loop r)) : ∀ {a : Addr} {i : Nat} (vs : List Val), VrA D h a i vs → VrA (fun b => D b ∧ b ≠ l) h a i vs
  | _, _, [], _ => by unfold VrA; trivial
  | _, i, v :: vs, hh => by unfold VrA at hh ⊢; exact ⟨VA.nl hl v hh.1, VrA.nl hl vs hh.2⟩
theorem VA.nl (hl : h[l]? = some (.loop r)) : ∀ {a : Addr} (v : Val), VA D h a v → VA (fun b => D b ∧ b ≠ l) h a v
  | _, .mk n x t vs, hh => by
    unfold VA at hh ⊢
    obtain ⟨s, hc, h1⟩ := hh
    exact ⟨s, hc, VsA.nl hl vs h1⟩
end
theorem VsA.tw (t : Tw l h h') {s : Sl} {vs : List Val} (v : VsA D h s vs) : VsA D h' s vs := by
  obtain ⟨r, _, _, hr, _⟩ := t.2.2
  exact VsA.fr t.only.fr (fun b hb _ e => hb.2 e) (fun b hb => hb.1) _ (VsA.nl hr _ v)
end
/-- a list of values that grows -/
structure Lv (h0 h : Hp) (x : Sl) (vs : List Val) : Prop where
  ss : ∃ ss : List Sl, ss.length = vs.length ∧ RowS h0.size 4 h x (List.zipWith Val.row vs ss) Y66 ∧ ∀ (j : Nat) (v : Val) (t : Sl), vs[j]? = some v → ss[j]? = some t → VsA (fun c => h0.size ≤ c ∧ ¬ x.at c) h t v.items
theorem Lv.gr {h0 h h' : Hp} {x : Sl} {vs : List Val} (v : Lv h0 h x vs) (g : Grw h h') : Lv h0 h' x vs := by
  obtain ⟨ss, q1, q2, q3⟩ := v
  exact ⟨ss, q1, q2.grw g, fun j v t e1 e2 => (q3 j v t e1 e2).gr g⟩
theorem Lv.tw {h0 h h' : Hp} {x : Sl} {vs : List Val} {l : Nat} (v : Lv h0 h x vs) (t : Tw l h h') : Lv h0 h' x vs := by
  obtain ⟨ss, q1, q2, q3⟩ := v
  exact ⟨ss, q1, ⟨q2.len, q2.n, (q2.sh.tw t).wide (Nat.le_refl _) (Nat.le_of_eq t.1.symm)⟩, fun j v u e1 e2 => VsA.tw t (q3 j v u e1 e2)⟩
theorem Lv.at {h0 h : Hp} {x : Sl} {vs : List Val} (v : Lv h0 h x vs) {c : Nat} (hc : x.at c) : h0.size ≤ c ∧ c < h.size := by
  obtain ⟨ss, q1, q2, q3⟩ := v
  exact q2.at hc
theorem Lv.n {h0 h : Hp} {x : Sl} {vs : List Val} (v : Lv h0 h x vs) : x.n = vs.length := by
  obtain ⟨ss, q1, q2, q3⟩ := v
  have := q2.n
  rw [List.length_zipWith, q1, Nat.min_self] at this
  exact this
abbrev allV (a1 : Nat) : Value := .func (.func I103) #[] #[.pointer (some ⟨a1, 0, none⟩)]
/-- what is handed to the body -/
abbrev EV (v : Val) (_ : Int) (y1 : Bool) (y2 : Int) (y3 : ByteArray) (y4 : Sl) (hp h1 : Hp) : Prop := y1 = v.nul ∧ y2 = v.num ∧ y3 = bs v.text ∧ VsA (Nw hp) h1 y4 v.items
theorem vals_iter {D : Nat → Prop} {hb : Hp} {b a1 b3 : Nat} {f : Fld} {d : Dat} {o n : Nat} {s : Sl} {q : Sl × Sl × Sl} (V : Av D hb b f d o n s q) (tb : UTab hb) (k1 : Blk hb a1 #[.pointer (some ⟨b, 0, none⟩)] Y42) (hb3 : ¬ D b3 ∧ b ≠ b3 ∧ a1 ≠ b3 ∧ 2 < b3) :
    IterH Tryz.prog (allV a1) (avs f d o n) (fun v args hp h1 => ∃ y0 y1 y2 y3 y4, args = [(.int .i64 y0), (.agg #[(.bool y1), (.int .i64 y2), (.string y3), (Sl.v y4)])] ∧ EV v y0 y1 y2 y3 y4 hp h1) (fun h => Tn (· = b3) hb h) := by
  intro lb J h hsz hJ0 hPre hG Y
  have bd := V.bd
  have hok : okFn Tryz.prog I103 = true := by kernel_rfl
  unfold CallF allV
  simp only [hok, List.nil_append, List.cons_append]
  refine CallH.mono (Fn103.of (K := fun h2 => J (avs f d o n) h2) (Kp := NoP) ?_) (fun _ _ hh => hh.2) (fun _ _ hh => hh)
  have t0 := hPre _ _ hJ0
  have fr : ∀ {h' : Hp}, Tn (· = b3) hb h' → Av D h' b f d o n s q ∧ Blk h' a1 #[.pointer (some ⟨b, 0, none⟩)] Y42 ∧ UTab h' := fun t =>
    ⟨V.fr t hb3.2.1 (fun z hz e => hb3.1 (e ▸ hz)) fun _ z => z, t.blk k1 hb3.2.2.1, tb.fr t (by have := hb3.2.2.2; omega) (by have := hb3.2.2.2; omega)⟩
  refine Ld_blk (fr t0).2.1 rfl ?_
  simp only [NN_some, add_blk]
  refine Ld_blk (fr t0).1.A.k rfl ?_
  have tot := arr_wt V.ar V.lo V.hi
  have sumle : ∀ j, wsum ((avs f d o n).take j) ≤ wsum (avs f d o n) := fun j => by rw [wsum_take, wsum_eq]; have := sum_cut (l := (avs f d o n).map Val.wgt) 0 j; simpa using this
  refine L103_1.rule (fun x3 x12 h' => ∃ i : Nat, x12 = i ∧ i ≤ n ∧ x3 = 4194304 - (wsum ((avs f d o n).take i) : Nat) ∧ J ((avs f d o n).take i) h') (fun _ x12 _ => n - x12.toNat) ⟨0, rfl, by omega, by simp [wsum], by simpa using hJ0⟩ ?_
  rintro x3 x12 h1 ⟨i, rfl, hi, rfl, j1⟩ N1 hN
  obtain ⟨V1, k11, tb1⟩ := fr (hPre _ _ j1)
  refine If_i (fun c => ?_) fun c => ?_
  · simp only [decide_eq_true_eq, decide_eq_false_iff_not, beq_iff_eq, beq_eq_false_iff_ne, ne_eq, reduceCtorEq, true_iff, false_iff, Bool.not_eq_true', Bool.not_eq_false', bne_iff_ne, bne_eq_false_iff_eq, Bool.not_true, Bool.not_false, Decidable.not_not] at c
    have hi' : i < n := by omega
    have hvi := avs_get (f := f) (d := d) (o := o) hi'
    have hvw : ((avs f d o n).map Val.wgt)[i]? = some (f.val d (o + i)).wgt := by simp [hvi]
    have hss := sum_take_succ hvw
    rw [← wsum_take, ← wsum_take] at hss
    have hsl := sumle (i + 1)
    have htk : (avs f d o n).take (i + 1) = (avs f d o n).take i ++ [f.val d (o + i)] := by rw [List.take_add_one, hvi]; rfl
    have hxs : avs f d o n = (avs f d o n).take i ++ f.val d (o + i) :: (avs f d o n).drop (i + 1) := by
      conv => lhs; rw [← List.take_append_drop (i + 1) (avs f d o n), htk]
      simp
    refine Ld_blk k11 rfl (get_v V1 tb1 rfl hi' fun t h2 g2 w2 => New_i fun b5 h3 e5 g3 k5 _ => SY66.b k5 rfl fun h4 o4 k5 => Wr_i64 (by omega) (by omega) (If_f rfl ?_))
    have g4 : Grw h2 h4 := Only.grw g3 o4 (by omega)
    have e0 : decide ((4194304 : Int) - (wsum ((avs f d o n).take i) : Nat) - ((f.val d (o + i)).wgt : Int) < 0) = false := by rw [decide_eq_false_iff_not]; omega
    rw [e0]
    refine J103_2.of (If_f rfl (LY66.b k5 ?_))
    unfold CallV
    simp only [List.nil_append]
    refine YieldH.mono (Y ((avs f d o n).take i) (f.val d (o + i)) _ h1 h4 _ j1 (Grw.trans g2 g4) ⟨_, _, _, _, _, rfl, rfl, rfl, rfl, w2.gr g4⟩ hxs) (fun v h5 hv => ?_) (fun _ _ q => q)
    obtain ⟨rfl, j5⟩ := hv
    refine ⟨true, rfl, If_f rfl (Wr_i64 (by omega) (by omega) (hN _ _ _ ⟨i + 1, by omega, by omega, by omega, by rw [htk]; exact j5⟩ (by omega)))⟩
  · simp only [decide_eq_true_eq, decide_eq_false_iff_not, beq_iff_eq, beq_eq_false_iff_ne, ne_eq, reduceCtorEq, true_iff, false_iff, Bool.not_eq_true', Bool.not_eq_false', bne_iff_ne, bne_eq_false_iff_eq, Bool.not_true, Bool.not_false, Decidable.not_not] at c
    obtain rfl : i = n := by omega
    rw [List.take_of_length_le (by rw [avs_len]; omega)] at j1
    exact j1
theorem Values_v {D : Nat → Prop} {h : Hp} {b : Nat} {f : Fld} {d : Dat} {o n : Nat} {s : Sl} {q : Sl × Sl × Sl} {K : Sl → HP} {Kp : PK} (V : Av D h b f d o n s q) (tb : UTab h) (hk : ∀ t h', Grw h h' → VsA (Nw h) h' t (avs f d o n) → K t h') : Fn18 (some ⟨b, 0, none⟩) h K Kp := by
  have ab := V.A.k.lt
  have t2 := tb.b2
  have bd := V.bd
  refine Fn18.of (New_i fun b3 h1 e3 g1 k3 s3 => Fn55.of (New_i fun a1 hb e1 g2 k1 s1 => ?_))
  have G := Grw.trans g1 g2
  have k3 := k3.grw g2
  have k3l := k3.lt
  have Gs := G.1
  have Vb := V.lt.gr G
  refine R18H EV (vals_iter Vb (tb.grw G) k1 (b3 := b3) ⟨fun e => by have := e.2; omega, by omega, by omega, by omega⟩) (fun pre h1 => Tn (· = b3) hb h1 ∧ ∃ x, Blk h1 b3 #[Sl.v x] Y52 ∧ Lv hb h1 x pre)
    ⟨Tn.refl _ _, Sl.nil, k3, ⟨[], rfl, RowS.nil _ _ _ _, by simp⟩⟩ ?_ ?_ (fun pre h1 hi => hi.1) ?_ ?_
  · rintro pre h1 h2 g ⟨t, x, k, v⟩
    exact ⟨t.trans (Tn.of_grw g), x, k.grw g, v.gr g⟩
  · rintro l pre h1 h2 hl tw ⟨t, x, k, v⟩
    exact ⟨t.trans' tw.only.fr fun z hz hlt => by omega, x, tw.only.blk k (by omega), v.tw tw⟩
  · rintro l pre y suf hp h1 y0 y1 y2 y3 y4 ⟨tp, x, kp, vp⟩ g01 ⟨rfl, rfl, rfl, w1⟩ hxs hl hrec N X hN
    have hl1 : l < h1.size := by obtain ⟨r, hr⟩ := hrec; exact (Array.getElem?_eq_some_iff.1 hr).1
    have tps := tp.1
    have g01s := g01.1
    have xn := vp.n
    have pl : pre.length < n := by have := congrArg List.length hxs; rw [avs_len] at this; simp at this; omega
    unfold RT18_1
    refine New_i fun b5 h2 e5 g12 k5 _ => SY66.b k5 rfl fun h3 o3 k5 => ?_
    have g13 : Grw h1 h3 := Only.grw g12 o3 (by omega)
    have g13s := g13.1
    refine ⟨g13.2 l hl1, fun h4 t4 => ?_⟩
    have o4 := t4.only
    have s4 : h4.size = h3.size := t4.1
    have k5 := o4.blk k5 (by omega)
    have k34 : Blk h4 b3 #[Sl.v x] Y52 := o4.blk ((kp.grw g01).grw g13) (by omega)
    have v4 := ((vp.gr g01).gr g13).tw t4
    have w4 : VsA (Nw hp) h4 y4 y.items := VsA.tw t4 (w1.gr g13)
    obtain ⟨ht, tback, eback⟩ := Tw.back g13 t4 hrec
    refine Ld_blk k34 rfl (LY66.b k5 (New_i fun b13 h5 e13 g5 k13 _ => Keep_blk k5 g5 (Keep_blk k34 g5 ?_)))
    have g5s := g5.1
    obtain ⟨ss, q1, q2, q3⟩ := v4
    have noloop := q2.sh.noloop t4
    have xat : ∀ c, x.at c → hb.size ≤ c ∧ c < hp.size := fun c hc => vp.at hc
    have hz1 : (List.zipWith Val.row pre ss).length = pre.length := by rw [List.length_zipWith, q1, Nat.min_self]
    refine (q2.grw g5).ap (by omega) rfl (new := [[.bool false, .int .i64 0, .string (bs []), Sl.v Sl.nil]]) rfl (fun r hr => by simp at hr; subst hr; rfl) (fun r hr => by simp at hr; subst hr; intro v hv; simp at hv; rcases hv with rfl | rfl | rfl | rfl <;> rfl) (rd_blk k13 rfl) (by omega) (by omega) fun s' h6 f6 at6 o6 => ?_
    have f6s := f6.1
    rcases o6.cases with ⟨_, e⟩ | ⟨bb, hbb, oR⟩
    · exact absurd e (by simp)
    have sat : s'.at bb := ⟨⟨bb, 0, none⟩, oR.a, rfl⟩
    have sat' : ∀ c, s'.at c → c = bb := by
      rintro c ⟨a, ha, rfl⟩
      rw [oR.a] at ha; cases ha; rfl
    have k36 : Blk h6 b3 #[Sl.v x] Y52 := f6.blk (k34.grw g5) fun hc => by have := xat _ hc; omega
    have hlen : pre.length < (List.zipWith Val.row pre ss ++ [[.bool false, .int .i64 0, .string (bs []), Sl.v Sl.nil]]).length := by simp; omega
    have hset : (List.zipWith Val.row pre ss ++ [[.bool false, .int .i64 0, .string (bs []), Sl.v Sl.nil]]).set pre.length (y.row y4) = List.zipWith Val.row (pre ++ [y]) (ss ++ [y4]) := by
      rw [List.zipWith_append (by omega), List.set_append_right _ _ (by omega), hz1]
      simp
    have nbl : bb ≠ l := fun e => by
      rcases at6 _ sat with z | z
      · exact noloop (e ▸ z)
      · omega
    have l6 : h6[l]? = h4[l]? := (f6.2 l (by omega) noloop).trans (g5.2 l (by omega))
    -- the end of both ways
    have fin : ∀ h8, RowH 4 h8 s' bb (List.zipWith Val.row (pre ++ [y]) (ss ++ [y4])) Y66 → Blk h8 b3 #[Sl.v s'] Y52 → Tn (fun c => c = bb ∨ c = b3) h6 h8 → N h8 := by
      intro h8 oR8 k38 t8
      refine hN ht h8 tback ?_ ⟨?_, s', k38, ⟨ss ++ [y4], by simp [q1], ⟨oR8.len, oR8.n, .inr ⟨bb, hbb, oR8.lt, oR8.own⟩⟩, fun j v u e1 e2 => ?_⟩⟩
      · rw [t8.2 l (by omega) (by omega), l6]; exact eback
      · refine (((((tp.trans (Tn.of_grw g01)).trans (Tn.of_grw g13)).trans' o4.fr fun z hz hlt => by omega).trans (Tn.of_grw g5)).trans' f6 fun z hz hlt => by have := xat z hz; omega).trans' t8 fun z hz hlt => ?_
        rcases hz with rfl | rfl
        · omega
        · rfl
      · have new : ∀ {u : Sl} {ws : List Val}, VsA (fun c => hb.size ≤ c ∧ ¬ x.at c) h4 u ws → VsA (fun c => hb.size ≤ c ∧ ¬ s'.at c) h8 u ws := fun {u ws} z => by
          have z1 := VsA.fr (S := No) (D' := fun c => (hb.size ≤ c ∧ ¬ x.at c) ∧ c < h4.size) (Tn.of_grw g5) (fun _ _ _ => id) (fun _ q => q) _ (VsA.lt _ z)
          have z2 := VsA.fr (D' := fun c => hb.size ≤ c ∧ ¬ s'.at c) f6 (fun b hb _ q => hb.1.2 q) (fun b hb => ⟨hb.1.1, fun q => by
            rcases at6 b q with q | q
            · exact hb.1.2 q
            · have := hb.2; omega⟩) _ z1
          exact VsA.fr t8 (fun b hb _ e => by
            rcases e with rfl | rfl
            · exact hb.2 sat
            · have := hb.1; omega) (fun _ q => q) _ z2
        by_cases hj : j < pre.length
        · rw [List.getElem?_append_left hj] at e1
          rw [List.getElem?_append_left (by omega)] at e2
          exact new (q3 j v u e1 e2)
        · have hj2 := (List.getElem?_eq_some_iff.1 e1).1
          simp only [List.length_append, List.length_singleton] at hj2
          obtain rfl : j = pre.length := by omega
          rw [List.getElem?_append_right (Nat.le_refl _)] at e1
          rw [← q1, List.getElem?_append_right (Nat.le_refl _)] at e2
          simp at e1 e2
          subst e1 e2
          exact new (w4.mo fun c (hc : hp.size ≤ c) => ⟨by omega, fun q => by have := xat c q; omega⟩)
    refine oR.ix (by omega) hlen ⟨SY66.l (oR.set hlen (r := y.row y4) rfl (vrow_one y y4) fun h7 o7 oR7 => ?_), ?_⟩
    · rw [hset] at oR7
      refine St_i (o7.blk k36 (by omega)) (by simp) rfl fun h8 o8 k38 => fin h8 (oR7.fr o8.fr (by omega)) (by simpa using k38) ((o7.fr.mono fun _ z _ => .inl z).trans (o8.fr.mono fun _ z _ => .inr z))
    · refine St_i k36 (by simp) rfl fun h7 o7 k37 => SY66.l ((oR.fr o7.fr (by omega)).set hlen (r := y.row y4) rfl (vrow_one y y4) fun h8 o8 oR8 => ?_)
      rw [hset] at oR8
      have k37 : Blk h7 b3 #[Sl.v s'] Y52 := by simpa using k37
      exact fin h8 oR8 (o8.blk k37 (by omega)) ((o7.fr.mono fun _ z _ => .inr z).trans (o8.fr.mono fun _ z _ => .inl z))
  · rintro h2 ⟨t, x, k, ss, q1, q2, q3⟩
    unfold RD18_1
    refine Ld_blk k rfl (hk x h2 (((Tn.of_grw G : Tn No h hb).trans' t fun z hz hlt => by omega).grw) ?_)
    exact VsA.snoc q2 q1 (fun c hc => by show h.size ≤ c; omega) fun j v u e1 e2 => (q3 j v u e1 e2).mo fun c hc => by have := hc.1; show h.size ≤ c; omega
end Go.Proofs.YtcgdhhchjgbhnaaGreatDoor
set_option maxRecDepth 100000
set_option maxHeartbeats 1000000
/- Values held against one another; what lies within a row. -/
namespace Go.Proofs.YtcgdhhchjgbhnaaGreatDoor
open Go Go.Sh Go.WideShapes
theorem wgt_eq (v : Val) : v.wgt = 16 + v.text.length + wsum v.items := by obtain ⟨a, b, c, d⟩ := v; rfl
theorem wsum_ge (vs : List Val) : 16 * vs.length ≤ wsum vs := by
  induction vs with
  | nil => simp [wsum]
  | cons v vs ih =>
    have := wgt_eq v
    simp only [wsum, List.length_cons]; omega
theorem wsum_mem {vs : List Val} {i : Nat} {v : Val} (h : vs[i]? = some v) : v.wgt ≤ wsum vs := by
  rw [wsum_eq]; exact le_sum (i := i) (by simp [h])
def SameC (m : Nat) : Prop := ∀ (v : Val), v.wgt ≤ m → ∀ {D D' : Nat → Prop} {h : Hp} {s t : Sl} {K : Bool → HP} {Kp : PK}, VsA D h s v.items → VsA D' h t v.items → (∀ h', Grw h h' → K true h') → Fn33 v.nul v.num (bs v.text) s v.nul v.num (bs v.text) t h K Kp
theorem same_step {m : Nat} (hm : m ≤ 2 ^ 40) (IH : ∀ k, k < m → SameC k) : SameC m := by
  intro v hv D D' h s t K Kp ws wt hk
  have wg := wgt_eq v
  have ge := wsum_ge v.items
  have sn := ws.n
  have tn := wt.n
  refine Fn33.of (New_i fun b2 h1 e1 g1 k2 _ => New_i fun b3 h2 e2 g2 k3 _ => ?_)
  have k2 := k2.grw g2
  have G := Grw.trans g1 g2
  simp only [add_blk]
  refine Ld_blk k2 rfl (Ld_blk k3 rfl (If_f (by simp) (Ld_blk k2 rfl (Ld_blk k3 rfl ?_))))
  have e1 : (v.num != v.num) = false := by simp
  rw [e1]
  refine J33_3.of (If_f rfl ?_)
  simp only [add_blk]
  refine Ld_blk k2 rfl (Ld_blk k3 rfl ?_)
  have e2 : (!((bs v.text).toList == (bs v.text).toList)) = false := by simp
  rw [e2]
  refine J33_4.of (If_f rfl ?_)
  simp only [add_blk]
  refine Ld_blk k2 rfl (Ld_blk k3 rfl (If_f (by simp; omega) (J33_1.of ?_)))
  refine L33_2.rule (fun x5 h' => ∃ i : Nat, x5 = i ∧ i ≤ v.items.length ∧ Grw h2 h') (fun x5 _ => v.items.length - x5.toNat) ⟨0, rfl, by omega, Grw.refl _⟩ ?_
  rintro x5 h3 ⟨i, rfl, hi, g3⟩ N1 hN
  simp only [add_blk]
  have k2 := k2.grw g3
  have k3 := k3.grw g3
  have G3 := Grw.trans G g3
  refine Ld_blk k2 rfl (If_i (fun c => Ld_blk k2 rfl ?_) fun c => hk _ G3)
  simp only [decide_eq_true_eq, decide_eq_false_iff_not, beq_iff_eq, beq_eq_false_iff_ne, ne_eq, reduceCtorEq, true_iff, false_iff, Bool.not_eq_true', Bool.not_eq_false', bne_iff_ne, bne_eq_false_iff_eq, Bool.not_true, Bool.not_false, Decidable.not_not] at c
  have hi' : i < v.items.length := by omega
  have hvi : v.items[i]? = some v.items[i] := List.getElem?_eq_getElem hi'
  generalize v.items[i] = w at hvi
  have hw := wsum_mem hvi
  refine (ws.gr G3).ix rfl hvi fun a u ca wa => LY66.c ca (Ld_blk k3 rfl ((wt.gr G3).ix rfl hvi fun a' u' ca' wa' => LY66.c ca' ?_))
  exact IH w.wgt (by omega) w (Nat.le_refl _) wa wa' fun h4 g4 => If_f rfl (Wr_i64 (by omega) (by omega) (hN _ _ ⟨i + 1, by omega, by omega, Grw.trans g3 g4⟩ (by omega)))
theorem same_c : ∀ m, m ≤ 2 ^ 40 → SameC m := by
  intro m
  induction m using Nat.strongRecOn with
  | ind m ih => intro hm; exact same_step hm fun k hk => ih k hk (by omega)
theorem sameV_c {vs : List Val} {D D' : Nat → Prop} {h : Hp} {s t : Sl} {K : Bool → HP} {Kp : PK} (hv : wsum vs ≤ 2 ^ 40) (ws : VsA D h s vs) (wt : VsA D' h t vs) (hk : ∀ h', Grw h h' → K true h') : Fn21 s t h K Kp := by
  have ge := wsum_ge vs
  have sn := ws.n
  have tn := wt.n
  refine Fn21.of (If_f (by simp; omega) ?_)
  refine L21_1.rule (fun x5 h' => ∃ i : Nat, x5 = i ∧ i ≤ vs.length ∧ Grw h h') (fun x5 _ => vs.length - x5.toNat) ⟨0, rfl, by omega, Grw.refl _⟩ ?_
  rintro x5 h3 ⟨i, rfl, hi, g3⟩ N1 hN
  refine If_i (fun c => ?_) fun c => hk _ g3
  simp only [decide_eq_true_eq, decide_eq_false_iff_not, beq_iff_eq, beq_eq_false_iff_ne, ne_eq, reduceCtorEq, true_iff, false_iff, Bool.not_eq_true', Bool.not_eq_false', bne_iff_ne, bne_eq_false_iff_eq, Bool.not_true, Bool.not_false, Decidable.not_not] at c
  have hi' : i < vs.length := by omega
  have hvi : vs[i]? = some vs[i] := List.getElem?_eq_getElem hi'
  generalize vs[i] = w at hvi
  have hw := wsum_mem hvi
  refine (ws.gr g3).ix rfl hvi fun a u ca wa => LY66.c ca ((wt.gr g3).ix rfl hvi fun a' u' ca' wa' => LY66.c ca' ?_)
  exact same_c w.wgt (by omega) w (Nat.le_refl _) wa wa' fun h4 g4 => If_f rfl (Wr_i64 (by omega) (by omega) (hN _ _ ⟨i + 1, by omega, by omega, Grw.trans g3 g4⟩ (by omega)))
theorem list_val {f g : Fld} {d : Dat} {i : Nat} (kk : f.k = 15 ∨ f.k = 16) (hnb : nullB f.k d.bufs i = false) (hg : (pfs f.k f.cs)[0]? = some g) : f.val d i = .mk false 0 [] (avs g (part d 0) ((part d 0).off.toNat + itA f d i) (itN f d i)) := by
  have e : avs g (part d 0) ((part d 0).off.toNat + itA f d i) (itN f d i) = (List.range (itN f d i)).map fun j => at0 g.val (part d 0) (itA f d i + j) := by
    unfold avs at0
    refine List.map_congr_left fun j _ => ?_
    rw [Nat.add_assoc]
  rw [e, val_eq', valK, if_neg (by rw [hnb]; simp), if_neg (by omega)]
  unfold itA itN
  rcases kk with e | e
  · rw [if_pos e, if_neg (by omega), if_neg (by omega), getD_map hg]
  · rw [if_neg (by omega), if_pos e, if_pos e, if_pos e, getD_map hg]
section
variable {D D' : Nat → Prop} {h : Hp} {b : Nat} {f : Fld} {d : Dat} {o n : Nat} {s s' t : Sl} {q : Sl × Sl × Sl} {Kp : PK}
theorem inner_c {x : Int} {i : Nat} {K : Bool → HP} (V : Av D h b f d o n s q) (tb : UTab h) (hn : f.nls) (hx : x = i) (hi : i < n) (w : VsA D' h t (f.val d (o + i)).items) (hk : ∀ h', Grw h h' → K true h') :
    Fn34 (some ⟨b, 0, none⟩) f.name f.nul f.k f.w f.id f.ix s' x (f.val d (o + i)).nul (f.val d (o + i)).num (bs (f.val d (o + i)).text) t h K Kp := by
  subst hx
  have bd := V.bd
  have lo := V.lo
  have hh := V.hi
  have wt := V.wt hi
  have wg := wgt_eq (f.val d (o + i))
  refine Fn34.of (New_i fun b5 h1 e1 g1 k5 _ => New_i fun b7 h2 e2 g2 k7 _ => ?_)
  have k5 := k5.grw g2
  have G := Grw.trans g1 g2
  have V2 := V.gr G
  have tb2 := tb.grw G
  have w2 := w.gr G
  simp only [add_blk]
  have main : ∀ bb : Bool, (bb = true ↔ (f.k = 15 ∨ f.k = 16)) → J34_6 K Kp (some ⟨b, 0, none⟩) i ⟨b7, 0, none⟩ f.k bb h2 := by
    intro bb hb
    refine J34_6.of (If_i (fun c => ?_) fun c => J34_1.of (If_i (fun c2 => hk _ G) fun c2 => ?_))
    · have kk := hb.1 c
      have ne := nul_eq hn V.ar (i := o + i) (by omega) (by omega) (by omega)
      refine Items_v V2 kk rfl hi (fun hnb h3 g3 => ?_) fun hnb b' g s'' q' h3 g3 hb' hg ga V3 => ?_
      · rw [hnb] at ne
        exact Ld_blk (k7.grw g3) rfl (If_t ne (If_t rfl (hk _ (Grw.trans G g3))))
      · rw [hnb] at ne
        have lv := list_val kk hnb hg
        rw [lv] at w2 wg
        simp only [Val.items] at w2
        simp only [add_blk]
        refine Ld_blk (k7.grw g3) rfl (If_f ne (If_t rfl (If_t rfl (Ld_blk (k7.grw g3) rfl (Values_v V3 (tb2.grw g3) fun u h4 g4 w4 => Keep_blk (k7.grw g3) g4 (sameV_c ?_ w4 (w2.gr (Grw.trans g3 g4)) fun h5 g5 => hk _ (Grw.trans G (Grw.trans g3 (Grw.trans g4 g5)))))))))
        have := arr_wt V3.ar V3.lo V3.hi
        omega
    · simp only [decide_eq_true_eq, decide_eq_false_iff_not, beq_iff_eq, beq_eq_false_iff_ne, ne_eq, reduceCtorEq, true_iff, false_iff, Bool.not_eq_true', Bool.not_eq_false', bne_iff_ne, bne_eq_false_iff_eq, Bool.not_true, Bool.not_false, Decidable.not_not] at c2
      refine Ld_blk k7 rfl (If_i (fun c3 => hk _ G) fun c3 => J34_2.of ?_)
      have hnb : nullB f.k d.bufs (o + i) = false := by rw [← nul_eq hn V.ar (by omega) (by omega) (by omega)]; exact c3
      have hpl := V.ar.siz.parts
      have hv : f.val d (o + i) = .mk false 0 [] ((List.range ((pfs f.k f.cs).map Fld.val).length).map fun j => at0 (((pfs f.k f.cs).map Fld.val).getD j vz) (part d j) (o + i)) := by
        rw [val_eq', valK, if_neg (by rw [hnb]; simp), if_neg (by omega), if_neg (by omega), if_neg (by omega), if_pos c2]
      have vl : (f.val d (o + i)).items.length = (partsD d).length := by rw [hv]; simp [Val.items]; omega
      have vj : ∀ j, j < (partsD d).length → ∀ g, (pfs f.k f.cs)[j]? = some g → (f.val d (o + i)).items[j]? = some (g.val (part d j) ((part d j).off.toNat + o + i)) := by
        intro j hj g hg
        rw [hv]
        simp only [Val.items]
        rw [List.getElem?_map, List.getElem?_range (by simp; omega)]
        simp only [Option.map_some, getD_map hg, at0]
        rw [Nat.add_assoc]
      have ge := wsum_ge (f.val d (o + i)).items
      have wn := w.n
      refine L34_3.rule (fun x12 h' => ∃ j : Nat, x12 = j ∧ j ≤ (partsD d).length ∧ Grw h2 h') (fun x12 _ => (partsD d).length - x12.toNat) ⟨0, rfl, by omega, Grw.refl _⟩ ?_
      rintro x12 h3 ⟨j, rfl, hj, g3⟩ N1 hN
      simp only [add_blk]
      refine Ld_blk (k7.grw g3) rfl (If_i (fun c4 => ?_) fun c4 => hk _ (Grw.trans G g3))
      simp only [decide_eq_true_eq, decide_eq_false_iff_not, beq_iff_eq, beq_eq_false_iff_ne, ne_eq, reduceCtorEq, true_iff, false_iff, Bool.not_eq_true', Bool.not_eq_false', bne_iff_ne, bne_eq_false_iff_eq, Bool.not_true, Bool.not_false, Decidable.not_not] at c4
      have hj' : j < (partsD d).length := by omega
      refine Child_v (V2.gr g3) c2 rfl hj' fun b' g s'' q' h4 g4 hb' hg ga V4 => If_f rfl (J34_5.of (If_f rfl (Len_v V4 (Len_v ((V2.gr g3).gr g4) (If_f (by simp) (J34_4.of ?_))))))
      refine Get_v V4 (tb2.grw (Grw.trans g3 g4)) rfl hi fun u h5 g5 w5 => New_i fun b15 h6 e6 g6 k15 _ => SY66.b k15 rfl fun h7 o7 k15 => If_f rfl (LY66.b k15 ?_)
      have g67 : Grw h5 h7 := Only.grw g6 o7 (by omega)
      have g37 := Grw.trans g3 (Grw.trans g4 (Grw.trans g5 g67))
      have hvj := vj j hj' g hg
      have hw := wsum_mem hvj
      simp only [add_blk]
      refine Ld_blk (k7.grw g37) rfl ((w2.gr g37).ix rfl hvj fun a u' ca wa => LY66.c ca ?_)
      exact same_c _ (by omega) _ (Nat.le_refl _) (w5.gr g67) wa fun h8 g8 => If_f rfl (Wr_i64 (by omega) (by omega) (hN _ _ ⟨j + 1, by omega, by omega, Grw.trans g37 g8⟩ (by omega)))
  refine Ld_blk k5 rfl (If_i (fun c => main _ ?_) fun c => main _ ?_)
  all_goals simp only [decide_eq_true_eq, decide_eq_false_iff_not, beq_iff_eq, beq_eq_false_iff_ne, ne_eq, reduceCtorEq, true_iff, false_iff, Bool.not_eq_true', Bool.not_eq_false', bne_iff_ne, bne_eq_false_iff_eq, Bool.not_true, Bool.not_false, Decidable.not_not] at *
  all_goals omega
end
end Go.Proofs.YtcgdhhchjgbhnaaGreatDoor
set_option maxRecDepth 100000
set_option maxHeartbeats 1000000
/- The fixed array; the law of cuts. -/
namespace Go.Proofs.YtcgdhhchjgbhnaaGreatDoor
open Go Go.Sh Go.WideShapes
def f0 : Fld := .mk (bs [97]) true 4 0 0 0 []
def d0 : Dat := .mk 2 1 1 [[5], [1, 0, 255, 255, 3, 0]] [] []
theorem name_a : NameOk (bs [97]) := by
  refine ⟨by decide, by decide, fun j b h => ?_⟩
  rcases j with _ | j
  · have h' : some (97 : UInt8) = some b := h
    cases h'
    exact .inl (.inl (by decide))
  · rw [getElem?_neg _ _ (by show ¬ j + 1 < 1; omega)] at h; cases h
theorem fld4 (nul : Bool) : FldOk (.mk (bs [97]) nul 4 0 0 0 []) := by
  refine ⟨by simp, by simp, fun j m h => by simp at h, fun i j a b hij h1 h2 => ?_, ?_⟩
  · have := (List.getElem?_eq_some_iff.1 h1).1
    simp at this; omega
  · simp only [placesU, Fld.places, placesL, List.append_nil, if_pos (show (1 : Nat) < 65 by omega), AllR, and_true]
    refine ⟨by show (1 : Nat) ≤ 64; omega, by omega, name_a, fun g hg => by simp at hg, ?_, ?_, ?_, ?_⟩
    · simp only [Fld.k, Fld.w, Fld.id, Fld.ix, Fld.cs, List.length_nil]; unfold Shaped; omega
    · simp only [Fld.k, Fld.nul, Fld.cs]; unfold Nulls; refine ⟨?_, ?_, ?_⟩ <;> intro h <;> omega
    · simp [Fld.k]
    · simp [Fld.k]
theorem arr0 : f0.arr d0 := by
  rw [Fld.arr_eq]
  have e01 : ∀ j, j < 2 → j = 0 ∨ j = 1 := by omega
  refine ⟨⟨fld4 _, by decide, by decide, by decide, by decide, by decide, by decide, by decide, by decide, by decide, by decide, fun j hj => ?_, fun j hj => ?_, fun j c hc => by simp [d0, Dat.cs] at hc, ?_⟩, ⟨fun q => ?_, fun q => ?_, fun q => ?_⟩, fun j c hc => ?_, fun q => ?_, ?_⟩
  · rcases e01 j hj with rfl | rfl <;> decide
  · rcases e01 j hj with rfl | rfl <;> decide
  · exact ⟨by decide, fun _ => rfl⟩
  · exact absurd q (by decide)
  · exact absurd q (by decide)
  · exact absurd q (by decide)
  · have e : partsD d0 = [] := rfl
    rw [e] at hc; simp at hc
  · exact absurd q (by decide)
  · decide
theorem val0 : (f0.val d0 2).num = 3 := by rw [val_eq']; decide
theorem nul0 : (f0.val d0 1).nul = true := by rw [val_eq']; decide
theorem f0nls : f0.nls := (fld4 true).nls
theorem f0sml : f0.sml := by unfold f0 Fld.sml smls; exact ⟨by decide, by decide, trivial⟩
theorem d0mac : d0.mac := by unfold d0 Dat.mac dmac; exact ⟨by decide, trivial, trivial⟩
theorem fixed_c {h : Hp} {K : Bool → HP} {Kp : PK} (ht : Tab h) (hu : UTab h) (hk : ∀ h', Grw h h' → K true h') : Fn7 h K Kp := by
  refine Fn7.of (New_i fun b1 h1 e1 g1 k1 _ => SY29.b k1 rfl fun h2 o2 k1 => New_i fun b11 h3 e3 g3 k11 _ => New_i fun b12 h4 e4 g4 k12 _ => New_i fun b13 h5 e5 g5 k13 _ => New_i fun b2 h6 e6 g6 k2 _ => SY33.b k2 rfl fun h7 o7 k2 => ?_)
  have g12 : Grw h h2 := Only.grw g1 o2 (by omega)
  have g67 : Grw h5 h7 := Only.grw g6 o7 (by omega)
  have g27 := Grw.trans g3 (Grw.trans g4 (Grw.trans g5 g67))
  have G7 := Grw.trans g12 g27
  have k1 := k1.grw g27
  have k11 := k11.grw (Grw.trans g4 (Grw.trans g5 g67))
  have k12 := k12.grw (Grw.trans g5 g67)
  have k13 := k13.grw g67
  have own : ∀ {bb : Nat} {vs : List Value} {el : TypeId}, Blk h7 bb vs.toArray el → Sv h7 ⟨some ⟨bb, 0, none⟩, vs.length, vs.length⟩ vs := fun {bb vs el} k => Own.sv (b := bb) (el := el) ⟨rfl, rfl, _, k, Nat.le_refl _, by simp, fun i _ => by simp⟩
  have dv : DvH h7 ((⟨some ⟨b13, 0, none⟩, 2, 2⟩ : Sl), (⟨none, 0, 0⟩ : Sl), (⟨none, 0, 0⟩ : Sl)) d0 := by
    refine ⟨⟨[⟨some ⟨b11, 0, none⟩, 1, 1⟩, ⟨some ⟨b12, 0, none⟩, 6, 6⟩], rfl, ⟨own (vs := [Sl.v ⟨some ⟨b11, 0, none⟩, 1, 1⟩, Sl.v ⟨some ⟨b12, 0, none⟩, 6, 6⟩]) k13, fun _ _ _ => trivial⟩, fun j t l h1 h2 => ⟨?_, fun _ _ _ => trivial⟩⟩, ?_, ?_⟩
    · rcases j with _ | _ | j
      · simp [d0, Dat.bufs] at h1 h2
        subst h1 h2
        exact own (vs := bv [5]) k11
      · simp [d0, Dat.bufs] at h1 h2
        subst h1 h2
        exact own (vs := bv [1, 0, 255, 255, 3, 0]) k12
      · simp at h1
    · show DsA _ _ _ _ []
      unfold DsA; exact ⟨rfl, Nat.le_refl _⟩
    · show DsA _ _ _ _ []
      unfold DsA; exact ⟨rfl, Nat.le_refl _⟩
  refine LY29.b k1 (LY33.b k2 (Open_c (f := f0) (d := d0) (p := ((⟨some ⟨b13, 0, none⟩, 2, 2⟩ : Sl), (⟨none, 0, 0⟩ : Sl), (⟨none, 0, 0⟩ : Sl))) (ht.grw G7) (hu.grw G7) f0sml ?_ dv d0mac (fun e l m h8 g8 _ no => absurd ⟨fld4 true, arr0⟩ no) fun _ _ b s' q' h8 g8 hb A => ?_))
  · show FsH _ _ []
    unfold FsH; exact ⟨rfl, Nat.le_refl _⟩
  have V : Av Tt h8 b f0 d0 1 2 s' q' := Av.whole (A.mo fun _ _ => trivial) arr0
  refine New_i fun b4 h9 e9 g9 k4 _ => SY37.b k4 rfl fun h10 o10 k4 => If_f rfl (Ld_blk k4 rfl (If_f rfl (J7_1.of ?_)))
  have g10 : Grw h8 h10 := Only.grw g9 o10 (by omega)
  have G10 := Grw.trans G7 (Grw.trans g8 g10)
  refine Get_v (V.gr g10) (hu.grw G10) (i := 1) rfl (by omega) fun t h11 g11 w11 => New_i fun b5 h12 e12 g12' k5 _ => SY66.b k5 rfl fun h13 o13 k5 => ?_
  have g13 : Grw h11 h13 := Only.grw g12' o13 (by omega)
  have G13 := Grw.trans g11 g13
  refine Null_v f0.dep f0 (Nat.le_refl _) f0nls ((V.gr g10).gr G13) (i := 0) rfl (by omega) fun h14 g14 => If_t rfl ?_
  simp only [add_blk]
  refine Ld_blk (k5.grw g14) rfl ?_
  have e3 : ((f0.val d0 (1 + 1)).num == 3) = true := by rw [show (1 : Nat) + 1 = 2 from rfl, val0]; rfl
  rw [e3]
  have e4 : (f0.val d0 (1 + 0)).nul = true := nul0
  rw [e4]
  exact J7_2.of (If_t rfl (J7_3.of (If_t rfl (hk _ (Grw.trans G10 (Grw.trans G13 g14))))))
end Go.Proofs.YtcgdhhchjgbhnaaGreatDoor
set_option maxRecDepth 100000
set_option maxHeartbeats 1000000
/- The law of cuts, as a contract. -/
namespace Go.Proofs.YtcgdhhchjgbhnaaGreatDoor
open Go Go.Sh Go.WideShapes
section
variable {h : Hp} {f : Fld} {d : Dat} {s : Sl} {p : Sl × Sl × Sl} {x y : Int} {K : Bool → HP} {Kp : PK}
/-- what the cut is asked -/
theorem cut_c {D : Nat → Prop} {b3 b : Nat} {o n a m : Nat} {s' : Sl} {q' : Sl × Sl × Sl} {all : Sl} (ht : Tab h) (hu : UTab h) (ok : FldOk f) (hsm : f.sml) (hs : FsH h s f.cs) (hm : d.mac)
    (k3 : Blk h b3 #[.string f.name, .bool f.nul, .int .i64 f.k, .int .i64 f.w, .int .i64 f.id, .int .i64 f.ix, Sl.v s] Y29) (V : Av Tt h b f d (o + a) m s' q') (w : VsA D h all (avs f d o n)) (wb : wsum (avs f d o n) ≤ 4194304) (ham : a + m ≤ n) (hn4 : n ≤ 4096) (hk : ∀ h', Grw h h' → K true h') :
    J4_3 K Kp ⟨b3, 0, none⟩ (a : Int) (m : Int) all (some ⟨b, 0, none⟩) 0 h := by
  have wn := w.n
  rw [avs_len] at wn
  have bd := V.bd
  have nls := ok.nls
  have ecut := avs_cut (f := f) (d := d) (o := o) ham
  have wcut : wsum (avs f d (o + a) m) ≤ 4194304 := arr_wt V.ar V.lo V.hi
  have slc : ∀ {h' : Hp} {K : Sl → Prop}, Grw h h' → (∀ t : Sl, VsA D h' t (avs f d (o + a) m) → K t) → Slc all 4 (some (a : Int)) (some ((a : Int) + (m : Int))) none K := fun {h' K} g hkk =>
    VsA.slc (w.gr g) (a := a) (b := a + m) (m := all.c) rfl (by simp) rfl (by omega) (by rw [avs_len]; omega) (by omega) (Nat.le_refl _) fun t wt => hkk t (by rw [show a + m - a = m by omega, ecut] at wt; exact wt)
  have fixd : ∀ {h' : Hp}, Grw h h' → Fn7 h' (fun t214 h1 => K t214 h1) Kp := fun g => fixed_c (ht.grw g) (hu.grw g) fun h2 g2 => hk _ (Grw.trans g g2)
  -- the rows one by one
  have j6 : ∀ h', Grw h h' → J4_6 K Kp ⟨b3, 0, none⟩ (a : Int) (m : Int) all (some ⟨b, 0, none⟩) h' := by
    intro h0 g0
    refine J4_6.of (L4_9.rule (fun x16 x17 h' => ∃ i : Nat, x17 = i ∧ i ≤ m ∧ Grw h h' ∧ 0 ≤ x16 ∧ x16 ≤ i ∧ (f.k ≠ 20 → x16 = cntN f.k d.bufs (o + a) i)) (fun _ x17 _ => m - x17.toNat) ⟨0, rfl, by omega, g0, by omega, by omega, fun _ => rfl⟩ ?_)
    rintro x16 x17 h1 ⟨i, rfl, hi, g1, c0, c1, c2⟩ N1 hN
    have k31 := k3.grw g1
    have V1 := V.gr g1
    refine If_i (fun c => ?_) fun c => J4_7.of ?_
    · simp only [decide_eq_true_eq, decide_eq_false_iff_not, beq_iff_eq, beq_eq_false_iff_ne, ne_eq, reduceCtorEq, true_iff, false_iff, Bool.not_eq_true', Bool.not_eq_false', bne_iff_ne, bne_eq_false_iff_eq, Bool.not_true, Bool.not_false, Decidable.not_not] at c
      have hi' : i < m := by omega
      refine Get_v V1 (hu.grw g1) rfl hi' fun t h2 g2 w2 => New_i fun b18 h3 e3 g3 k18 _ => SY66.b k18 rfl fun h4 o4 k18 => ?_
      have g4 := Grw.trans g2 (Only.grw g3 o4 (by omega) : Grw h2 h4)
      refine Null_v f.dep f (Nat.le_refl _) nls (V1.gr g4) rfl hi' fun h5 g5 => If_f rfl (If_f rfl (Ld_blk (k18.grw g5) rfl (If_f (by simp) (LY66.b (k18.grw g5) (Wr_i64 (by omega) (by omega) ?_)))))
      have g15 := Grw.trans g4 g5
      have G5 := Grw.trans g1 g15
      have w5 : VsA (Nw h1) h5 t (f.val d (o + a + i)).items := (w2.gr (Only.grw g3 o4 (by omega))).gr g5
      have hg := avs_get (f := f) (d := d) (o := o) (show a + i < n by omega)
      rw [← Nat.add_assoc] at hg
      have wt := V.wt hi'
      refine (w.gr G5).ix (i := a + i) (by omega) hg fun ad u ca wa => LY66.c ca (same_c _ (by omega) _ (Nat.le_refl _) w5 wa fun h6 g6 => If_f rfl (LY29.b (k31.grw (Grw.trans g15 g6)) (LY66.b ((k18.grw g5).grw g6) ?_)))
      have g16 := Grw.trans g15 g6
      refine inner_c (V1.gr g16) (hu.grw (Grw.trans g1 g16)) nls rfl hi' (w5.gr g6) fun h7 g7 => If_f rfl (Ld_blk (((k18.grw g5).grw g6).grw g7) rfl ?_)
      have G7 := Grw.trans g1 (Grw.trans g16 g7)
      have cs := cntN_succ f.k d.bufs (o + a) i
      have ne : f.k ≠ 20 → (f.val d (o + a + i)).nul = nullB f.k d.bufs (o + a + i) := fun e => nul_eq nls V.ar e (by have := V.lo; omega) (by have := V.hi; omega)
      refine If_i (fun c3 => Wr_i64 (by omega) (by omega) (Wr_i64 (by omega) (by omega) (hN _ _ _ ⟨i + 1, by omega, by omega, G7, by omega, by omega, fun e => ?_⟩ (by omega)))) fun c3 => Wr_i64 (by omega) (by omega) (hN _ _ _ ⟨i + 1, by omega, by omega, G7, by omega, by omega, fun e => ?_⟩ (by omega))
      · have := c2 e
        rw [← ne e, c3, if_pos rfl] at cs; omega
      · have := c2 e
        rw [← ne e, c3, if_neg (by simp)] at cs; omega
    · simp only [decide_eq_true_eq, decide_eq_false_iff_not, beq_iff_eq, beq_eq_false_iff_ne, ne_eq, reduceCtorEq, true_iff, false_iff, Bool.not_eq_true', Bool.not_eq_false', bne_iff_ne, bne_eq_false_iff_eq, Bool.not_true, Bool.not_false, Decidable.not_not] at c
      obtain rfl : i = m := by omega
      simp only [add_blk]
      refine Ld_blk k31 rfl (If_i (fun c3 => J4_8.of (If_t rfl (fixd g1))) fun c3 => ?_)
      simp only [decide_eq_true_eq, decide_eq_false_iff_not, beq_iff_eq, beq_eq_false_iff_ne, ne_eq, reduceCtorEq, true_iff, false_iff, Bool.not_eq_true', Bool.not_eq_false', bne_iff_ne, bne_eq_false_iff_eq, Bool.not_true, Bool.not_false, Decidable.not_not] at c3
      refine Data_v V1 fun p' h2 g2 v2 => ?_
      have e : ((cntN f.k d.bufs (o + a) i : Int) == x16) = true := by rw [beq_iff_eq, c2 c3]
      rw [e]
      exact J4_8.of (If_t rfl (fixd (Grw.trans g1 g2)))
  -- the data opened again
  have j5 : ∀ {h' : Hp} {b15 b16 : Nat} {s16 : Sl} {q16 : Sl × Sl × Sl}, Grw h h' → Blk h' b15 #[.int .i64 0, Sl.v Sl.nil, .int .i64 0] Y37 → ArA Tt h' b16 f (cutD d f.k (o + a) m) (cutD d f.k (o + a) m).off (cutD d f.k (o + a) m).len s16 q16 → f.arr (cutD d f.k (o + a) m) →
      J4_5 K Kp ⟨b3, 0, none⟩ (a : Int) (m : Int) all (some ⟨b, 0, none⟩) (some ⟨b16, 0, none⟩) ⟨b15, 0, none⟩ h' := by
    intro h1 b15 b16 s16 q16 g1 k15 A16 ar16
    have V16 := Av.whole A16 ar16
    have eo : (cutD d f.k (o + a) m).off.toNat = o + a := Int.toNat_natCast _
    have el : (cutD d f.k (o + a) m).len.toNat = m := Int.toNat_natCast _
    rw [eo, el] at V16
    have ev : avs f (cutD d f.k (o + a) m) (o + a) m = avs f d (o + a) m := by unfold avs; rw [Fld.val_cut]
    refine J4_5.of (Ld_blk k15 rfl (If_f rfl (If_f rfl (Wr_i64 (by omega) (by omega) (slc g1 fun t139 w139 => Values_v V16 (hu.grw g1) fun t133 h2 g2 w133 => ?_)))))
    rw [ev] at w133
    refine sameV_c (by omega) w133 (w139.gr g2) fun h3 g3 => If_f rfl (Data_v (V.gr (Grw.trans g1 (Grw.trans g2 g3))) fun p' h4 g4 v4 => If_f (by simp) (j6 h4 (Grw.trans g1 (Grw.trans g2 (Grw.trans g3 g4)))))
  have opn : ∀ {D : Nat → Prop} {h' : Hp} {p' : Sl × Sl × Sl} {K2 : Option Addr → Int → Sl → Int → HP}, Grw h h' → DvA D D h' p' (cutD d f.k (o + a) m) → (f.arr (cutD d f.k (o + a) m) → ∀ b16 s16 q16 h2, Grw h' h2 → h'.size ≤ b16 → ArA (fun x => (D x ∧ x < h'.size) ∨ h'.size ≤ x) h2 b16 f (cutD d f.k (o + a) m) (cutD d f.k (o + a) m).off (cutD d f.k (o + a) m).len s16 q16 → K2 (some ⟨b16, 0, none⟩) 0 Sl.nil 0 h2) →
      Fn12 f.name f.nul f.k f.w f.id f.ix s (m : Int) ((o + a : Nat) : Int) (cntN f.k d.bufs (o + a) m : Int) p'.1 p'.2.1 p'.2.2 h' K2 Kp := fun {D h' p' K2} g v hkk =>
    Open_c (d := cutD d f.k (o + a) m) (ht.grw g) (hu.grw g) hsm (hs.gr g) v (by unfold cutD Dat.mac; exact ⟨by show (m : Int) < 2 ^ 63; omega, hm.un.2.1, hm.un.2.2⟩) (fun e l m' h2 g2 _ no => absurd ⟨ok, arr_cut V.ar V.lo V.hi⟩ no) fun _ ar b16 s16 q16 h2 g2 hb16 A => hkk ar b16 s16 q16 h2 g2 hb16 A
  have j4 : ∀ h', Grw h h' → J4_4 K Kp ⟨b3, 0, none⟩ (a : Int) (m : Int) all (some ⟨b, 0, none⟩) h' := by
    intro h1 g1
    have k31 := k3.grw g1
    refine J4_4.of (LY29.b k31 ⟨Data_v (V.gr g1) fun p' h2 g2 v2 => Keep_blk k31 g2 ⟨?_, ?_⟩, New_i fun b15 h2 e2 g2 k15 _ => Keep_blk k31 g2 (Data_v ((V.gr g1).gr g2) fun p' h3 g3 v3 => Keep_blk (k31.grw g2) g3 ?_)⟩)
    · refine opn (Grw.trans g1 g2) v2 fun ar b16 s16 q16 h3 g3 _ A => New_i fun b15 h4 e4 g4 k15 _ => Keep_blk ((k31.grw g2).grw g3) g4 (SY37.b k15 rfl fun h5 o5 k15 => ?_)
      have g45 : Grw h3 h5 := Only.grw g4 o5 (by omega)
      exact j5 (Grw.trans g1 (Grw.trans g2 (Grw.trans g3 g45))) k15 ((A.gr g45).mo fun _ _ => trivial) ar
    · refine New_i fun b15 h3 e3 g3 k15 _ => Keep_blk (k31.grw g2) g3 (opn (Grw.trans g1 (Grw.trans g2 g3)) (v2.lt.gr g3) fun ar b16 s16 q16 h4 g4 hb16 A => SY37.b (k15.grw g4) rfl fun h5 o5 k15' => ?_)
      have g3s := g3.1
      have k15l := k15.lt
      have g25 : Grw h2 h5 := Only.grw (Grw.trans g3 g4) o5 (by omega)
      exact j5 (Grw.trans g1 (Grw.trans g2 g25)) k15' (A.fr o5.fr (by omega) (fun z hz e => by rcases hz with z | z <;> omega) fun _ _ => trivial) ar
    · refine opn (Grw.trans g1 (Grw.trans g2 g3)) v3 fun ar b16 s16 q16 h4 g4 hb16 A => SY37.b ((k15.grw g3).grw g4) rfl fun h5 o5 k15' => ?_
      have g3s := g3.1
      have k15l := k15.lt
      have g15 : Grw h1 h5 := Only.grw (Grw.trans g2 (Grw.trans g3 g4)) o5 (by omega)
      exact j5 (Grw.trans g1 g15) k15' (A.fr o5.fr (by omega) (fun z hz e => by
        rcases hz with z | z
        · have : h2.size ≤ _ := z.1
          omega
        · omega) fun _ _ => trivial) ar
  refine J4_3.of (If_f rfl (If_f rfl (Wr_i64 (by omega) (by omega) (slc (Grw.refl _) fun t113 w113 => Values_v V hu fun t107 h1 g1 w107 => sameV_c (by omega) w107 (w113.gr g1) fun h2 g2 => If_f rfl (j4 h2 (Grw.trans g1 g2))))))
end
end Go.Proofs.YtcgdhhchjgbhnaaGreatDoor
set_option maxRecDepth 100000
set_option maxHeartbeats 1000000
/- The law of cuts. -/
namespace Go.Proofs.YtcgdhhchjgbhnaaGreatDoor
open Go Go.Sh Go.WideShapes
theorem law4 {h : Hp} {f : Fld} {d : Dat} {s : Sl} {p : Sl × Sl × Sl} {x y : Int} {K : Bool → HP} {Kp : PK} (ht : Tab h) (hu : UTab h) (hsm : f.sml) (hs : FsH h s f.cs) (v : DvH h p d) (hm : d.mac) (hk : ∀ h', Grw h h' → K true h') :
    Fn4 f.name f.nul f.k f.w f.id f.ix s d.len d.off d.nul p.1 p.2.1 p.2.2 x y h K Kp := by
  refine Fn4.of (New_i fun b3 h1 e1 g1 k3 _ => New_i fun b4 h2 e2 g2 k4 _ => New_i fun b5 h3 e3 g3 k5 _ => ?_)
  have G3 := Grw.trans g1 (Grw.trans g2 g3)
  have k3 := (k3.grw g2).grw g3
  have k4 := k4.grw g3
  simp only [add_blk]
  have fixd : ∀ {h' : Hp}, Grw h h' → Fn7 h' (fun t h1 => K t h1) Kp := fun g => fixed_c (ht.grw g) (hu.grw g) fun h2 g2 => hk _ (Grw.trans g g2)
  refine Ld_blk k5 rfl (Ld_blk k5 rfl (LY29.b k3 (LY33.b k4 (Open_c (ht.grw G3) (hu.grw G3) hsm (hs.gr G3) (v.gr G3) hm (fun e l m h4 g4 he no => ?_) fun ok ar b s' q' h4 g4 hb A => ?_))))
  · refine New_i fun b10 h5 e5 g5 k10 _ => SY37.b k10 rfl fun h6 o6 k10 => Ld_blk k10 rfl (If_t (by simpa using he) (J4_14.of (If_t rfl (If_t rfl (Ld_blk k10 rfl (J4_15.of (If_t (by simpa using he) (fixd ?_))))))))
    exact Only.grw (Grw.trans (Grw.trans G3 g4) g5) o6 (by have := G3.1; have := g4.1; omega)
  · have V4 : Av Tt h4 b f d d.off.toNat d.len.toNat s' q' := Av.whole (A.mo fun _ _ => trivial) ar
    have so := ar.siz
    have l0 := so.l0
    have l1 := so.l1
    refine New_i fun b10 h5 e5 g5 k10 _ => SY37.b k10 rfl fun h6 o6 k10 => Ld_blk k10 rfl (If_f rfl (J4_14.of (If_f rfl (J4_1.of ?_))))
    have g46 : Grw h4 h6 := Only.grw g5 o6 (by omega)
    have g36 := Grw.trans g4 g46
    have G6 := Grw.trans G3 g36
    have V6 := V4.gr g46
    refine Values_v V6 (hu.grw G6) fun all h7 g7 w7 => Len_v (V6.gr g7) ?_
    have wn := w7.n
    rw [avs_len] at wn
    have k37 := (k3.grw g36).grw g7
    have k47 := (k4.grw g36).grw g7
    have G7 := Grw.trans G6 g7
    refine If_f (by simp; omega) (Ld_blk k47 rfl (Len_v (V6.gr g7) (Keep_blk k47 (Grw.refl _) (If_f (by simp; omega) (J4_2.of ?_)))))
    have wb := arr_wt ar V6.lo V6.hi
    have b12 : ∀ h', Grw h h' → J4_12 K Kp true h' := fun h' g => J4_12.of (If_t rfl (fixd g))
    have b13 : ∀ h', Grw h h' → J4_13 K Kp true h' := fun h' g => J4_13.of (If_t rfl (fixd g))
    refine Cut_v (V6.gr g7) (fun bad => ?_) fun a m ha hm' ham b' h8 g8 hb' V8 => ?_
    · have b11 : ∀ bb : Bool, (bb = true ∨ (bb = false ∧ 0 ≤ x ∧ 0 ≤ y ∧ x ≤ d.len.toNat)) → J4_11 K Kp ⟨b3, 0, none⟩ x y all none 2 bb h7 := by
        intro bb hbb
        refine J4_11.of (If_i (fun c => If_t rfl (b12 _ G7)) fun c => ?_)
        rcases hbb with z | ⟨_, z1, z2, z3⟩
        · rw [c] at z; cases z
        · refine Wr_i64 (by omega) (by omega) (If_i (fun c2 => If_t rfl (b13 _ G7)) fun c2 => ?_)
          simp only [decide_eq_true_eq, decide_eq_false_iff_not, beq_iff_eq, beq_eq_false_iff_ne, ne_eq, reduceCtorEq, true_iff, false_iff, Bool.not_eq_true', Bool.not_eq_false', bne_iff_ne, bne_eq_false_iff_eq, Bool.not_true, Bool.not_false, Decidable.not_not] at c2
          exact absurd ⟨z1, z2, by omega⟩ bad
      have b10' : ∀ bb : Bool, (bb = true ∨ (bb = false ∧ 0 ≤ x ∧ 0 ≤ y)) → J4_10 K Kp ⟨b3, 0, none⟩ x y all none 2 bb h7 := by
        intro bb hbb
        refine J4_10.of (If_i (fun c => b11 _ (.inl rfl)) fun c => ?_)
        rcases hbb with z | ⟨_, z1, z2⟩
        · rw [c] at z; cases z
        · refine b11 _ ?_
          cases hd : decide (x > (all.n : Int)) with
          | true => exact .inl rfl
          | false => rw [decide_eq_false_iff_not] at hd; exact .inr ⟨rfl, z1, z2, by omega⟩
      refine If_i (fun c => b10' _ (.inl rfl)) fun c => b10' _ ?_
      simp only [decide_eq_true_eq, decide_eq_false_iff_not, beq_iff_eq, beq_eq_false_iff_ne, ne_eq, reduceCtorEq, true_iff, false_iff, Bool.not_eq_true', Bool.not_eq_false', bne_iff_ne, bne_eq_false_iff_eq, Bool.not_true, Bool.not_false, Decidable.not_not] at c
      cases hd : decide (y < 0) with
      | true => exact .inl rfl
      | false => rw [decide_eq_false_iff_not] at hd; exact .inr ⟨rfl, by omega, by omega⟩
    · subst ha hm'
      refine If_f (by rw [decide_eq_false_iff_not]; omega) ?_
      have e1 : decide ((m : Int) < 0) = false := by rw [decide_eq_false_iff_not]; omega
      rw [e1]
      refine J4_10.of (If_f rfl ?_)
      have e2 : decide ((a : Int) > (all.n : Int)) = false := by rw [decide_eq_false_iff_not]; omega
      rw [e2]
      refine J4_11.of (If_f rfl (Wr_i64 (by omega) (by omega) (If_f (by rw [decide_eq_false_iff_not]; omega) ?_)))
      have G8 := Grw.trans G7 g8
      exact cut_c (ht.grw G8) (hu.grw G8) ok hsm (hs.gr G8) hm (k37.grw g8) V8 (w7.gr g8) wb ham (by omega) fun h' g => hk _ (Grw.trans G8 g)
end Go.Proofs.YtcgdhhchjgbhnaaGreatDoor
set_option maxRecDepth 100000
set_option maxHeartbeats 200000
/- What the rows of this seat ask of a call: reading the arguments, the tables. -/
namespace Go.Proofs.YtcgdhhchjgbhnaaGreatDoor
open Go Go.Sh Go.ChangeShapes Go.WideShapes Go.RowKit
theorem own : ownKnob Tryz.prog.godebug = none := by kernel_rfl
theorem laidOut : laidOutB Tryz.prog = true := by kernel_rfl
theorem mapsR : mapsRowed Tryz.prog = true := by kernel_rfl
theorem slicesFull : ((List.range Tryz.prog.types.size).all fun t => match Tryz.prog.underlying t with | some (.slice e) => decide (0 < Tryz.prog.cellsOf e) | _ => true) = true := by kernel_rfl
theorem fun4 : Tryz.prog.funcs[4]? = some Tryz.f4 := by kernel_rfl
theorem par4 : Tryz.f4.params = #[26, 30, 58] := by kernel_rfl
noncomputable def fsOf (t : TypeId) : Array Field := match Tryz.prog.underlying t with | some (.struct fs) => fs | _ => #[]
abbrev FdAt (t : TypeId) (i : Nat) (ty : TypeId) (off : Nat) : Prop := ((fsOf t)[i]?).map (fun f => (f.type, f.offset)) = some (ty, off)
theorem u3 : Tryz.prog.underlying 3 = some (.int .i64) := by kernel_rfl
theorem u4 : Tryz.prog.underlying 4 = some (.bool) := by kernel_rfl
theorem u5 : Tryz.prog.underlying 5 = some (.int .u8) := by kernel_rfl
theorem u9 : Tryz.prog.underlying 9 = some (.string) := by kernel_rfl
theorem u22 : Tryz.prog.underlying 22 = some (.slice 26) := by kernel_rfl
theorem u27 : Tryz.prog.underlying 27 = some (.slice 93) := by kernel_rfl
theorem u28 : Tryz.prog.underlying 28 = some (.slice 30) := by kernel_rfl
theorem u93 : Tryz.prog.underlying 93 = some (.slice 5) := by kernel_rfl
theorem u236 : Tryz.prog.underlying 236 = some (.array 21 235) := by kernel_rfl
theorem u243 : Tryz.prog.underlying 243 = some (.array 256 5) := by kernel_rfl
theorem u246 : Tryz.prog.underlying 246 = some (.array 16 245) := by kernel_rfl
theorem u24 : Tryz.prog.underlying 24 = some (.struct (fsOf 24)) := by kernel_rfl
theorem d24_0 : FdAt 24 0 3 0 := by unfold FdAt; kernel_rfl
theorem d24_1 : FdAt 24 1 3 1 := by unfold FdAt; kernel_rfl
theorem d24_2 : FdAt 24 2 3 2 := by unfold FdAt; kernel_rfl
theorem d24_3 : FdAt 24 3 3 3 := by unfold FdAt; kernel_rfl
theorem d24_4 : FdAt 24 4 22 4 := by unfold FdAt; kernel_rfl
theorem u26 : Tryz.prog.underlying 26 = some (.struct (fsOf 26)) := by kernel_rfl
theorem d26_0 : FdAt 26 0 9 0 := by unfold FdAt; kernel_rfl
theorem d26_1 : FdAt 26 1 4 1 := by unfold FdAt; kernel_rfl
theorem d26_2 : FdAt 26 2 24 2 := by unfold FdAt; kernel_rfl
theorem u30 : Tryz.prog.underlying 30 = some (.struct (fsOf 30)) := by kernel_rfl
theorem d30_0 : FdAt 30 0 3 0 := by unfold FdAt; kernel_rfl
theorem d30_1 : FdAt 30 1 3 1 := by unfold FdAt; kernel_rfl
theorem d30_2 : FdAt 30 2 3 2 := by unfold FdAt; kernel_rfl
theorem d30_3 : FdAt 30 3 27 3 := by unfold FdAt; kernel_rfl
theorem d30_4 : FdAt 30 4 28 4 := by unfold FdAt; kernel_rfl
theorem d30_5 : FdAt 30 5 28 5 := by unfold FdAt; kernel_rfl
theorem u58 : Tryz.prog.underlying 58 = some (.struct (fsOf 58)) := by kernel_rfl
theorem d58_0 : FdAt 58 0 3 0 := by unfold FdAt; kernel_rfl
theorem d58_1 : FdAt 58 1 3 1 := by unfold FdAt; kernel_rfl
theorem u235 : Tryz.prog.underlying 235 = some (.struct (fsOf 235)) := by kernel_rfl
theorem d235_1 : FdAt 235 1 3 1 := by unfold FdAt; kernel_rfl
theorem d235_2 : FdAt 235 2 3 2 := by unfold FdAt; kernel_rfl
theorem d235_3 : FdAt 235 3 4 3 := by unfold FdAt; kernel_rfl
theorem u245 : Tryz.prog.underlying 245 = some (.struct (fsOf 245)) := by kernel_rfl
theorem d245_0 : FdAt 245 0 5 0 := by unfold FdAt; kernel_rfl
theorem d245_1 : FdAt 245 1 5 1 := by unfold FdAt; kernel_rfl
theorem cz3 : Tryz.prog.cellsOf 3 = 1 := by kernel_rfl
theorem cz4 : Tryz.prog.cellsOf 4 = 1 := by kernel_rfl
theorem cz5 : Tryz.prog.cellsOf 5 = 1 := by kernel_rfl
theorem cz9 : Tryz.prog.cellsOf 9 = 1 := by kernel_rfl
theorem cz22 : Tryz.prog.cellsOf 22 = 1 := by kernel_rfl
theorem cz24 : Tryz.prog.cellsOf 24 = 5 := by kernel_rfl
theorem cz26 : Tryz.prog.cellsOf 26 = 7 := by kernel_rfl
theorem cz27 : Tryz.prog.cellsOf 27 = 1 := by kernel_rfl
theorem cz28 : Tryz.prog.cellsOf 28 = 1 := by kernel_rfl
theorem cz30 : Tryz.prog.cellsOf 30 = 6 := by kernel_rfl
theorem cz58 : Tryz.prog.cellsOf 58 = 2 := by kernel_rfl
theorem cz93 : Tryz.prog.cellsOf 93 = 1 := by kernel_rfl
theorem cz235 : Tryz.prog.cellsOf 235 = 4 := by kernel_rfl
theorem cz245 : Tryz.prog.cellsOf 245 = 2 := by kernel_rfl
theorem list_of {α : Type} {Q : Nat → α → Prop} : ∀ {n : Nat}, (∀ i, i < n → ∃ v, Q i v) → ∃ l : List α, l.length = n ∧ ∀ (i : Nat) v, l[i]? = some v → Q i v
  | 0, _ => ⟨[], rfl, fun i v h => by simp at h⟩
  | n + 1, h => by
    obtain ⟨l, hl, hi⟩ := list_of (n := n) fun i hi => h i (by omega)
    obtain ⟨v, hv⟩ := h n (by omega)
    refine ⟨l ++ [v], by simp [hl], fun i u hu => ?_⟩
    by_cases hin : i < n
    · rw [List.getElem?_append_left (by omega)] at hu; exact hi i u hu
    · have : i = n := by have := (List.getElem?_eq_some_iff.1 hu).1; simp at this; omega
      subst this
      rw [List.getElem?_append_right (by omega), hl] at hu
      simp only [Nat.sub_self, List.getElem?_cons_zero, Option.some.injEq] at hu
      subst hu; exact hv
theorem lenk2 {α : Type} {l : List α} (h : l.length = 2) : ∃ a0 a1, l = [a0, a1] := by
  match l, h with
  | [a0, a1], _ => exact ⟨_, _, rfl⟩
theorem lenk6 {α : Type} {l : List α} (h : l.length = 6) : ∃ a0 a1 a2 a3 a4 a5, l = [a0, a1, a2, a3, a4, a5] := by
  match l, h with
  | [a0, a1, a2, a3, a4, a5], _ => exact ⟨_, _, _, _, _, _, rfl⟩
theorem lenk7 {α : Type} {l : List α} (h : l.length = 7) : ∃ a0 a1 a2 a3 a4 a5 a6, l = [a0, a1, a2, a3, a4, a5, a6] := by
  match l, h with
  | [a0, a1, a2, a3, a4, a5, a6], _ => exact ⟨_, _, _, _, _, _, _, rfl⟩
section
variable {H : Type} {enc : TypeId × Value → H} {W : World} {fuel : Nat} {cs : List Value} {x : DataW H × List MemPlace}
abbrev Rd (enc : TypeId × Value → H) (W : World) (fuel : Nat) (t : TypeId) (cs : List Value) (x : DataW H × List MemPlace) : Prop := DataW.trod enc Tryz.prog W 0 (fun _ => true) true fuel t cs = some x
theorem rd_slice {t e : TypeId} (ht : Tryz.prog.underlying t = some (.slice e)) (h : Rd enc W fuel t cs x) :
    ∃ (s : Sl) (n : Nat), cs = [s.v] ∧ fuel = n + 1 ∧ s.n ≤ s.c ∧ s.n ≤ M63 ∧ ∀ i, i < s.n → ∃ a cs' y, s.a = some a ∧ cs'.length = Tryz.prog.cellsOf e ∧ Cs (hpz W) (a.add (i * Tryz.prog.cellsOf e)) cs' ∧ Rd enc W n e cs' y := by
  obtain ⟨s, els, rest, n, rfl, rfl, hn, hc, _, hes⟩ := open_slice ht h
  refine ⟨s, n, rfl, rfl, hc, ?_, fun i hi => ?_⟩
  · rcases DataW.trod_slice ht h with ⟨e1, _⟩ | ⟨a, len, cap, _, _, _, _, e1, _, _, h1, h2, _⟩
    · simp only [Sl.v, List.cons.injEq, Value.slice.injEq, and_true] at e1; omega
    · simp only [Sl.v, List.cons.injEq, Value.slice.injEq, and_true] at e1
      have : maxLen = 9223372036854775807 := by decide
      show s.n ≤ 9223372036854775807; omega
  · obtain ⟨a, cs', h1, h2, h3, h4⟩ := hes i els[i] (List.getElem?_eq_getElem (by omega))
    exact ⟨a, cs', els[i], h1, h2, h3, h4⟩
theorem rd_struct {t : TypeId} (ht : Tryz.prog.underlying t = some (.struct (fsOf t))) (h : Rd enc W fuel t cs x) :
    ∃ n, fuel = n + 1 ∧ cs.length = Tryz.prog.cellsOf t ∧ ∀ (i : Nat) (ty : TypeId) (off : Nat), FdAt t i ty off → ∃ y, Rd enc W n ty ((cs.drop off).take (Tryz.prog.cellsOf ty)) y := by
  obtain ⟨xs, n, rfl, rfl, hl, hlen, hf⟩ := DataW.trod_struct ht h
  refine ⟨n, rfl, hl, fun i ty off hi => ?_⟩
  unfold FdAt at hi
  rw [Option.map_eq_some_iff] at hi
  obtain ⟨f, hif, e⟩ := hi
  cases e
  have hlt : i < xs.length := by have := (Array.getElem?_eq_some_iff.1 hif).1; omega
  have := hf i f hif
  rw [List.getElem?_eq_getElem hlt] at this
  exact ⟨xs[i], this⟩
theorem rd_int (h : Rd enc W fuel 3 cs x) : ∃ v : Int, cs = [.int .i64 v] ∧ v < 2 ^ 63 := by
  obtain ⟨v, rfl, h1, h2⟩ := open_i64 u3 h; exact ⟨v, rfl, by omega⟩
theorem rd_bool (h : Rd enc W fuel 4 cs x) : ∃ v, cs = [.bool v] := by
  obtain ⟨v, rfl, _⟩ := DataW.trod_bool u4 h; exact ⟨v, rfl⟩
theorem rd_str (h : Rd enc W fuel 9 cs x) : ∃ v : ByteArray, cs = [.string v] ∧ v.size ≤ M63 := by
  obtain ⟨v, rfl, _, hl⟩ := DataW.trod_string u9 h
  have : maxLen = 9223372036854775807 := by decide
  exact ⟨v, rfl, by show _ ≤ 9223372036854775807; omega⟩
theorem FrH.of {h : Hp} {a : Addr} : ∀ {fs : List Fld} {i : Nat}, (∀ (j : Nat) f, fs[j]? = some f → FldH h (a.add ((i + j) * 7)) f) → FrH h a i fs
  | [], _, _ => by unfold FrH; trivial
  | f :: fs, i, hh => by
    unfold FrH
    refine ⟨hh 0 f rfl, FrH.of fun j g hj => ?_⟩
    have := hh (j + 1) g (by simpa using hj)
    have e : i + 1 + j = i + (j + 1) := by omega
    rw [e]; exact this
theorem FsH.of {h : Hp} {s : Sl} {fs : List Fld} (hn : s.n = fs.length) (hc : s.n ≤ s.c) (hh : ∀ (j : Nat) f, fs[j]? = some f → ∃ a, s.a = some a ∧ FldH h (a.add (j * 7)) f) : FsH h s fs := by
  cases fs with
  | nil => unfold FsH; exact ⟨hn, hc⟩
  | cons f fs =>
    unfold FsH
    obtain ⟨a, ha, h0⟩ := hh 0 f rfl
    refine ⟨hn, hc, a, ha, by simpa [add_zero'] using h0, FrH.of fun j g hj => ?_⟩
    obtain ⟨a', ha', h1⟩ := hh (j + 1) g (by simpa using hj)
    rw [ha] at ha'; cases ha'
    have e : 1 + j = j + 1 := by omega
    rw [e]; exact h1
theorem DsA.of2 {h : Hp} {s : Sl} {ds : List Dat} (hn : s.n = ds.length) (hc : s.n ≤ s.c) (hh : ∀ (j : Nat) d, ds[j]? = some d → ∃ a, s.a = some a ∧ DatA Tt Tt h (a.add (j * 6)) d) : DsA Tt Tt h s ds := by
  cases ds with
  | nil => unfold DsA; exact ⟨hn, hc⟩
  | cons f fs =>
    unfold DsA
    obtain ⟨a, ha, h0⟩ := hh 0 f rfl
    refine ⟨hn, hc, a, ha, trivial, by simpa [add_zero'] using h0, DrA.of fun j g hj => ?_⟩
    obtain ⟨a', ha', h1⟩ := hh (j + 1) g (by simpa using hj)
    rw [ha] at ha'; cases ha'
    have e : 1 + j = j + 1 := by omega
    rw [e]; exact h1
theorem smls.of : ∀ {fs : List Fld}, (∀ (j : Nat) f, fs[j]? = some f → f.sml) → smls fs
  | [], _ => by unfold smls; trivial
  | f :: fs, h => by unfold smls; exact ⟨h 0 f rfl, smls.of fun j g hj => h (j + 1) g (by simpa using hj)⟩
theorem dmac.of : ∀ {ds : List Dat}, (∀ (j : Nat) d, ds[j]? = some d → d.mac) → dmac ds
  | [], _ => by unfold dmac; trivial
  | d :: ds, h => by unfold dmac; exact ⟨h 0 d rfl, dmac.of fun j g hj => h (j + 1) g (by simpa using hj)⟩
def FldsR (H : Type) (enc : TypeId × Value → H) (W : World) (fuel : Nat) : Prop := ∀ {cs : List Value} {x : DataW H × List MemPlace}, Rd enc W fuel 22 cs x → ∃ (s : Sl) (fs : List Fld), cs = [s.v] ∧ FsH (hpz W) s fs ∧ smls fs ∧ fs.length ≤ M63
theorem rd_fld1 (ih : ∀ n, n < fuel → FldsR H enc W n) (h : Rd enc W fuel 26 cs x) : ∃ (f : Fld) (u : Sl), cs = [.string f.name, .bool f.nul, .int .i64 f.k, .int .i64 f.w, .int .i64 f.id, .int .i64 f.ix, Sl.v u] ∧ FsH (hpz W) u f.cs ∧ f.sml := by
  obtain ⟨n1, rfl, h2, hf⟩ := rd_struct u26 h
  rw [cz26] at h2
  obtain ⟨v0, v1, v2, v3, v4, v5, v6, rfl⟩ := lenk7 h2
  obtain ⟨y0, t0⟩ := hf 0 _ _ d26_0
  obtain ⟨y1, t1⟩ := hf 1 _ _ d26_1
  obtain ⟨y2, t2⟩ := hf 2 _ _ d26_2
  obtain ⟨nm, e0, q0⟩ := rd_str t0
  obtain ⟨nul, e1⟩ := rd_bool t1
  obtain ⟨n2, rfl, _, hg⟩ := rd_struct u24 t2
  obtain ⟨y3, t3⟩ := hg 0 _ _ d24_0
  obtain ⟨y4, t4⟩ := hg 1 _ _ d24_1
  obtain ⟨y5, t5⟩ := hg 2 _ _ d24_2
  obtain ⟨y6, t6⟩ := hg 3 _ _ d24_3
  obtain ⟨y7, t7⟩ := hg 4 _ _ d24_4
  obtain ⟨k, e2, _⟩ := rd_int t3
  obtain ⟨w, e3, _⟩ := rd_int t4
  obtain ⟨id, e4, _⟩ := rd_int t5
  obtain ⟨ix, e5, _⟩ := rd_int t6
  obtain ⟨u, ds, e6, f1, f2, f3⟩ := ih n2 (by omega) t7
  simp [cz3, cz4, cz9, cz22, cz24] at e0 e1 e2 e3 e4 e5 e6
  subst e0 e1 e2 e3 e4 e5 e6
  exact ⟨.mk nm nul k w id ix ds, u, rfl, f1, by unfold Fld.sml; exact ⟨q0, f3, f2⟩⟩
theorem rd_flds : ∀ (fuel : Nat), FldsR H enc W fuel := by
  intro fuel
  induction fuel using Nat.strongRecOn with
  | _ fuel ih =>
    intro cs x h
    obtain ⟨s, n, rfl, rfl, hc, hm, hes⟩ := rd_slice u22 h
    obtain ⟨l, hl, hi⟩ := list_of (Q := fun i (f : Fld) => (∃ a, s.a = some a ∧ FldH (hpz W) (a.add (i * 7)) f) ∧ f.sml) fun i hi => by
      obtain ⟨a, cs', y, h1, h2, h3, h4⟩ := hes i hi
      rw [cz26] at h3
      obtain ⟨f, u, rfl, f1, f2⟩ := rd_fld1 (fun m hm => ih m (by omega)) h4
      exact ⟨f, ⟨a, h1, by obtain ⟨nm, nul, k, w, id, ix, ds⟩ := f; unfold FldH; exact ⟨u, h3, f1⟩⟩, f2⟩
    exact ⟨s, l, rfl, FsH.of hl.symm hc fun j f hj => (hi j f hj).1, smls.of fun j f hj => (hi j f hj).2, by omega⟩
theorem rd_fld (h : Rd enc W fuel 26 cs x) : ∃ (f : Fld) (u : Sl), cs = [.string f.name, .bool f.nul, .int .i64 f.k, .int .i64 f.w, .int .i64 f.id, .int .i64 f.ix, Sl.v u] ∧ FsH (hpz W) u f.cs ∧ f.sml := rd_fld1 (fun n _ => rd_flds n) h
/-- bytes -/
theorem rd_bytes (h : Rd enc W fuel 93 cs x) : ∃ (s : Sl) (l : List UInt8), cs = [s.v] ∧ Sv (hpz W) s (bv l) := by
  obtain ⟨s, n, rfl, rfl, hc, hm, hes⟩ := rd_slice u93 h
  obtain ⟨l, hl, hi⟩ := list_of (Q := fun i (b : UInt8) => ∃ a, s.a = some a ∧ cell (hpz W) (a.add i) = some (.int .u8 b.toNat)) fun i hi => by
    obtain ⟨a, cs', y, h1, h2, h3, h4⟩ := hes i hi
    obtain ⟨v, rfl, _, hw⟩ := DataW.trod_int u5 h4
    have hv := bounds_u8 hw
    refine ⟨UInt8.ofNat v.toNat, a, h1, ?_⟩
    have := Cs.c0 h3
    rw [cz5, Nat.mul_one] at this
    rw [this, UInt8.toNat_ofNat']
    have e : ((v.toNat % 2 ^ 8 : Nat) : Int) = v := by omega
    rw [e]
  refine ⟨s, l, rfl, ⟨by rw [bv_len]; omega, hc, fun k hk => ?_⟩⟩
  obtain ⟨a, ha, _⟩ := hi 0 l[0] (List.getElem?_eq_getElem (by omega))
  refine ⟨a, ha, fun i v hv => ?_⟩
  rw [bv, List.getElem?_map, Option.map_eq_some_iff] at hv
  obtain ⟨u, hu, rfl⟩ := hv
  obtain ⟨a', ha', hc'⟩ := hi i u hu
  rw [ha] at ha'; cases ha'; exact hc'
theorem rd_bufs (h : Rd enc W fuel 27 cs x) : ∃ (s : Sl) (bufs : List (List UInt8)), cs = [s.v] ∧ BfsA Tt Tt (hpz W) s bufs := by
  obtain ⟨s, n, rfl, rfl, hc, hm, hes⟩ := rd_slice u27 h
  obtain ⟨l, hl, hi⟩ := list_of (Q := fun i (p : Sl × List UInt8) => (∃ a, s.a = some a ∧ cell (hpz W) (a.add i) = some (Sl.v p.1)) ∧ Sv (hpz W) p.1 (bv p.2)) fun i hi => by
    obtain ⟨a, cs', y, h1, h2, h3, h4⟩ := hes i hi
    obtain ⟨t, b, rfl, v⟩ := rd_bytes h4
    have := Cs.c0 h3
    rw [cz93, Nat.mul_one] at this
    exact ⟨(t, b), ⟨a, h1, this⟩, v⟩
  refine ⟨s, l.map (·.2), rfl, l.map (·.1), by simp, ⟨⟨by simp [hl], hc, fun k hk => ?_⟩, fun _ _ _ => trivial⟩, fun j t b h1 h2 => ⟨?_, fun _ _ _ => trivial⟩⟩
  · obtain ⟨⟨a, ha, _⟩, _⟩ := hi 0 l[0] (List.getElem?_eq_getElem (by omega))
    refine ⟨a, ha, fun i v hv => ?_⟩
    rw [List.getElem?_map, List.getElem?_map] at hv
    cases hli : l[i]? with
    | none => rw [hli] at hv; simp at hv
    | some p =>
      rw [hli] at hv
      simp only [Option.map_some, Option.some.injEq] at hv
      subst hv
      obtain ⟨⟨a', ha', hc'⟩, _⟩ := hi i p hli
      rw [ha] at ha'; cases ha'; exact hc'
  · rw [List.getElem?_map] at h1 h2
    cases hli : l[j]? with
    | none => rw [hli] at h1; simp at h1
    | some p =>
      rw [hli] at h1 h2
      simp only [Option.map_some, Option.some.injEq] at h1 h2
      subst h1 h2
      exact (hi j p hli).2
def DatsR (H : Type) (enc : TypeId × Value → H) (W : World) (fuel : Nat) : Prop := ∀ {cs : List Value} {x : DataW H × List MemPlace}, Rd enc W fuel 28 cs x → ∃ (s : Sl) (ds : List Dat), cs = [s.v] ∧ DsA Tt Tt (hpz W) s ds ∧ dmac ds
theorem rd_dat1 (ih : ∀ n, n < fuel → DatsR H enc W n) (h : Rd enc W fuel 30 cs x) : ∃ (d : Dat) (p : Sl × Sl × Sl), cs = [.int .i64 d.len, .int .i64 d.off, .int .i64 d.nul, Sl.v p.1, Sl.v p.2.1, Sl.v p.2.2] ∧ DvH (hpz W) p d ∧ d.mac := by
  obtain ⟨n1, rfl, h2, hf⟩ := rd_struct u30 h
  rw [cz30] at h2
  obtain ⟨v0, v1, v2, v3, v4, v5, rfl⟩ := lenk6 h2
  obtain ⟨y0, t0⟩ := hf 0 _ _ d30_0
  obtain ⟨y1, t1⟩ := hf 1 _ _ d30_1
  obtain ⟨y2, t2⟩ := hf 2 _ _ d30_2
  obtain ⟨y3, t3⟩ := hf 3 _ _ d30_3
  obtain ⟨y4, t4⟩ := hf 4 _ _ d30_4
  obtain ⟨y5, t5⟩ := hf 5 _ _ d30_5
  obtain ⟨n, e0, q0⟩ := rd_int t0
  obtain ⟨o, e1, _⟩ := rd_int t1
  obtain ⟨u, e2, _⟩ := rd_int t2
  obtain ⟨s3, bufs, e3, b3⟩ := rd_bufs t3
  obtain ⟨s4, dcs, e4, b4, m4⟩ := ih n1 (by omega) t4
  obtain ⟨s5, dds, e5, b5, m5⟩ := ih n1 (by omega) t5
  simp [cz3, cz27, cz28] at e0 e1 e2 e3 e4 e5
  subst e0 e1 e2 e3 e4 e5
  exact ⟨.mk n o u bufs dcs dds, (s3, s4, s5), rfl, ⟨b3, b4, b5⟩, by unfold Dat.mac; exact ⟨q0, m4, m5⟩⟩
theorem rd_dats : ∀ (fuel : Nat), DatsR H enc W fuel := by
  intro fuel
  induction fuel using Nat.strongRecOn with
  | _ fuel ih =>
    intro cs x h
    obtain ⟨s, n, rfl, rfl, hc, hm, hes⟩ := rd_slice u28 h
    obtain ⟨l, hl, hi⟩ := list_of (Q := fun i (d : Dat) => (∃ a, s.a = some a ∧ DatA Tt Tt (hpz W) (a.add (i * 6)) d) ∧ d.mac) fun i hi => by
      obtain ⟨a, cs', y, h1, h2, h3, h4⟩ := hes i hi
      rw [cz30] at h3
      obtain ⟨d, p, rfl, v, m⟩ := rd_dat1 (fun m hm => ih m (by omega)) h4
      exact ⟨d, ⟨a, h1, DatA.of h3 v⟩, m⟩
    exact ⟨s, l, rfl, DsA.of2 hl.symm hc fun j d hj => (hi j d hj).1, dmac.of fun j d hj => (hi j d hj).2⟩
theorem rd_dat (h : Rd enc W fuel 30 cs x) : ∃ (d : Dat) (p : Sl × Sl × Sl), cs = [.int .i64 d.len, .int .i64 d.off, .int .i64 d.nul, Sl.v p.1, Sl.v p.2.1, Sl.v p.2.2] ∧ DvH (hpz W) p d ∧ d.mac := rd_dat1 (fun n _ => rd_dats n) h
theorem rd_part (h : Rd enc W fuel 58 cs x) : ∃ a b : Int, cs = [.int .i64 a, .int .i64 b] := by
  obtain ⟨n1, rfl, h2, hf⟩ := rd_struct u58 h
  rw [cz58] at h2
  obtain ⟨v0, v1, rfl⟩ := lenk2 h2
  obtain ⟨y0, t0⟩ := hf 0 _ _ d58_0
  obtain ⟨y1, t1⟩ := hf 1 _ _ d58_1
  obtain ⟨a, e0, _⟩ := rd_int t0
  obtain ⟨b, e1, _⟩ := rd_int t1
  simp [cz3] at e0 e1
  subst e0 e1
  exact ⟨a, b, rfl⟩
end
/-! ### the tables -/
def nmAcc : String := Rows.arrayCutsRow.named.getD 2 ""
def nmSays : String := Rows.arrayCutsRow.named.getD 0 ""
def nmFirst : String := Rows.arrayCutsRow.named.getD 1 ""
theorem gSays : Tryz.prog.globalNamed nmSays = some 0 := by kernel_rfl
theorem gFirst : Tryz.prog.globalNamed nmFirst = some 1 := by kernel_rfl
theorem gAcc : Tryz.prog.globalNamed nmAcc = some 2 := by kernel_rfl
theorem gtSays : (Tryz.prog.globals[0]?).map (·.type) = some 236 := by kernel_rfl
theorem gtFirst : (Tryz.prog.globals[1]?).map (·.type) = some 243 := by kernel_rfl
theorem gtAcc : (Tryz.prog.globals[2]?).map (·.type) = some 246 := by kernel_rfl
theorem laid_at {W : World} {n : String} {g t e N z fuel : Nat} {d : DataW Unit} {cs : Array Value} {p : List MemPlace} (hg : Tryz.prog.globalNamed n = some g) (hu : Tryz.prog.underlying t = some (.array N e)) (hz : Tryz.prog.cellsOf e = z)
    (hvar : W.var? Tryz.prog n = some cs) (hd : DataW.trod (fun _ => ()) Tryz.prog W 0 (fun _ => true) false fuel t cs.toList = some (d, p)) {i : Nat} (hi : i < N) :
    ∃ (l : List (DataW Unit)) (m : Nat) (y : DataW Unit × List MemPlace) (cs' : List Value), d = .agg l ∧ l[i]? = some y.1 ∧ DataW.trod (fun _ => ()) Tryz.prog W 0 (fun _ => true) false m e cs' = some y ∧ ∀ (k : Nat) v, k < z → cs'[k]? = some v → cell (hpz W) ⟨g, i * z + k, none⟩ = some v := by
  obtain ⟨xs, m, rfl, hx, hl, hxl, hh⟩ := DataW.trod_array hu hd
  rw [hz] at hh
  have hxi : xs[i]? = some xs[i] := List.getElem?_eq_getElem (by omega)
  have h1 := hh i hi
  rw [hxi] at h1
  refine ⟨xs.map (·.1), m, xs[i], (cs.toList.drop (i * z)).take z, congrArg Prod.fst hx, by rw [List.getElem?_map, hxi]; rfl, h1, fun k v hk hv => ?_⟩
  rw [cell_hpz]
  have := World.var?_cell hg hvar (i * z + k)
  rw [this]
  simpa [List.getElem?_take, List.getElem?_drop, hk] using hv
theorem says_at : ∀ (i : Nat) (d : DataW Unit), i < 21 → (match (Rows.laid_colonnade_kind_says : DataW Unit) with | .agg l => l[i]? | _ => none) = some d → ∃ a, d = .agg [a, .lit (.int .i64 (if i = 0 then 0 else widK i)), .lit (.int .i64 (if i = 0 then 0 else bufK i)), .lit (.bool (decide (3 ≤ i ∧ i ≤ 10)))] := by
  intro i d hi h
  rcases i with _ | _ | _ | _ | _ | _ | _ | _ | _ | _ | _ | _ | _ | _ | _ | _ | _ | _ | _ | _ | _ | i
  all_goals first | (obtain rfl := Option.some.inj h; exact ⟨_, rfl⟩) | omega
theorem laid_int {W : World} {m t : Nat} {cs : List Value} {y : DataW Unit × List MemPlace} {k : IntKind} {v : Int} (hu : Tryz.prog.underlying t = some (.int k)) (h : DataW.trod (fun _ => ()) Tryz.prog W 0 (fun _ => true) false m t cs = some y) (hy : y.1 = .lit (.int k v)) : cs = [.int k v] := by
  obtain ⟨w, rfl, e, _⟩ := DataW.trod_int hu h
  rw [e] at hy
  simp only [DataW.lit.injEq, Lit.int.injEq, true_and] at hy
  rw [hy]
theorem laid_bool {W : World} {m t : Nat} {cs : List Value} {y : DataW Unit × List MemPlace} {v : Bool} (hu : Tryz.prog.underlying t = some .bool) (h : DataW.trod (fun _ => ()) Tryz.prog W 0 (fun _ => true) false m t cs = some y) (hy : y.1 = .lit (.bool v)) : cs = [.bool v] := by
  obtain ⟨w, rfl, e⟩ := DataW.trod_bool hu h
  rw [e] at hy
  simp only [DataW.lit.injEq, Lit.bool.injEq] at hy
  rw [hy]
theorem laid_struct {W : World} {m t : Nat} {cs : List Value} {y : DataW Unit × List MemPlace} {l : List (DataW Unit)} (ht : Tryz.prog.underlying t = some (.struct (fsOf t))) (h : DataW.trod (fun _ => ()) Tryz.prog W 0 (fun _ => true) false m t cs = some y) (hy : y.1 = .agg l)
    {i : Nat} {ty : TypeId} {off : Nat} {d : DataW Unit} (hf : FdAt t i ty off) (hd : l[i]? = some d) : ∃ n z, DataW.trod (fun _ => ()) Tryz.prog W 0 (fun _ => true) false n ty ((cs.drop off).take (Tryz.prog.cellsOf ty)) = some z ∧ z.1 = d := by
  obtain ⟨xs, n, rfl, hz, hl, hlen, hh⟩ := DataW.trod_struct ht h
  unfold FdAt at hf
  rw [Option.map_eq_some_iff] at hf
  obtain ⟨f, hif, e⟩ := hf
  cases e
  have hlt : i < xs.length := by have := (Array.getElem?_eq_some_iff.1 hif).1; omega
  have := hh i f hif
  rw [List.getElem?_eq_getElem hlt] at this
  refine ⟨n, xs[i], this, ?_⟩
  have h1 : y.1 = .agg (xs.map (·.1)) := by rw [hz]
  rw [hy] at h1
  rw [DataW.agg.inj h1, List.getElem?_map, List.getElem?_eq_getElem hlt] at hd
  simpa using hd
theorem laid_get {cs : List Value} {off : Nat} {v : Value} (h : (cs.drop off).take 1 = [v]) : cs[off]? = some v := by
  have := congrArg (·[0]?) h
  simpa [List.getElem?_take, List.getElem?_drop] using this
theorem first_at (i : Nat) (hi : i < 256) : (match (Rows.laid_unicode_utf8_first : DataW Unit) with | .agg l => l[i]? | _ => none) = some (.lit (.int .u8 (uF i))) := by
  have h : ∀ j : Fin 256, (Pinned.utf8FirstZ[j.1]?) = some (uF j.1) := by decide +kernel
  have := h ⟨i, hi⟩
  show (Pinned.numbers .u8 Pinned.utf8FirstZ)[i]? = _
  unfold Pinned.numbers
  simp only [List.getElem?_map, this]
  rfl
theorem acc_at : ∀ (i : Nat) (d : DataW Unit), i < 16 → (match (Rows.laid_unicode_utf8_acceptRanges : DataW Unit) with | .agg l => l[i]? | _ => none) = some d → d = .agg [.lit (.int .u8 (uLo i)), .lit (.int .u8 (uHi i))] := by
  intro i d hi h
  rcases i with _ | _ | _ | _ | _ | _ | _ | _ | _ | _ | _ | _ | _ | _ | _ | _ | i
  all_goals first | (obtain rfl := Option.some.inj h; rfl) | omega
theorem tabs_of {W : World} (h : laidMetH Tryz.prog Rows.arrayCutsRow.laid W) : Tab (hpz W) ∧ UTab (hpz W) := by
  have h : laidMet Tryz.prog [(nmAcc, Rows.laid_unicode_utf8_acceptRanges), (nmSays, Rows.laid_colonnade_kind_says), (nmFirst, Rows.laid_unicode_utf8_first)] W := h
  obtain ⟨ps, ⟨g1, t1, cs1, f1, p1, q1, hg1, ht1, hv1, hd1, ⟨g2, t2, cs2, f2, p2, q2, hg2, ht2, hv2, hd2, ⟨g3, t3, cs3, f3, p3, q3, hg3, ht3, hv3, hd3, _, _⟩, _⟩, _⟩, _⟩ := h
  obtain rfl := Option.some.inj (gAcc.symm.trans hg1)
  obtain rfl := Option.some.inj (gtAcc.symm.trans ht1)
  obtain rfl := Option.some.inj (gSays.symm.trans hg2)
  obtain rfl := Option.some.inj (gtSays.symm.trans ht2)
  obtain rfl := Option.some.inj (gFirst.symm.trans hg3)
  obtain rfl := Option.some.inj (gtFirst.symm.trans ht3)
  have says : ∀ i, i < 21 → cell (hpz W) ⟨0, i * 4 + 1, none⟩ = some (.int .i64 (if i = 0 then 0 else widK i)) ∧ cell (hpz W) ⟨0, i * 4 + 2, none⟩ = some (.int .i64 (if i = 0 then 0 else bufK i)) ∧ cell (hpz W) ⟨0, i * 4 + 3, none⟩ = some (.bool (decide (3 ≤ i ∧ i ≤ 10))) := by
    intro i hi
    obtain ⟨l, m, y, cs', e1, e2, e3, e4⟩ := laid_at gSays u236 cz235 hv2 hd2 hi
    obtain ⟨a, hy⟩ := says_at i y.1 hi (by rw [e1]; exact e2)
    obtain ⟨n1, z1, r1, s1⟩ := laid_struct u235 e3 hy d235_1 rfl
    obtain ⟨n2, z2, r2, s2⟩ := laid_struct u235 e3 hy d235_2 rfl
    obtain ⟨n3, z3', r3, s3⟩ := laid_struct u235 e3 hy d235_3 rfl
    have c1 := laid_int u3 r1 s1
    have c2 := laid_int u3 r2 s2
    have c3 := laid_bool u4 r3 s3
    rw [cz3] at c1 c2
    rw [cz4] at c3
    exact ⟨e4 1 _ (by omega) (laid_get c1), e4 2 _ (by omega) (laid_get c2), e4 3 _ (by omega) (laid_get c3)⟩
  refine ⟨⟨fun i hi => (says i hi).2.2, fun i h1 h2 => ?_, fun i h1 h2 => ?_⟩, ⟨fun i hi => ?_, fun i hi => ?_⟩⟩
  · have := (says i (by omega)).2.1; rwa [if_neg (by omega)] at this
  · have := (says i (by omega)).1; rwa [if_neg (by omega)] at this
  · obtain ⟨l, m, y, cs', e1, e2, e3, e4⟩ := laid_at gFirst u243 cz5 hv3 hd3 hi
    have hy := first_at i hi
    rw [e1] at hy
    have hy : y.1 = .lit (.int .u8 (uF i)) := Option.some.inj (e2.symm.trans hy)
    have c := laid_int u5 e3 hy
    have := e4 0 (.int .u8 (uF i)) (by omega) (by rw [c]; rfl)
    simpa using this
  · obtain ⟨l, m, y, cs', e1, e2, e3, e4⟩ := laid_at gAcc u246 cz245 hv1 hd1 hi
    have hy := acc_at i y.1 hi (by rw [e1]; exact e2)
    obtain ⟨n1, z1, r1, s1⟩ := laid_struct u245 e3 hy d245_0 rfl
    obtain ⟨n2, z2, r2, s2⟩ := laid_struct u245 e3 hy d245_1 rfl
    have c1 := laid_int u5 r1 s1
    have c2 := laid_int u5 r2 s2
    rw [cz5] at c1 c2
    have q1 := e4 0 _ (by omega) (laid_get c1)
    rw [Nat.add_zero] at q1
    exact ⟨q1, e4 1 _ (by omega) (laid_get c2)⟩
end Go.Proofs.YtcgdhhchjgbhnaaGreatDoor
