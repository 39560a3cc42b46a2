import Derived.Test.YtfomkkdijjfpiaaDoorS8
import Derived.Test.YtfomkkdijjfpiaaDoorS13
import Derived.Test.YtfomkkdijjfpiaaDoorS14
import Derived.Test.YtfomkkdijjfpiaaDoorShLoc
import Derived.Test.YtfomkkdijjfpiaaDoorS9
import Derived.Test.YtfomkkdijjfpiaaDoorS2
import Derived.Test.YtfomkkdijjfpiaaDoorS3
import Derived.Test.YtfomkkdijjfpiaaDoorS15
import Derived.Test.YtfomkkdijjfpiaaDoorS16
import Derived.Test.YtfomkkdijjfpiaaDoorS17
import Derived.Test.YtfomkkdijjfpiaaDoorS18
import Derived.Laws.Strings
import Derived.WideShapes
set_option linter.unusedSimpArgs false
set_option linter.unusedVariables false
/- The writer of heads: bytes put at the end of a buffer of one's own. -/
namespace Go.Proofs.YtfomkkdijjfpiaaDoor
open Go Go.Sh
theorem Wr_any {k : IntKind} {x : Int} {K : Int → Prop} (h : K (k.wrap x)) : Wr k x K := h
theorem Lt_any {α : Type} {x : α} {K : α → Prop} (h : K x) : Lt x K := h
/-- bytes as values -/
def bv (l : List UInt8) : List Value := l.map fun b => .int .u8 b.toNat
theorem bv_append (a b : List UInt8) : bv (a ++ b) = bv a ++ bv b := by simp [bv]
theorem bv_len (a : List UInt8) : (bv a).length = a.length := by simp [bv]
theorem bv_one {a : List UInt8} : ∀ v ∈ bv a, one v = true := by intro v hv; simp only [bv, List.mem_map] at hv; obtain ⟨x, _, rfl⟩ := hv; rfl
/-- the low byte -/
def b8 (x : Int) : UInt8 := UInt8.ofNat (x % 256).toNat
theorem b8_v (x : Int) : IntKind.u8.wrap x = ((b8 x).toNat : Int) := by
  have e : IntKind.u8.wrap x = x % 256 := by simp [IntKind.wrap, IntKind.signed, IntKind.bits]
  rw [e, b8, UInt8.toNat_ofNat']
  omega
/-- a number in k bytes, the lowest first -/
def num (x : Int) : Nat → List UInt8
  | 0 => []
  | k + 1 => b8 x :: num (Int.fdiv x 256) k
theorem num_len (x : Int) (k : Nat) : (num x k).length = k := by induction k generalizing x <;> simp [num, *]
/-- what the writer may turn: its own cell, and bytes from lo on -/
def WX (p lo : Nat) (h : Hp) : Nat → Prop := fun b => b = p ∨ (lo ≤ b ∧ ∃ cs, Blk h b cs 5)
theorem WX.trans {p lo : Nat} {a b c : Hp} (x : Tn (WX p lo a) a b) (y : Tn (WX p lo b) b c) : Tn (WX p lo a) a c := by
  refine x.trans' y ?_
  intro d hd hlt
  by_cases hw : WX p lo a d
  · exact hw
  · rcases hd with hd | ⟨h1, cs, hb⟩
    · exact .inl hd
    · exact .inr ⟨h1, cs, (x.2 d hlt hw).symm.trans hb⟩
theorem Ap_at {h : Hp} {p : Nat} {s : Sl} {C : Sl → Prop} (k : Blk h p #[Sl.v s] 50) (H : ∃ s', Blk h p #[Sl.v s'] 50 ∧ C s') : C s := by
  obtain ⟨s', k', c⟩ := H
  have e := k.symm.trans k'
  simp only [Option.some.injEq, Obj.cells.injEq, Array.mk.injEq, List.cons.injEq, and_true] at e
  exact Sl.v_inj e ▸ c
/-- the writer at p: its buffer holds the bytes l -/
structure Wtr (p lo : Nat) (h : Hp) (l : List UInt8) : Prop where
  ex : ∃ s, Blk h p #[Sl.v s] 50 ∧ Sh lo h.size 1 h s (bv l) 5
  lt : p < lo
  le : lo ≤ h.size
/-- bytes at the end -/
theorem Wtr.app {p lo : Nat} {h : Hp} {l new : List UInt8} {n : Nat} {vals : List Value → Prop} {K : Hp → Prop} (w : Wtr p lo h l) (hn : new.length = n) (hv : vals (bv new)) (hl : l.length + n ≤ 2 ^ 40)
    (hk : ∀ h', Tn (WX p lo h) h h' → Wtr p lo h' (l ++ new) → K h') :
    ∃ s, Blk h p #[Sl.v s] 50 ∧ Ap h 5 #[(.int .u8 (0 : Int))] 1 1 s n vals fun t' h2 => St h2 ⟨p, 0, none⟩ (Sl.v t') fun h3 => K h3 := by
  obtain ⟨s, k, o⟩ := w.ex
  refine ⟨s, k, ?_⟩
  have hs := o.n
  rw [bv_len] at hs
  refine Ap_sh o w.le rfl (new := bv new) (by rw [bv_len]; omega) bv_one hv (by omega) (by omega) fun s' h2 f2 at2 o2 hn2 => ?_
  have hat : ∀ c, s.at c → WX p lo h c := by
    intro c hc
    rcases o with ⟨rfl, _⟩ | ⟨b, hb1, hb2, ob⟩
    · exact absurd hc (Sl.at_nil c)
    · obtain ⟨a, ha, hb⟩ := hc
      obtain ⟨e, _, cs, kb, _⟩ := ob
      rw [e] at ha; cases ha; simp only at hb; subst hb
      exact .inr ⟨hb1, cs, kb⟩
  have hnp : ¬ s.at p := fun hc => by have := (o.at hc).1; have := w.lt; omega
  have k2 := f2.blk k hnp
  refine St_i k2 (by simp) rfl fun h3 o3 k3 => ?_
  have f3 : Tn (WX p lo h) h h3 := (f2.mono fun d hd _ => hat d hd).trans (o3.fr.mono fun d hd _ => .inl hd)
  refine hk h3 f3 ⟨⟨s', k3, ?_⟩, w.lt, by have := w.le; have := f2.1; have := o3.1; omega⟩
  rw [bv_append]
  have o2' := o2.fr o3.fr fun b hb _ e => by have := w.lt; omega
  exact o2'.wide (Nat.le_refl _) (by have := o3.1; omega)
theorem Wtr.keep {p lo : Nat} {h h' : Hp} {l : List UInt8} (w : Wtr p lo h l) (g : Grw h h') : Wtr p lo h' l := by
  obtain ⟨s, k, o⟩ := w.ex
  exact ⟨⟨s, (g.2 p k.lt).trans k, (o.grw g).wide (Nat.le_refl _) g.1⟩, w.lt, by have := w.le; have := g.1; omega⟩
theorem WX.grw {p lo : Nat} {a b c : Hp} (x : Grw a b) (y : Tn (WX p lo b) b c) : Tn (WX p lo a) a c := WX.trans (Tn.of_grw x) y
theorem number_c {p lo : Nat} {h : Hp} {l : List UInt8} {x width : Int} {K : Hp → Prop} {Kp : List PanicEntry → Hp → Prop} (w : Wtr p lo h l) (h0 : 0 ≤ width) (h8 : width ≤ 8) (hl : l.length + 8 ≤ 2 ^ 40)
    (hk : ∀ h', Tn (WX p lo h) h h' → Wtr p lo h' (l ++ num x width.toNat) → K h') : Fn22 (some ⟨p, 0, none⟩) x width h K Kp := by
  refine Fn22.of ?_
  unfold S22
  refine L22_1.rule (fun y k h' => ∃ l', 0 ≤ k ∧ k ≤ width ∧ l'.length = l.length + k.toNat ∧ Tn (WX p lo h) h h' ∧ Wtr p lo h' l' ∧ l' ++ num y (width - k).toNat = l ++ num x width.toNat) (fun _ k _ => (width - k).toNat) ⟨l, by omega, h0, by simp, Tn.refl _ _, w, by simp⟩ ?_
  rintro y k h1 ⟨l', hk0, hk1, hll, f1, w1, e1⟩ N1 hN
  unfold T22_1
  refine If_i (fun c => ?_) fun c => ?_
  · simp only [decide_eq_true_eq] at c
    have hstep := fun {K : Hp → Prop} (b : Nat) (h2 : Hp) (g2 : Grw h1 h2) (k2 : Blk h2 b #[Value.int .u8 (IntKind.u8.wrap y)] 5) => (w1.keep g2).app (new := [b8 y]) (n := 1) (vals := rd h2 (some ⟨b, 0, none⟩) (1 * 1)) (K := K) rfl (by
      refine ⟨rfl, fun i v hi => ?_⟩
      rw [add_blk, cell_blk k2, b8_v, Nat.zero_add, ← hi]; simp [bv]) (by omega)
    obtain ⟨s, kk, oo⟩ := w1.ex
    refine Ld_blk kk rfl ?_
    refine Wr_any (New_i fun b h2 e2 g2 k2 _ => ?_)
    refine Ap_at ((g2.2 p kk.lt).trans kk) (hstep (K := fun h3 => Nn (8 : Int) <| Lt (Int.fdiv y (2 ^ (min (Int.toNat (8 : Int)) (IntKind.bits .i64)))) fun t21 => Wr .i64 (k + (1 : Int)) fun t22 => N1 (mk22_1 (some ⟨p, 0, none⟩) width t21 t22) h3) b h2 g2 k2 fun h3 f3 w3 => ?_)
    refine Nn_i (by omega) (Lt_any ?_)
    refine Wr_i64 (by omega) (by omega) ?_
    refine hN _ _ _ ⟨l' ++ [b8 y], by omega, by omega, by simp; omega, WX.trans f1 (WX.grw g2 f3), w3, ?_⟩ (by omega)
    rw [← e1, List.append_assoc]
    have e : (width - k).toNat = (width - (k + 1)).toNat + 1 := by omega
    rw [e]; rfl
  · simp only [decide_eq_false_iff_not] at c
    have e : (width - k).toNat = 0 := by omega
    rw [e] at e1
    simp only [num, List.append_nil] at e1
    exact hk h1 f1 (e1 ▸ w1)
end Go.Proofs.YtfomkkdijjfpiaaDoor
/- The writer of heads: texts, flags, fields. -/
namespace Go.Proofs.YtfomkkdijjfpiaaDoor
open Go Go.Sh
/-- a field -/
inductive Fld
  | mk (name : ByteArray) (nul : Bool) (kind width id ix : Int) (cs : List Fld)
/-- what stands in the seven cells of a field -/
def vals7 (n : ByteArray) (nul : Bool) (k w id ix : Int) (s : Sl) : List Value := [.string n, .bool nul, .int .i64 k, .int .i64 w, .int .i64 id, .int .i64 ix, Sl.v s]
mutual
/-- a slice of fields -/
def FsH (h : Hp) (s : Sl) : List Fld → Prop
  | [] => s.n = 0 ∧ s.n ≤ s.c
  | f :: fs => s.n = fs.length + 1 ∧ s.n ≤ s.c ∧ ∃ a, s.a = some a ∧ FldH h a f ∧ FrH h a 1 fs
/-- the fields from the i-th on -/
def FrH (h : Hp) (a : Addr) (i : Nat) : List Fld → Prop
  | [] => True
  | f :: fs => FldH h (a.add (i * 7)) f ∧ FrH h a (i + 1) fs
def FldH (h : Hp) (a : Addr) : Fld → Prop
  | .mk n nul k w id ix cs => ∃ s, Cs h a (vals7 n nul k w id ix s) ∧ FsH h s cs
end
mutual
def Fld.enc : Fld → List UInt8
  | .mk n nul k w id ix cs => num n.size 1 ++ n.data.toList ++ num (if nul then 1 else 0) 1 ++ num k 1 ++
      (if k = 14 ∨ k = 16 then num w 2 else if k = 19 then num id 2 ++ num ix 1 else if k = 17 ∨ k = 18 then num cs.length 1 else []) ++ encs cs
def encs : List Fld → List UInt8
  | [] => []
  | f :: fs => f.enc ++ encs fs
end
theorem flag_c {p lo : Nat} {h : Hp} {l : List UInt8} {b : Bool} {K : Hp → Prop} {Kp : List PanicEntry → Hp → Prop} (w : Wtr p lo h l) (hl : l.length + 8 ≤ 2 ^ 40)
    (hk : ∀ h', Tn (WX p lo h) h h' → Wtr p lo h' (l ++ num (if b then 1 else 0) 1) → K h') : Fn24 (some ⟨p, 0, none⟩) b h K Kp := by
  refine Fn24.of ?_
  unfold S24
  cases b
  · exact If_f rfl (number_c w (by omega) (by omega) hl hk)
  · exact If_t rfl (number_c w (by omega) (by omega) hl hk)
theorem text_c {p lo : Nat} {h : Hp} {l : List UInt8} {s : ByteArray} {width : Int} {K : Hp → Prop} {Kp : List PanicEntry → Hp → Prop} (w : Wtr p lo h l) (h0 : 0 ≤ width) (h8 : width ≤ 8) (hl : l.length + 8 + s.size ≤ 2 ^ 40)
    (hk : ∀ h', Tn (WX p lo h) h h' → Wtr p lo h' (l ++ (num s.size width.toNat ++ s.data.toList)) → K h') : Fn44 (some ⟨p, 0, none⟩) s width h K Kp := by
  refine Fn44.of ?_
  unfold S44
  refine number_c w h0 h8 (by omega) fun h1 f1 w1 => ?_
  obtain ⟨s1, k1, a1⟩ := w1.app (new := s.data.toList) (n := s.size) (vals := fun vs => vs = s.data.toList.map fun b => Value.int .u8 b.toNat) (K := K) rfl rfl (by rw [List.length_append, num_len]; omega) fun h2 f2 w2 => hk h2 (WX.trans f1 f2) (by rw [← List.append_assoc]; exact w2)
  exact Ld_blk (K := fun t => Ap h1 5 #[(.int .u8 (0 : Int))] 1 1 t s.size _ _) k1 rfl a1
theorem encs_len : ∀ cs : List Fld, cs.length ≤ (encs cs).length
  | [] => by simp [encs]
  | f :: fs => by
    have h1 := encs_len fs
    have h2 : 1 ≤ f.enc.length := by cases f; simp only [Fld.enc, List.length_append, num_len]; omega
    simp only [encs, List.length_append, List.length_cons]; omega
theorem WX.old {p lo : Nat} {h0 h h' : Hp} (hp : h0.size ≤ p) (w : p < lo) (g : Grw h0 h) (f : Tn (WX p lo h) h h') : Grw h0 h' := by
  refine ⟨Nat.le_trans g.1 f.1, fun c hc => (f.2 c (Nat.lt_of_lt_of_le hc g.1) ?_).trans (g.2 c hc)⟩
  rintro (h1 | ⟨h1, _⟩) <;> omega
theorem WX.not {p lo b : Nat} {h : Hp} {cs : Array Value} {el : TypeId} (k : Blk h b cs el) (hb : b ≠ p) (he : el ≠ 5) : ¬ WX p lo h b := by
  rintro (h1 | ⟨_, cs', k'⟩)
  · exact hb h1
  · have e := k.symm.trans k'
    simp only [Option.some.injEq, Obj.cells.injEq] at e
    exact he e.2.1
theorem FrH.get {h : Hp} {a : Addr} : ∀ {fs : List Fld} {i : Nat}, FrH h a i fs → ∀ (j : Nat) f, fs[j]? = some f → FldH h (a.add ((i + j) * 7)) f
  | [], _, _, _, _, hj => by simp at hj
  | f :: fs, i, hh, 0, g, hj => by simp at hj; subst hj; unfold FrH at hh; exact hh.1
  | f :: fs, i, hh, j + 1, g, hj => by
    unfold FrH at hh
    have := FrH.get hh.2 j g (by simpa using hj)
    have e : i + (j + 1) = i + 1 + j := by omega
    rw [e]; exact this
/-- each field of a slice -/
theorem FsH.get {h : Hp} {s : Sl} {fs : List Fld} (hh : FsH h s fs) {j : Nat} {f : Fld} (hj : fs[j]? = some f) : ∃ a, s.a = some a ∧ FldH h (a.add (j * 7)) f := by
  cases fs with
  | nil => simp at hj
  | cons g gs =>
    unfold FsH at hh
    obtain ⟨_, _, a, ha, h1, h2⟩ := hh
    refine ⟨a, ha, ?_⟩
    cases j with
    | zero =>
      simp at hj; subst hj
      have e : a.add (0 * 7) = a := by simp [Addr.add]
      rw [e]; exact h1
    | succ j =>
      have := h2.get j f (by simpa using hj)
      have e : 1 + j = j + 1 := by omega
      rw [e] at this; exact this
theorem FsH.n {h : Hp} {s : Sl} {fs : List Fld} (hh : FsH h s fs) : s.n = fs.length ∧ s.n ≤ s.c := by
  cases fs with
  | nil => unfold FsH at hh; exact hh
  | cons g gs => unfold FsH at hh; exact ⟨hh.1, hh.2.1⟩
end Go.Proofs.YtfomkkdijjfpiaaDoor
/- The writer of heads: a field with its children. -/
namespace Go.Proofs.YtfomkkdijjfpiaaDoor
open Go Go.Sh
/-- what the writer does with a field -/
def FieldC : Fld → Prop
  | .mk n nul k w id ix cs => ∀ {p lo : Nat} {h0 h : Hp} {l : List UInt8} {s : Sl} {K : Hp → Prop} {Kp : List PanicEntry → Hp → Prop}, h0.size ≤ p → Grw h0 h → FsH h0 s cs → Wtr p lo h l →
      l.length + (Fld.enc (.mk n nul k w id ix cs)).length + 1000 ≤ 2 ^ 40 → (∀ h', Tn (WX p lo h) h h' → Wtr p lo h' (l ++ Fld.enc (.mk n nul k w id ix cs)) → K h') →
      Fn43 (some ⟨p, 0, none⟩) n nul k w id ix s h K Kp
theorem fieldL_c {cs : List Fld} (IH : ∀ f ∈ cs, FieldC f) {p lo : Nat} {h0 h : Hp} {l : List UInt8} {s : Sl} {K : Hp → Prop} {Kp : List PanicEntry → Hp → Prop} (hp : h0.size ≤ p) (g : Grw h0 h) (hs : FsH h0 s cs) (w : Wtr p lo h l)
    (hl : l.length + (encs cs).length + 1000 ≤ 2 ^ 40) (hk : ∀ h', Tn (WX p lo h) h h' → Wtr p lo h' (l ++ encs cs) → K h') : L43_2 (some ⟨p, 0, none⟩) s (s.n : Int) K Kp 0 h := by
  have hn := hs.n
  have hcl := encs_len cs
  refine L43_2.rule (fun x h' => ∃ i : Nat, ∃ l', x = (i : Int) ∧ i ≤ cs.length ∧ Tn (WX p lo h) h h' ∧ Wtr p lo h' l' ∧ l' ++ encs (cs.drop i) = l ++ encs cs) (fun x _ => cs.length - x.toNat) ⟨0, l, rfl, by omega, Tn.refl _ _, w, by simp⟩ ?_
  rintro x h1 ⟨i, l', rfl, hi, f1, w1, e1⟩ N1 hN
  unfold T43_2
  refine If_i (fun c => ?_) fun c => ?_
  · simp only [decide_eq_true_eq] at c
    have hi' : i < cs.length := by omega
    have hj : cs[i]? = some cs[i] := List.getElem?_eq_getElem hi'
    obtain ⟨a, ha, hf⟩ := hs.get hj
    have hmem : cs[i] ∈ cs := List.getElem_mem hi'
    have hdr : cs.drop i = cs[i] :: cs.drop (i + 1) := List.drop_eq_getElem_cons hi'
    generalize cs[i] = f at hj hf hmem hdr
    obtain ⟨n, nul, k, wd, id, ix, ds⟩ := f
    unfold FldH at hf
    obtain ⟨t, hc, ht⟩ := hf
    have g1 := WX.old hp w.lt g f1
    have hc1 := hc.grw g1
    have c0 := hc1 0 _ rfl; have c1 := hc1 1 _ rfl; have c2 := hc1 2 _ rfl; have c3 := hc1 3 _ rfl; have c4 := hc1 4 _ rfl; have c5 := hc1 5 _ rfl; have c6 := hc1 6 _ rfl
    have ez : (a.add (i * 7)).add 0 = a.add (i * 7) := by unfold Addr.add; split <;> simp_all
    rw [ez] at c0
    rw [ha]
    refine ⟨by omega, by omega, ?_⟩
    rw [Int.toNat_natCast]
    refine ⟨_, c0, _, c1, _, c2, _, c3, _, c4, _, c5, _, c6, ?_⟩
    have lc := SyH.start No h1
    repeat (first | refine lc.ldo 0 rfl rfl ?_ | refine lc.ld 0 rfl rfl ?_ | refine lc.ldo 1 rfl rfl ?_ | refine lc.ld 1 rfl rfl ?_ | refine lc.ldo 2 rfl rfl ?_ | refine lc.ld 2 rfl rfl ?_ | refine lc.ldo 3 rfl rfl ?_ | refine lc.ld 3 rfl rfl ?_ | refine lc.ldo 4 rfl rfl ?_ | refine lc.ld 4 rfl rfl ?_ | refine lc.ldo 5 rfl rfl ?_ | refine lc.ld 5 rfl rfl ?_ | refine lc.ldo 6 rfl rfl ?_ | refine lc.ld 6 rfl rfl ?_ | (refine lc.sto 0 rfl rfl rfl fun _ _ lc => ?_; simp only [Nat.zero_add, List.set_cons_zero, List.set_cons_succ, List.setIfInBounds_toArray] at lc) | (refine lc.st 0 rfl rfl rfl fun _ _ lc => ?_; simp only [Nat.zero_add, List.set_cons_zero, List.set_cons_succ, List.setIfInBounds_toArray] at lc) | (refine lc.sto 1 rfl rfl rfl fun _ _ lc => ?_; simp only [Nat.zero_add, List.set_cons_zero, List.set_cons_succ, List.setIfInBounds_toArray] at lc) | (refine lc.st 1 rfl rfl rfl fun _ _ lc => ?_; simp only [Nat.zero_add, List.set_cons_zero, List.set_cons_succ, List.setIfInBounds_toArray] at lc) | (refine lc.sto 2 rfl rfl rfl fun _ _ lc => ?_; simp only [Nat.zero_add, List.set_cons_zero, List.set_cons_succ, List.setIfInBounds_toArray] at lc) | (refine lc.st 2 rfl rfl rfl fun _ _ lc => ?_; simp only [Nat.zero_add, List.set_cons_zero, List.set_cons_succ, List.setIfInBounds_toArray] at lc) | (refine lc.sto 3 rfl rfl rfl fun _ _ lc => ?_; simp only [Nat.zero_add, List.set_cons_zero, List.set_cons_succ, List.setIfInBounds_toArray] at lc) | (refine lc.st 3 rfl rfl rfl fun _ _ lc => ?_; simp only [Nat.zero_add, List.set_cons_zero, List.set_cons_succ, List.setIfInBounds_toArray] at lc) | (refine lc.sto 4 rfl rfl rfl fun _ _ lc => ?_; simp only [Nat.zero_add, List.set_cons_zero, List.set_cons_succ, List.setIfInBounds_toArray] at lc) | (refine lc.st 4 rfl rfl rfl fun _ _ lc => ?_; simp only [Nat.zero_add, List.set_cons_zero, List.set_cons_succ, List.setIfInBounds_toArray] at lc) | (refine lc.sto 5 rfl rfl rfl fun _ _ lc => ?_; simp only [Nat.zero_add, List.set_cons_zero, List.set_cons_succ, List.setIfInBounds_toArray] at lc) | (refine lc.st 5 rfl rfl rfl fun _ _ lc => ?_; simp only [Nat.zero_add, List.set_cons_zero, List.set_cons_succ, List.setIfInBounds_toArray] at lc) | (refine lc.sto 6 rfl rfl rfl fun _ _ lc => ?_; simp only [Nat.zero_add, List.set_cons_zero, List.set_cons_succ, List.setIfInBounds_toArray] at lc) | (refine lc.st 6 rfl rfl rfl fun _ _ lc => ?_; simp only [Nat.zero_add, List.set_cons_zero, List.set_cons_succ, List.setIfInBounds_toArray] at lc) | refine lc.ldo 0 (x := Sl.nil) rfl rfl ?_ | refine lc.ld 0 (x := Sl.nil) rfl rfl ?_ | refine lc.ldo 1 (x := Sl.nil) rfl rfl ?_ | refine lc.ld 1 (x := Sl.nil) rfl rfl ?_ | refine lc.ldo 2 (x := Sl.nil) rfl rfl ?_ | refine lc.ld 2 (x := Sl.nil) rfl rfl ?_ | refine lc.ldo 3 (x := Sl.nil) rfl rfl ?_ | refine lc.ld 3 (x := Sl.nil) rfl rfl ?_ | refine lc.ldo 4 (x := Sl.nil) rfl rfl ?_ | refine lc.ld 4 (x := Sl.nil) rfl rfl ?_ | refine lc.ldo 5 (x := Sl.nil) rfl rfl ?_ | refine lc.ld 5 (x := Sl.nil) rfl rfl ?_ | refine lc.ldo 6 (x := Sl.nil) rfl rfl ?_ | refine lc.ld 6 (x := Sl.nil) rfl rfl ?_ | refine lc.new fun _ _ _ _ lc => ?_ | refine Wr_i64 (by omega) (by omega) ?_ | refine If_t rfl ?_ | refine If_f rfl ?_)
    rw [hdr, encs] at e1
    have hlen := congrArg List.length e1
    simp only [List.length_append] at hlen
    refine IH _ hmem hp (Grw.trans g1 lc.grw) ht (w1.keep lc.grw) (by omega) fun h2 f2 w2 => ?_
    refine Wr_i64 (by omega) (by omega) ?_
    refine hN _ _ ⟨i + 1, _, by simp, by omega, WX.trans f1 (WX.grw lc.grw f2), w2, ?_⟩ (by omega)
    rw [← e1, List.append_assoc]
  · simp only [decide_eq_false_iff_not] at c
    have : i = cs.length := by omega
    subst this
    rw [List.drop_length, encs, List.append_nil] at e1
    exact hk h1 f1 (e1 ▸ w1)
end Go.Proofs.YtfomkkdijjfpiaaDoor
/- The writer of heads: a field with its children, the whole. -/
namespace Go.Proofs.YtfomkkdijjfpiaaDoor
open Go Go.Sh
theorem field_step {n : ByteArray} {nul : Bool} {k w id ix : Int} {cs : List Fld} (IH : ∀ f ∈ cs, FieldC f) : FieldC (.mk n nul k w id ix cs) := by
  intro p lo h0 h l s K Kp hp g hs w0 hl hk
  simp only [Fld.enc, List.length_append, num_len, List.append_assoc] at hl hk
  have hns : n.data.toList.length = n.size := rfl
  have hsn := hs.n
  refine Fn43.of ?_
  unfold S43
  refine New_i fun b3 h1 e3 g1 k3 _ => ?_
  have hpl := w0.lt
  have hll := w0.le
  have nb3 : b3 ≠ p := by omega
  refine Ld_blk k3 rfl ?_
  have w1 := w0.keep g1
  refine text_c w1 (by omega) (by omega) (by omega) fun h2 f2 w2 => ?_
  have F2 := WX.grw g1 f2
  have k3 := f2.blk k3 (WX.not k3 nb3 (by decide))
  rw [add_blk]
  refine Ld_blk k3 rfl ?_
  refine flag_c w2 (by simp only [List.length_append, num_len]; omega) fun h3 f3 w3 => ?_
  have F3 := WX.trans F2 f3
  have k3 := f3.blk k3 (WX.not k3 nb3 (by decide))
  simp only [add_blk]
  refine Ld_blk k3 rfl (Ld_blk k3 rfl (Ld_blk k3 rfl (Ld_blk k3 rfl (Ld_blk k3 rfl ?_))))
  have lc := SyH.start No h3
  refine lc.new fun b4 _ hb4 _ lc => ?_
  repeat (first | refine lc.ldo 0 rfl rfl ?_ | refine lc.ld 0 rfl rfl ?_ | refine lc.ldo 1 rfl rfl ?_ | refine lc.ld 1 rfl rfl ?_ | refine lc.ldo 2 rfl rfl ?_ | refine lc.ld 2 rfl rfl ?_ | refine lc.ldo 3 rfl rfl ?_ | refine lc.ld 3 rfl rfl ?_ | refine lc.ldo 4 rfl rfl ?_ | refine lc.ld 4 rfl rfl ?_ | refine lc.ldo 5 rfl rfl ?_ | refine lc.ld 5 rfl rfl ?_ | refine lc.ldo 6 rfl rfl ?_ | refine lc.ld 6 rfl rfl ?_ | (refine lc.sto 0 rfl rfl rfl fun _ _ lc => ?_; simp only [Nat.zero_add, List.set_cons_zero, List.set_cons_succ, List.setIfInBounds_toArray] at lc) | (refine lc.st 0 rfl rfl rfl fun _ _ lc => ?_; simp only [Nat.zero_add, List.set_cons_zero, List.set_cons_succ, List.setIfInBounds_toArray] at lc) | (refine lc.sto 1 rfl rfl rfl fun _ _ lc => ?_; simp only [Nat.zero_add, List.set_cons_zero, List.set_cons_succ, List.setIfInBounds_toArray] at lc) | (refine lc.st 1 rfl rfl rfl fun _ _ lc => ?_; simp only [Nat.zero_add, List.set_cons_zero, List.set_cons_succ, List.setIfInBounds_toArray] at lc) | (refine lc.sto 2 rfl rfl rfl fun _ _ lc => ?_; simp only [Nat.zero_add, List.set_cons_zero, List.set_cons_succ, List.setIfInBounds_toArray] at lc) | (refine lc.st 2 rfl rfl rfl fun _ _ lc => ?_; simp only [Nat.zero_add, List.set_cons_zero, List.set_cons_succ, List.setIfInBounds_toArray] at lc) | (refine lc.sto 3 rfl rfl rfl fun _ _ lc => ?_; simp only [Nat.zero_add, List.set_cons_zero, List.set_cons_succ, List.setIfInBounds_toArray] at lc) | (refine lc.st 3 rfl rfl rfl fun _ _ lc => ?_; simp only [Nat.zero_add, List.set_cons_zero, List.set_cons_succ, List.setIfInBounds_toArray] at lc) | (refine lc.sto 4 rfl rfl rfl fun _ _ lc => ?_; simp only [Nat.zero_add, List.set_cons_zero, List.set_cons_succ, List.setIfInBounds_toArray] at lc) | (refine lc.st 4 rfl rfl rfl fun _ _ lc => ?_; simp only [Nat.zero_add, List.set_cons_zero, List.set_cons_succ, List.setIfInBounds_toArray] at lc) | (refine lc.sto 5 rfl rfl rfl fun _ _ lc => ?_; simp only [Nat.zero_add, List.set_cons_zero, List.set_cons_succ, List.setIfInBounds_toArray] at lc) | (refine lc.st 5 rfl rfl rfl fun _ _ lc => ?_; simp only [Nat.zero_add, List.set_cons_zero, List.set_cons_succ, List.setIfInBounds_toArray] at lc) | (refine lc.sto 6 rfl rfl rfl fun _ _ lc => ?_; simp only [Nat.zero_add, List.set_cons_zero, List.set_cons_succ, List.setIfInBounds_toArray] at lc) | (refine lc.st 6 rfl rfl rfl fun _ _ lc => ?_; simp only [Nat.zero_add, List.set_cons_zero, List.set_cons_succ, List.setIfInBounds_toArray] at lc) | refine lc.ldo 0 (x := Sl.nil) rfl rfl ?_ | refine lc.ld 0 (x := Sl.nil) rfl rfl ?_ | refine lc.ldo 1 (x := Sl.nil) rfl rfl ?_ | refine lc.ld 1 (x := Sl.nil) rfl rfl ?_ | refine lc.ldo 2 (x := Sl.nil) rfl rfl ?_ | refine lc.ld 2 (x := Sl.nil) rfl rfl ?_ | refine lc.ldo 3 (x := Sl.nil) rfl rfl ?_ | refine lc.ld 3 (x := Sl.nil) rfl rfl ?_ | refine lc.ldo 4 (x := Sl.nil) rfl rfl ?_ | refine lc.ld 4 (x := Sl.nil) rfl rfl ?_ | refine lc.ldo 5 (x := Sl.nil) rfl rfl ?_ | refine lc.ld 5 (x := Sl.nil) rfl rfl ?_ | refine lc.ldo 6 (x := Sl.nil) rfl rfl ?_ | refine lc.ld 6 (x := Sl.nil) rfl rfl ?_ | refine Wr_i64 (by omega) (by omega) ?_ | refine If_t rfl ?_ | refine If_f rfl ?_)
  have nb4 : b4 ≠ p := by have := w3.lt; have := w3.le; omega
  have k4 : Blk _ b4 #[.int .i64 k, .int .i64 w, .int .i64 id, .int .i64 ix, Sl.v s] 61 := lc.blk (i := 0) rfl
  have F4 := F3.trans' (Tn.of_grw lc.grw : Tn No _ _) (fun _ t _ => t.elim)
  have w4 := w3.keep lc.grw
  clear lc
  rename_i h9 _ _
  refine number_c w4 (by omega) (by omega) (by simp only [List.length_append, num_len]; omega) fun h5 f5 w5 => ?_
  have F5 := WX.trans F4 f5
  have k4 := f5.blk k4 (WX.not k4 nb4 (show (61 : Nat) ≠ 5 by decide))
  refine Ld_blk k4 rfl ?_
  have j1 : ∀ (h6 : Hp) (l6 : List UInt8), Tn (WX p lo h) h h6 → Wtr p lo h6 (l ++ l6) → Blk h6 b4 #[.int .i64 k, .int .i64 w, .int .i64 id, .int .i64 ix, Sl.v s] 61 → l.length + l6.length + (encs cs).length + 1000 ≤ 2 ^ 40 →
      (∀ h', Tn (WX p lo h) h h' → Wtr p lo h' (l ++ (l6 ++ encs cs)) → K h') → J43_1 (some ⟨p, 0, none⟩) ⟨b4, 0, none⟩ K Kp h6 := by
    intro h6 l6 F6 w6 k6 hl6 hk6
    refine J43_1.of ?_
    unfold JT43_1
    rw [add_blk]
    refine Ld_blk k6 rfl ?_
    refine fieldL_c IH hp (WX.old hp w0.lt g F6) hs w6 (by simp only [List.length_append]; omega) fun h7 f7 w7 => hk6 h7 (WX.trans F6 f7) (by rw [← List.append_assoc]; exact w7)
  have e1w : (1 : Int).toNat = 1 := rfl
  have e2w : (2 : Int).toNat = 2 := rfl
  have hfin : ∀ (h6 : Hp) (mid : List UInt8), Tn (WX p lo h) h h6 → Wtr p lo h6 (l ++ (num n.size 1 ++ (n.data.toList ++ (num (if nul then 1 else 0) 1 ++ (num k 1 ++ mid))))) → Blk h6 b4 #[.int .i64 k, .int .i64 w, .int .i64 id, .int .i64 ix, Sl.v s] 61 → mid.length ≤ 3 →
      (if k = 14 ∨ k = 16 then num w 2 else if k = 19 then num id 2 ++ num ix 1 else if k = 17 ∨ k = 18 then num cs.length 1 else []) = mid → J43_1 (some ⟨p, 0, none⟩) ⟨b4, 0, none⟩ K Kp h6 := by
    intro h6 mid F6 w6 k6 hm hmid
    rw [hmid] at hk hl
    refine j1 h6 _ F6 w6 k6 (by simp only [List.length_append, num_len]; omega) fun h' F' w' => hk h' F' ?_
    simpa only [List.append_assoc] using w'
  simp only [e1w, List.append_assoc] at w5
  have j3 : J43_3 (some ⟨p, 0, none⟩) ⟨b4, 0, none⟩ k (decide (k = 14 ∨ k = 16)) K Kp h5 := by
    refine J43_3.of ?_
    unfold JT43_3
    simp only [add_blk]
    refine If_i (fun c => ?_) fun c => ?_
    · simp only [decide_eq_true_eq] at c
      refine Ld_blk k4 rfl ?_
      refine number_c w5 (by omega) (by omega) (by simp only [List.length_append, num_len]; omega) fun h6 f6 w6 => ?_
      simp only [e2w, List.append_assoc] at w6
      exact hfin h6 _ (WX.trans F5 f6) w6 (f6.blk k4 (WX.not k4 nb4 (by decide))) (by rw [num_len]; omega) (if_pos c)
    · simp only [decide_eq_false_iff_not] at c
      refine If_i (fun c19 => ?_) fun c19 => ?_
      · simp only [beq_iff_eq] at c19
        refine Ld_blk k4 rfl ?_
        refine number_c w5 (by omega) (by omega) (by simp only [List.length_append, num_len]; omega) fun h6 f6 w6 => ?_
        have k6 := f6.blk k4 (WX.not k4 nb4 (by decide))
        refine Ld_blk k6 rfl ?_
        refine number_c w6 (by omega) (by omega) (by simp only [List.length_append, num_len]; omega) fun h7 f7 w7 => ?_
        simp only [e1w, e2w, List.append_assoc] at w7
        exact hfin h7 _ (WX.trans (WX.trans F5 f6) f7) w7 (f7.blk k6 (WX.not k6 nb4 (by decide))) (by simp only [List.length_append, num_len]; omega) (by rw [if_neg c, if_pos c19])
      · simp only [beq_eq_false_iff_ne, ne_eq] at c19
        have two : (k = 17 ∨ k = 18) → Ld h5 ⟨b4, 4, none⟩ (Sl.v) fun t45 => Fn22 (some ⟨p, 0, none⟩) (t45.n : Int) (1 : Int) h5 (fun h1 => J43_1 (some ⟨p, 0, none⟩) ⟨b4, 0, none⟩ K Kp h1) Kp := by
          intro c2
          refine Ld_blk k4 rfl ?_
          refine number_c w5 (by omega) (by omega) (by simp only [List.length_append, num_len]; omega) fun h6 f6 w6 => ?_
          simp only [e1w, List.append_assoc] at w6
          refine hfin h6 _ (WX.trans F5 f6) w6 (f6.blk k4 (WX.not k4 nb4 (by decide))) (by rw [num_len]; omega) ?_
          rw [if_neg c, if_neg c19, if_pos c2, hsn.1]
        refine If_i (fun c17 => ?_) fun c17 => ?_
        · exact If_t c17 (two (.inl (by simpa using c17)))
        · refine If_i (fun c18 => ?_) fun c18 => ?_
          · exact two (.inr (by simpa using c18))
          · simp only [beq_eq_false_iff_ne, ne_eq] at c17 c18
            refine hfin h5 [] F5 (by simpa only [List.append_nil] using w5) k4 (by simp) ?_
            rw [if_neg c, if_neg c19, if_neg (by omega)]
  refine If_i (fun c => ?_) fun c => ?_
  · have e : (k == (14 : Int)) = decide (k = 14 ∨ k = 16) := by simp only [beq_iff_eq] at c; subst c; decide
    rw [e]; exact j3
  · have e : (k == (16 : Int)) = decide (k = 14 ∨ k = 16) := by
      simp only [beq_eq_false_iff_ne, ne_eq] at c
      by_cases h16 : k = 16
      · subst h16; decide
      · simp [c, h16]
    rw [e]; exact j3
theorem field_c : ∀ f : Fld, FieldC f
  | .mk _ _ _ _ _ _ cs => field_step fun f _ => field_c f
end Go.Proofs.YtfomkkdijjfpiaaDoor
/- The writer of heads: a schema. -/
namespace Go.Proofs.YtfomkkdijjfpiaaDoor
open Go Go.Sh
/-- a slice of rows of sz cells -/
def RsH (h : Hp) (s : Sl) (sz : Nat) (rows : List (List Value)) : Prop := s.n = rows.length ∧ s.n ≤ s.c ∧ ∀ (j : Nat) r, rows[j]? = some r → ∃ a, s.a = some a ∧ Cs h (a.add (j * sz)) r
abbrev Md := ByteArray × ByteArray
def mdRow (m : Md) : List Value := [.string m.1, .string m.2]
def text2 (s : ByteArray) : List UInt8 := num s.size 2 ++ s.data.toList
def mdEnc (m : Md) : List UInt8 := text2 m.1 ++ text2 m.2
def mdsEnc (ms : List Md) : List UInt8 := (ms.map mdEnc).flatten
theorem text2_len (s : ByteArray) : (text2 s).length = 2 + s.size := by rw [text2, List.length_append, num_len]; rfl
theorem mdsEnc_len (ms : List Md) : ms.length ≤ (mdsEnc ms).length := by
  induction ms with
  | nil => simp [mdsEnc]
  | cons m ms ih =>
    have e : mdsEnc (m :: ms) = mdEnc m ++ mdsEnc ms := by simp [mdsEnc]
    rw [e, List.length_append, List.length_cons, mdEnc, List.length_append, text2_len, text2_len]; omega
theorem add_zero' (a : Addr) : a.add 0 = a := by unfold Addr.add; split <;> simp_all
theorem mdL_c {ms : List Md} {p lo : Nat} {h0 h : Hp} {l : List UInt8} {s : Sl} {K : Hp → Prop} {Kp : List PanicEntry → Hp → Prop} (hp : h0.size ≤ p) (g : Grw h0 h) (hs : RsH h0 s 2 (ms.map mdRow)) (w : Wtr p lo h l)
    (hl : l.length + (mdsEnc ms).length + 1000 ≤ 2 ^ 40) (hk : ∀ h', Tn (WX p lo h) h h' → Wtr p lo h' (l ++ mdsEnc ms) → K h') : L23_2 (some ⟨p, 0, none⟩) s (s.n : Int) K Kp 0 h := by
  have hn : s.n = ms.length := by simpa using hs.1
  have hcl := mdsEnc_len ms
  refine L23_2.rule (fun x h' => ∃ i : Nat, ∃ l', x = (i : Int) ∧ i ≤ ms.length ∧ Tn (WX p lo h) h h' ∧ Wtr p lo h' l' ∧ l' ++ mdsEnc (ms.drop i) = l ++ mdsEnc ms) (fun x _ => ms.length - x.toNat) ⟨0, l, rfl, by omega, Tn.refl _ _, w, by simp⟩ ?_
  rintro x h1 ⟨i, l', rfl, hi, f1, w1, e1⟩ N1 hN
  unfold T23_2
  refine If_i (fun c => ?_) fun c => ?_
  · simp only [decide_eq_true_eq] at c
    have hi' : i < ms.length := by omega
    obtain ⟨a, ha, hc⟩ := hs.2.2 i (mdRow ms[i]) (by rw [List.getElem?_map, List.getElem?_eq_getElem hi']; rfl)
    have hdr : ms.drop i = ms[i] :: ms.drop (i + 1) := List.drop_eq_getElem_cons hi'
    generalize ms[i] = m at hc hdr
    have g1 := WX.old hp w.lt g f1
    have hc1 := hc.grw g1
    have c0 := hc1 0 _ rfl; have c1 := hc1 1 _ rfl
    rw [add_zero'] at c0
    rw [ha]
    refine ⟨by omega, by omega, ?_⟩
    rw [Int.toNat_natCast]
    refine ⟨_, c0, _, c1, ?_⟩
    rw [hdr] at e1
    have e2 : mdsEnc (m :: ms.drop (i + 1)) = text2 m.1 ++ (text2 m.2 ++ mdsEnc (ms.drop (i + 1))) := by simp [mdsEnc, mdEnc]
    rw [e2] at e1
    have hlen := congrArg List.length e1
    simp only [List.length_append, text2_len] at hlen
    have lc := SyH.start No h1
    refine lc.new fun b7 _ hb7 _ lc => ?_
    repeat (first | refine lc.ldo 0 rfl rfl ?_ | refine lc.ld 0 rfl rfl ?_ | refine lc.ldo 1 rfl rfl ?_ | refine lc.ld 1 rfl rfl ?_ | refine lc.ldo 2 rfl rfl ?_ | refine lc.ld 2 rfl rfl ?_ | refine lc.ldo 3 rfl rfl ?_ | refine lc.ld 3 rfl rfl ?_ | refine lc.ldo 4 rfl rfl ?_ | refine lc.ld 4 rfl rfl ?_ | refine lc.ldo 5 rfl rfl ?_ | refine lc.ld 5 rfl rfl ?_ | refine lc.ldo 6 rfl rfl ?_ | refine lc.ld 6 rfl rfl ?_ | (refine lc.sto 0 rfl rfl rfl fun _ _ lc => ?_; simp only [Nat.zero_add, List.set_cons_zero, List.set_cons_succ, List.setIfInBounds_toArray] at lc) | (refine lc.st 0 rfl rfl rfl fun _ _ lc => ?_; simp only [Nat.zero_add, List.set_cons_zero, List.set_cons_succ, List.setIfInBounds_toArray] at lc) | (refine lc.sto 1 rfl rfl rfl fun _ _ lc => ?_; simp only [Nat.zero_add, List.set_cons_zero, List.set_cons_succ, List.setIfInBounds_toArray] at lc) | (refine lc.st 1 rfl rfl rfl fun _ _ lc => ?_; simp only [Nat.zero_add, List.set_cons_zero, List.set_cons_succ, List.setIfInBounds_toArray] at lc) | (refine lc.sto 2 rfl rfl rfl fun _ _ lc => ?_; simp only [Nat.zero_add, List.set_cons_zero, List.set_cons_succ, List.setIfInBounds_toArray] at lc) | (refine lc.st 2 rfl rfl rfl fun _ _ lc => ?_; simp only [Nat.zero_add, List.set_cons_zero, List.set_cons_succ, List.setIfInBounds_toArray] at lc) | (refine lc.sto 3 rfl rfl rfl fun _ _ lc => ?_; simp only [Nat.zero_add, List.set_cons_zero, List.set_cons_succ, List.setIfInBounds_toArray] at lc) | (refine lc.st 3 rfl rfl rfl fun _ _ lc => ?_; simp only [Nat.zero_add, List.set_cons_zero, List.set_cons_succ, List.setIfInBounds_toArray] at lc) | (refine lc.sto 4 rfl rfl rfl fun _ _ lc => ?_; simp only [Nat.zero_add, List.set_cons_zero, List.set_cons_succ, List.setIfInBounds_toArray] at lc) | (refine lc.st 4 rfl rfl rfl fun _ _ lc => ?_; simp only [Nat.zero_add, List.set_cons_zero, List.set_cons_succ, List.setIfInBounds_toArray] at lc) | (refine lc.sto 5 rfl rfl rfl fun _ _ lc => ?_; simp only [Nat.zero_add, List.set_cons_zero, List.set_cons_succ, List.setIfInBounds_toArray] at lc) | (refine lc.st 5 rfl rfl rfl fun _ _ lc => ?_; simp only [Nat.zero_add, List.set_cons_zero, List.set_cons_succ, List.setIfInBounds_toArray] at lc) | (refine lc.sto 6 rfl rfl rfl fun _ _ lc => ?_; simp only [Nat.zero_add, List.set_cons_zero, List.set_cons_succ, List.setIfInBounds_toArray] at lc) | (refine lc.st 6 rfl rfl rfl fun _ _ lc => ?_; simp only [Nat.zero_add, List.set_cons_zero, List.set_cons_succ, List.setIfInBounds_toArray] at lc) | refine lc.ldo 0 (x := Sl.nil) rfl rfl ?_ | refine lc.ld 0 (x := Sl.nil) rfl rfl ?_ | refine lc.ldo 1 (x := Sl.nil) rfl rfl ?_ | refine lc.ld 1 (x := Sl.nil) rfl rfl ?_ | refine lc.ldo 2 (x := Sl.nil) rfl rfl ?_ | refine lc.ld 2 (x := Sl.nil) rfl rfl ?_ | refine lc.ldo 3 (x := Sl.nil) rfl rfl ?_ | refine lc.ld 3 (x := Sl.nil) rfl rfl ?_ | refine lc.ldo 4 (x := Sl.nil) rfl rfl ?_ | refine lc.ld 4 (x := Sl.nil) rfl rfl ?_ | refine lc.ldo 5 (x := Sl.nil) rfl rfl ?_ | refine lc.ld 5 (x := Sl.nil) rfl rfl ?_ | refine lc.ldo 6 (x := Sl.nil) rfl rfl ?_ | refine lc.ld 6 (x := Sl.nil) rfl rfl ?_ | refine Wr_i64 (by omega) (by omega) ?_ | refine If_t rfl ?_ | refine If_f rfl ?_)
    have k7 : Blk _ b7 #[.string m.1, .string m.2] 66 := lc.blk (i := 0) rfl
    have nb : b7 ≠ p := by have := w1.lt; have := w1.le; omega
    refine text_c (w1.keep lc.grw) (by omega) (by omega) (by omega) fun h2 f2 w2 => ?_
    have k7 := f2.blk k7 (WX.not k7 nb (show (66 : Nat) ≠ 5 by decide))
    rw [add_blk]
    refine Ld_blk k7 rfl ?_
    refine text_c w2 (by omega) (by omega) (by rw [List.length_append, List.length_append, num_len]; show _ + (2 + m.1.size) + _ + _ ≤ _; omega) fun h3 f3 w3 => ?_
    refine Wr_i64 (by omega) (by omega) ?_
    refine hN _ _ ⟨i + 1, _, by simp, by omega, WX.trans f1 (WX.trans (WX.grw lc.grw f2) f3), w3, ?_⟩ (by omega)
    rw [← e1]; simp only [text2, List.append_assoc]; rfl
  · simp only [decide_eq_false_iff_not] at c
    have : i = ms.length := by omega
    subst this
    rw [List.drop_length, mdsEnc, List.map_nil, List.flatten_nil, List.append_nil] at e1
    exact hk h1 f1 (e1 ▸ w1)
def schemaEnc (fs : List Fld) (ms : List Md) : List UInt8 := num fs.length 2 ++ (encs fs ++ (num ms.length 2 ++ mdsEnc ms))
theorem schema_c {cs : List Fld} {ms : List Md} {p lo : Nat} {h0 h : Hp} {l : List UInt8} {s t : Sl} {K : Hp → Prop} {Kp : List PanicEntry → Hp → Prop} (hp : h0.size ≤ p) (g : Grw h0 h) (hs : FsH h0 s cs) (ht : RsH h0 t 2 (ms.map mdRow)) (w : Wtr p lo h l)
    (hl : l.length + (schemaEnc cs ms).length + 1000 ≤ 2 ^ 40) (hk : ∀ h', Tn (WX p lo h) h h' → Wtr p lo h' (l ++ schemaEnc cs ms) → K h') : Fn23 (some ⟨p, 0, none⟩) s t h K Kp := by
  simp only [schemaEnc, List.length_append, num_len] at hl hk
  have hn := hs.n
  have hm : t.n = ms.length := by simpa using ht.1
  have hcl := encs_len cs
  refine Fn23.of ?_
  unfold S23
  refine New_i fun b3 h1 e3 g1 k3 _ => ?_
  have nb3 : b3 ≠ p := by have := w.lt; have := w.le; omega
  refine Ld_blk k3 rfl ?_
  refine number_c (w.keep g1) (by omega) (by omega) (by omega) fun h2 f2 w2 => ?_
  have F2 := WX.grw g1 f2
  have k3 := f2.blk k3 (WX.not k3 nb3 (show (25 : Nat) ≠ 5 by decide))
  refine Ld_blk k3 rfl ?_
  rw [hn.1] at w2
  generalize hl2 : l ++ num (↑cs.length) (Int.toNat 2) = l2 at w2
  have hl2' : l2.length = l.length + 2 := by rw [← hl2, List.length_append, num_len]; rfl
  refine L23_3.rule (fun x h' => ∃ i : Nat, ∃ l', x = (i : Int) ∧ i ≤ cs.length ∧ Tn (WX p lo h) h h' ∧ Wtr p lo h' l' ∧ Blk h' b3 #[Sl.v s, Sl.v t] 25 ∧ l' ++ encs (cs.drop i) = l2 ++ encs cs) (fun x _ => cs.length - x.toNat) ⟨0, l2, rfl, by omega, F2, w2, k3, by simp⟩ ?_
  rintro x h1 ⟨i, l', rfl, hi, f1, w1, k3, e1⟩ N1 hN
  unfold T23_3
  refine If_i (fun c => ?_) fun c => ?_
  · simp only [decide_eq_true_eq] at c
    have hi' : i < cs.length := by omega
    have hj : cs[i]? = some cs[i] := List.getElem?_eq_getElem hi'
    obtain ⟨a, ha, hf⟩ := hs.get hj
    have hdr : cs.drop i = cs[i] :: cs.drop (i + 1) := List.drop_eq_getElem_cons hi'
    generalize cs[i] = f at hj hf hdr
    obtain ⟨n, nul, k, wd, id, ix, ds⟩ := f
    unfold FldH at hf
    obtain ⟨u, hc, hu⟩ := hf
    have g1 := WX.old hp w.lt g f1
    have hc1 := hc.grw g1
    have c0 := hc1 0 _ rfl; have c1 := hc1 1 _ rfl; have c2 := hc1 2 _ rfl; have c3 := hc1 3 _ rfl; have c4 := hc1 4 _ rfl; have c5 := hc1 5 _ rfl; have c6 := hc1 6 _ rfl
    rw [add_zero'] at c0
    rw [ha]
    refine ⟨by omega, by omega, ?_⟩
    rw [Int.toNat_natCast]
    refine ⟨_, c0, _, c1, _, c2, _, c3, _, c4, _, c5, _, c6, ?_⟩
    have lc := SyH.start No h1
    repeat (first | refine lc.ldo 0 rfl rfl ?_ | refine lc.ld 0 rfl rfl ?_ | refine lc.ldo 1 rfl rfl ?_ | refine lc.ld 1 rfl rfl ?_ | refine lc.ldo 2 rfl rfl ?_ | refine lc.ld 2 rfl rfl ?_ | refine lc.ldo 3 rfl rfl ?_ | refine lc.ld 3 rfl rfl ?_ | refine lc.ldo 4 rfl rfl ?_ | refine lc.ld 4 rfl rfl ?_ | refine lc.ldo 5 rfl rfl ?_ | refine lc.ld 5 rfl rfl ?_ | refine lc.ldo 6 rfl rfl ?_ | refine lc.ld 6 rfl rfl ?_ | (refine lc.sto 0 rfl rfl rfl fun _ _ lc => ?_; simp only [Nat.zero_add, List.set_cons_zero, List.set_cons_succ, List.setIfInBounds_toArray] at lc) | (refine lc.st 0 rfl rfl rfl fun _ _ lc => ?_; simp only [Nat.zero_add, List.set_cons_zero, List.set_cons_succ, List.setIfInBounds_toArray] at lc) | (refine lc.sto 1 rfl rfl rfl fun _ _ lc => ?_; simp only [Nat.zero_add, List.set_cons_zero, List.set_cons_succ, List.setIfInBounds_toArray] at lc) | (refine lc.st 1 rfl rfl rfl fun _ _ lc => ?_; simp only [Nat.zero_add, List.set_cons_zero, List.set_cons_succ, List.setIfInBounds_toArray] at lc) | (refine lc.sto 2 rfl rfl rfl fun _ _ lc => ?_; simp only [Nat.zero_add, List.set_cons_zero, List.set_cons_succ, List.setIfInBounds_toArray] at lc) | (refine lc.st 2 rfl rfl rfl fun _ _ lc => ?_; simp only [Nat.zero_add, List.set_cons_zero, List.set_cons_succ, List.setIfInBounds_toArray] at lc) | (refine lc.sto 3 rfl rfl rfl fun _ _ lc => ?_; simp only [Nat.zero_add, List.set_cons_zero, List.set_cons_succ, List.setIfInBounds_toArray] at lc) | (refine lc.st 3 rfl rfl rfl fun _ _ lc => ?_; simp only [Nat.zero_add, List.set_cons_zero, List.set_cons_succ, List.setIfInBounds_toArray] at lc) | (refine lc.sto 4 rfl rfl rfl fun _ _ lc => ?_; simp only [Nat.zero_add, List.set_cons_zero, List.set_cons_succ, List.setIfInBounds_toArray] at lc) | (refine lc.st 4 rfl rfl rfl fun _ _ lc => ?_; simp only [Nat.zero_add, List.set_cons_zero, List.set_cons_succ, List.setIfInBounds_toArray] at lc) | (refine lc.sto 5 rfl rfl rfl fun _ _ lc => ?_; simp only [Nat.zero_add, List.set_cons_zero, List.set_cons_succ, List.setIfInBounds_toArray] at lc) | (refine lc.st 5 rfl rfl rfl fun _ _ lc => ?_; simp only [Nat.zero_add, List.set_cons_zero, List.set_cons_succ, List.setIfInBounds_toArray] at lc) | (refine lc.sto 6 rfl rfl rfl fun _ _ lc => ?_; simp only [Nat.zero_add, List.set_cons_zero, List.set_cons_succ, List.setIfInBounds_toArray] at lc) | (refine lc.st 6 rfl rfl rfl fun _ _ lc => ?_; simp only [Nat.zero_add, List.set_cons_zero, List.set_cons_succ, List.setIfInBounds_toArray] at lc) | refine lc.ldo 0 (x := Sl.nil) rfl rfl ?_ | refine lc.ld 0 (x := Sl.nil) rfl rfl ?_ | refine lc.ldo 1 (x := Sl.nil) rfl rfl ?_ | refine lc.ld 1 (x := Sl.nil) rfl rfl ?_ | refine lc.ldo 2 (x := Sl.nil) rfl rfl ?_ | refine lc.ld 2 (x := Sl.nil) rfl rfl ?_ | refine lc.ldo 3 (x := Sl.nil) rfl rfl ?_ | refine lc.ld 3 (x := Sl.nil) rfl rfl ?_ | refine lc.ldo 4 (x := Sl.nil) rfl rfl ?_ | refine lc.ld 4 (x := Sl.nil) rfl rfl ?_ | refine lc.ldo 5 (x := Sl.nil) rfl rfl ?_ | refine lc.ld 5 (x := Sl.nil) rfl rfl ?_ | refine lc.ldo 6 (x := Sl.nil) rfl rfl ?_ | refine lc.ld 6 (x := Sl.nil) rfl rfl ?_ | refine lc.new fun _ _ _ _ lc => ?_ | refine Wr_i64 (by omega) (by omega) ?_ | refine If_t rfl ?_ | refine If_f rfl ?_)
    rw [hdr, encs] at e1
    have hlen := congrArg List.length e1
    simp only [List.length_append] at hlen
    refine field_c (.mk n nul k wd id ix ds) hp (Grw.trans g1 lc.grw) hu (w1.keep lc.grw) (by omega) fun h2 f2 w2 => ?_
    refine Wr_i64 (by omega) (by omega) ?_
    refine hN _ _ ⟨i + 1, _, by simp, by omega, WX.trans f1 (WX.grw lc.grw f2), w2, f2.blk (k3.grw lc.grw) (WX.not (k3.grw lc.grw) nb3 (by decide)), ?_⟩ (by omega)
    rw [← e1, List.append_assoc]
  · simp only [decide_eq_false_iff_not] at c
    have : i = cs.length := by omega
    subst this
    rw [List.drop_length, encs, List.append_nil] at e1
    subst e1
    refine J23_1.of ?_
    unfold JT23_1
    rw [add_blk]
    refine Ld_blk k3 rfl ?_
    refine number_c w1 (by omega) (by omega) (by rw [List.length_append]; omega) fun h5 f5 w5 => ?_
    have k3 := f5.blk k3 (WX.not k3 nb3 (show (25 : Nat) ≠ 5 by decide))
    refine Ld_blk k3 rfl ?_
    refine mdL_c hp (WX.old hp w.lt g (WX.trans f1 f5)) ht w5 (by simp only [List.length_append, num_len]; show _ + _ + 2 + _ + _ ≤ _; omega) fun h6 f6 w6 => hk h6 (WX.trans (WX.trans f1 f5) f6) ?_
    rw [← hl2, hm] at w6
    have e2w : (2 : Int).toNat = 2 := rfl
    simpa only [e2w, List.append_assoc] using w6
end Go.Proofs.YtfomkkdijjfpiaaDoor
/- The document's writing of heads: bytes behind a slice of one's own. -/
namespace Go.Proofs.YtfomkkdijjfpiaaDoor
open Go Go.Sh
/-- bytes from lo on -/
def RX (lo : Nat) (h : Hp) : Nat → Prop := fun b => lo ≤ b ∧ ∃ cs, Blk h b cs 5
theorem RX.trans {lo : Nat} {a b c : Hp} (x : Tn (RX lo a) a b) (y : Tn (RX lo b) b c) : Tn (RX lo a) a c := by
  refine x.trans' y ?_
  intro d hd hlt
  by_cases hw : RX lo a d
  · exact hw
  · obtain ⟨h1, cs, hb⟩ := hd
    exact ⟨h1, cs, (x.2 d hlt hw).symm.trans hb⟩
theorem RX.grw {lo : Nat} {a b c : Hp} (x : Grw a b) (y : Tn (RX lo b) b c) : Tn (RX lo a) a c := RX.trans (Tn.of_grw x) y
theorem RX.old {lo : Nat} {h0 h h' : Hp} (hp : h0.size ≤ lo) (g : Grw h0 h) (f : Tn (RX lo h) h h') : Grw h0 h' := by
  refine ⟨Nat.le_trans g.1 f.1, fun c hc => (f.2 c (Nat.lt_of_lt_of_le hc g.1) ?_).trans (g.2 c hc)⟩
  rintro ⟨h1, _⟩; omega
theorem RX.not {lo b : Nat} {h : Hp} {cs : Array Value} {el : TypeId} (k : Blk h b cs el) (he : el ≠ 5) : ¬ RX lo h b := by
  rintro ⟨_, cs', k'⟩
  have e := k.symm.trans k'
  simp only [Option.some.injEq, Obj.cells.injEq] at e
  exact he e.2.1
/-- the slice holds these bytes, from lo on -/
structure Rb (lo : Nat) (h : Hp) (s : Sl) (l : List UInt8) : Prop where
  sh : Sh lo h.size 1 h s (bv l) 5
  le : lo ≤ h.size
theorem Rb.keep {lo : Nat} {h h' : Hp} {s : Sl} {l : List UInt8} (w : Rb lo h s l) (g : Grw h h') : Rb lo h' s l := ⟨(w.sh.grw g).wide (Nat.le_refl _) g.1, Nat.le_trans w.le g.1⟩
theorem Rb.at {lo : Nat} {h : Hp} {s : Sl} {l : List UInt8} (w : Rb lo h s l) {c : Nat} (hc : s.at c) : RX lo h c := by
  rcases w.sh with ⟨rfl, _⟩ | ⟨b, hb1, hb2, ob⟩
  · exact absurd hc (Sl.at_nil c)
  · obtain ⟨a, ha, hb⟩ := hc
    obtain ⟨e, _, cs, kb, _⟩ := ob
    rw [e] at ha; cases ha; simp only at hb; subst hb
    exact ⟨hb1, cs, kb⟩
theorem Rb.app {lo : Nat} {h : Hp} {s : Sl} {l new : List UInt8} {n : Nat} {vals : List Value → Prop} {K : Sl → Hp → Prop} (w : Rb lo h s l) (hn : new.length = n) (hv : vals (bv new)) (hl : l.length + n ≤ 2 ^ 40)
    (hk : ∀ s' h', Tn (RX lo h) h h' → Rb lo h' s' (l ++ new) → K s' h') : Ap h 5 #[(.int .u8 (0 : Int))] 1 1 s n vals K := by
  have hs := w.sh.n
  rw [bv_len] at hs
  refine Ap_sh w.sh w.le rfl (new := bv new) (by rw [bv_len]; omega) bv_one hv (by omega) (by omega) fun s' h2 f2 at2 o2 hn2 => ?_
  exact hk s' h2 (f2.mono fun d hd _ => w.at hd) ⟨by rw [bv_append]; exact o2, Nat.le_trans w.le f2.1⟩
theorem rnumber_c {lo : Nat} {h : Hp} {s : Sl} {l : List UInt8} {x width : Int} {K : Sl → Hp → Prop} {Kp : List PanicEntry → Hp → Prop} (w : Rb lo h s l) (hx : 0 ≤ x) (hx' : x ≤ 9223372036854775807) (h0 : 0 ≤ width) (h8 : width ≤ 8) (hl : l.length + 8 ≤ 2 ^ 40)
    (hk : ∀ s' h', Tn (RX lo h) h h' → Rb lo h' s' (l ++ num x width.toNat) → K s' h') : Fn25 s x width h K Kp := by
  refine Fn25.of ?_
  unfold S25
  refine L25_1.rule (fun t y k h' => ∃ l', 0 ≤ k ∧ k ≤ width ∧ 0 ≤ y ∧ y ≤ 9223372036854775807 ∧ l'.length = l.length + k.toNat ∧ Tn (RX lo h) h h' ∧ Rb lo h' t l' ∧ l' ++ num y (width - k).toNat = l ++ num x width.toNat) (fun _ _ k _ => (width - k).toNat) ⟨l, by omega, h0, hx, hx', by simp, Tn.refl _ _, w, by simp⟩ ?_
  rintro t y k h1 ⟨l', hk0, hk1, hy0, hy1, hll, f1, w1, e1⟩ N1 hN
  unfold T25_1
  refine If_i (fun c => ?_) fun c => ?_
  · simp only [decide_eq_true_eq] at c
    refine ⟨by omega, Lt_any (Wr_any (New_i fun b h2 e2 g2 k2 _ => ?_))⟩
    have et : IntKind.u8.wrap (Int.tmod y 256) = ((b8 y).toNat : Int) := by
      rw [Int.tmod_eq_emod_of_nonneg hy0, ← b8_v]
      simp [IntKind.wrap, IntKind.signed, IntKind.bits]
    rw [et] at k2
    have ed : Int.tdiv y 256 = Int.fdiv y 256 := by rw [Int.tdiv_eq_ediv_of_nonneg hy0, Int.fdiv_eq_ediv_of_nonneg _ (by omega)]
    have ed2 : Int.fdiv y 256 = y / 256 := Int.fdiv_eq_ediv_of_nonneg _ (by omega)
    refine (w1.keep g2).app (new := [b8 y]) rfl (rd_blk k2 rfl) (by omega) fun s' h3 f3 w3 => ?_
    refine ⟨by omega, ?_⟩
    rw [ed]
    refine Wr_i64 (by omega) (by omega) (Wr_i64 (by omega) (by omega) ?_)
    refine hN _ _ _ _ ⟨l' ++ [b8 y], by omega, by omega, by omega, by omega, by simp; omega, RX.trans f1 (RX.grw g2 f3), w3, ?_⟩ (by omega)
    rw [← e1, List.append_assoc]
    have e : (width - k).toNat = (width - (k + 1)).toNat + 1 := by omega
    rw [e]; rfl
  · simp only [decide_eq_false_iff_not] at c
    have e : (width - k).toNat = 0 := by omega
    rw [e] at e1
    simp only [num, List.append_nil] at e1
    exact hk t h1 f1 (e1 ▸ w1)
theorem rflag_c {lo : Nat} {h : Hp} {s : Sl} {l : List UInt8} {b : Bool} {K : Sl → Hp → Prop} {Kp : List PanicEntry → Hp → Prop} (w : Rb lo h s l) (hl : l.length + 8 ≤ 2 ^ 40)
    (hk : ∀ s' h', Tn (RX lo h) h h' → Rb lo h' s' (l ++ num (if b then 1 else 0) 1) → K s' h') : Fn28 s b h K Kp := by
  refine Fn28.of ?_
  unfold S28
  cases b
  · refine If_f rfl (New_i fun b h2 e2 g2 k2 _ => ?_)
    exact (w.keep g2).app (new := [0]) rfl (rd_blk k2 rfl) (by omega) fun s' h3 f3 w3 => hk _ _ (RX.grw g2 f3) w3
  · refine If_t rfl (New_i fun b h2 e2 g2 k2 _ => ?_)
    exact (w.keep g2).app (new := [1]) rfl (rd_blk k2 rfl) (by omega) fun s' h3 f3 w3 => hk _ _ (RX.grw g2 f3) w3
theorem rtext_c {lo : Nat} {h : Hp} {s : Sl} {l : List UInt8} {t : ByteArray} {width : Int} {K : Sl → Hp → Prop} {Kp : List PanicEntry → Hp → Prop} (w : Rb lo h s l) (h0 : 0 ≤ width) (h8 : width ≤ 8) (hl : l.length + 8 + t.size ≤ 2 ^ 40)
    (hk : ∀ s' h', Tn (RX lo h) h h' → Rb lo h' s' (l ++ (num t.size width.toNat ++ t.data.toList)) → K s' h') : Fn27 s t width h K Kp := by
  refine Fn27.of ?_
  unfold S27
  refine rnumber_c w (by omega) (by omega) h0 h8 (by omega) fun s1 h1 f1 w1 => ?_
  exact w1.app (new := t.data.toList) (n := t.size) rfl rfl (by rw [List.length_append, num_len]; omega) fun s2 h2 f2 w2 => hk s2 h2 (RX.trans f1 f2) (by rw [← List.append_assoc]; exact w2)
end Go.Proofs.YtfomkkdijjfpiaaDoor
/- The document's writing of heads: fields. -/
namespace Go.Proofs.YtfomkkdijjfpiaaDoor
open Go Go.Sh
abbrev i63 (x : Int) : Prop := 0 ≤ x ∧ x ≤ 9223372036854775807
mutual
/-- no number of a field is negative -/
def Fld.nn : Fld → Prop
  | .mk _ _ k w id ix cs => i63 k ∧ i63 w ∧ i63 id ∧ i63 ix ∧ nns cs
def nns : List Fld → Prop
  | [] => True
  | f :: fs => f.nn ∧ nns fs
end
theorem nns.get : ∀ {fs : List Fld}, nns fs → ∀ f ∈ fs, f.nn
  | [], _, _, h => by simp at h
  | g :: gs, hh, f, h => by
    unfold nns at hh
    rcases List.mem_cons.1 h with rfl | h
    · exact hh.1
    · exact nns.get hh.2 f h
/-- what the document does with a field -/
def RFieldC : Fld → Prop
  | .mk n nul k w id ix cs => ∀ {lo : Nat} {h0 h : Hp} {l : List UInt8} {b s : Sl} {K : Sl → Hp → Prop} {Kp : List PanicEntry → Hp → Prop}, h0.size ≤ lo → Grw h0 h → FsH h0 s cs → Fld.nn (.mk n nul k w id ix cs) → Rb lo h b l →
      l.length + (Fld.enc (.mk n nul k w id ix cs)).length + 1000 ≤ 2 ^ 40 → (∀ b' h', Tn (RX lo h) h h' → Rb lo h' b' (l ++ Fld.enc (.mk n nul k w id ix cs)) → K b' h') →
      Fn26 b n nul k w id ix s h K Kp
theorem rfieldL_c {cs : List Fld} (IH : ∀ f ∈ cs, RFieldC f) {lo p : Nat} {h0 h : Hp} {l : List UInt8} {b s : Sl} {v0 v1 v2 v3 : Value} {K : Sl → Hp → Prop} {Kp : List PanicEntry → Hp → Prop} (hp : h0.size ≤ lo) (g : Grw h0 h) (hs : FsH h0 s cs) (hnn : nns cs) (w : Rb lo h b l) (k5 : Blk h p #[v0, v1, v2, v3, Sl.v s] 61)
    (hl : l.length + (encs cs).length + 1000 ≤ 2 ^ 40) (hk : ∀ b' h', Tn (RX lo h) h h' → Rb lo h' b' (l ++ encs cs) → K b' h') : L26_2 ⟨p, 0, none⟩ K Kp b 0 h := by
  have hn := hs.n
  have hcl := encs_len cs
  refine L26_2.rule (fun t x h' => ∃ i : Nat, ∃ l', x = (i : Int) ∧ i ≤ cs.length ∧ Tn (RX lo h) h h' ∧ Rb lo h' t l' ∧ Blk h' p #[v0, v1, v2, v3, Sl.v s] 61 ∧ l' ++ encs (cs.drop i) = l ++ encs cs) (fun _ x _ => cs.length - x.toNat) ⟨0, l, rfl, by omega, Tn.refl _ _, w, k5, by simp⟩ ?_
  rintro t x h1 ⟨i, l', rfl, hi, f1, w1, k5, e1⟩ N1 hN
  unfold T26_2
  rw [add_blk]
  refine Ld_blk k5 rfl ?_
  refine If_i (fun c => ?_) fun c => ?_
  · refine Ld_blk k5 rfl ?_
    simp only [decide_eq_true_eq] at c
    have hi' : i < cs.length := by omega
    have hj : cs[i]? = some cs[i] := List.getElem?_eq_getElem hi'
    obtain ⟨a, ha, hf⟩ := hs.get hj
    have hmem : cs[i] ∈ cs := List.getElem_mem hi'
    have hdr : cs.drop i = cs[i] :: cs.drop (i + 1) := List.drop_eq_getElem_cons hi'
    generalize cs[i] = f at hj hf hmem hdr
    have hfn := hnn.get f hmem
    obtain ⟨n, nul, k, wd, id, ix, ds⟩ := f
    unfold FldH at hf
    obtain ⟨u, hc, hu⟩ := hf
    have g1 := RX.old hp g f1
    have hc1 := hc.grw g1
    have c0 := hc1 0 _ rfl; have c1 := hc1 1 _ rfl; have c2 := hc1 2 _ rfl; have c3 := hc1 3 _ rfl; have c4 := hc1 4 _ rfl; have c5 := hc1 5 _ rfl; have c6 := hc1 6 _ rfl
    rw [add_zero'] at c0
    rw [ha]
    refine ⟨by omega, by omega, ?_⟩
    rw [Int.toNat_natCast]
    refine ⟨_, c0, _, c1, _, c2, _, c3, _, c4, _, c5, _, c6, ?_⟩
    rw [hdr, encs] at e1
    have hlen := congrArg List.length e1
    simp only [List.length_append] at hlen
    refine IH _ hmem hp g1 hu hfn w1 (by omega) fun b2 h2 f2 w2 => ?_
    refine Wr_i64 (by omega) (by omega) ?_
    refine hN _ _ _ ⟨i + 1, _, by simp, by omega, RX.trans f1 f2, w2, f2.blk k5 (RX.not k5 (show (61 : Nat) ≠ 5 by decide)), ?_⟩ (by omega)
    rw [← e1, List.append_assoc]
  · simp only [decide_eq_false_iff_not] at c
    have : i = cs.length := by omega
    subst this
    rw [List.drop_length, encs, List.append_nil] at e1
    exact hk t h1 f1 (e1 ▸ w1)
theorem rfield_step {n : ByteArray} {nul : Bool} {k w id ix : Int} {cs : List Fld} (IH : ∀ f ∈ cs, RFieldC f) : RFieldC (.mk n nul k w id ix cs) := by
  intro lo h0 h l b s K Kp hp g hs hnn w0 hl hk
  simp only [Fld.enc, List.length_append, num_len, List.append_assoc] at hl hk
  unfold Fld.nn at hnn
  obtain ⟨⟨nk0, nk1⟩, ⟨nw0, nw1⟩, ⟨ni0, ni1⟩, ⟨nx0, nx1⟩, hnc⟩ := hnn
  have hns : n.data.toList.length = n.size := rfl
  have hsn := hs.n
  have hcl := encs_len cs
  refine Fn26.of ?_
  unfold S26
  refine New_i fun b3 h1 e3 g1 k3 _ => ?_
  refine Ld_blk k3 rfl ?_
  have w1 := w0.keep g1
  refine rtext_c w1 (by omega) (by omega) (by omega) fun s2 h2 f2 w2 => ?_
  have F2 := RX.grw g1 f2
  have k3 := f2.blk k3 (RX.not k3 (by decide))
  rw [add_blk]
  refine Ld_blk k3 rfl ?_
  refine rflag_c w2 (by simp only [List.length_append, num_len]; omega) fun s3 h3 f3 w3 => ?_
  have F3 := RX.trans F2 f3
  have k3 := f3.blk k3 (RX.not k3 (by decide))
  simp only [add_blk]
  refine Ld_blk k3 rfl (Ld_blk k3 rfl (Ld_blk k3 rfl (Ld_blk k3 rfl (Ld_blk k3 rfl ?_))))
  have lc := SyH.start No h3
  refine lc.new fun b4 _ hb4 _ lc => ?_
  repeat (first | refine lc.ldo 0 rfl rfl ?_ | refine lc.ld 0 rfl rfl ?_ | refine lc.ldo 1 rfl rfl ?_ | refine lc.ld 1 rfl rfl ?_ | refine lc.ldo 2 rfl rfl ?_ | refine lc.ld 2 rfl rfl ?_ | refine lc.ldo 3 rfl rfl ?_ | refine lc.ld 3 rfl rfl ?_ | refine lc.ldo 4 rfl rfl ?_ | refine lc.ld 4 rfl rfl ?_ | refine lc.ldo 5 rfl rfl ?_ | refine lc.ld 5 rfl rfl ?_ | refine lc.ldo 6 rfl rfl ?_ | refine lc.ld 6 rfl rfl ?_ | (refine lc.sto 0 rfl rfl rfl fun _ _ lc => ?_; simp only [Nat.zero_add, List.set_cons_zero, List.set_cons_succ, List.setIfInBounds_toArray] at lc) | (refine lc.st 0 rfl rfl rfl fun _ _ lc => ?_; simp only [Nat.zero_add, List.set_cons_zero, List.set_cons_succ, List.setIfInBounds_toArray] at lc) | (refine lc.sto 1 rfl rfl rfl fun _ _ lc => ?_; simp only [Nat.zero_add, List.set_cons_zero, List.set_cons_succ, List.setIfInBounds_toArray] at lc) | (refine lc.st 1 rfl rfl rfl fun _ _ lc => ?_; simp only [Nat.zero_add, List.set_cons_zero, List.set_cons_succ, List.setIfInBounds_toArray] at lc) | (refine lc.sto 2 rfl rfl rfl fun _ _ lc => ?_; simp only [Nat.zero_add, List.set_cons_zero, List.set_cons_succ, List.setIfInBounds_toArray] at lc) | (refine lc.st 2 rfl rfl rfl fun _ _ lc => ?_; simp only [Nat.zero_add, List.set_cons_zero, List.set_cons_succ, List.setIfInBounds_toArray] at lc) | (refine lc.sto 3 rfl rfl rfl fun _ _ lc => ?_; simp only [Nat.zero_add, List.set_cons_zero, List.set_cons_succ, List.setIfInBounds_toArray] at lc) | (refine lc.st 3 rfl rfl rfl fun _ _ lc => ?_; simp only [Nat.zero_add, List.set_cons_zero, List.set_cons_succ, List.setIfInBounds_toArray] at lc) | (refine lc.sto 4 rfl rfl rfl fun _ _ lc => ?_; simp only [Nat.zero_add, List.set_cons_zero, List.set_cons_succ, List.setIfInBounds_toArray] at lc) | (refine lc.st 4 rfl rfl rfl fun _ _ lc => ?_; simp only [Nat.zero_add, List.set_cons_zero, List.set_cons_succ, List.setIfInBounds_toArray] at lc) | (refine lc.sto 5 rfl rfl rfl fun _ _ lc => ?_; simp only [Nat.zero_add, List.set_cons_zero, List.set_cons_succ, List.setIfInBounds_toArray] at lc) | (refine lc.st 5 rfl rfl rfl fun _ _ lc => ?_; simp only [Nat.zero_add, List.set_cons_zero, List.set_cons_succ, List.setIfInBounds_toArray] at lc) | (refine lc.sto 6 rfl rfl rfl fun _ _ lc => ?_; simp only [Nat.zero_add, List.set_cons_zero, List.set_cons_succ, List.setIfInBounds_toArray] at lc) | (refine lc.st 6 rfl rfl rfl fun _ _ lc => ?_; simp only [Nat.zero_add, List.set_cons_zero, List.set_cons_succ, List.setIfInBounds_toArray] at lc) | refine lc.ldo 0 (x := Sl.nil) rfl rfl ?_ | refine lc.ld 0 (x := Sl.nil) rfl rfl ?_ | refine lc.ldo 1 (x := Sl.nil) rfl rfl ?_ | refine lc.ld 1 (x := Sl.nil) rfl rfl ?_ | refine lc.ldo 2 (x := Sl.nil) rfl rfl ?_ | refine lc.ld 2 (x := Sl.nil) rfl rfl ?_ | refine lc.ldo 3 (x := Sl.nil) rfl rfl ?_ | refine lc.ld 3 (x := Sl.nil) rfl rfl ?_ | refine lc.ldo 4 (x := Sl.nil) rfl rfl ?_ | refine lc.ld 4 (x := Sl.nil) rfl rfl ?_ | refine lc.ldo 5 (x := Sl.nil) rfl rfl ?_ | refine lc.ld 5 (x := Sl.nil) rfl rfl ?_ | refine lc.ldo 6 (x := Sl.nil) rfl rfl ?_ | refine lc.ld 6 (x := Sl.nil) rfl rfl ?_ | refine Wr_i64 (by omega) (by omega) ?_ | refine If_t rfl ?_ | refine If_f rfl ?_)
  have k4 : Blk _ b4 #[.int .i64 k, .int .i64 w, .int .i64 id, .int .i64 ix, Sl.v s] 61 := lc.blk (i := 0) rfl
  have F4 := F3.trans' (Tn.of_grw lc.grw : Tn No _ _) (fun _ t _ => t.elim)
  have w4 := w3.keep lc.grw
  clear lc
  refine rnumber_c w4 nk0 nk1 (by omega) (by omega) (by simp only [List.length_append, num_len]; omega) fun s5 h5 f5 w5 => ?_
  have F5 := RX.trans F4 f5
  have k4 := f5.blk k4 (RX.not k4 (show (61 : Nat) ≠ 5 by decide))
  refine Ld_blk k4 rfl ?_
  have e1w : (1 : Int).toNat = 1 := rfl
  have e2w : (2 : Int).toNat = 2 := rfl
  have hfin : ∀ (s6 : Sl) (h6 : Hp) (mid : List UInt8), Tn (RX lo h) h h6 → Rb lo h6 s6 (l ++ (num n.size 1 ++ (n.data.toList ++ (num (if nul then 1 else 0) 1 ++ (num k 1 ++ mid))))) → Blk h6 b4 #[.int .i64 k, .int .i64 w, .int .i64 id, .int .i64 ix, Sl.v s] 61 → mid.length ≤ 3 →
      (if k = 14 ∨ k = 16 then num w 2 else if k = 19 then num id 2 ++ num ix 1 else if k = 17 ∨ k = 18 then num cs.length 1 else []) = mid → J26_1 s6 ⟨b4, 0, none⟩ K Kp h6 := by
    intro s6 h6 mid F6 w6 k6 hm hmid
    rw [hmid] at hk hl
    refine J26_1.of ?_
    unfold JT26_1
    refine rfieldL_c IH hp (RX.old hp g F6) hs hnc w6 k6 (by simp only [List.length_append, num_len]; omega) fun b' h7 f7 w7 => hk b' h7 (RX.trans F6 f7) ?_
    simpa only [List.append_assoc] using w7
  simp only [e1w, List.append_assoc] at w5
  have j3 : J26_3 s5 ⟨b4, 0, none⟩ k (decide (k = 14 ∨ k = 16)) K Kp h5 := by
    refine J26_3.of ?_
    unfold JT26_3
    simp only [add_blk]
    refine If_i (fun c => ?_) fun c => ?_
    · simp only [decide_eq_true_eq] at c
      refine Ld_blk k4 rfl ?_
      refine rnumber_c w5 nw0 nw1 (by omega) (by omega) (by simp only [List.length_append, num_len]; omega) fun s6 h6 f6 w6 => ?_
      simp only [e2w, List.append_assoc] at w6
      exact hfin s6 h6 _ (RX.trans F5 f6) w6 (f6.blk k4 (RX.not k4 (by decide))) (by rw [num_len]; omega) (if_pos c)
    · simp only [decide_eq_false_iff_not] at c
      refine If_i (fun c19 => ?_) fun c19 => ?_
      · simp only [beq_iff_eq] at c19
        refine Ld_blk k4 rfl ?_
        refine rnumber_c w5 ni0 ni1 (by omega) (by omega) (by simp only [List.length_append, num_len]; omega) fun s6 h6 f6 w6 => ?_
        have k6 := f6.blk k4 (RX.not k4 (by decide))
        refine Ld_blk k6 rfl ?_
        refine rnumber_c w6 nx0 nx1 (by omega) (by omega) (by simp only [List.length_append, num_len]; omega) fun s7 h7 f7 w7 => ?_
        simp only [e1w, e2w, List.append_assoc] at w7
        exact hfin s7 h7 _ (RX.trans (RX.trans F5 f6) f7) w7 (f7.blk k6 (RX.not k6 (by decide))) (by simp only [List.length_append, num_len]; omega) (by rw [if_neg c, if_pos c19])
      · simp only [beq_eq_false_iff_ne, ne_eq] at c19
        have two : (k = 17 ∨ k = 18) → Ld h5 ⟨b4, 4, none⟩ (Sl.v) fun t45 => Fn25 s5 (t45.n : Int) (1 : Int) h5 (fun t47 h1 => J26_1 t47 ⟨b4, 0, none⟩ K Kp h1) Kp := by
          intro c2
          refine Ld_blk k4 rfl ?_
          refine rnumber_c w5 (by omega) (by omega) (by omega) (by omega) (by simp only [List.length_append, num_len]; omega) fun s6 h6 f6 w6 => ?_
          simp only [e1w, List.append_assoc] at w6
          refine hfin s6 h6 _ (RX.trans F5 f6) w6 (f6.blk k4 (RX.not k4 (by decide))) (by rw [num_len]; omega) ?_
          rw [if_neg c, if_neg c19, if_pos c2, hsn.1]
        refine If_i (fun c17 => ?_) fun c17 => ?_
        · exact If_t c17 (two (.inl (by simpa using c17)))
        · refine If_i (fun c18 => ?_) fun c18 => ?_
          · exact two (.inr (by simpa using c18))
          · simp only [beq_eq_false_iff_ne, ne_eq] at c17 c18
            refine hfin s5 h5 [] F5 (by simpa only [List.append_nil] using w5) k4 (by simp) ?_
            rw [if_neg c, if_neg c19, if_neg (by omega)]
  refine If_i (fun c => ?_) fun c => ?_
  · have e : (k == (14 : Int)) = decide (k = 14 ∨ k = 16) := by simp only [beq_iff_eq] at c; subst c; decide
    rw [e]; exact j3
  · have e : (k == (16 : Int)) = decide (k = 14 ∨ k = 16) := by
      simp only [beq_eq_false_iff_ne, ne_eq] at c
      by_cases h16 : k = 16
      · subst h16; decide
      · simp [c, h16]
    rw [e]; exact j3
theorem rfield_c : ∀ f : Fld, RFieldC f
  | .mk _ _ _ _ _ _ cs => rfield_step fun f _ => rfield_c f
end Go.Proofs.YtfomkkdijjfpiaaDoor
/- Put: the bytes of a head, when it may be. -/
namespace Go.Proofs.YtfomkkdijjfpiaaDoor
open Go Go.Sh
abbrev Nd := Int × Int
abbrev Bf := Int × Int × Int
def ndRow (x : Nd) : List Value := [.int .i64 x.1, .int .i64 x.2]
def bfRow (x : Bf) : List Value := [.int .i64 x.1, .int .i64 x.2.1, .int .i64 x.2.2]
def ndEnc (x : Nd) : List UInt8 := num x.1 4 ++ num x.2 4
def bfEnc (x : Bf) : List UInt8 := num x.1 4 ++ (num x.2.1 4 ++ num x.2.2 4)
def ndsEnc (l : List Nd) : List UInt8 := (l.map ndEnc).flatten
def bfsEnc (l : List Bf) : List UInt8 := (l.map bfEnc).flatten
theorem ndsEnc_len (l : List Nd) : (ndsEnc l).length = 8 * l.length := by
  induction l with
  | nil => rfl
  | cons m ms ih =>
    have e : ndsEnc (m :: ms) = ndEnc m ++ ndsEnc ms := by simp [ndsEnc]
    rw [e, List.length_append, ih, ndEnc, List.length_append, num_len, num_len, List.length_cons]; omega
theorem bfsEnc_len (l : List Bf) : (bfsEnc l).length = 12 * l.length := by
  induction l with
  | nil => rfl
  | cons m ms ih =>
    have e : bfsEnc (m :: ms) = bfEnc m ++ bfsEnc ms := by simp [bfsEnc]
    rw [e, List.length_append, ih, bfEnc, List.length_append, List.length_append, num_len, num_len, num_len, List.length_cons]; omega
/-- the answer of Put: bytes of its own, the old memory as it was -/
def PutK (h : Hp) (l : List UInt8) (K : Sl → Int → Hp → Prop) : Prop := ∀ s h', Grw h h' → Sh h.size h'.size 1 h' s (bv l) 5 → K s 0 h'
theorem bufL_c {ms : List Bf} {p lo : Nat} {h0 h : Hp} {l : List UInt8} {s : Sl} {K : Sl → Int → Hp → Prop} {Kp : List PanicEntry → Hp → Prop} (hp : h0.size ≤ p) (g : Grw h0 h) (hs : RsH h0 s 3 (ms.map bfRow)) (w : Wtr p lo h l)
    (hl : l.length + (bfsEnc ms).length + 1000 ≤ 2 ^ 40) (hk : PutK h0 (l ++ bfsEnc ms) K) : L8_3 ⟨p, 0, none⟩ s (s.n : Int) K Kp 0 h := by
  have hn : s.n = ms.length := by simpa using hs.1
  have hcl := bfsEnc_len ms
  refine L8_3.rule (fun x h' => ∃ i : Nat, ∃ l', x = (i : Int) ∧ i ≤ ms.length ∧ Tn (WX p lo h) h h' ∧ Wtr p lo h' l' ∧ l' ++ bfsEnc (ms.drop i) = l ++ bfsEnc ms) (fun x _ => ms.length - x.toNat) ⟨0, l, rfl, by omega, Tn.refl _ _, w, by simp⟩ ?_
  rintro x h1 ⟨i, l', rfl, hi, f1, w1, e1⟩ N1 hN
  unfold T8_3
  refine If_i (fun c => ?_) fun c => ?_
  · simp only [decide_eq_true_eq] at c
    have hi' : i < ms.length := by omega
    obtain ⟨a, ha, hc⟩ := hs.2.2 i (bfRow ms[i]) (by rw [List.getElem?_map, List.getElem?_eq_getElem hi']; rfl)
    have hdr : ms.drop i = ms[i] :: ms.drop (i + 1) := List.drop_eq_getElem_cons hi'
    generalize ms[i] = m at hc hdr
    have g1 := WX.old hp w.lt g f1
    have hc1 := hc.grw g1
    have c0 := hc1 0 _ rfl; have c1 := hc1 1 _ rfl; have c2 := hc1 2 _ rfl
    rw [add_zero'] at c0
    rw [ha]
    refine ⟨by omega, by omega, ?_⟩
    rw [Int.toNat_natCast]
    refine ⟨_, c0, _, c1, _, c2, ?_⟩
    rw [hdr] at e1
    have e2 : bfsEnc (m :: ms.drop (i + 1)) = num m.1 4 ++ (num m.2.1 4 ++ (num m.2.2 4 ++ bfsEnc (ms.drop (i + 1)))) := by simp [bfsEnc, bfEnc]
    rw [e2] at e1
    have hlen := congrArg List.length e1
    simp only [List.length_append, num_len] at hlen
    have e4 : (4 : Int).toNat = 4 := rfl
    have lc := SyH.start No h1
    refine lc.new fun b7 _ hb7 _ lc => ?_
    repeat (first | refine lc.ldo 0 rfl rfl ?_ | refine lc.ld 0 rfl rfl ?_ | refine lc.ldo 1 rfl rfl ?_ | refine lc.ld 1 rfl rfl ?_ | refine lc.ldo 2 rfl rfl ?_ | refine lc.ld 2 rfl rfl ?_ | refine lc.ldo 3 rfl rfl ?_ | refine lc.ld 3 rfl rfl ?_ | refine lc.ldo 4 rfl rfl ?_ | refine lc.ld 4 rfl rfl ?_ | refine lc.ldo 5 rfl rfl ?_ | refine lc.ld 5 rfl rfl ?_ | refine lc.ldo 6 rfl rfl ?_ | refine lc.ld 6 rfl rfl ?_ | (refine lc.sto 0 rfl rfl rfl fun _ _ lc => ?_; simp only [Nat.zero_add, List.set_cons_zero, List.set_cons_succ, List.setIfInBounds_toArray] at lc) | (refine lc.st 0 rfl rfl rfl fun _ _ lc => ?_; simp only [Nat.zero_add, List.set_cons_zero, List.set_cons_succ, List.setIfInBounds_toArray] at lc) | (refine lc.sto 1 rfl rfl rfl fun _ _ lc => ?_; simp only [Nat.zero_add, List.set_cons_zero, List.set_cons_succ, List.setIfInBounds_toArray] at lc) | (refine lc.st 1 rfl rfl rfl fun _ _ lc => ?_; simp only [Nat.zero_add, List.set_cons_zero, List.set_cons_succ, List.setIfInBounds_toArray] at lc) | (refine lc.sto 2 rfl rfl rfl fun _ _ lc => ?_; simp only [Nat.zero_add, List.set_cons_zero, List.set_cons_succ, List.setIfInBounds_toArray] at lc) | (refine lc.st 2 rfl rfl rfl fun _ _ lc => ?_; simp only [Nat.zero_add, List.set_cons_zero, List.set_cons_succ, List.setIfInBounds_toArray] at lc) | (refine lc.sto 3 rfl rfl rfl fun _ _ lc => ?_; simp only [Nat.zero_add, List.set_cons_zero, List.set_cons_succ, List.setIfInBounds_toArray] at lc) | (refine lc.st 3 rfl rfl rfl fun _ _ lc => ?_; simp only [Nat.zero_add, List.set_cons_zero, List.set_cons_succ, List.setIfInBounds_toArray] at lc) | (refine lc.sto 4 rfl rfl rfl fun _ _ lc => ?_; simp only [Nat.zero_add, List.set_cons_zero, List.set_cons_succ, List.setIfInBounds_toArray] at lc) | (refine lc.st 4 rfl rfl rfl fun _ _ lc => ?_; simp only [Nat.zero_add, List.set_cons_zero, List.set_cons_succ, List.setIfInBounds_toArray] at lc) | (refine lc.sto 5 rfl rfl rfl fun _ _ lc => ?_; simp only [Nat.zero_add, List.set_cons_zero, List.set_cons_succ, List.setIfInBounds_toArray] at lc) | (refine lc.st 5 rfl rfl rfl fun _ _ lc => ?_; simp only [Nat.zero_add, List.set_cons_zero, List.set_cons_succ, List.setIfInBounds_toArray] at lc) | (refine lc.sto 6 rfl rfl rfl fun _ _ lc => ?_; simp only [Nat.zero_add, List.set_cons_zero, List.set_cons_succ, List.setIfInBounds_toArray] at lc) | (refine lc.st 6 rfl rfl rfl fun _ _ lc => ?_; simp only [Nat.zero_add, List.set_cons_zero, List.set_cons_succ, List.setIfInBounds_toArray] at lc) | refine lc.ldo 0 (x := Sl.nil) rfl rfl ?_ | refine lc.ld 0 (x := Sl.nil) rfl rfl ?_ | refine lc.ldo 1 (x := Sl.nil) rfl rfl ?_ | refine lc.ld 1 (x := Sl.nil) rfl rfl ?_ | refine lc.ldo 2 (x := Sl.nil) rfl rfl ?_ | refine lc.ld 2 (x := Sl.nil) rfl rfl ?_ | refine lc.ldo 3 (x := Sl.nil) rfl rfl ?_ | refine lc.ld 3 (x := Sl.nil) rfl rfl ?_ | refine lc.ldo 4 (x := Sl.nil) rfl rfl ?_ | refine lc.ld 4 (x := Sl.nil) rfl rfl ?_ | refine lc.ldo 5 (x := Sl.nil) rfl rfl ?_ | refine lc.ld 5 (x := Sl.nil) rfl rfl ?_ | refine lc.ldo 6 (x := Sl.nil) rfl rfl ?_ | refine lc.ld 6 (x := Sl.nil) rfl rfl ?_ | refine Wr_i64 (by omega) (by omega) ?_ | refine If_t rfl ?_ | refine If_f rfl ?_)
    have k7 : Blk _ b7 #[.int .i64 m.1, .int .i64 m.2.1, .int .i64 m.2.2] 57 := lc.blk (i := 0) rfl
    have nb : b7 ≠ p := by have := w1.lt; have := w1.le; omega
    refine number_c (w1.keep lc.grw) (by omega) (by omega) (by omega) fun h2 f2 w2 => ?_
    have k7 := f2.blk k7 (WX.not k7 nb (show (57 : Nat) ≠ 5 by decide))
    rw [add_blk]
    refine Ld_blk k7 rfl ?_
    refine number_c w2 (by omega) (by omega) (by rw [List.length_append, num_len]; omega) fun h3 f3 w3 => ?_
    have k7 := f3.blk k7 (WX.not k7 nb (show (57 : Nat) ≠ 5 by decide))
    rw [add_blk]
    refine Ld_blk k7 rfl ?_
    refine number_c w3 (by omega) (by omega) (by rw [List.length_append, List.length_append, num_len, num_len]; omega) fun h4 f4 w4 => ?_
    refine Wr_i64 (by omega) (by omega) ?_
    refine hN _ _ ⟨i + 1, _, by simp, by omega, WX.trans f1 (WX.trans (WX.trans (WX.grw lc.grw f2) f3) f4), w4, ?_⟩ (by omega)
    rw [← e1]; simp only [e4, List.append_assoc]
  · simp only [decide_eq_false_iff_not] at c
    have : i = ms.length := by omega
    subst this
    rw [List.drop_length, bfsEnc, List.map_nil, List.flatten_nil, List.append_nil] at e1
    subst e1
    obtain ⟨t, kt, ot⟩ := w1.ex
    refine Ld_blk kt rfl ?_
    have := w1.lt
    exact hk t h1 (WX.old hp w.lt g f1) (ot.wide (by omega) (Nat.le_refl _))
end Go.Proofs.YtfomkkdijjfpiaaDoor
/- Put: nodes, the whole. -/
namespace Go.Proofs.YtfomkkdijjfpiaaDoor
open Go Go.Sh
/-- what stands in the nine cells of a head -/
def vals9 (k : Int) (s1 s2 : Sl) (id : Int) (de : Bool) (rows press : Int) (s7 s8 : Sl) : Array Value := #[.int .i64 k, Sl.v s1, Sl.v s2, .int .i64 id, .bool de, .int .i64 rows, .int .i64 press, Sl.v s7, Sl.v s8]
theorem j82_c {bs : List Bf} {p lo b1 : Nat} {h0 h : Hp} {l : List UInt8} {k id rows press : Int} {s1 s2 s7 s8 : Sl} {de : Bool} {K : Sl → Int → Hp → Prop} {Kp : List PanicEntry → Hp → Prop} (hp : h0.size ≤ p) (g : Grw h0 h) (hs : RsH h0 s8 3 (bs.map bfRow)) (w : Wtr p lo h l)
    (k1 : Blk h b1 (vals9 k s1 s2 id de rows press s7 s8) 29) (nb : b1 ≠ p) (hl : l.length + (bfsEnc bs).length + 1010 ≤ 2 ^ 40) (hk : PutK h0 (l ++ (num bs.length 2 ++ bfsEnc bs)) K) : J8_2 ⟨b1, 0, none⟩ ⟨p, 0, none⟩ K Kp h := by
  have hn : s8.n = bs.length := by simpa using hs.1
  refine J8_2.of ?_
  unfold JT8_2
  rw [add_blk]
  refine Ld_blk k1 rfl ?_
  refine number_c w (by omega) (by omega) (by omega) fun h2 f2 w2 => ?_
  have k1 := f2.blk k1 (WX.not k1 nb (by decide))
  refine Ld_blk k1 rfl ?_
  refine bufL_c hp (WX.old hp w.lt g f2) hs w2 (by rw [List.length_append, num_len]; show _ + 2 + _ + _ ≤ _; omega) ?_
  rw [hn, List.append_assoc]; exact hk
theorem nodeL_c {ms : List Nd} {bs : List Bf} {p lo b1 : Nat} {h0 h : Hp} {l : List UInt8} {k id rows press : Int} {s1 s2 s7 s8 : Sl} {de : Bool} {K : Sl → Int → Hp → Prop} {Kp : List PanicEntry → Hp → Prop} (hp : h0.size ≤ p) (g : Grw h0 h) (hs : RsH h0 s7 2 (ms.map ndRow)) (ht : RsH h0 s8 3 (bs.map bfRow)) (w : Wtr p lo h l)
    (k1 : Blk h b1 (vals9 k s1 s2 id de rows press s7 s8) 29) (nb : b1 ≠ p) (hl : l.length + (ndsEnc ms).length + (bfsEnc bs).length + 1010 ≤ 2 ^ 40) (hk : PutK h0 (l ++ (ndsEnc ms ++ (num bs.length 2 ++ bfsEnc bs))) K) : L8_4 ⟨b1, 0, none⟩ ⟨p, 0, none⟩ s7 (s7.n : Int) K Kp 0 h := by
  have hn : s7.n = ms.length := by simpa using hs.1
  have hcl := ndsEnc_len ms
  refine L8_4.rule (fun x h' => ∃ i : Nat, ∃ l', x = (i : Int) ∧ i ≤ ms.length ∧ Tn (WX p lo h) h h' ∧ Wtr p lo h' l' ∧ Blk h' b1 (vals9 k s1 s2 id de rows press s7 s8) 29 ∧ l' ++ ndsEnc (ms.drop i) = l ++ ndsEnc ms) (fun x _ => ms.length - x.toNat) ⟨0, l, rfl, by omega, Tn.refl _ _, w, k1, by simp⟩ ?_
  rintro x h1 ⟨i, l', rfl, hi, f1, w1, k1, e1⟩ N1 hN
  unfold T8_4
  refine If_i (fun c => ?_) fun c => ?_
  · simp only [decide_eq_true_eq] at c
    have hi' : i < ms.length := by omega
    obtain ⟨a, ha, hc⟩ := hs.2.2 i (ndRow ms[i]) (by rw [List.getElem?_map, List.getElem?_eq_getElem hi']; rfl)
    have hdr : ms.drop i = ms[i] :: ms.drop (i + 1) := List.drop_eq_getElem_cons hi'
    generalize ms[i] = m at hc hdr
    have g1 := WX.old hp w.lt g f1
    have hc1 := hc.grw g1
    have c0 := hc1 0 _ rfl; have c1 := hc1 1 _ rfl
    rw [add_zero'] at c0
    rw [ha]
    refine ⟨by omega, by omega, ?_⟩
    rw [Int.toNat_natCast]
    refine ⟨_, c0, _, c1, ?_⟩
    rw [hdr] at e1
    have e2 : ndsEnc (m :: ms.drop (i + 1)) = num m.1 4 ++ (num m.2 4 ++ ndsEnc (ms.drop (i + 1))) := by simp [ndsEnc, ndEnc]
    rw [e2] at e1
    have hlen := congrArg List.length e1
    simp only [List.length_append, num_len] at hlen
    have e4 : (4 : Int).toNat = 4 := rfl
    have lc := SyH.start No h1
    refine lc.new fun b7 _ hb7 _ lc => ?_
    repeat (first | refine lc.ldo 0 rfl rfl ?_ | refine lc.ld 0 rfl rfl ?_ | refine lc.ldo 1 rfl rfl ?_ | refine lc.ld 1 rfl rfl ?_ | refine lc.ldo 2 rfl rfl ?_ | refine lc.ld 2 rfl rfl ?_ | refine lc.ldo 3 rfl rfl ?_ | refine lc.ld 3 rfl rfl ?_ | refine lc.ldo 4 rfl rfl ?_ | refine lc.ld 4 rfl rfl ?_ | refine lc.ldo 5 rfl rfl ?_ | refine lc.ld 5 rfl rfl ?_ | refine lc.ldo 6 rfl rfl ?_ | refine lc.ld 6 rfl rfl ?_ | (refine lc.sto 0 rfl rfl rfl fun _ _ lc => ?_; simp only [Nat.zero_add, List.set_cons_zero, List.set_cons_succ, List.setIfInBounds_toArray] at lc) | (refine lc.st 0 rfl rfl rfl fun _ _ lc => ?_; simp only [Nat.zero_add, List.set_cons_zero, List.set_cons_succ, List.setIfInBounds_toArray] at lc) | (refine lc.sto 1 rfl rfl rfl fun _ _ lc => ?_; simp only [Nat.zero_add, List.set_cons_zero, List.set_cons_succ, List.setIfInBounds_toArray] at lc) | (refine lc.st 1 rfl rfl rfl fun _ _ lc => ?_; simp only [Nat.zero_add, List.set_cons_zero, List.set_cons_succ, List.setIfInBounds_toArray] at lc) | (refine lc.sto 2 rfl rfl rfl fun _ _ lc => ?_; simp only [Nat.zero_add, List.set_cons_zero, List.set_cons_succ, List.setIfInBounds_toArray] at lc) | (refine lc.st 2 rfl rfl rfl fun _ _ lc => ?_; simp only [Nat.zero_add, List.set_cons_zero, List.set_cons_succ, List.setIfInBounds_toArray] at lc) | (refine lc.sto 3 rfl rfl rfl fun _ _ lc => ?_; simp only [Nat.zero_add, List.set_cons_zero, List.set_cons_succ, List.setIfInBounds_toArray] at lc) | (refine lc.st 3 rfl rfl rfl fun _ _ lc => ?_; simp only [Nat.zero_add, List.set_cons_zero, List.set_cons_succ, List.setIfInBounds_toArray] at lc) | (refine lc.sto 4 rfl rfl rfl fun _ _ lc => ?_; simp only [Nat.zero_add, List.set_cons_zero, List.set_cons_succ, List.setIfInBounds_toArray] at lc) | (refine lc.st 4 rfl rfl rfl fun _ _ lc => ?_; simp only [Nat.zero_add, List.set_cons_zero, List.set_cons_succ, List.setIfInBounds_toArray] at lc) | (refine lc.sto 5 rfl rfl rfl fun _ _ lc => ?_; simp only [Nat.zero_add, List.set_cons_zero, List.set_cons_succ, List.setIfInBounds_toArray] at lc) | (refine lc.st 5 rfl rfl rfl fun _ _ lc => ?_; simp only [Nat.zero_add, List.set_cons_zero, List.set_cons_succ, List.setIfInBounds_toArray] at lc) | (refine lc.sto 6 rfl rfl rfl fun _ _ lc => ?_; simp only [Nat.zero_add, List.set_cons_zero, List.set_cons_succ, List.setIfInBounds_toArray] at lc) | (refine lc.st 6 rfl rfl rfl fun _ _ lc => ?_; simp only [Nat.zero_add, List.set_cons_zero, List.set_cons_succ, List.setIfInBounds_toArray] at lc) | refine lc.ldo 0 (x := Sl.nil) rfl rfl ?_ | refine lc.ld 0 (x := Sl.nil) rfl rfl ?_ | refine lc.ldo 1 (x := Sl.nil) rfl rfl ?_ | refine lc.ld 1 (x := Sl.nil) rfl rfl ?_ | refine lc.ldo 2 (x := Sl.nil) rfl rfl ?_ | refine lc.ld 2 (x := Sl.nil) rfl rfl ?_ | refine lc.ldo 3 (x := Sl.nil) rfl rfl ?_ | refine lc.ld 3 (x := Sl.nil) rfl rfl ?_ | refine lc.ldo 4 (x := Sl.nil) rfl rfl ?_ | refine lc.ld 4 (x := Sl.nil) rfl rfl ?_ | refine lc.ldo 5 (x := Sl.nil) rfl rfl ?_ | refine lc.ld 5 (x := Sl.nil) rfl rfl ?_ | refine lc.ldo 6 (x := Sl.nil) rfl rfl ?_ | refine lc.ld 6 (x := Sl.nil) rfl rfl ?_ | refine Wr_i64 (by omega) (by omega) ?_ | refine If_t rfl ?_ | refine If_f rfl ?_)
    have k7 : Blk _ b7 #[.int .i64 m.1, .int .i64 m.2] 55 := lc.blk (i := 0) rfl
    have nb7 : b7 ≠ p := by have := w1.lt; have := w1.le; omega
    have k1 := k1.grw lc.grw
    refine number_c (w1.keep lc.grw) (by omega) (by omega) (by omega) fun h2 f2 w2 => ?_
    have k7 := f2.blk k7 (WX.not k7 nb7 (show (55 : Nat) ≠ 5 by decide))
    have k1 := f2.blk k1 (WX.not k1 nb (by decide))
    rw [add_blk]
    refine Ld_blk k7 rfl ?_
    refine number_c w2 (by omega) (by omega) (by rw [List.length_append, num_len]; omega) fun h3 f3 w3 => ?_
    have k1 := f3.blk k1 (WX.not k1 nb (by decide))
    refine Wr_i64 (by omega) (by omega) ?_
    refine hN _ _ ⟨i + 1, _, by simp, by omega, WX.trans f1 (WX.trans (WX.grw lc.grw f2) f3), w3, k1, ?_⟩ (by omega)
    rw [← e1]; simp only [e4, List.append_assoc]
  · simp only [decide_eq_false_iff_not] at c
    have : i = ms.length := by omega
    subst this
    rw [List.drop_length, ndsEnc, List.map_nil, List.flatten_nil, List.append_nil] at e1
    subst e1
    refine j82_c hp (WX.old hp w.lt g f1) ht w1 k1 nb (by rw [List.length_append]; omega) ?_
    rw [List.append_assoc]; exact hk
def tailEnc (rows press : Int) (ms : List Nd) (bs : List Bf) : List UInt8 := num rows 4 ++ (num press 1 ++ (num ms.length 2 ++ (ndsEnc ms ++ (num bs.length 2 ++ bfsEnc bs))))
theorem j81_c {ms : List Nd} {bs : List Bf} {p lo b1 : Nat} {h0 h : Hp} {l : List UInt8} {k id rows press : Int} {s1 s2 s7 s8 : Sl} {de : Bool} {K : Sl → Int → Hp → Prop} {Kp : List PanicEntry → Hp → Prop} (hp : h0.size ≤ p) (g : Grw h0 h) (hs : RsH h0 s7 2 (ms.map ndRow)) (ht : RsH h0 s8 3 (bs.map bfRow)) (w : Wtr p lo h l)
    (k1 : Blk h b1 (vals9 k s1 s2 id de rows press s7 s8) 29) (nb : b1 ≠ p) (hl : l.length + (tailEnc rows press ms bs).length + 1010 ≤ 2 ^ 40) (hk : PutK h0 (l ++ tailEnc rows press ms bs) K) : J8_1 ⟨b1, 0, none⟩ ⟨p, 0, none⟩ K Kp h := by
  simp only [tailEnc, List.length_append, num_len] at hl hk
  have hn : s7.n = ms.length := by simpa using hs.1
  refine J8_1.of ?_
  unfold JT8_1
  simp only [add_blk]
  refine Ld_blk k1 rfl ?_
  refine number_c w (by omega) (by omega) (by omega) fun h2 f2 w2 => ?_
  have k1 := f2.blk k1 (WX.not k1 nb (by decide))
  refine Ld_blk k1 rfl ?_
  refine number_c w2 (by omega) (by omega) (by rw [List.length_append, num_len]; show _ + 4 + _ ≤ _; omega) fun h3 f3 w3 => ?_
  have k1 := f3.blk k1 (WX.not k1 nb (by decide))
  refine Ld_blk k1 rfl ?_
  refine number_c w3 (by omega) (by omega) (by rw [List.length_append, List.length_append, num_len, num_len]; show _ + 4 + 1 + _ ≤ _; omega) fun h4 f4 w4 => ?_
  have k1 := f4.blk k1 (WX.not k1 nb (by decide))
  refine Ld_blk k1 rfl ?_
  refine nodeL_c hp (WX.old hp w.lt g (WX.trans (WX.trans f2 f3) f4)) hs ht w4 k1 nb (by simp only [List.length_append, num_len]; show _ + 4 + 1 + 2 + _ + _ + _ ≤ _; omega) ?_
  have e1 : (1 : Int).toNat = 1 := rfl
  have e2 : (2 : Int).toNat = 2 := rfl
  have e4 : (4 : Int).toNat = 4 := rfl
  rw [hn]
  simpa only [e1, e2, e4, List.append_assoc] using hk
end Go.Proofs.YtfomkkdijjfpiaaDoor
/- Put: the whole, but for the question whether the head may be. -/
namespace Go.Proofs.YtfomkkdijjfpiaaDoor
open Go Go.Sh
/-- a head -/
structure Hd where
  k : Int
  fs : List Fld
  ms : List Md
  id : Int
  de : Bool
  rows : Int
  press : Int
  nodes : List Nd
  bufs : List Bf
/-- the lists of a head stand at these slices -/
structure HdH (h : Hp) (H : Hd) (s1 s2 s7 s8 : Sl) : Prop where
  fs : FsH h s1 H.fs
  ms : RsH h s2 2 (H.ms.map mdRow)
  nodes : RsH h s7 2 (H.nodes.map ndRow)
  bufs : RsH h s8 3 (H.bufs.map bfRow)
def Hd.enc (H : Hd) : List UInt8 := num H.k 1 ++ (num 1 1 ++ (num 0 2 ++
  (if H.k = 1 then schemaEnc H.fs H.ms else (if H.k = 2 then num H.id 2 ++ num (if H.de then 1 else 0) 1 else []) ++ tailEnc H.rows H.press H.nodes H.bufs)))
/-- the package's table of kinds: which may be an index -/
def KTab (h : Hp) : Prop := ∀ i : Nat, i < 21 → cell h ⟨0, i * 4 + 3, none⟩ = some (.bool (decide (3 ≤ i ∧ i ≤ 10)))
theorem KTab.grw {h h' : Hp} (t : KTab h) (g : Grw h h') : KTab h' := fun i hi => g.cell (t i hi)
/-- the question whether a head may be, as the package asks it -/
def MayC (H : Hd) (m : Bool) : Prop := ∀ {h0 h : Hp} {s1 s2 s7 s8 : Sl} {K : Bool → Hp → Prop} {Kp : List PanicEntry → Hp → Prop}, KTab h0 → Grw h0 h → HdH h0 H s1 s2 s7 s8 → (∀ h', Grw h h' → K m h') → Fn21 H.k s1 s2 H.id H.de H.rows H.press s7 s8 h K Kp
theorem put_c {H : Hd} {m : Bool} (hm : MayC H m) {h : Hp} {s1 s2 s7 s8 : Sl} {K : Sl → Int → Hp → Prop} {Kp : List PanicEntry → Hp → Prop} (htab : KTab h) (hh : HdH h H s1 s2 s7 s8) (hl : m = true → H.enc.length + 2000 ≤ 2 ^ 40)
    (hf : m = false → ∀ h', Grw h h' → K Sl.nil 50 h') (ht : m = true → PutK h H.enc K) : Fn8 H.k s1 s2 H.id H.de H.rows H.press s7 s8 h K Kp := by
  obtain ⟨k, fs, ms, id, de, rows, press, nodes, bufs⟩ := H
  simp only at hh hf ht ⊢
  refine Fn8.of ?_
  unfold S8
  refine New_i fun b1 h1 e1 g1 k1 _ => ?_
  simp only [add_blk]
  refine Ld_blk k1 rfl (Ld_blk k1 rfl (Ld_blk k1 rfl (Ld_blk k1 rfl (Ld_blk k1 rfl (Ld_blk k1 rfl (Ld_blk k1 rfl (Ld_blk k1 rfl (Ld_blk k1 rfl ?_))))))))
  refine hm htab g1 hh fun h2 g2 => ?_
  have k1 := k1.grw g2
  cases m
  · exact If_t rfl (hf rfl h2 (Grw.trans g1 g2))
  · refine If_f rfl (New_i fun p h3 ep g3 kp e3 => ?_)
    have k1' : Blk h3 b1 (vals9 k s1 s2 id de rows press s7 s8) 29 := k1.grw g3
    clear k1
    have hb1 := k1'.lt
    have G3 : Grw h h3 := Grw.trans (Grw.trans g1 g2) g3
    have nb : b1 ≠ p := by
      rintro rfl
      have e := k1'.symm.trans kp
      simp [vals9] at e
    have hp : h.size ≤ p := by rw [ep]; exact (Grw.trans g1 g2).1
    have w : Wtr p (p + 1) h3 [] := ⟨⟨Sl.nil, kp, Sh.nil _ _ _ _ _⟩, Nat.lt_succ_self _, by omega⟩
    have F := fun {h'} (f : Tn (WX p (p + 1) h3) h3 h') => WX.old hp w.lt G3 f
    refine Ld_blk k1' rfl ?_
    refine number_c w (by omega) (by omega) (by simp only [List.length_nil]; omega) fun h4 f4 w4 => ?_
    refine number_c w4 (by omega) (by omega) (by simp only [List.length_append, num_len, List.length_nil]; omega) fun h5 f5 w5 => ?_
    refine number_c w5 (by omega) (by omega) (by simp only [List.length_append, num_len, List.length_nil]; omega) fun h6 f6 w6 => ?_
    have f6 := WX.trans (WX.trans f4 f5) f6
    have k6 := f6.blk k1' (WX.not k1' nb (show (29 : Nat) ≠ 5 by decide))
    have hT := ht rfl
    have hl := hl rfl
    clear ht hf
    have e1 : (1 : Int).toNat = 1 := rfl
    have e2 : (2 : Int).toNat = 2 := rfl
    simp only [Hd.enc, List.length_append, num_len] at hl hT
    simp only [e1, e2, List.nil_append, List.append_assoc] at w6
    refine Ld_blk k6 rfl ?_
    refine If_i (fun c => ?_) fun c => ?_
    · simp only [beq_iff_eq] at c
      rw [if_pos c] at hl hT
      refine Ld_blk k6 rfl (Ld_blk k6 rfl ?_)
      refine schema_c hp (F f6) hh.fs hh.ms w6 (by simp only [List.length_append, num_len]; omega) fun h7 f7 w7 => ?_
      obtain ⟨t, kt, ot⟩ := w7.ex
      refine Ld_blk kt rfl ?_
      refine hT t h7 (F (WX.trans f6 f7)) ?_
      have ot := ot.wide (lo' := h.size) (hi' := h7.size) (by omega) (Nat.le_refl _)
      simpa only [List.append_assoc] using ot
    · simp only [beq_eq_false_iff_ne, ne_eq] at c
      rw [if_neg c] at hl hT
      refine Ld_blk k6 rfl ?_
      refine If_i (fun c2 => ?_) fun c2 => ?_
      · simp only [beq_iff_eq] at c2
        rw [if_pos c2] at hl hT
        try simp only [List.length_append, num_len] at hl
        refine Ld_blk k6 rfl ?_
        refine number_c w6 (by omega) (by omega) (by simp only [List.length_append, num_len]; omega) fun h7 f7 w7 => ?_
        have k7 := f7.blk k6 (WX.not k6 nb (show (29 : Nat) ≠ 5 by decide))
        refine Ld_blk k7 rfl ?_
        refine flag_c w7 (by simp only [List.length_append, num_len]; show _ + 2 + _ ≤ _; omega) fun h8 f8 w8 => ?_
        have k8 := f8.blk k7 (WX.not k7 nb (show (29 : Nat) ≠ 5 by decide))
        refine j81_c hp (F (WX.trans (WX.trans f6 f7) f8)) hh.nodes hh.bufs w8 k8 nb (by simp only [List.length_append, num_len]; show _ + 2 + 1 + _ + _ ≤ _; omega) ?_
        simpa only [e2, List.append_assoc] using hT
      · simp only [beq_eq_false_iff_ne, ne_eq] at c2
        rw [if_neg c2] at hl hT
        try simp only [List.length_nil, List.nil_append] at hl
        refine j81_c hp (F f6) hh.nodes hh.bufs w6 k6 nb (by simp only [List.length_append, num_len]; omega) ?_
        simpa only [List.nil_append, List.append_assoc] using hT
end Go.Proofs.YtfomkkdijjfpiaaDoor
/- The document's Put: buffers and nodes. -/
namespace Go.Proofs.YtfomkkdijjfpiaaDoor
open Go Go.Sh
def Nd.nn (x : Nd) : Prop := i63 x.1 ∧ i63 x.2
def Bf.nn (x : Bf) : Prop := i63 x.1 ∧ i63 x.2.1 ∧ i63 x.2.2
abbrev B9 (h : Hp) (b1 : Nat) (k : Int) (s1 s2 : Sl) (id : Int) (de : Bool) (rows press : Int) (s7 s8 : Sl) : Prop := Blk h b1 (vals9 k s1 s2 id de rows press s7 s8) 29
theorem rbufL_c {ms : List Bf} (hnn : ∀ x ∈ ms, Bf.nn x) {lo b1 : Nat} {h0 h : Hp} {l : List UInt8} {k id rows press : Int} {s1 s2 s7 s8 b : Sl} {de : Bool} {K : Sl → Int → Hp → Prop} {Kp : List PanicEntry → Hp → Prop} (hp : h0.size ≤ lo) (g : Grw h0 h) (hs : RsH h0 s8 3 (ms.map bfRow)) (w : Rb lo h b l)
    (k1 : B9 h b1 k s1 s2 id de rows press s7 s8) (hl : l.length + (bfsEnc ms).length + 1000 ≤ 2 ^ 40) (hk : PutK h0 (l ++ bfsEnc ms) K) : L9_4 ⟨b1, 0, none⟩ K Kp b 0 h := by
  have hn : s8.n = ms.length := by simpa using hs.1
  have hcl := bfsEnc_len ms
  refine L9_4.rule (fun t x h' => ∃ i : Nat, ∃ l', x = (i : Int) ∧ i ≤ ms.length ∧ Tn (RX lo h) h h' ∧ Rb lo h' t l' ∧ B9 h' b1 k s1 s2 id de rows press s7 s8 ∧ l' ++ bfsEnc (ms.drop i) = l ++ bfsEnc ms) (fun _ x _ => ms.length - x.toNat) ⟨0, l, rfl, by omega, Tn.refl _ _, w, k1, by simp⟩ ?_
  rintro t x h1 ⟨i, l', rfl, hi, f1, w1, k1, e1⟩ N1 hN
  unfold T9_4
  simp only [add_blk]
  refine Ld_blk k1 rfl ?_
  refine If_i (fun c => ?_) fun c => ?_
  · refine Ld_blk k1 rfl ?_
    simp only [decide_eq_true_eq] at c
    have hi' : i < ms.length := by omega
    obtain ⟨a, ha, hc⟩ := hs.2.2 i (bfRow ms[i]) (by rw [List.getElem?_map, List.getElem?_eq_getElem hi']; rfl)
    have hdr : ms.drop i = ms[i] :: ms.drop (i + 1) := List.drop_eq_getElem_cons hi'
    have hx := hnn ms[i] (List.getElem_mem hi')
    generalize ms[i] = m at hc hdr hx
    obtain ⟨n1, n2, n3⟩ := hx
    have g1 := RX.old hp g f1
    have c0 := (hc.grw g1) 0 _ rfl
    rw [add_zero'] at c0
    rw [hdr] at e1
    have e2 : bfsEnc (m :: ms.drop (i + 1)) = num m.1 4 ++ (num m.2.1 4 ++ (num m.2.2 4 ++ bfsEnc (ms.drop (i + 1)))) := by simp [bfsEnc, bfEnc]
    rw [e2] at e1
    have hlen := congrArg List.length e1
    simp only [List.length_append, num_len] at hlen
    have e4 : (4 : Int).toNat = 4 := rfl
    rw [ha]
    refine ⟨by omega, by omega, ?_⟩
    rw [Int.toNat_natCast]
    refine ⟨_, c0, ?_⟩
    refine rnumber_c w1 n1.1 n1.2 (by omega) (by omega) (by omega) fun t2 h2 f2 w2 => ?_
    have k1 := f2.blk k1 (RX.not k1 (by decide))
    have c1 := (hc.grw (RX.old hp g (RX.trans f1 f2))) 1 _ rfl
    refine Ld_blk k1 rfl ?_
    rw [ha]
    refine ⟨by omega, by omega, ?_⟩
    rw [Int.toNat_natCast]
    refine ⟨_, c1, ?_⟩
    refine rnumber_c w2 n2.1 n2.2 (by omega) (by omega) (by rw [List.length_append, num_len]; omega) fun t3 h3 f3 w3 => ?_
    have k1 := f3.blk k1 (RX.not k1 (by decide))
    have c2 := (hc.grw (RX.old hp g (RX.trans (RX.trans f1 f2) f3))) 2 _ rfl
    refine Ld_blk k1 rfl ?_
    rw [ha]
    refine ⟨by omega, by omega, ?_⟩
    rw [Int.toNat_natCast]
    refine ⟨_, c2, ?_⟩
    refine rnumber_c w3 n3.1 n3.2 (by omega) (by omega) (by rw [List.length_append, List.length_append, num_len, num_len]; omega) fun t4 h4 f4 w4 => ?_
    have k1 := f4.blk k1 (RX.not k1 (by decide))
    refine Wr_i64 (by omega) (by omega) ?_
    refine hN _ _ _ ⟨i + 1, _, by simp, by omega, RX.trans (RX.trans (RX.trans f1 f2) f3) f4, w4, k1, ?_⟩ (by omega)
    rw [← e1]; simp only [e4, List.append_assoc]
  · simp only [decide_eq_false_iff_not] at c
    have : i = ms.length := by omega
    subst this
    rw [List.drop_length, bfsEnc, List.map_nil, List.flatten_nil, List.append_nil] at e1
    subst e1
    exact hk t h1 (RX.old hp g f1) (w1.sh.wide hp (Nat.le_refl _))
theorem r93_c {bs : List Bf} (hnn : ∀ x ∈ bs, Bf.nn x) {lo b1 : Nat} {h0 h : Hp} {l : List UInt8} {k id rows press : Int} {s1 s2 s7 s8 b : Sl} {de : Bool} {K : Sl → Int → Hp → Prop} {Kp : List PanicEntry → Hp → Prop} (hp : h0.size ≤ lo) (g : Grw h0 h) (hs : RsH h0 s8 3 (bs.map bfRow)) (w : Rb lo h b l)
    (k1 : B9 h b1 k s1 s2 id de rows press s7 s8) (hl : l.length + (bfsEnc bs).length + 1010 ≤ 2 ^ 40) (hk : PutK h0 (l ++ (num bs.length 2 ++ bfsEnc bs)) K) : J9_3 ⟨b1, 0, none⟩ b K Kp h := by
  have hn : s8.n = bs.length := by simpa using hs.1
  have hcl := bfsEnc_len bs
  refine J9_3.of ?_
  unfold JT9_3
  rw [add_blk]
  refine Ld_blk k1 rfl ?_
  refine rnumber_c w (by omega) (by omega) (by omega) (by omega) (by omega) fun t2 h2 f2 w2 => ?_
  have k1 := f2.blk k1 (RX.not k1 (by decide))
  refine rbufL_c hnn hp (RX.old hp g f2) hs w2 k1 (by rw [List.length_append, num_len]; show _ + 2 + _ + _ ≤ _; omega) ?_
  rw [hn, List.append_assoc]; exact hk
theorem rnodeL_c {ms : List Nd} {bs : List Bf} (hnm : ∀ x ∈ ms, Nd.nn x) (hnn : ∀ x ∈ bs, Bf.nn x) {lo b1 : Nat} {h0 h : Hp} {l : List UInt8} {k id rows press : Int} {s1 s2 s7 s8 b : Sl} {de : Bool} {K : Sl → Int → Hp → Prop} {Kp : List PanicEntry → Hp → Prop} (hp : h0.size ≤ lo) (g : Grw h0 h) (hs : RsH h0 s7 2 (ms.map ndRow)) (ht : RsH h0 s8 3 (bs.map bfRow)) (w : Rb lo h b l)
    (k1 : B9 h b1 k s1 s2 id de rows press s7 s8) (hl : l.length + (ndsEnc ms).length + (bfsEnc bs).length + 1010 ≤ 2 ^ 40) (hk : PutK h0 (l ++ (ndsEnc ms ++ (num bs.length 2 ++ bfsEnc bs))) K) : L9_5 ⟨b1, 0, none⟩ K Kp b 0 h := by
  have hn : s7.n = ms.length := by simpa using hs.1
  have hcl := ndsEnc_len ms
  refine L9_5.rule (fun t x h' => ∃ i : Nat, ∃ l', x = (i : Int) ∧ i ≤ ms.length ∧ Tn (RX lo h) h h' ∧ Rb lo h' t l' ∧ B9 h' b1 k s1 s2 id de rows press s7 s8 ∧ l' ++ ndsEnc (ms.drop i) = l ++ ndsEnc ms) (fun _ x _ => ms.length - x.toNat) ⟨0, l, rfl, by omega, Tn.refl _ _, w, k1, by simp⟩ ?_
  rintro t x h1 ⟨i, l', rfl, hi, f1, w1, k1, e1⟩ N1 hN
  unfold T9_5
  simp only [add_blk]
  refine Ld_blk k1 rfl ?_
  refine If_i (fun c => ?_) fun c => ?_
  · refine Ld_blk k1 rfl ?_
    simp only [decide_eq_true_eq] at c
    have hi' : i < ms.length := by omega
    obtain ⟨a, ha, hc⟩ := hs.2.2 i (ndRow ms[i]) (by rw [List.getElem?_map, List.getElem?_eq_getElem hi']; rfl)
    have hdr : ms.drop i = ms[i] :: ms.drop (i + 1) := List.drop_eq_getElem_cons hi'
    have hx := hnm ms[i] (List.getElem_mem hi')
    generalize ms[i] = m at hc hdr hx
    obtain ⟨n1, n2⟩ := hx
    have c0 := (hc.grw (RX.old hp g f1)) 0 _ rfl
    rw [add_zero'] at c0
    rw [hdr] at e1
    have e2 : ndsEnc (m :: ms.drop (i + 1)) = num m.1 4 ++ (num m.2 4 ++ ndsEnc (ms.drop (i + 1))) := by simp [ndsEnc, ndEnc]
    rw [e2] at e1
    have hlen := congrArg List.length e1
    simp only [List.length_append, num_len] at hlen
    have e4 : (4 : Int).toNat = 4 := rfl
    rw [ha]
    refine ⟨by omega, by omega, ?_⟩
    rw [Int.toNat_natCast]
    refine ⟨_, c0, ?_⟩
    refine rnumber_c w1 n1.1 n1.2 (by omega) (by omega) (by omega) fun t2 h2 f2 w2 => ?_
    have k1 := f2.blk k1 (RX.not k1 (by decide))
    have c1 := (hc.grw (RX.old hp g (RX.trans f1 f2))) 1 _ rfl
    refine Ld_blk k1 rfl ?_
    rw [ha]
    refine ⟨by omega, by omega, ?_⟩
    rw [Int.toNat_natCast]
    refine ⟨_, c1, ?_⟩
    refine rnumber_c w2 n2.1 n2.2 (by omega) (by omega) (by rw [List.length_append, num_len]; omega) fun t3 h3 f3 w3 => ?_
    have k1 := f3.blk k1 (RX.not k1 (by decide))
    refine Wr_i64 (by omega) (by omega) ?_
    refine hN _ _ _ ⟨i + 1, _, by simp, by omega, RX.trans (RX.trans f1 f2) f3, w3, k1, ?_⟩ (by omega)
    rw [← e1]; simp only [e4, List.append_assoc]
  · simp only [decide_eq_false_iff_not] at c
    have : i = ms.length := by omega
    subst this
    rw [List.drop_length, ndsEnc, List.map_nil, List.flatten_nil, List.append_nil] at e1
    subst e1
    refine r93_c hnn hp (RX.old hp g f1) ht w1 k1 (by rw [List.length_append]; omega) ?_
    rw [List.append_assoc]; exact hk
end Go.Proofs.YtfomkkdijjfpiaaDoor
/- The document's Put: notes, fields, the tail, the whole. -/
namespace Go.Proofs.YtfomkkdijjfpiaaDoor
open Go Go.Sh
theorem rmdL_c {ms : List Md} {lo b1 : Nat} {h0 h : Hp} {l : List UInt8} {k id rows press : Int} {s1 s2 s7 s8 b : Sl} {de : Bool} {K : Sl → Int → Hp → Prop} {Kp : List PanicEntry → Hp → Prop} (hp : h0.size ≤ lo) (g : Grw h0 h) (hs : RsH h0 s2 2 (ms.map mdRow)) (w : Rb lo h b l)
    (k1 : B9 h b1 k s1 s2 id de rows press s7 s8) (hl : l.length + (mdsEnc ms).length + 1000 ≤ 2 ^ 40) (hk : PutK h0 (l ++ mdsEnc ms) K) : L9_7 ⟨b1, 0, none⟩ K Kp b 0 h := by
  have hn : s2.n = ms.length := by simpa using hs.1
  have hcl := mdsEnc_len ms
  refine L9_7.rule (fun t x h' => ∃ i : Nat, ∃ l', x = (i : Int) ∧ i ≤ ms.length ∧ Tn (RX lo h) h h' ∧ Rb lo h' t l' ∧ B9 h' b1 k s1 s2 id de rows press s7 s8 ∧ l' ++ mdsEnc (ms.drop i) = l ++ mdsEnc ms) (fun _ x _ => ms.length - x.toNat) ⟨0, l, rfl, by omega, Tn.refl _ _, w, k1, by simp⟩ ?_
  rintro t x h1 ⟨i, l', rfl, hi, f1, w1, k1, e1⟩ N1 hN
  unfold T9_7
  simp only [add_blk]
  refine Ld_blk k1 rfl ?_
  refine If_i (fun c => ?_) fun c => ?_
  · refine Ld_blk k1 rfl ?_
    simp only [decide_eq_true_eq] at c
    have hi' : i < ms.length := by omega
    obtain ⟨a, ha, hc⟩ := hs.2.2 i (mdRow ms[i]) (by rw [List.getElem?_map, List.getElem?_eq_getElem hi']; rfl)
    have hdr : ms.drop i = ms[i] :: ms.drop (i + 1) := List.drop_eq_getElem_cons hi'
    generalize ms[i] = m at hc hdr
    have c0 := (hc.grw (RX.old hp g f1)) 0 _ rfl
    rw [add_zero'] at c0
    rw [hdr] at e1
    have e2 : mdsEnc (m :: ms.drop (i + 1)) = (num m.1.size 2 ++ m.1.data.toList) ++ ((num m.2.size 2 ++ m.2.data.toList) ++ mdsEnc (ms.drop (i + 1))) := by simp [mdsEnc, mdEnc, text2]
    rw [e2] at e1
    have hlen := congrArg List.length e1
    simp only [List.length_append, num_len] at hlen
    have hz1 : m.1.data.toList.length = m.1.size := rfl
    have hz2 : m.2.data.toList.length = m.2.size := rfl
    have e4 : (2 : Int).toNat = 2 := rfl
    rw [ha]
    refine ⟨by omega, by omega, ?_⟩
    rw [Int.toNat_natCast]
    refine ⟨_, c0, ?_⟩
    refine rtext_c w1 (by omega) (by omega) (by omega) fun t2 h2 f2 w2 => ?_
    have k1 := f2.blk k1 (RX.not k1 (by decide))
    have c1 := (hc.grw (RX.old hp g (RX.trans f1 f2))) 1 _ rfl
    refine Ld_blk k1 rfl ?_
    rw [ha]
    refine ⟨by omega, by omega, ?_⟩
    rw [Int.toNat_natCast]
    refine ⟨_, c1, ?_⟩
    refine rtext_c w2 (by omega) (by omega) (by simp only [List.length_append, num_len]; show _ + (2 + _) + _ + _ ≤ _; omega) fun t3 h3 f3 w3 => ?_
    have k1 := f3.blk k1 (RX.not k1 (by decide))
    refine Wr_i64 (by omega) (by omega) ?_
    refine hN _ _ _ ⟨i + 1, _, by simp, by omega, RX.trans (RX.trans f1 f2) f3, w3, k1, ?_⟩ (by omega)
    rw [← e1]; simp only [e4, List.append_assoc]
  · simp only [decide_eq_false_iff_not] at c
    have : i = ms.length := by omega
    subst this
    rw [List.drop_length, mdsEnc, List.map_nil, List.flatten_nil, List.append_nil] at e1
    subst e1
    exact hk t h1 (RX.old hp g f1) (w1.sh.wide hp (Nat.le_refl _))
theorem rfldL_c {cs : List Fld} {ms : List Md} (hnn : nns cs) {lo b1 : Nat} {h0 h : Hp} {l : List UInt8} {k id rows press : Int} {s1 s2 s7 s8 b : Sl} {de : Bool} {K : Sl → Int → Hp → Prop} {Kp : List PanicEntry → Hp → Prop} (hp : h0.size ≤ lo) (g : Grw h0 h) (hs : FsH h0 s1 cs) (hm : RsH h0 s2 2 (ms.map mdRow)) (w : Rb lo h b l)
    (k1 : B9 h b1 k s1 s2 id de rows press s7 s8) (hl : l.length + (encs cs).length + (mdsEnc ms).length + 1010 ≤ 2 ^ 40) (hk : PutK h0 (l ++ (encs cs ++ (num ms.length 2 ++ mdsEnc ms))) K) : L9_8 ⟨b1, 0, none⟩ K Kp b 0 h := by
  have hn := hs.n
  have hcl := encs_len cs
  have hcm := mdsEnc_len ms
  have hnm : s2.n = ms.length := by simpa using hm.1
  refine L9_8.rule (fun t x h' => ∃ i : Nat, ∃ l', x = (i : Int) ∧ i ≤ cs.length ∧ Tn (RX lo h) h h' ∧ Rb lo h' t l' ∧ B9 h' b1 k s1 s2 id de rows press s7 s8 ∧ l' ++ encs (cs.drop i) = l ++ encs cs) (fun _ x _ => cs.length - x.toNat) ⟨0, l, rfl, by omega, Tn.refl _ _, w, k1, by simp⟩ ?_
  rintro t x h1 ⟨i, l', rfl, hi, f1, w1, k1, e1⟩ N1 hN
  unfold T9_8
  simp only [add_blk]
  refine Ld_blk k1 rfl ?_
  refine If_i (fun c => ?_) fun c => ?_
  · refine Ld_blk k1 rfl ?_
    simp only [decide_eq_true_eq] at c
    have hi' : i < cs.length := by omega
    have hj : cs[i]? = some cs[i] := List.getElem?_eq_getElem hi'
    obtain ⟨a, ha, hf⟩ := hs.get hj
    have hmem : cs[i] ∈ cs := List.getElem_mem hi'
    have hdr : cs.drop i = cs[i] :: cs.drop (i + 1) := List.drop_eq_getElem_cons hi'
    generalize cs[i] = f at hj hf hmem hdr
    have hfn := hnn.get f hmem
    have IH := rfield_c f
    obtain ⟨n, nul, k, wd, id, ix, ds⟩ := f
    unfold FldH at hf
    obtain ⟨u, hc, hu⟩ := hf
    have g1 := RX.old hp g f1
    have hc1 := hc.grw g1
    have c0 := hc1 0 _ rfl; have c1 := hc1 1 _ rfl; have c2 := hc1 2 _ rfl; have c3 := hc1 3 _ rfl; have c4 := hc1 4 _ rfl; have c5 := hc1 5 _ rfl; have c6 := hc1 6 _ rfl
    rw [add_zero'] at c0
    rw [ha]
    refine ⟨by omega, by omega, ?_⟩
    rw [Int.toNat_natCast]
    refine ⟨_, c0, _, c1, _, c2, _, c3, _, c4, _, c5, _, c6, ?_⟩
    rw [hdr, encs] at e1
    have hlen := congrArg List.length e1
    simp only [List.length_append] at hlen
    refine IH hp g1 hu hfn w1 (by omega) fun b2 h2 f2 w2 => ?_
    refine Wr_i64 (by omega) (by omega) ?_
    refine hN _ _ _ ⟨i + 1, _, by simp, by omega, RX.trans f1 f2, w2, f2.blk k1 (RX.not k1 (show (29 : Nat) ≠ 5 by decide)), ?_⟩ (by omega)
    rw [← e1, List.append_assoc]
  · simp only [decide_eq_false_iff_not] at c
    have : i = cs.length := by omega
    subst this
    rw [List.drop_length, encs, List.append_nil] at e1
    subst e1
    refine J9_6.of ?_
    unfold JT9_6
    simp only [add_blk]
    refine Ld_blk k1 rfl ?_
    refine rnumber_c w1 (by omega) (by omega) (by omega) (by omega) (by rw [List.length_append]; omega) fun t2 h2 f2 w2 => ?_
    have k1 := f2.blk k1 (RX.not k1 (show (29 : Nat) ≠ 5 by decide))
    refine rmdL_c hp (RX.old hp g (RX.trans f1 f2)) hm w2 k1 (by simp only [List.length_append, num_len]; show _ + _ + 2 + _ + _ ≤ _; omega) ?_
    have e2 : (2 : Int).toNat = 2 := rfl
    rw [hnm]; simpa only [e2, List.append_assoc] using hk
theorem r92_c {ms : List Nd} {bs : List Bf} (hnm : ∀ x ∈ ms, Nd.nn x) (hnn : ∀ x ∈ bs, Bf.nn x) {lo b1 : Nat} {h0 h : Hp} {l : List UInt8} {k id rows press : Int} {s1 s2 s7 s8 b : Sl} {de : Bool} {K : Sl → Int → Hp → Prop} {Kp : List PanicEntry → Hp → Prop} (hr : i63 rows) (hpr : i63 press) (hp : h0.size ≤ lo) (g : Grw h0 h) (hs : RsH h0 s7 2 (ms.map ndRow)) (ht : RsH h0 s8 3 (bs.map bfRow)) (w : Rb lo h b l)
    (k1 : B9 h b1 k s1 s2 id de rows press s7 s8) (hl : l.length + (tailEnc rows press ms bs).length + 1010 ≤ 2 ^ 40) (hk : PutK h0 (l ++ tailEnc rows press ms bs) K) : J9_2 ⟨b1, 0, none⟩ b K Kp h := by
  simp only [tailEnc, List.length_append, num_len] at hl hk
  have hn : s7.n = ms.length := by simpa using hs.1
  have hcl := ndsEnc_len ms
  refine J9_2.of ?_
  unfold JT9_2
  simp only [add_blk]
  refine Ld_blk k1 rfl ?_
  refine rnumber_c w hr.1 hr.2 (by omega) (by omega) (by omega) fun t2 h2 f2 w2 => ?_
  have k1 := f2.blk k1 (RX.not k1 (by decide))
  refine Ld_blk k1 rfl ?_
  refine rnumber_c w2 hpr.1 hpr.2 (by omega) (by omega) (by rw [List.length_append, num_len]; show _ + 4 + _ ≤ _; omega) fun t3 h3 f3 w3 => ?_
  have k1 := f3.blk k1 (RX.not k1 (by decide))
  refine Ld_blk k1 rfl ?_
  refine rnumber_c w3 (by omega) (by omega) (by omega) (by omega) (by rw [List.length_append, List.length_append, num_len, num_len]; show _ + 4 + 1 + _ ≤ _; omega) fun t4 h4 f4 w4 => ?_
  have k1 := f4.blk k1 (RX.not k1 (by decide))
  refine rnodeL_c hnm hnn hp (RX.old hp g (RX.trans (RX.trans f2 f3) f4)) hs ht w4 k1 (by simp only [List.length_append, num_len]; show _ + 4 + 1 + 2 + _ + _ + _ ≤ _; omega) ?_
  have e1 : (1 : Int).toNat = 1 := rfl
  have e2 : (2 : Int).toNat = 2 := rfl
  have e4 : (4 : Int).toNat = 4 := rfl
  rw [hn]
  simpa only [e1, e2, e4, List.append_assoc] using hk
/-- no number of a head is negative -/
structure Hd.nn (H : Hd) : Prop where
  fs : nns H.fs
  id : i63 H.id
  rows : i63 H.rows
  press : i63 H.press
  nodes : ∀ x ∈ H.nodes, Nd.nn x
  bufs : ∀ x ∈ H.bufs, Bf.nn x
/-- the question whether a head may be, as the document asks it -/
def RMayC (H : Hd) (m : Bool) : Prop := ∀ {h0 h : Hp} {s1 s2 s7 s8 : Sl} {K : Bool → Hp → Prop} {Kp : List PanicEntry → Hp → Prop}, Grw h0 h → HdH h0 H s1 s2 s7 s8 → (∀ h', Grw h h' → K m h') → Fn16 H.k s1 s2 H.id H.de H.rows H.press s7 s8 h K Kp
theorem rput_c {H : Hd} {m : Bool} (hm : RMayC H m) {h : Hp} {s1 s2 s7 s8 : Sl} {K : Sl → Int → Hp → Prop} {Kp : List PanicEntry → Hp → Prop} (hh : HdH h H s1 s2 s7 s8) (hnn : m = true → H.nn) (hl : m = true → H.enc.length + 2000 ≤ 2 ^ 40)
    (hf : m = false → ∀ h', Grw h h' → K Sl.nil 50 h') (ht : m = true → PutK h H.enc K) : Fn9 H.k s1 s2 H.id H.de H.rows H.press s7 s8 h K Kp := by
  obtain ⟨k, fs, ms, id, de, rows, press, nodes, bufs⟩ := H
  simp only at hh hf ht ⊢
  refine Fn9.of ?_
  unfold S9
  refine New_i fun b1 h1 e1 g1 k1 _ => ?_
  simp only [add_blk]
  refine Ld_blk k1 rfl (Ld_blk k1 rfl (Ld_blk k1 rfl (Ld_blk k1 rfl (Ld_blk k1 rfl (Ld_blk k1 rfl (Ld_blk k1 rfl (Ld_blk k1 rfl (Ld_blk k1 rfl ?_))))))))
  refine hm g1 hh fun h2 g2 => ?_
  have k1 := k1.grw g2
  cases m
  · exact If_t rfl (hf rfl h2 (Grw.trans g1 g2))
  · obtain ⟨n1, n2, n3, n4, n5, n6⟩ := hnn rfl
    simp only at n1 n2 n3 n4 n5 n6
    refine If_f rfl (Ld_blk k1 rfl (Wr_any (New_i fun p h3 ep g3 kp e3 => ?_)))
    have k1' : Blk h3 b1 (vals9 k s1 s2 id de rows press s7 s8) 29 := k1.grw g3
    clear k1
    have G2 := Grw.trans g1 g2
    have G3 : Grw h h3 := Grw.trans G2 g3
    have hp : h.size ≤ p := by rw [ep]; exact G2.1
    have w : Rb p h3 ⟨some ⟨p, 0, none⟩, 4, 4⟩ (num k 1 ++ (num 1 1 ++ num 0 2)) := by
      refine ⟨.inr ⟨p, Nat.le_refl _, by omega, rfl, rfl, _, kp, Nat.le_refl _, rfl, fun i hi => ?_⟩, by omega⟩
      have e : bv (num k 1 ++ (num 1 1 ++ num 0 2)) = [.int .u8 (IntKind.u8.wrap k), .int .u8 1, .int .u8 0, .int .u8 0] := by rw [b8_v]; rfl
      rw [e, List.getElem?_toArray]
    have F := fun {h'} (f : Tn (RX p h3) h3 h') => RX.old hp G3 f
    refine Ld_blk k1' rfl ?_
    have hT := ht rfl
    have hl := hl rfl
    have hss : s1.n = fs.length ∧ s1.n ≤ s1.c := hh.fs.n
    have hcl := encs_len fs
    clear ht hf
    have e1 : (1 : Int).toNat = 1 := rfl
    have e2 : (2 : Int).toNat = 2 := rfl
    simp only [Hd.enc, List.length_append, num_len] at hl hT
    refine If_i (fun c => ?_) fun c => ?_
    · simp only [beq_iff_eq] at c
      rw [if_pos c] at hl hT
      simp only [schemaEnc, List.length_append, num_len] at hl hT
      refine Ld_blk k1' rfl ?_
      refine rnumber_c w (by omega) (by omega) (by omega) (by omega) (by simp only [List.length_append, num_len]; omega) fun t4 h4 f4 w4 => ?_
      have k4 := f4.blk k1' (RX.not k1' (show (29 : Nat) ≠ 5 by decide))
      refine rfldL_c n1 hp (F f4) hh.fs hh.ms w4 k4 (by simp only [List.length_append, num_len]; show 1 + (1 + 2) + 2 + _ + _ + _ ≤ _; omega) ?_
      rw [hss.1]; simp only [e2]
      simpa only [List.append_assoc] using hT
    · simp only [beq_eq_false_iff_ne, ne_eq] at c
      rw [if_neg c] at hl hT
      refine J9_1.of ?_
      unfold JT9_1
      simp only [add_blk]
      refine Ld_blk k1' rfl ?_
      refine If_i (fun c2 => ?_) fun c2 => ?_
      · simp only [beq_iff_eq] at c2
        rw [if_pos c2] at hl hT
        try simp only [List.length_append, num_len] at hl
        refine Ld_blk k1' rfl ?_
        refine rnumber_c w n2.1 n2.2 (by omega) (by omega) (by simp only [List.length_append, num_len]; omega) fun t7 h7 f7 w7 => ?_
        have k7 := f7.blk k1' (RX.not k1' (show (29 : Nat) ≠ 5 by decide))
        refine Ld_blk k7 rfl ?_
        refine rflag_c w7 (by simp only [List.length_append, num_len]; show 1 + (1 + 2) + 2 + _ ≤ _; omega) fun t8 h8 f8 w8 => ?_
        have k8 := f8.blk k7 (RX.not k7 (show (29 : Nat) ≠ 5 by decide))
        refine r92_c n5 n6 n3 n4 hp (F (RX.trans f7 f8)) hh.nodes hh.bufs w8 k8 (by simp only [List.length_append, num_len]; show 1 + (1 + 2) + 2 + 1 + _ + _ ≤ _; omega) ?_
        simpa only [e2, List.append_assoc] using hT
      · simp only [beq_eq_false_iff_ne, ne_eq] at c2
        rw [if_neg c2] at hl hT
        try simp only [List.length_nil, List.nil_append] at hl
        refine r92_c n5 n6 n3 n4 hp G3 hh.nodes hh.bufs w k1' (by simp only [List.length_append, num_len]; omega) ?_
        simpa only [List.nil_append, List.append_assoc] using hT
end Go.Proofs.YtfomkkdijjfpiaaDoor
/- Whether a head may be: names, kinds, marks of null. -/
namespace Go.Proofs.YtfomkkdijjfpiaaDoor
open Go Go.Sh Go.WideShapes
def Lett (c : Int) : Prop := (97 ≤ c ∧ c ≤ 122) ∨ (65 ≤ c ∧ c ≤ 90) ∨ c = 95
def Digi (c : Int) : Prop := 48 ≤ c ∧ c ≤ 57
def ChOk (j : Nat) (c : Int) : Prop := Lett c ∨ (Digi c ∧ j ≠ 0)
/-- what a name must be -/
def NameOk (s : ByteArray) : Prop := 1 ≤ s.size ∧ s.size ≤ 48 ∧ ∀ (j : Nat) (b : UInt8), s[j]? = some b → ChOk j (b.toNat : Int)
theorem rnamed_c {s : ByteArray} {h : Hp} {K : Bool → Hp → Prop} {Kp : List PanicEntry → Hp → Prop} (hk : ∀ b, (b = true ↔ NameOk s) → K b h) : Fn61 s h K Kp := by
  refine Fn61.of ?_
  unfold S61
  have hF : ¬ NameOk s → K false h := fun n => hk false ⟨by simp, fun x => (n x).elim⟩
  have hT : NameOk s → K true h := fun n => hk true ⟨fun _ => n, fun _ => rfl⟩
  refine If_i (fun c => hF fun n => ?_) fun c => ?_
  · simp only [decide_eq_true_eq] at c; have := n.1; omega
  refine If_i (fun c' => hF fun n => ?_) fun c' => ?_
  · simp only [decide_eq_true_eq] at c'; have := n.2.1; omega
  simp only [decide_eq_false_iff_not] at c c'
  refine J61_1.of ?_
  unfold JT61_1
  refine L61_2.rule (fun x h' => h' = h ∧ ∃ i : Nat, x = i ∧ i ≤ s.size ∧ ∀ j b, j < i → s[j]? = some b → ChOk j (b.toNat : Int)) (fun x _ => s.size - x.toNat) ⟨rfl, 0, rfl, by omega, fun j b hj => by omega⟩ ?_
  rintro x h1 ⟨rfl, i, rfl, hi, hall⟩ N1 hN
  unfold T61_2
  refine If_i (fun c2 => ?_) fun c2 => ?_
  · simp only [decide_eq_true_eq] at c2
    have hi' : i < s.size := by omega
    have hb : s[i]? = some s[i] := getElem?_pos s i hi'
    generalize s[i] = b at hb
    refine ⟨b, by omega, by rw [Int.toNat_natCast]; exact hb, ?_⟩
    have nope : ¬ ChOk i (b.toNat : Int) → K false h1 := fun n => hF fun q => n (q.2.2 i b hb)
    have step : ChOk i (b.toNat : Int) → Wr .i64 ((i : Int) + 1) fun t20 => N1 (mk61_2 s t20) h1 := fun ok => by
      refine Wr_i64 (by omega) (by omega) ?_
      refine hN _ _ ⟨rfl, i + 1, by simp, by omega, fun j b' hj hb' => ?_⟩ (by omega)
      by_cases e : j = i
      · subst e; rw [hb] at hb'; cases hb'; exact ok
      · exact hall j b' (by omega) hb'
    unfold ChOk Lett Digi at nope step
    generalize (b.toNat : Int) = t at nope step
    repeat' (first | ((with_reducible refine J61_3.of ?_); unfold JT61_3; (try simp only [add_blk, Nat.reduceAdd])) | ((with_reducible refine J61_4.of ?_); unfold JT61_4; (try simp only [add_blk, Nat.reduceAdd])) | ((with_reducible refine J61_5.of ?_); unfold JT61_5; (try simp only [add_blk, Nat.reduceAdd])) | ((with_reducible refine If_t (by first | rfl | (simp only [decide_eq_true_eq, decide_eq_false_iff_not, beq_iff_eq, beq_eq_false_iff_ne, ne_eq, reduceCtorEq, true_iff, false_iff, Bool.not_eq_true', Bool.not_eq_false', bne_iff_ne, bne_eq_false_iff_eq, Bool.not_true, Bool.not_false, Decidable.not_not]; omega)) ?_)) | ((with_reducible refine If_f (by first | rfl | (simp only [decide_eq_true_eq, decide_eq_false_iff_not, beq_iff_eq, beq_eq_false_iff_ne, ne_eq, reduceCtorEq, true_iff, false_iff, Bool.not_eq_true', Bool.not_eq_false', bne_iff_ne, bne_eq_false_iff_eq, Bool.not_true, Bool.not_false, Decidable.not_not]; omega)) ?_)) | (((with_reducible refine If_i (fun c => ?_) (fun c => ?_)) <;> (try simp only [decide_eq_true_eq, decide_eq_false_iff_not, beq_iff_eq, beq_eq_false_iff_ne, ne_eq, reduceCtorEq, true_iff, false_iff, Bool.not_eq_true', Bool.not_eq_false', bne_iff_ne, bne_eq_false_iff_eq, Bool.not_true, Bool.not_false, Decidable.not_not] at c))))
    all_goals first | refine step ?_ | refine nope ?_
    all_goals simp only [decide_eq_true_eq, decide_eq_false_iff_not, beq_iff_eq, beq_eq_false_iff_ne, ne_eq, Bool.not_eq_true', Bool.not_eq_false', Bool.not_eq_true, Bool.not_eq_false, Bool.not_true, Bool.not_false, reduceCtorEq] at *
    all_goals omega
  · simp only [decide_eq_false_iff_not] at c2
    refine hT ⟨by omega, by omega, fun j b hb => ?_⟩
    have : j < s.size := by
      rcases Nat.lt_or_ge j s.size with h | h
      · exact h
      · rw [getElem?_neg s j (by omega)] at hb; cases hb
    exact hall j b (by omega) hb
theorem letter_c {c : Int} {h : Hp} {K : Bool → Hp → Prop} {Kp : List PanicEntry → Hp → Prop} (hk : ∀ b, (b = true ↔ (Lett c ∨ Digi c)) → K b h) : Fn71 c h K Kp := by
  refine Fn71.of ?_
  unfold S71
  unfold Lett Digi at hk
  repeat' (first | ((with_reducible refine J71_1.of ?_); unfold JT71_1; (try simp only [add_blk, Nat.reduceAdd])) | ((with_reducible refine J71_2.of ?_); unfold JT71_2; (try simp only [add_blk, Nat.reduceAdd])) | ((with_reducible refine J71_3.of ?_); unfold JT71_3; (try simp only [add_blk, Nat.reduceAdd])) | ((with_reducible refine If_t (by first | rfl | (simp only [decide_eq_true_eq, decide_eq_false_iff_not, beq_iff_eq, beq_eq_false_iff_ne, ne_eq, reduceCtorEq, true_iff, false_iff, Bool.not_eq_true', Bool.not_eq_false', bne_iff_ne, bne_eq_false_iff_eq, Bool.not_true, Bool.not_false, Decidable.not_not]; omega)) ?_)) | ((with_reducible refine If_f (by first | rfl | (simp only [decide_eq_true_eq, decide_eq_false_iff_not, beq_iff_eq, beq_eq_false_iff_ne, ne_eq, reduceCtorEq, true_iff, false_iff, Bool.not_eq_true', Bool.not_eq_false', bne_iff_ne, bne_eq_false_iff_eq, Bool.not_true, Bool.not_false, Decidable.not_not]; omega)) ?_)) | (((with_reducible refine If_i (fun c => ?_) (fun c => ?_)) <;> (try simp only [decide_eq_true_eq, decide_eq_false_iff_not, beq_iff_eq, beq_eq_false_iff_ne, ne_eq, reduceCtorEq, true_iff, false_iff, Bool.not_eq_true', Bool.not_eq_false', bne_iff_ne, bne_eq_false_iff_eq, Bool.not_true, Bool.not_false, Decidable.not_not] at c))))
  all_goals refine hk _ ?_
  all_goals simp only [decide_eq_true_eq, decide_eq_false_iff_not, beq_iff_eq, beq_eq_false_iff_ne, ne_eq, reduceCtorEq, true_iff, false_iff] at *
  all_goals omega
theorem known_c {k : Int} {h : Hp} {K : Bool → Hp → Prop} {Kp : List PanicEntry → Hp → Prop} (hk : ∀ b, (b = true ↔ (1 ≤ k ∧ k ≤ 20)) → K b h) : Fn73 k h K Kp := by
  refine Fn73.of ?_
  unfold S73
  repeat' (first | ((with_reducible refine If_t (by first | rfl | (simp only [decide_eq_true_eq, decide_eq_false_iff_not, beq_iff_eq, beq_eq_false_iff_ne, ne_eq, reduceCtorEq, true_iff, false_iff, Bool.not_eq_true', Bool.not_eq_false', bne_iff_ne, bne_eq_false_iff_eq, Bool.not_true, Bool.not_false, Decidable.not_not]; omega)) ?_)) | ((with_reducible refine If_f (by first | rfl | (simp only [decide_eq_true_eq, decide_eq_false_iff_not, beq_iff_eq, beq_eq_false_iff_ne, ne_eq, reduceCtorEq, true_iff, false_iff, Bool.not_eq_true', Bool.not_eq_false', bne_iff_ne, bne_eq_false_iff_eq, Bool.not_true, Bool.not_false, Decidable.not_not]; omega)) ?_)) | (((with_reducible refine If_i (fun c => ?_) (fun c => ?_)) <;> (try simp only [decide_eq_true_eq, decide_eq_false_iff_not, beq_iff_eq, beq_eq_false_iff_ne, ne_eq, reduceCtorEq, true_iff, false_iff, Bool.not_eq_true', Bool.not_eq_false', bne_iff_ne, bne_eq_false_iff_eq, Bool.not_true, Bool.not_false, Decidable.not_not] at c))))
  all_goals refine hk _ ?_
  all_goals simp only [decide_eq_true_eq, decide_eq_false_iff_not, reduceCtorEq, true_iff, false_iff] at *
  all_goals omega
theorem bytes_eq {a b : ByteArray} : (a.toList == b.toList) = true ↔ a = b := by
  rw [beq_iff_eq, ByteArray.toList_eq, ByteArray.toList_eq]
  exact ⟨bytes_inj, fun e => by rw [e]⟩
theorem named_c {s : ByteArray} {h : Hp} {K : Bool → Hp → Prop} {Kp : List PanicEntry → Hp → Prop} (hs : s.size ≤ 9223372036854775807) (hk : ∀ b, (b = true ↔ NameOk s) → K b h) : Fn66 s h K Kp := by
  refine Fn66.of ?_
  unfold S66
  have hF : ¬ NameOk s → K false h := fun n => hk false ⟨by simp, fun x => (n x).elim⟩
  refine L66_1.rule (fun x h' => h' = h ∧ ∃ i : Nat, x = i ∧ i ≤ s.size ∧ ∀ j b, j < i → s[j]? = some b → ChOk j (b.toNat : Int)) (fun x _ => s.size - x.toNat) ⟨rfl, 0, rfl, by omega, fun j b hj => by omega⟩ ?_
  rintro x h1 ⟨rfl, i, rfl, hi, hall⟩ N1 hN
  unfold T66_1
  refine If_i (fun c2 => ?_) fun c2 => ?_
  · simp only [decide_eq_true_eq] at c2
    have hi' : i < s.size := by omega
    have hb : s[i]? = some s[i] := getElem?_pos s i hi'
    generalize s[i] = b at hb
    refine ⟨b, by omega, by rw [Int.toNat_natCast]; exact hb, ?_⟩
    have nope : ¬ ChOk i (b.toNat : Int) → K false h1 := fun n => hF fun q => n (q.2.2 i b hb)
    have step : ChOk i (b.toNat : Int) → Wr .i64 ((i : Int) + 1) fun t20 => N1 (mk66_1 s (s.size : Int) t20) h1 := fun ok => by
      refine Wr_i64 (by omega) (by omega) ?_
      refine hN _ _ ⟨rfl, i + 1, by simp, by omega, fun j b' hj hb' => ?_⟩ (by omega)
      by_cases e : j = i
      · subst e; rw [hb] at hb'; cases hb'; exact ok
      · exact hall j b' (by omega) hb'
    refine letter_c fun r hr => ?_
    unfold ChOk Lett Digi at nope step
    unfold Lett Digi at hr
    generalize (b.toNat : Int) = t at nope step hr
    cases r <;> repeat' (first | ((with_reducible refine If_t (by first | rfl | (simp only [decide_eq_true_eq, decide_eq_false_iff_not, beq_iff_eq, beq_eq_false_iff_ne, ne_eq, reduceCtorEq, true_iff, false_iff, Bool.not_eq_true', Bool.not_eq_false', bne_iff_ne, bne_eq_false_iff_eq, Bool.not_true, Bool.not_false, Decidable.not_not]; omega)) ?_)) | ((with_reducible refine If_f (by first | rfl | (simp only [decide_eq_true_eq, decide_eq_false_iff_not, beq_iff_eq, beq_eq_false_iff_ne, ne_eq, reduceCtorEq, true_iff, false_iff, Bool.not_eq_true', Bool.not_eq_false', bne_iff_ne, bne_eq_false_iff_eq, Bool.not_true, Bool.not_false, Decidable.not_not]; omega)) ?_)) | (((with_reducible refine If_i (fun c => ?_) (fun c => ?_)) <;> (try simp only [decide_eq_true_eq, decide_eq_false_iff_not, beq_iff_eq, beq_eq_false_iff_ne, ne_eq, reduceCtorEq, true_iff, false_iff, Bool.not_eq_true', Bool.not_eq_false', bne_iff_ne, bne_eq_false_iff_eq, Bool.not_true, Bool.not_false, Decidable.not_not] at c))))
    all_goals first | refine step ?_ | refine nope ?_
    all_goals simp only [decide_eq_true_eq, decide_eq_false_iff_not, beq_iff_eq, beq_eq_false_iff_ne, ne_eq, reduceCtorEq, true_iff, false_iff] at *
    all_goals omega
  · simp only [decide_eq_false_iff_not] at c2
    refine If_i (fun c3 => hk _ ?_) (fun c3 => hF fun q => ?_)
    · rw [Bool.not_eq_true', Bool.eq_false_iff, ne_eq, bytes_eq] at c3
      rw [decide_eq_true_eq]
      constructor
      · intro h48
        refine ⟨?_, by omega, fun j b hb => ?_⟩
        · rcases Nat.eq_zero_or_pos s.size with h0 | h0
          · exact (c3 (bytes_inj (List.eq_nil_of_length_eq_zero (show s.data.toList.length = 0 from h0)))).elim
          · exact h0
        · have : j < s.size := by
            rcases Nat.lt_or_ge j s.size with h | h
            · exact h
            · rw [getElem?_neg s j (by omega)] at hb; cases hb
          exact hall j b (by omega) hb
      · intro q; have := q.2.1; omega
    · rw [Bool.not_eq_false', bytes_eq] at c3
      subst c3
      exact absurd q.1 (by decide)
/-- what a type must be, its children's own apart -/
def Shaped (k w id ix : Int) (n : Nat) : Prop :=
  1 ≤ k ∧ k ≤ 20 ∧ (k = 14 → 1 ≤ w ∧ w ≤ 16) ∧ (k = 16 → 1 ≤ w ∧ w ≤ 64) ∧ (k ≠ 14 ∧ k ≠ 16 → w = 0) ∧ (k = 19 → 0 ≤ id ∧ id ≤ 31 ∧ 3 ≤ ix ∧ ix ≤ 10) ∧ (k ≠ 19 → id = 0 ∧ ix = 0) ∧
    (k = 15 ∨ k = 16 ∨ k = 19 ∨ k = 20 → n = 1) ∧ (k = 17 → n ≤ 32) ∧ (k = 18 → 1 ≤ n ∧ n ≤ 32) ∧ (k ≠ 15 ∧ k ≠ 16 ∧ k ≠ 19 ∧ k ≠ 20 ∧ k ≠ 17 ∧ k ≠ 18 → n = 0)
theorem rshaped_c {k w id ix : Int} {s : Sl} {h : Hp} {K : Bool → Hp → Prop} {Kp : List PanicEntry → Hp → Prop} (hk : ∀ b h', Grw h h' → (b = true ↔ Shaped k w id ix s.n) → K b h') : Fn62 k w id ix s h K Kp := by
  refine Fn62.of ?_
  unfold S62
  refine New_i fun b1 h1 e1 g1 k1 _ => ?_
  have hk := fun b => hk b h1 g1
  unfold Shaped at hk
  rcases (by omega : k = 14 ∨ k = 15 ∨ k = 16 ∨ k = 17 ∨ k = 18 ∨ k = 19 ∨ k = 20 ∨ (k ≠ 14 ∧ k ≠ 15 ∧ k ≠ 16 ∧ k ≠ 17 ∧ k ≠ 18 ∧ k ≠ 19 ∧ k ≠ 20)) with e | e | e | e | e | e | e | e
  all_goals repeat' (first | ((with_reducible refine J62_1.of ?_); unfold JT62_1; (try simp only [add_blk, Nat.reduceAdd])) | ((with_reducible refine J62_2.of ?_); unfold JT62_2; (try simp only [add_blk, Nat.reduceAdd])) | ((with_reducible refine J62_3.of ?_); unfold JT62_3; (try simp only [add_blk, Nat.reduceAdd])) | ((with_reducible refine J62_4.of ?_); unfold JT62_4; (try simp only [add_blk, Nat.reduceAdd])) | ((with_reducible refine J62_5.of ?_); unfold JT62_5; (try simp only [add_blk, Nat.reduceAdd])) | ((with_reducible refine J62_6.of ?_); unfold JT62_6; (try simp only [add_blk, Nat.reduceAdd])) | ((with_reducible refine J62_7.of ?_); unfold JT62_7; (try simp only [add_blk, Nat.reduceAdd])) | ((with_reducible refine J62_8.of ?_); unfold JT62_8; (try simp only [add_blk, Nat.reduceAdd])) | ((with_reducible refine If_t (by first | rfl | (simp only [decide_eq_true_eq, decide_eq_false_iff_not, beq_iff_eq, beq_eq_false_iff_ne, ne_eq, reduceCtorEq, true_iff, false_iff, Bool.not_eq_true', Bool.not_eq_false', bne_iff_ne, bne_eq_false_iff_eq, Bool.not_true, Bool.not_false, Decidable.not_not]; omega)) ?_)) | ((with_reducible refine If_f (by first | rfl | (simp only [decide_eq_true_eq, decide_eq_false_iff_not, beq_iff_eq, beq_eq_false_iff_ne, ne_eq, reduceCtorEq, true_iff, false_iff, Bool.not_eq_true', Bool.not_eq_false', bne_iff_ne, bne_eq_false_iff_eq, Bool.not_true, Bool.not_false, Decidable.not_not]; omega)) ?_)) | (((with_reducible refine If_i (fun c => ?_) (fun c => ?_)) <;> (try simp only [decide_eq_true_eq, decide_eq_false_iff_not, beq_iff_eq, beq_eq_false_iff_ne, ne_eq, reduceCtorEq, true_iff, false_iff, Bool.not_eq_true', Bool.not_eq_false', bne_iff_ne, bne_eq_false_iff_eq, Bool.not_true, Bool.not_false, Decidable.not_not] at c))) | ((refine Ld_blk k1 rfl ?_)))
  all_goals refine hk _ ?_
  all_goals clear hk k1 g1
  all_goals simp only [decide_eq_true_eq, decide_eq_false_iff_not, beq_iff_eq, beq_eq_false_iff_ne, ne_eq, reduceCtorEq, true_iff, false_iff, Bool.not_eq_true', Bool.not_eq_false', bne_iff_ne, bne_eq_false_iff_eq] at *
  all_goals omega
end Go.Proofs.YtfomkkdijjfpiaaDoor
