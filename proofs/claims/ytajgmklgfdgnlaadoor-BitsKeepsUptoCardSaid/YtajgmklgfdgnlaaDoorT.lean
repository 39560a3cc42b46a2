/- Contracts: ask and says, both by one specification. -/
import Derived.Test.YtajgmklgfdgnlaaDoorR
import Derived.Test.YtajgmklgfdgnlaaDoorLd
import Derived.Test.YtajgmklgfdgnlaaDoorS2
namespace Go.Proofs.YtajgmklgfdgnlaaDoor
open Go Go.Sh
/-- one call, as data -/
structure OpD where
  kind : Int
  a : List Nat
  b : List Nat
  l : List Bool
  fr : Int
  n : Int
  k : Int
  on : Bool
abbrev r0 : Rep := ⟨0, 0, false, [], [], []⟩
def getR (a : List Nat) (n : Int) : Rep := if askB a.length n 1 = 0 then { r0 with yes := bitN a n.toNat } else { r0 with err := askB a.length n 1 }
def countR (a : List Nat) (fr n : Int) : Rep := if askB a.length fr n = 0 then { r0 with num := (cntF (bitsF a fr) n.toNat : Int) } else { r0 with err := askB a.length fr n }
def listR (a : List Nat) (fr n : Int) : Rep := if askB a.length fr n = 0 then { r0 with bools := listF (bitsF a fr) n.toNat } else { r0 with err := askB a.length fr n }
def cutR (a : List Nat) (fr n : Int) : Rep := if askB a.length fr n = 0 then { r0 with bytes := packN (listF (bitsF a fr) n.toNat) } else { r0 with err := askB a.length fr n }
def joinR (op : Bool → Bool → Bool) (a b : List Nat) (n : Int) : Rep :=
  if askB a.length 0 n = 0 then (if askB b.length 0 n = 0 then { r0 with bytes := packN (listF (fun i => op (bitN a i) (bitN b i)) n.toNat) } else { r0 with err := askB b.length 0 n }) else { r0 with err := askB a.length 0 n }
def flatI (rs : List (Nat × Nat)) : List Int := rs.flatMap fun r => [(r.1 : Int), (r.2 : Int)]
def asksN (a : List Nat) (fr n : Int) : List (Nat × Nat) := if askB a.length fr n = 0 then runsAt (bitsF a fr) n.toNat 0 else []
def nextR (a : List Nat) (fr n : Int) (on : Bool) : Rep := if askB a.length fr n = 0 then { r0 with num := nextF (bitsF a fr) on n.toNat 0 } else { r0 with num := -1 }
def placeRR (a : List Nat) (fr n k : Int) : Rep :=
  if k < 0 then { r0 with err := 1 } else if askB a.length fr n = 0 then { r0 with num := plN (placeF (bitsF a fr) n.toNat 0 k.toNat), err := plE (placeF (bitsF a fr) n.toNat 0 k.toNat) } else { r0 with err := askB a.length fr n }
def specR (o : OpD) : Rep :=
  bif o.kind == 1 then getR o.a o.n else bif o.kind == 2 then countR o.a o.fr o.n else bif o.kind == 3 then { r0 with bytes := packN o.l } else bif o.kind == 4 then listR o.a o.fr o.n else bif o.kind == 5 then cutR o.a o.fr o.n
  else bif o.kind == 6 then joinR (fun x y => x && y) o.a o.b o.n else bif o.kind == 7 then joinR (fun x y => x || y) o.a o.b o.n else bif o.kind == 8 then joinR (fun x y => x != y) o.a o.b o.n
  else bif o.kind == 9 then joinR (fun x _ => !x) o.a o.a o.n else bif o.kind == 10 then { r0 with nums := flatI (asksN o.a o.fr o.n) } else bif o.kind == 11 then nextR o.a o.fr o.n o.on else bif o.kind == 12 then placeRR o.a o.fr o.n o.k
  else { r0 with num := (needN o.n.toNat : Int) }
/-- the reply lies in new memory from lo on -/
structure RepF (lo : Nat) (h : Hp) (s3 s4 s5 : Sl) (r : Rep) : Prop where
  by_ : Sh lo h.size 1 h s3 (by8 r.bytes) 5
  bo_ : Sh lo h.size 1 h s4 (bo r.bools) 4
  nu_ : Sh lo h.size 1 h s5 (nu r.nums) 3
  len : r.bytes.length < 2 ^ 40 ∧ r.bools.length < 2 ^ 40 ∧ r.nums.length < 2 ^ 40
theorem RepF.s {lo : Nat} {h : Hp} {s3 s4 s5 : Sl} {r : Rep} (x : RepF lo h s3 s4 s5 r) : RepS h s3 s4 s5 r := ⟨x.by_.sv, x.bo_.sv, x.nu_.sv, x.len⟩
/-- what a call is handed -/
structure OpIn (h : Hp) (o : OpD) (s1 s2 s3 : Sl) : Prop where
  a : Bs h s1 o.a
  b : Bs h s2 o.b
  l : Sv h s3 (bo o.l)
  ll : o.l.length < 2 ^ 36
  fr : I64 o.fr
  n : I64 o.n
  k : I64 o.k
theorem OpIn.grw {h h' : Hp} {o : OpD} {s1 s2 s3 : Sl} (x : OpIn h o s1 s2 s3) (g : Grw h h') : OpIn h' o s1 s2 s3 := ⟨x.a.grw g, x.b.grw g, x.l.grw g, x.ll, x.fr, x.n, x.k⟩
theorem flatI_append (a b : List (Nat × Nat)) : flatI (a ++ b) = flatI a ++ flatI b := by simp [flatI]
theorem nu_append (a b : List Int) : nu (a ++ b) = nu a ++ nu b := by simp [nu]
theorem nu_flatI (rs : List (Nat × Nat)) : nu (flatI rs) = flat rs := by
  induction rs with
  | nil => rfl
  | cons r rs ih => simp only [flatI, flat, List.flatMap_cons, nu_append] at *; rw [ih]; rfl
theorem flatI_len (rs : List (Nat × Nat)) : (flatI rs).length = 2 * rs.length := by
  have := flat_len rs; rw [← nu_flatI] at this; simpa [nu] using this
theorem asksN_len (a : List Nat) (fr n : Int) (h : a.length < 2 ^ 36) : (asksN a fr n).length < 2 ^ 39 := by
  unfold asksN
  split
  · rename_i hz
    obtain ⟨i1, i2, i3⟩ := askB_ok hz
    rw [← runsUp_eq]; have := runsUp_len (bitsF a fr) n.toNat; omega
  · simp
theorem keep_blko {h h' : Hp} {b o m n : Nat} {cs : Array Value} {el : TypeId} (k : Blk h b cs el) (g : Grw h h') : KeepAt h h' ((⟨b, o, none⟩ : Addr).add m) n := by
  rw [add_blk]; exact keep_blk k g
theorem need_all {n : Int} {h : Hp} {K : Int → Hp → Prop} {Kp : List PanicEntry → Hp → Prop} (hn : I64 n) (hk : K (needN n.toNat : Int) h) : Fn22 n h K Kp := by
  refine Fn22.of ?_
  unfold S22
  unfold I64 at hn
  unfold needN at hk
  refine If_i (fun h1 => ?_) fun h1 => ?_
  · simp only [decide_eq_true_eq] at h1
    have : n.toNat = 0 := by omega
    rw [this] at hk; exact hk
  · simp only [decide_eq_false_iff_not] at h1
    obtain ⟨m, rfl⟩ : ∃ m : Nat, n = (m : Int) + 1 := ⟨(n - 1).toNat, by omega⟩
    have e1 : (m : Int) + 1 - 1 = (m : Int) := by omega
    have e2 : Int.tdiv (m : Int) 8 = ((m / 8 : Nat) : Int) := rfl
    refine Wr_i64 (by omega) (by omega) ?_
    rw [e1]
    refine Dv_i (by decide) (Wr_i64 (by rw [e2]; omega) (by rw [e2]; omega) ?_)
    rw [e2]
    refine Wr_i64 (by omega) (by omega) ?_
    have e3 : ((m / 8 : Nat) : Int) + 1 = ((((m : Int) + 1).toNat + 7) / 8 : Nat) := by omega
    rw [e3]; exact hk
theorem rneed_all {n : Int} {h : Hp} {K : Int → Hp → Prop} {Kp : List PanicEntry → Hp → Prop} (hn : I64 n) (hk : K (needN n.toNat : Int) h) : Fn43 n h K Kp := by
  refine Fn43.of ?_
  unfold S43
  unfold I64 at hn
  unfold needN at hk
  refine If_i (fun h1 => ?_) fun h1 => ?_
  · simp only [decide_eq_true_eq] at h1
    have : n.toNat = 0 := by omega
    rw [this] at hk; exact hk
  · simp only [decide_eq_false_iff_not] at h1
    obtain ⟨m, rfl⟩ := Int.eq_ofNat_of_zero_le (by omega : 0 ≤ n)
    rw [Int.toNat_natCast] at hk
    have e2 : Int.tdiv (m : Int) 8 = ((m / 8 : Nat) : Int) := rfl
    have e3 : Int.tmod (m : Int) 8 = ((m % 8 : Nat) : Int) := rfl
    refine Dv_i (by decide) (Wr_i64 (by rw [e2]; omega) (by rw [e2]; omega) ?_)
    refine Dv_i (by decide) ?_
    unfold Lt
    rw [e2, e3]
    refine If_i (fun h1 => ?_) fun h1 => ?_
    · simp only [bne_iff_ne, ne_eq] at h1
      refine Wr_i64 (by omega) (by omega) ?_
      have e4 : ((m / 8 : Nat) : Int) + 1 = (((m + 7) / 8 : Nat) : Int) := by omega
      rw [e4]; exact hk
    · simp only [bne_eq_false_iff_eq] at h1
      have e4 : ((m / 8 : Nat) : Int) = (((m + 7) / 8 : Nat) : Int) := by omega
      rw [e4]; exact hk
theorem packN_len36 {L : List Bool} (h : L.length < 2 ^ 40) : (packN L).length < 2 ^ 40 := by rw [packN_len]; unfold needN; omega
theorem RepF.tn {lo b : Nat} {h h' : Hp} {s3 s4 s5 : Sl} {r : Rep} (x : RepF lo h s3 s4 s5 r) (f : Tn (· = b) h h') (hb : b < lo) : RepF lo h' s3 s4 s5 r :=
  have q := f.1
  ⟨(x.by_.fr f fun c h1 h2 e => by omega).wide (Nat.le_refl _) q, (x.bo_.fr f fun c h1 h2 e => by omega).wide (Nat.le_refl _) q, (x.nu_.fr f fun c h1 h2 e => by omega).wide (Nat.le_refl _) q, x.len⟩
theorem RepF.grw {lo : Nat} {h h' : Hp} {s3 s4 s5 : Sl} {r : Rep} (x : RepF lo h s3 s4 s5 r) (g : Grw h h') : RepF lo h' s3 s4 s5 r :=
  have q := g.1
  ⟨(x.by_.grw g).wide (Nat.le_refl _) q, (x.bo_.grw g).wide (Nat.le_refl _) q, (x.nu_.grw g).wide (Nat.le_refl _) q, x.len⟩
theorem RepF.lo {lo lo' : Nat} {h : Hp} {s3 s4 s5 : Sl} {r : Rep} (x : RepF lo h s3 s4 s5 r) (hb : lo' ≤ lo) : RepF lo' h s3 s4 s5 r :=
  ⟨x.by_.wide hb (Nat.le_refl _), x.bo_.wide hb (Nat.le_refl _), x.nu_.wide hb (Nat.le_refl _), x.len⟩
theorem RepF.e0 (lo : Nat) (h' : Hp) {r : Rep} (e1 : r.bytes = []) (e2 : r.bools = []) (e3 : r.nums = []) : RepF lo h' Sl.nil Sl.nil Sl.nil r :=
  ⟨.inl ⟨rfl, by rw [e1]; rfl⟩, .inl ⟨rfl, by rw [e2]; rfl⟩, .inl ⟨rfl, by rw [e3]; rfl⟩, by rw [e1, e2, e3]; decide⟩
theorem RepF.eB {lo : Nat} {h6 : Hp} {s : Sl} {bl : Nat} {r : Rep} (q : lo ≤ bl) (o1 : Own h6 s bl (by8 r.bytes) 5) (o2 : r.bytes.length < 2 ^ 40) (e2 : r.bools = []) (e3 : r.nums = []) : RepF lo h6 s Sl.nil Sl.nil r :=
  ⟨Sh.of_own o1 q o1.lt, .inl ⟨rfl, by rw [e2]; rfl⟩, .inl ⟨rfl, by rw [e3]; rfl⟩, by rw [e2, e3]; exact ⟨o2, by decide, by decide⟩⟩
theorem RepF.eL {lo : Nat} {h6 : Hp} {s : Sl} {bl : Nat} {r : Rep} (q : lo ≤ bl) (o1 : Own h6 s bl (bo r.bools) 4) (o2 : r.bools.length < 2 ^ 40) (e2 : r.bytes = []) (e3 : r.nums = []) : RepF lo h6 Sl.nil s Sl.nil r :=
  ⟨.inl ⟨rfl, by rw [e2]; rfl⟩, Sh.of_own o1 q o1.lt, .inl ⟨rfl, by rw [e3]; rfl⟩, by rw [e2, e3]; exact ⟨by decide, o2, by decide⟩⟩
/-- what follows of a reply -/
def Goes (h : Hp) (r : Rep) (K : Int → Int → Bool → Sl → Sl → Sl → Hp → Prop) : Prop :=
  ∀ e n y t3 t4 t5 h', Grw h h' → RepF h.size h' t3 t4 t5 r → r.err = e ∧ r.num = n ∧ r.yes = y → K e n y t3 t4 t5 h'
/-- the reply is copied, and handed back -/
theorem tail10 {h0 h : Hp} {b1 b2 b3 lo : Nat} {c1 : Array Value} {t1 : TypeId} {e n : Int} {y : Bool} {s3 s4 s5 : Sl} {v : Value} {r : Rep} {K : Int → Int → Bool → Sl → Sl → Sl → Hp → Prop} {Kp : List PanicEntry → Hp → Prop}
    (lc : SyH No h0 h [⟨b1, c1, t1⟩, ⟨b2, #[.int .i64 0, .int .i64 0, .bool false, .slice none 0 0, .slice none 0 0, .slice none 0 0], 39⟩, ⟨b3, #[.int .i64 e, .int .i64 n, .bool y, s3.v, s4.v, s5.v], 39⟩])
    (h2 : b2 < lo) (hlo : h0.size ≤ lo) (rf : RepF lo h s3 s4 s5 r) (he : r.err = e ∧ r.num = n ∧ r.yes = y) (hk : Goes h0 r K) : RD10_1 ⟨b2, 0, none⟩ ⟨b3, 0, none⟩ v K Kp h := by
  unfold RD10_1
  refine lc.ld 2 rfl rfl (lc.ldo 2 rfl rfl (lc.ldo 2 rfl rfl (lc.ldo 2 rfl rfl (lc.ldo 2 rfl rfl (lc.ldo 2 rfl rfl ?_)))))
  refine lc.st 1 rfl rfl rfl fun _ ff lc => ?_
  have rf := rf.tn ff h2; simp only [Nat.zero_add, List.set_cons_zero, List.set_cons_succ, List.setIfInBounds_toArray] at lc
  refine lc.sto 1 rfl rfl rfl fun _ ff lc => ?_
  have rf := rf.tn ff h2; simp only [Nat.zero_add, List.set_cons_zero, List.set_cons_succ, List.setIfInBounds_toArray] at lc
  refine lc.sto 1 rfl rfl rfl fun _ ff lc => ?_
  have rf := rf.tn ff h2; simp only [Nat.zero_add, List.set_cons_zero, List.set_cons_succ, List.setIfInBounds_toArray] at lc
  refine lc.sto 1 rfl rfl rfl fun _ ff lc => ?_
  have rf := rf.tn ff h2; simp only [Nat.zero_add, List.set_cons_zero, List.set_cons_succ, List.setIfInBounds_toArray] at lc
  refine lc.sto 1 rfl rfl rfl fun _ ff lc => ?_
  have rf := rf.tn ff h2; simp only [Nat.zero_add, List.set_cons_zero, List.set_cons_succ, List.setIfInBounds_toArray] at lc
  refine lc.sto 1 rfl rfl rfl fun _ ff lc => ?_
  have rf := rf.tn ff h2; simp only [Nat.zero_add, List.set_cons_zero, List.set_cons_succ, List.setIfInBounds_toArray] at lc
  refine lc.ld 1 rfl rfl (lc.ldo 1 rfl rfl (lc.ldo 1 rfl rfl (lc.ldo 1 rfl rfl (lc.ldo 1 rfl rfl (lc.ldo 1 rfl rfl ?_)))))
  exact hk _ _ _ _ _ _ _ lc.grw (rf.lo hlo) he
theorem and_c {a b : Sl} {n : Int} {h : Hp} {K : Sl → Int → Hp → Prop} {Kp : List PanicEntry → Hp → Prop} {la lb : List Nat} (ha : Bs h a la) (hb : Bs h b lb) (hn : I64 n)
    (hbad : askB la.length 0 n ≠ 0 → K ⟨none, 0, 0⟩ (askB la.length 0 n) h) (hbad2 : askB la.length 0 n = 0 → ∀ h', Grw h h' → askB lb.length 0 n ≠ 0 → K ⟨none, 0, 0⟩ (askB lb.length 0 n) h')
    (hk : 0 ≤ n → n ≤ 8 * (la.length : Int) → n ≤ 8 * (lb.length : Int) → ∀ s bl h', Grw h h' → h.size ≤ bl → Own h' s bl (by8 (packN (listF (fun i => (fun x y => x && y) (bitN la i) (bitN lb i)) n.toNat))) 5 → K s 0 h') : Fn30 a b n h K Kp := by
  refine Fn30.of ?_
  unfold S30
  exact join_c how_and ha hb hn hbad (fun h1 h2 => hbad2 h1 h (Grw.refl h) h2) hk
theorem or_c {a b : Sl} {n : Int} {h : Hp} {K : Sl → Int → Hp → Prop} {Kp : List PanicEntry → Hp → Prop} {la lb : List Nat} (ha : Bs h a la) (hb : Bs h b lb) (hn : I64 n)
    (hbad : askB la.length 0 n ≠ 0 → K ⟨none, 0, 0⟩ (askB la.length 0 n) h) (hbad2 : askB la.length 0 n = 0 → ∀ h', Grw h h' → askB lb.length 0 n ≠ 0 → K ⟨none, 0, 0⟩ (askB lb.length 0 n) h')
    (hk : 0 ≤ n → n ≤ 8 * (la.length : Int) → n ≤ 8 * (lb.length : Int) → ∀ s bl h', Grw h h' → h.size ≤ bl → Own h' s bl (by8 (packN (listF (fun i => (fun x y => x || y) (bitN la i) (bitN lb i)) n.toNat))) 5 → K s 0 h') : Fn31 a b n h K Kp := by
  refine Fn31.of ?_
  unfold S31
  exact join_c how_or ha hb hn hbad (fun h1 h2 => hbad2 h1 h (Grw.refl h) h2) hk
theorem xor_c {a b : Sl} {n : Int} {h : Hp} {K : Sl → Int → Hp → Prop} {Kp : List PanicEntry → Hp → Prop} {la lb : List Nat} (ha : Bs h a la) (hb : Bs h b lb) (hn : I64 n)
    (hbad : askB la.length 0 n ≠ 0 → K ⟨none, 0, 0⟩ (askB la.length 0 n) h) (hbad2 : askB la.length 0 n = 0 → ∀ h', Grw h h' → askB lb.length 0 n ≠ 0 → K ⟨none, 0, 0⟩ (askB lb.length 0 n) h')
    (hk : 0 ≤ n → n ≤ 8 * (la.length : Int) → n ≤ 8 * (lb.length : Int) → ∀ s bl h', Grw h h' → h.size ≤ bl → Own h' s bl (by8 (packN (listF (fun i => (fun x y => x != y) (bitN la i) (bitN lb i)) n.toNat))) 5 → K s 0 h') : Fn32 a b n h K Kp := by
  refine Fn32.of ?_
  unfold S32
  exact join_c how_xor ha hb hn hbad (fun h1 h2 => hbad2 h1 h (Grw.refl h) h2) hk
theorem not_c {a : Sl} {n : Int} {h : Hp} {K : Sl → Int → Hp → Prop} {Kp : List PanicEntry → Hp → Prop} {la : List Nat} (ha : Bs h a la) (hn : I64 n)
    (hbad : askB la.length 0 n ≠ 0 → K ⟨none, 0, 0⟩ (askB la.length 0 n) h)
    (hk : 0 ≤ n → n ≤ 8 * (la.length : Int) → ∀ s bl h', Grw h h' → h.size ≤ bl → Own h' s bl (by8 (packN (listF (fun i => (fun x _ => !x) (bitN la i) (bitN la i)) n.toNat))) 5 → K s 0 h') : Fn33 a n h K Kp := by
  refine Fn33.of ?_
  unfold S33
  exact join_c how_not ha ha hn hbad (fun h1 h2 => absurd h1 h2) (fun i1 i2 _ => hk i1 i2)
theorem Bk3 {b : Nat} {h : Hp} {cs : Array Value} {el : TypeId} (k : Blk h b cs el) : rd h (some ⟨b, 0, none⟩) cs.size cs.toList := rd_blk k rfl
theorem rjoined_c {how : Int} {op : Bool → Bool → Bool} (hop : how = 0 ∧ op = (fun x y => x && y) ∨ how = 1 ∧ op = (fun x y => x || y) ∨ how = 2 ∧ op = (fun x y => x != y)) {a b : Sl} {n : Int} {h : Hp} {K : Sl → Int → Hp → Prop} {Kp : List PanicEntry → Hp → Prop} {la lb : List Nat} (ha : Bs h a la) (hb : Bs h b lb) (hn : I64 n)
    (hbad : askB la.length 0 n ≠ 0 → K ⟨none, 0, 0⟩ (askB la.length 0 n) h) (hbad2 : askB la.length 0 n = 0 → ∀ h', Grw h h' → askB lb.length 0 n ≠ 0 → K ⟨none, 0, 0⟩ (askB lb.length 0 n) h')
    (hk : 0 ≤ n → n ≤ 8 * (la.length : Int) → n ≤ 8 * (lb.length : Int) → ∀ s bl h', Grw h h' → h.size ≤ bl → Own h' s bl (by8 (packN (listF (fun i => op (bitN la i) (bitN lb i)) n.toNat))) 5 → K s 0 h') : Fn39 how a b n h K Kp := by
  refine Fn39.of ?_
  unfold S39
  have hla := ha.2.2
  have hlb := hb.2.2
  have z0 : I64 0 := by unfold I64; omega
  refine rlist_c ha z0 hn (fun hz => If_t (by simpa using hz) (hbad hz)) fun i1 i2 i3 s bl h1 g1 hbl ox => If_f rfl ?_
  have zA := askB_zero i1 i2 i3
  refine rlist_c (hb.grw g1) z0 hn (fun hz => If_t (by simpa using hz) (hbad2 zA _ g1 hz)) fun j1 j2 j3 s' bl' h2 g2 hbl' oy => If_f rfl ?_
  have hk := hk i2 (by omega) (by omega)
  obtain ⟨N, rfl⟩ := Int.eq_ofNat_of_zero_le i2
  rw [Int.toNat_natCast] at hk ox oy
  have gg := g1.trans g2
  have ox := ox.grw g2
  have hsx := own_n ox
  have hsy := own_n oy
  let f : Nat → Bool := fun i => op (bitN la i) (bitN lb i)
  refine New_i fun b0 h3 eb0 g3 k3 _ => ?_
  have q2 := gg.1
  have q3 := g3.1
  refine L39_1.rule (fun t y h' => ∃ (i : Nat), y = (i : Int) ∧ i ≤ N ∧ Tn (fun c => h2.size ≤ c) h2 h' ∧ Sh h2.size h'.size 1 h' t (bo (listF f i)) 4) (fun _ y _ => N - y.toNat)
    ⟨0, rfl, Nat.zero_le _, Tn.of_grw g3, .inr ⟨b0, by omega, by have := k3.lt; omega, rfl, rfl, #[], k3, Nat.le_refl _, rfl, fun i hi => absurd hi (by simp)⟩⟩ ?_
  rintro t y h' ⟨i, rfl, hi, f', ot⟩ N1 hN
  have g' : Grw h2 h' := f'.grw' fun d hd => by omega
  have ox := ox.grw g'
  have oy := oy.grw g'
  have htn := ot.n
  simp only [bo, List.length_map, bo_len, Nat.mul_one] at htn
  have app : i < N → ∀ (v : Bool), v = f i → New h' #[(.bool v)] 4 fun a66 h1 => Ap h1 4 #[(.bool false)] 1 1 t 1 (rd h1 (some a66) (1 * 1)) fun t67 h2 => Wr .i64 ((i : Int) + (1 : Int)) fun t39 => N1 (mk39_1 how (N : Int) s s' t67 t39) h2 := by
    intro hiN v hv
    refine New_i fun b4 h4 eb4 g4 k4 _ => ?_
    have q4 := g4.1
    have q' := g'.1
    refine Ap_sh ((ot.grw g4).wide (Nat.le_refl _) q4) (by omega) rfl (new := [.bool v]) rfl (by simp [one]) (rd_blk k4 rfl) (by omega) (by omega) fun t' h5 f5 hat o5 hn => ?_
    refine Wr_i64 (by omega) (by omega) ?_
    refine hN _ _ _ ⟨i + 1, by simp, by omega, (f'.trans' (Tn.of_grw (S := No) g4) (fun _ t => t.elim)).trans' f5 (fun d hd _ => (ot.at hd).1), ?_⟩ (by omega)
    have e : bo (listF f (i + 1)) = bo (listF f i) ++ [.bool v] := by rw [hv]; simp [bo, listF, List.range_succ]
    rw [e]; exact o5
  unfold T39_1
  refine If_i (fun h5 => ?_) fun h5 => ?_
  · simp only [decide_eq_true_eq] at h5
    have gx := listGet (f := bitsF la 0) (N := N) (i := i) (by omega)
    have gy := listGet (f := bitsF lb 0) (N := N) (i := i) (by omega)
    rw [bitsF_zero] at gx gy
    rcases hop with ⟨rfl, rfl⟩ | ⟨rfl, rfl⟩ | ⟨rfl, rfl⟩
    · refine If_t rfl ?_
      refine ox.sv.ix (by omega) (by omega) gx fun p hp => Ld_i hp (If_i (fun e => ?_) fun e => ?_)
      · refine oy.sv.ix (by omega) (by omega) gy fun p hp => Ld_i hp (app (by omega) _ ?_)
        simp only [f, e, Bool.true_and]
      · exact app (by omega) _ (by simp only [f, e, Bool.false_and])
    · refine If_f rfl (If_t rfl ?_)
      refine ox.sv.ix (by omega) (by omega) gx fun p hp => Ld_i hp (If_i (fun e => ?_) fun e => ?_)
      · exact app (by omega) _ (by simp only [f, e, Bool.true_or])
      · refine oy.sv.ix (by omega) (by omega) gy fun p hp => Ld_i hp (app (by omega) _ ?_)
        simp only [f, e, Bool.false_or]
    · refine If_f rfl (If_f rfl ?_)
      refine ox.sv.ix (by omega) (by omega) gx fun p hp => Ld_i hp (oy.sv.ix (by omega) (by omega) gy fun p hp => Ld_i hp (app (by omega) _ ?_))
      simp only [f]; rfl
  · simp only [decide_eq_false_iff_not] at h5
    obtain rfl : i = N := by omega
    refine rmake_c ot.sv (by rw [bo_len]; omega) fun s9 b9 h9 g9 hb9 o9 => ?_
    have := g'.1
    exact hk s9 b9 h9 (gg.trans (g'.trans g9)) (by omega) o9
theorem rnot_c {a : Sl} {n : Int} {h : Hp} {K : Sl → Int → Hp → Prop} {Kp : List PanicEntry → Hp → Prop} {la : List Nat} (ha : Bs h a la) (hn : I64 n)
    (hbad : askB la.length 0 n ≠ 0 → K ⟨none, 0, 0⟩ (askB la.length 0 n) h)
    (hk : 0 ≤ n → n ≤ 8 * (la.length : Int) → ∀ s bl h', Grw h h' → h.size ≤ bl → Own h' s bl (by8 (packN (listF (fun i => (fun x _ => !x) (bitN la i) (bitN la i)) n.toNat))) 5 → K s 0 h') : Fn40 a n h K Kp := by
  refine Fn40.of ?_
  unfold S40
  have hla := ha.2.2
  have z0 : I64 0 := by unfold I64; omega
  refine rlist_c ha z0 hn (fun hz => If_t (by simpa using hz) (hbad hz)) fun i1 i2 i3 s bl h2 gg hbl ox => If_f rfl ?_
  have hk := hk i2 (by omega)
  obtain ⟨N, rfl⟩ := Int.eq_ofNat_of_zero_le i2
  rw [Int.toNat_natCast] at hk ox
  have hsx := own_n ox
  let f : Nat → Bool := fun i => (fun x _ => !x) (bitN la i) (bitN la i)
  refine New_i fun b0 h3 eb0 g3 k3 _ => ?_
  have q2 := gg.1
  have q3 := g3.1
  refine L40_1.rule (fun t y h' => ∃ (i : Nat), y = (i : Int) ∧ i ≤ N ∧ Tn (fun c => h2.size ≤ c) h2 h' ∧ Sh h2.size h'.size 1 h' t (bo (listF f i)) 4) (fun _ y _ => N - y.toNat)
    ⟨0, rfl, Nat.zero_le _, Tn.of_grw g3, .inr ⟨b0, by omega, by have := k3.lt; omega, rfl, rfl, #[], k3, Nat.le_refl _, rfl, fun i hi => absurd hi (by simp)⟩⟩ ?_
  rintro t y h' ⟨i, rfl, hi, f', ot⟩ N1 hN
  have g' : Grw h2 h' := f'.grw' fun d hd => by omega
  have ox := ox.grw g'
  have htn := ot.n
  simp only [bo, List.length_map, bo_len, Nat.mul_one] at htn
  unfold T40_1
  refine If_i (fun h5 => ?_) fun h5 => ?_
  · simp only [decide_eq_true_eq] at h5
    have gx := listGet (f := bitsF la 0) (N := N) (i := i) (by omega)
    rw [bitsF_zero] at gx
    refine ox.sv.ix (by omega) (by omega) gx fun p hp => Ld_i hp ?_
    refine New_i fun b4 h4 eb4 g4 k4 _ => ?_
    have q4 := g4.1
    have q' := g'.1
    refine Ap_sh ((ot.grw g4).wide (Nat.le_refl _) q4) (by omega) rfl (new := [.bool (!bitN la i)]) rfl (by simp [one]) (rd_blk k4 rfl) (by omega) (by omega) fun t' h5 f5 hat o5 hn => ?_
    refine Wr_i64 (by omega) (by omega) ?_
    refine hN _ _ _ ⟨i + 1, by simp, by omega, (f'.trans' (Tn.of_grw (S := No) g4) (fun _ t => t.elim)).trans' f5 (fun d hd _ => (ot.at hd).1), ?_⟩ (by omega)
    have e : bo (listF f (i + 1)) = bo (listF f i) ++ [.bool (!bitN la i)] := by simp [bo, listF, List.range_succ, f]
    rw [e]; exact o5
  · simp only [decide_eq_false_iff_not] at h5
    obtain rfl : i = N := by omega
    refine rmake_c ot.sv (by rw [bo_len]; omega) fun s9 b9 h9 g9 hb9 o9 => ?_
    have := g'.1
    exact hk s9 b9 h9 (gg.trans (g'.trans g9)) (by omega) o9
/-- one pair more is appended, in its place -/
theorem pair10 {hL h0 h : Hp} {b1 b2 b3 : Nat} {c1 c2 : Array Value} {t1 : TypeId} {s : Sl} {ns : List Int} {x y : Int} {X : Hp → Prop} (lc : SyH No h0 h [⟨b1, c1, t1⟩, ⟨b2, c2, 39⟩, ⟨b3, #[.int .i64 0, .int .i64 0, .bool false, .slice none 0 0, .slice none 0 0, s.v], 39⟩])
    (hb : b1 < hL.size ∧ b2 < hL.size ∧ b3 < hL.size) (hle : hL.size ≤ h.size) (o : Sh hL.size h.size 1 h s (nu ns) 3) (hl : ns.length < 2 ^ 41)
    (hX : ∀ (s' : Sl) (h' : Hp), Tn (fun c => s.at c ∨ c = b3) h h' → SyH No h0 h' [⟨b1, c1, t1⟩, ⟨b2, c2, 39⟩, ⟨b3, #[.int .i64 0, .int .i64 0, .bool false, .slice none 0 0, .slice none 0 0, s'.v], 39⟩] → Sh hL.size h'.size 1 h' s' (nu (ns ++ [x, y])) 3 → X h') (bb : Nat) (hh : Hp) (hg : Tn No h hh) (hbb : h.size ≤ bb) (k : Blk hh bb #[.int .i64 x, .int .i64 y] 3) :
    Ap hh 3 #[(.int .i64 (0 : Int))] 1 8 s 2 (rd hh (some ⟨bb, 0, none⟩) (2 * 1)) fun t148 h3 => St h3 ((⟨b3, 0, none⟩ : Addr).add 5) (Sl.v t148) fun h4 => X h4 := by
  have lc := lc.keep hg
  have on := o.n
  have q := hg.1
  simp only [nu, List.length_map, Nat.mul_one] at on
  refine Ap_sh ((o.grw hg.grw).wide (Nat.le_refl _) q) (by omega) rfl (new := [.int .i64 x, .int .i64 y]) rfl (by simp [one]) (rd_blk k rfl) (by omega) (by omega) fun s' h3 f3 hat o3 hn => ?_
  have lc := lc.keepS f3 (fun z hz hc => by
    have := (o.at hc).1
    simp only [List.mem_cons, List.not_mem_nil, or_false] at hz
    rcases hz with rfl | rfl | rfl <;> simp only at this <;> omega) (fun d hd hlt => by have := (o.at hd).1; have := (lc.blk (i := 0) rfl).lt; have := lc.fr.1; exact absurd hlt (by have := (lc.ok _ (List.mem_of_getElem? (i := 0) rfl)).1; simp only [or_false] at this; have := hb.1; omega))
  refine lc.sto 2 rfl rfl rfl fun h4 f4 lc => ?_
  simp only [Nat.zero_add, List.set_cons_zero, List.set_cons_succ, List.setIfInBounds_toArray] at lc
  have q3 := f3.1
  have q4 := f4.1
  refine hX s' h4 ?_ lc ?_
  · refine ((hg.mono fun _ h _ => h.elim).trans' (f3.mono (T := fun c => s.at c ∨ c = b3) fun d hd _ => .inl hd) fun d hd _ => hd).trans' f4 fun d hd _ => .inr hd
  · refine (Sh.fr ?_ f4 fun b h1 h2 e => by omega).wide (Nat.le_refl _) q4
    rw [nu_append]; exact o3
theorem FnNil_f {f : Fn} {a b : Array Value} {X : Bool → Prop} (h : X false) : FnNil (.func f a b) X := h
/-- the runs, one by one, out of the iterator -/
theorem runs10 {A : Rep} {K : Int → Int → Bool → Sl → Sl → Sl → Hp → Prop} {Kp : List PanicEntry → Hp → Prop} {h0 h : Hp} {b1 b2 b3 : Nat} {c1 : Array Value} {t1 : TypeId} {s1 : Sl} {a : List Nat} {fr n : Int} (hA : { r0 with nums := flatI (asksN a fr n) } = A) (ha : Bs h s1 a) (hf : I64 fr) (hn : I64 n)
    (lc : SyH No h0 h [⟨b1, c1, t1⟩, ⟨b2, #[.int .i64 0, .int .i64 0, .bool false, .slice none 0 0, .slice none 0 0, .slice none 0 0], 39⟩, ⟨b3, #[.int .i64 0, .int .i64 0, .bool false, .slice none 0 0, .slice none 0 0, .slice none 0 0], 39⟩]) (hb : b1 < h.size ∧ b2 < h.size ∧ b3 < h.size) (hh0 : h0.size ≤ b1) (hk : Goes h0 A K) :
    Fn8 s1 fr n h (fun t135 h4 => FnNil t135 fun t137 => If t137 (St h4 ⟨b3, 0, none⟩ (.int .i64 (-1 : Int)) fun h5 =>
      Ld h5 ⟨b3, 0, none⟩ (Value.int .i64) fun t139_0 => Ld h5 ((⟨b3, 0, none⟩ : Addr).add 1) (Value.int .i64) fun t139_1 => Ld h5 ((⟨b3, 0, none⟩ : Addr).add 2) (Value.bool) fun t139_2 => Ld h5 ((⟨b3, 0, none⟩ : Addr).add 3) (Sl.v) fun t139_3 => Ld h5 ((⟨b3, 0, none⟩ : Addr).add 4) (Sl.v) fun t139_4 => Ld h5 ((⟨b3, 0, none⟩ : Addr).add 5) (Sl.v) fun t139_5 =>
      St h5 ⟨b2, 0, none⟩ (.int .i64 t139_0) fun h6 => St h6 ((⟨b2, 0, none⟩ : Addr).add 1) (.int .i64 t139_1) fun h7 => St h7 ((⟨b2, 0, none⟩ : Addr).add 2) (.bool t139_2) fun h8 => St h8 ((⟨b2, 0, none⟩ : Addr).add 3) (Sl.v t139_3) fun h9 => St h9 ((⟨b2, 0, none⟩ : Addr).add 4) (Sl.v t139_4) fun h10 => St h10 ((⟨b2, 0, none⟩ : Addr).add 5) (Sl.v t139_5) fun h11 =>
      Ld h11 ⟨b2, 0, none⟩ (Value.int .i64) fun r0_0 => Ld h11 ((⟨b2, 0, none⟩ : Addr).add 1) (Value.int .i64) fun r0_1 => Ld h11 ((⟨b2, 0, none⟩ : Addr).add 2) (Value.bool) fun r0_2 => Ld h11 ((⟨b2, 0, none⟩ : Addr).add 3) (Sl.v) fun r0_3 => Ld h11 ((⟨b2, 0, none⟩ : Addr).add 4) (Sl.v) fun r0_4 => Ld h11 ((⟨b2, 0, none⟩ : Addr).add 5) (Sl.v) fun r0_5 => K r0_0 r0_1 r0_2 r0_3 r0_4 r0_5 h11)
      (R10_1 ⟨b2, 0, none⟩ ⟨b3, 0, none⟩ t135 K Kp h4)) Kp := by
  subst hA
  have hal := ha.2.2
  have hnl := asksN_len a fr n hal
  have go : ∀ (fv : Value) (Pre : Hp → Prop) (h4 : Hp), Grw h h4 → Iter Tryd.prog fv (asksN a fr n) encR Pre → (∀ h5, Tn (fun c => c = b3 ∨ h4.size ≤ c) h4 h5 → Pre h5) → R10_1 ⟨b2, 0, none⟩ ⟨b3, 0, none⟩ fv K Kp h4 := by
    intro fv Pre h4 g4 hit hpre
    have lc4 := lc.keep (Tn.of_grw g4)
    have q4 := g4.1
    refine R10_1.rule (α := Nat × Nat) (fun y => (y.1 : Int)) (fun y => (y.2 : Int)) hit
      (fun pre h5 => ∃ s : Sl, Tn (fun c => c = b3 ∨ h4.size ≤ c) h4 h5 ∧ SyH No h0 h5 [⟨b1, c1, t1⟩, ⟨b2, #[.int .i64 0, .int .i64 0, .bool false, .slice none 0 0, .slice none 0 0, .slice none 0 0], 39⟩, ⟨b3, #[.int .i64 0, .int .i64 0, .bool false, .slice none 0 0, .slice none 0 0, s.v], 39⟩] ∧ Sh h4.size h5.size 1 h5 s (nu (flatI pre)) 3)
      ⟨Sl.nil, Tn.refl _ _, lc4, Sh.nil _ _ _ _ _⟩ ?_ ?_ (fun pre h1 i => hpre h1 (by obtain ⟨s, i1, _⟩ := i; exact i1)) ?_ ?_
    · rintro pre h1 h2 g ⟨s, i1, i2, i3⟩
      exact ⟨s, i1.trans' (Tn.of_grw (S := No) g) (fun _ t => t.elim), i2.keep (Tn.of_grw g), (i3.grw g).wide (Nat.le_refl _) g.1⟩
    · rintro l pre h1 h2 hl t ⟨s, i1, i2, i3⟩
      have o := t.only.fr
      refine ⟨s, i1.trans' o (fun d hd _ => by omega), i2.keepS o (fun z hz => ?_) (fun d hd hlt => by have := i2.fr.1; have := lc.fr.1; omega), ?_⟩
      · simp only [List.mem_cons, List.not_mem_nil, or_false] at hz
        rcases hz with rfl | rfl | rfl <;> simp only <;> omega
      · have := t.1
        exact (i3.tw t).wide (Nat.le_refl _) (by omega)
    · rintro l pre y suf h1 hxs hl _ ⟨s, i1, i2, i3⟩ N X hN
      unfold RT10_1
      refine ⟨rfl, fun hB tB => ?_⟩
      have o := tB.only.fr
      have zB := tB.1
      have i2 := i2.keepS o (fun z hz => by
        simp only [List.mem_cons, List.not_mem_nil, or_false] at hz
        rcases hz with rfl | rfl | rfl <;> simp only <;> omega) (fun d hd hlt => by have := i2.fr.1; have := lc.fr.1; omega)
      have i3 := (i3.tw tB).wide (lo' := h4.size) (Nat.le_refl _) (Nat.le_of_eq zB.symm)
      have hpl : pre.length < (asksN a fr n).length := by rw [hxs]; simp
      have q1 := i1.1
      refine i2.ldo 2 rfl rfl ?_
      refine New_i fun b9 h9 e9 g9 k9 _ => ?_
      refine pair10 (X := N) (hL := h4) i2 (by omega) (by omega) i3 (by rw [flatI_len]; omega) (fun s' h' f' lc' o' => ?_) b9 h9 (Tn.of_grw g9) (by omega) k9
      refine hN hB h' tB (f'.2 l ?_ ?_) ⟨s', (i1.trans' o (fun d hd _ => by omega)).trans' f' (fun d hd _ => ?_), lc', ?_⟩
      · obtain ⟨_, _, _, hr, _⟩ := tB.2.2
        have := (Array.getElem?_eq_some_iff.1 hr).1
        omega
      · rintro (hs | hs)
        · exact i3.noloop tB hs
        · omega
      · rcases hd with hd | hd
        · exact .inr (i3.at hd).1
        · exact .inl hd
      · rw [flatI_append]; exact o'
    · rintro h5 ⟨s, i1, i2, i3⟩
      have q5 := i1.1
      refine tail10 (s3 := Sl.nil) (s4 := Sl.nil) (s5 := s) (lo := h4.size) i2 (by omega) (by have := lc.fr.1; omega) (r := { r0 with nums := flatI (asksN a fr n) }) ⟨.inl ⟨rfl, rfl⟩, .inl ⟨rfl, rfl⟩, i3, by refine ⟨by simp, by simp, ?_⟩; show (flatI (asksN a fr n)).length < 2 ^ 40; rw [flatI_len]; omega⟩ ⟨rfl, rfl, rfl⟩ hk
  refine bruns_c ha hn (fun hz => ?_) fun i1 i2 i3 s bl b5 b3' b4 h' g' hbl ow p5 p3 p4 rb => ?_
  · refine FnNil_f (If_f rfl (go _ (fun _ => True) h (Grw.refl h) ?_ (fun _ _ => trivial)))
    have e : asksN a fr n = [] := by unfold asksN; rw [if_neg hz]
    rw [e]; exact none_iter
  · refine FnNil_f (If_f rfl (go (runG b5 b3' b4) (RunPre ⟨b5, 0, none⟩ ⟨b3', 0, none⟩ ⟨b4, 0, none⟩ s 0 n (packN (listF (bitsF a fr) n.toNat))) h' g' ?_ (fun h5 f5 => ?_)))
    · have e : asksN a fr n = runsAt (bitsF a fr) n.toNat 0 := by unfold asksN; rw [if_pos (askB_zero i1 i2 i3)]
      rw [e]; exact bruns_iter i2
    · have l5 := rb.1.lt
      have l3 := rb.2.1.lt
      have l4 := rb.2.2.lt
      have lo := ow.lt
      refine RunBlk.pre ⟨f5.blk rb.1 (by omega), f5.blk rb.2.1 (by omega), f5.blk rb.2.2 (by omega)⟩ (Bs.of_own (ow.fr f5 (by omega)) (packN_lt _) ?_)
      rw [packN_len, bo_len]; unfold needN; omega
end Go.Proofs.YtajgmklgfdgnlaaDoor
