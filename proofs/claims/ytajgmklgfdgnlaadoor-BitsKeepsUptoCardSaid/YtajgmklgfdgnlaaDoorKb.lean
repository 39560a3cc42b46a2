/- The law BitsKeeps. -/
import Derived.Test.YtajgmklgfdgnlaaDoorKa
namespace Go.Proofs.YtajgmklgfdgnlaaDoor
open Go Go.Sh
abbrev c6 (e n : Int) (y : Bool) (s3 s4 s5 : Sl) : Array Value := #[.int .i64 e, .int .i64 n, .bool y, s3.v, s4.v, s5.v]
abbrev c8 (o : OpD) (s1 s2 s3 : Sl) : Array Value := #[.int .i64 o.kind, s1.v, s2.v, s3.v, .int .i64 o.fr, .int .i64 o.n, .int .i64 o.k, .bool o.on]
section
variable {S : Nat → Prop} {h0 h : Hp} {L : List Bk}
theorem put6 (lc : SyH No h0 h L) {e n : Int} {y : Bool} {t3 t4 t5 : Sl} {K : Addr → Hp → Prop} (hk : ∀ b h', h.size ≤ b → b < h'.size → Grw h h' → SyH No h0 h' (L ++ [⟨b, c6 e n y t3 t4 t5, 39⟩]) → K ⟨b, 0, none⟩ h') :
    New h #[(.int .i64 (0 : Int)), (.int .i64 (0 : Int)), (.bool false), (.slice none 0 0), (.slice none 0 0), (.slice none 0 0)] 39 fun a h1 => St h1 a (.int .i64 e) fun h2 => St h2 (a.add 1) (.int .i64 n) fun h3 => St h3 (a.add 2) (.bool y) fun h4 => St h4 (a.add 3) (Sl.v t3) fun h5 => St h5 (a.add 4) (Sl.v t4) fun h6 => St h6 (a.add 5) (Sl.v t5) fun h7 => K a h7 := by
  have lc1 := SyH.start No h
  refine lc1.new fun b h1 p1 f1 lc1 => ?_
  simp only [List.nil_append] at lc1
  refine lc1.st 0 rfl rfl rfl fun _ _ lc1 => ?_
  simp only [Nat.zero_add, List.set_cons_zero, List.set_cons_succ, List.setIfInBounds_toArray] at lc1
  refine lc1.sto 0 rfl rfl rfl fun _ _ lc1 => ?_
  simp only [Nat.zero_add, List.set_cons_zero, List.set_cons_succ, List.setIfInBounds_toArray] at lc1
  refine lc1.sto 0 rfl rfl rfl fun _ _ lc1 => ?_
  simp only [Nat.zero_add, List.set_cons_zero, List.set_cons_succ, List.setIfInBounds_toArray] at lc1
  refine lc1.sto 0 rfl rfl rfl fun _ _ lc1 => ?_
  simp only [Nat.zero_add, List.set_cons_zero, List.set_cons_succ, List.setIfInBounds_toArray] at lc1
  refine lc1.sto 0 rfl rfl rfl fun _ _ lc1 => ?_
  simp only [Nat.zero_add, List.set_cons_zero, List.set_cons_succ, List.setIfInBounds_toArray] at lc1
  refine lc1.sto 0 rfl rfl rfl fun _ _ lc1 => ?_
  simp only [Nat.zero_add, List.set_cons_zero, List.set_cons_succ, List.setIfInBounds_toArray] at lc1
  have k := lc1.blk (i := 0) rfl
  exact hk b _ p1 k.lt lc1.grw (lc.more (x := ⟨b, _, 39⟩) (Tn.of_grw lc1.grw) p1 k)
theorem put3 (lc : SyH No h0 h L) {t3 t4 t5 : Sl} {K : Addr → Hp → Prop} (hk : ∀ b h', h.size ≤ b → b < h'.size → Grw h h' → SyH No h0 h' (L ++ [⟨b, #[t3.v, t4.v, t5.v], 46⟩]) → K ⟨b, 0, none⟩ h') :
    New h #[(.slice none 0 0), (.slice none 0 0), (.slice none 0 0)] 46 fun a h1 => St h1 a (Sl.v t3) fun h5 => St h5 (a.add 1) (Sl.v t4) fun h6 => St h6 (a.add 2) (Sl.v t5) fun h7 => K a h7 := by
  have lc1 := SyH.start No h
  refine lc1.new fun b h1 p1 f1 lc1 => ?_
  simp only [List.nil_append] at lc1
  refine lc1.st 0 rfl rfl rfl fun _ _ lc1 => ?_
  simp only [Nat.zero_add, List.set_cons_zero, List.set_cons_succ, List.setIfInBounds_toArray] at lc1
  refine lc1.sto 0 rfl rfl rfl fun _ _ lc1 => ?_
  simp only [Nat.zero_add, List.set_cons_zero, List.set_cons_succ, List.setIfInBounds_toArray] at lc1
  refine lc1.sto 0 rfl rfl rfl fun _ _ lc1 => ?_
  simp only [Nat.zero_add, List.set_cons_zero, List.set_cons_succ, List.setIfInBounds_toArray] at lc1
  have k := lc1.blk (i := 0) rfl
  exact hk b _ p1 k.lt lc1.grw (lc.more (x := ⟨b, _, 46⟩) (Tn.of_grw lc1.grw) p1 k)
theorem get6 (lc : SyH S h0 h L) (i : Nat) {b : Nat} {e n : Int} {y : Bool} {t3 t4 t5 : Sl} {X : Int → Int → Bool → Sl → Sl → Sl → Prop} (hx : L[i]? = some ⟨b, c6 e n y t3 t4 t5, 39⟩) (hk : X e n y t3 t4 t5) :
    Ld h ⟨b, 0, none⟩ (Value.int .i64) fun x0 => Ld h ((⟨b, 0, none⟩ : Addr).add 1) (Value.int .i64) fun x1 => Ld h ((⟨b, 0, none⟩ : Addr).add 2) (Value.bool) fun x2 => Ld h ((⟨b, 0, none⟩ : Addr).add 3) (Sl.v) fun x3 => Ld h ((⟨b, 0, none⟩ : Addr).add 4) (Sl.v) fun x4 => Ld h ((⟨b, 0, none⟩ : Addr).add 5) (Sl.v) fun x5 => X x0 x1 x2 x3 x4 x5 :=
  lc.ld i hx rfl (lc.ldo i hx rfl (lc.ldo i hx rfl (lc.ldo i hx rfl (lc.ldo i hx rfl (lc.ldo i hx rfl hk)))))
theorem get3 (lc : SyH S h0 h L) (i : Nat) {b : Nat} {t3 t4 t5 : Sl} {X : Sl → Sl → Sl → Prop} (hx : L[i]? = some ⟨b, #[t3.v, t4.v, t5.v], 46⟩) (hk : X t3 t4 t5) :
    Ld h ⟨b, 0, none⟩ (Sl.v) fun x3 => Ld h ((⟨b, 0, none⟩ : Addr).add 1) (Sl.v) fun x4 => Ld h ((⟨b, 0, none⟩ : Addr).add 2) (Sl.v) fun x5 => X x3 x4 x5 :=
  lc.ld i hx rfl (lc.ldo i hx rfl (lc.ldo i hx rfl hk))
theorem get8 (lc : SyH S h0 h L) (i : Nat) {b : Nat} {o : OpD} {s1 s2 s3 : Sl} {X : Int → Sl → Sl → Sl → Int → Int → Int → Bool → Prop} (hx : L[i]? = some ⟨b, c8 o s1 s2 s3, 42⟩) (hk : X o.kind s1 s2 s3 o.fr o.n o.k o.on) :
    Ld h ⟨b, 0, none⟩ (Value.int .i64) fun x0 => Ld h ((⟨b, 0, none⟩ : Addr).add 1) (Sl.v) fun x1 => Ld h ((⟨b, 0, none⟩ : Addr).add 2) (Sl.v) fun x2 => Ld h ((⟨b, 0, none⟩ : Addr).add 3) (Sl.v) fun x3 => Ld h ((⟨b, 0, none⟩ : Addr).add 4) (Value.int .i64) fun x4 => Ld h ((⟨b, 0, none⟩ : Addr).add 5) (Value.int .i64) fun x5 => Ld h ((⟨b, 0, none⟩ : Addr).add 6) (Value.int .i64) fun x6 => Ld h ((⟨b, 0, none⟩ : Addr).add 7) (Value.bool) fun x7 => X x0 x1 x2 x3 x4 x5 x6 x7 :=
  lc.ld i hx rfl (lc.ldo i hx rfl (lc.ldo i hx rfl (lc.ldo i hx rfl (lc.ldo i hx rfl (lc.ldo i hx rfl (lc.ldo i hx rfl (lc.ldo i hx rfl hk)))))))
end
theorem Sh.diff {lo hi lo' hi' : Nat} {h : Hp} {s t : Sl} {vs ws : List Value} {el el' : TypeId} (o : Sh lo hi 1 h s vs el) (q : Sh lo' hi' 1 h t ws el') (hne : el ≠ el') : ∀ c, s.at c → ¬ t.at c := by
  rintro c ⟨a, ha, hc⟩ ⟨a', ha', hc'⟩
  rcases o with ⟨rfl, _⟩ | ⟨b, _, _, o⟩
  · simp [Sl.nil] at ha
  rcases q with ⟨rfl, _⟩ | ⟨b', _, _, q⟩
  · simp [Sl.nil] at ha'
  obtain ⟨e1, _, cs, k, _⟩ := o
  obtain ⟨e2, _, cs', k', _⟩ := q
  rw [e1] at ha; cases ha
  rw [e2] at ha'; cases ha'
  simp only at hc hc'
  subst hc
  subst hc'
  have k1 : h[b']? = some (.cells cs el (0, 0)) := k
  have k2 : h[b']? = some (.cells cs' el' (0, 0)) := k'
  rw [k1] at k2
  simp at k2
  exact hne k2.2
/-- a reply, and the stretch of blocks that it lies in -/
structure RP where
  lo : Nat
  hi : Nat
  s3 : Sl
  s4 : Sl
  s5 : Sl
  r : Rep
structure RPs (h : Hp) (x : RP) : Prop where
  le : x.lo ≤ x.hi ∧ x.hi ≤ h.size
  by_ : Sh x.lo x.hi 1 h x.s3 (by8 x.r.bytes) 5
  bo_ : Sh x.lo x.hi 1 h x.s4 (bo x.r.bools) 4
  nu_ : Sh x.lo x.hi 1 h x.s5 (nu x.r.nums) 3
  len : x.r.bytes.length < 2 ^ 40 ∧ x.r.bools.length < 2 ^ 40 ∧ x.r.nums.length < 2 ^ 40
theorem RPs.s {h : Hp} {x : RP} (q : RPs h x) : RepS h x.s3 x.s4 x.s5 x.r := ⟨q.by_.sv, q.bo_.sv, q.nu_.sv, q.len⟩
theorem RPs.tn {S : Nat → Prop} {h h' : Hp} {x : RP} (q : RPs h x) (f : Tn S h h') (hS : ∀ c, x.lo ≤ c → c < x.hi → ¬ S c) : RPs h' x :=
  ⟨⟨q.le.1, Nat.le_trans q.le.2 f.1⟩, q.by_.fr f hS, q.bo_.fr f hS, q.nu_.fr f hS, q.len⟩
theorem RPs.grw {h h' : Hp} {x : RP} (q : RPs h x) (g : Grw h h') : RPs h' x := q.tn (S := No) (Tn.of_grw g) fun _ _ _ => id
theorem RepF.rp {lo : Nat} {h : Hp} {s3 s4 s5 : Sl} {r : Rep} (x : RepF lo h s3 s4 s5 r) (hlo : lo ≤ h.size) : RPs h ⟨lo, h.size, s3, s4, s5, r⟩ := ⟨⟨hlo, Nat.le_refl _⟩, x.by_, x.bo_, x.nu_, x.len⟩
theorem Giv.grw {lo hi : Nat} {h h' : Hp} {g1 g2 g3 : Sl} {a b : List Nat} {l : List Bool} (x : Giv lo hi h g1 g2 g3 a b l) (g : Grw h h') : Giv lo hi h' g1 g2 g3 a b l := x.tn (S := No) (Tn.of_grw g) fun _ _ _ => id
theorem rpSpoil {h h' : Hp} {x y : RP} (q : RPs h y) (p : RPs h x) (f : Tn (fun c => x.s3.at c ∨ x.s4.at c) h h') (hd : y.hi ≤ x.lo ∨ x.hi ≤ y.lo) : RPs h' y :=
  q.tn f fun c h1 h2 h3 => by
    rcases h3 with h3 | h3
    · have := p.by_.at h3; omega
    · have := p.bo_.at h3; omega
set_option maxHeartbeats 4000000 in
theorem bitsKeeps_c {o p : OpD} {s1 s2 s3 q1 q2 q3 : Sl} {h0 : Hp} {K : Bool → Hp → Prop} {Kp : List PanicEntry → Hp → Prop} (tb : Tab h0) (ho : OpIn h0 o s1 s2 s3) (hp : OpIn h0 p q1 q2 q3) (hl : o.a.length < 2 ^ 35 ∧ o.b.length < 2 ^ 35 ∧ o.l.length < 2 ^ 35)
    (hk : ∀ h', Grw h0 h' → K true h') : Fn5 o.kind s1 s2 s3 o.fr o.n o.k o.on p.kind q1 q2 q3 p.fr p.n p.k p.on h0 K Kp := by
  refine Fn5.of ?_
  unfold S5
  have lc := SyH.start No h0
  refine lc.new fun b2 h1 w1 f1 lc => lc.new fun b3 h2 w2 f2 lc => ?_
  simp only [List.nil_append, List.cons_append] at lc
  have y2 := (lc.blk (i := 0) rfl).lt
  have y3 := (lc.blk (i := 1) rfl).lt
  simp only at y2 y3
  refine get8 lc 0 rfl ?_
  refine says_c (ho.grw lc.grw) fun e5 n5 y5 u3 u4 u5 h3 g3 r5 he5 => ?_
  have lc := lc.keep (Tn.of_grw g3)
  have zz2 := f2.1; have zz1 := f1.1; have z3 := g3.1
  have W := r5.rp z3
  refine put6 lc fun b5 h4 w5 v5 g4 lc => ?_
  simp only [List.nil_append, List.cons_append] at lc
  have W := W.grw g4
  refine get8 lc 0 rfl ?_
  refine gave_c (ho.grw lc.grw) hl fun g1 g2 g3' h5 g5 gv => ?_
  have lc := lc.keep (Tn.of_grw g5)
  have W := W.grw g5
  have z4 := g4.1; have z5 := g5.1
  refine put3 lc fun b6 h6 w6 v6 g6 lc => ?_
  simp only [List.nil_append, List.cons_append] at lc
  have W := W.grw g6
  have gv := gv.grw g6
  refine get8 lc 0 rfl ?_
  refine gave_c (ho.grw lc.grw) hl fun k1 k2 k3 h7 g7 hv => ?_
  have lc := lc.keep (Tn.of_grw g7)
  have W := W.grw g7
  have gv := gv.grw g7
  have z6 := g6.1; have z7 := g7.1
  refine put3 lc fun b7 h8 w7 v7 g8 lc => ?_
  simp only [List.nil_append, List.cons_append] at lc
  have W := W.grw g8
  have gv := gv.grw g8
  have hv := hv.grw g8
  have z8 := g8.1
  refine get3 lc 3 rfl (get8 lc 0 rfl ?_)
  refine op_c gv fun h9 g9 => ?_
  have lc := lc.keep (Tn.of_grw g9)
  have W := W.grw g9
  have gv := gv.grw g9
  have hv := hv.grw g9
  refine ask_c (gv.opIn (o := o) ho.fr ho.n ho.k) (tb.grw lc.grw) fun e8 n8 y8 x3 x4 x5 h10 g10 rx hex => ?_
  have lc := lc.keep (Tn.of_grw g10)
  have W := W.grw g10
  have gv := gv.grw g10
  have hv := hv.grw g10
  have X := rx.rp g10.1
  refine put6 lc fun b8 h11 w8 v8 g11 lc => ?_
  simp only [List.nil_append, List.cons_append] at lc
  have W := W.grw g11
  have gv := gv.grw g11
  have hv := hv.grw g11
  have X := X.grw g11
  have z9 := g9.1; have z10 := g10.1; have z11 := g11.1
  refine get3 lc 3 rfl (get8 lc 0 rfl ?_)
  refine op_c gv fun h12 g12 => ?_
  have lc := lc.keep (Tn.of_grw g12)
  have W := W.grw g12
  have gv := gv.grw g12
  have hv := hv.grw g12
  have X := X.grw g12
  refine ask_c (gv.opIn (o := o) ho.fr ho.n ho.k) (tb.grw lc.grw) fun e9 n9 y9 yy3 yy4 yy5 h13 g13 ry hey => ?_
  have lc := lc.keep (Tn.of_grw g13)
  have W := W.grw g13
  have gv := gv.grw g13
  have hv := hv.grw g13
  have X := X.grw g13
  have Y := ry.rp g13.1
  refine put6 lc fun b9 h14 w9 v9 g14 lc => ?_
  simp only [List.nil_append, List.cons_append] at lc
  have W := W.grw g14
  have gv := gv.grw g14
  have hv := hv.grw g14
  have X := X.grw g14
  have Y := Y.grw g14
  have z12 := g12.1; have z13 := g13.1; have z14 := g14.1
  refine get6 lc 5 rfl (get6 lc 2 rfl ?_)
  refine alike_c X.s W.s hex he5 fun h15 g15 => ?_
  rw [decide_eq_true rfl]
  refine If_f rfl ?_
  have lc := lc.keep (Tn.of_grw g15)
  have W := W.grw g15
  have gv := gv.grw g15
  have hv := hv.grw g15
  have X := X.grw g15
  have Y := Y.grw g15
  refine get6 lc 6 rfl (get6 lc 2 rfl ?_)
  refine alike_c Y.s W.s hey he5 fun h16 g16 => ?_
  rw [decide_eq_true rfl]
  refine If_f rfl (J5_1.of ?_)
  unfold JT5_1
  have lc := lc.keep (Tn.of_grw g16)
  have W := W.grw g16
  have gv := gv.grw g16
  have hv := hv.grw g16
  have X := X.grw g16
  have Y := Y.grw g16
  have z15 := g15.1; have z16 := g16.1
  refine get6 lc 5 rfl ?_
  have gx := X.le
  simp only at gx
  refine spoil_c (lo := h9.size) (r := specR o) (X.by_.wide (Nat.le_refl _) (by simp only; omega)) (X.bo_.wide (Nat.le_refl _) (by simp only; omega)) (Sh.diff X.by_ X.bo_ (by decide)) (by have := X.len.1; simp only at this; omega) (by have := X.len.2.1; simp only at this; omega) (by omega) fun h17 f17 => ?_
  have z17 := f17.1
  have inX : ∀ c, (x3.at c ∨ x4.at c) → h9.size ≤ c ∧ c < h10.size := fun c hc => hc.elim (fun h => X.by_.at h) (fun h => X.bo_.at h)
  have wg := gv.tn f17 fun c h1 h2 h3 => by have := inX c h3; omega
  have wh := hv.tn f17 fun c h1 h2 h3 => by have := inX c h3; omega
  have lc := lc.keepS f17 (fun z hz hc => by
    have := inX _ hc
    simp only [List.mem_cons, List.not_mem_nil, or_false] at hz
    rcases hz with rfl | rfl | rfl | rfl | rfl | rfl | rfl <;> simp only at this <;> omega) (fun d hd hlt => by have := inX d hd; omega)
  have W := rpSpoil W X f17 (by simp only; omega)
  have Y := rpSpoil Y X f17 (by simp only; omega)
  refine get6 lc 6 rfl (get6 lc 2 rfl ?_)
  refine alike_c Y.s W.s hey he5 fun h18 g18 => ?_
  rw [decide_eq_true rfl]
  refine If_f rfl ?_
  have lc := lc.keep (Tn.of_grw g18)
  have W := W.grw g18
  have gv := wg.grw g18
  have hv := wh.grw g18
  have Y := Y.grw g18
  refine get3 lc 3 rfl (get3 lc 4 rfl ?_)
  refine same_c gv hv fun h19 g19 => If_f rfl (J5_2.of ?_)
  unfold JT5_2
  have lc := lc.keep (Tn.of_grw g19)
  have W := W.grw g19
  have gv := gv.grw g19
  have Y := Y.grw g19
  have z18 := g18.1; have z19 := g19.1
  refine get8 lc 1 rfl ?_
  refine ask_c (hp.grw lc.grw) (tb.grw lc.grw) fun e10 n10 y10 o3 o4 o5 h20 g20 ro heo => ?_
  have lc := lc.keep (Tn.of_grw g20)
  have W := W.grw g20
  have gv := gv.grw g20
  have Y := Y.grw g20
  have O := ro.rp g20.1
  refine put6 lc fun b10 h21 w10 v10 g21 lc => ?_
  simp only [List.nil_append, List.cons_append] at lc
  have W := W.grw g21
  have gv := gv.grw g21
  have Y := Y.grw g21
  have O := O.grw g21
  have z20 := g20.1; have z21 := g21.1
  refine get6 lc 7 rfl (get8 lc 1 rfl ?_)
  refine says_c (hp.grw lc.grw) fun e11 n11 y11 o3' o4' o5' h22 g22 ro' heo' => ?_
  refine ⟨keep_blk (lc.blk (i := 7) rfl) g22, ?_⟩
  have lc := lc.keep (Tn.of_grw g22)
  have W := W.grw g22
  have gv := gv.grw g22
  have Y := Y.grw g22
  have O := O.grw g22
  refine alike_c O.s ro'.s heo heo' fun h23 g23 => ?_
  rw [decide_eq_true rfl]
  refine If_f rfl ?_
  have lc := lc.keep (Tn.of_grw g23)
  have W := W.grw g23
  have gv := gv.grw g23
  have Y := Y.grw g23
  refine get6 lc 6 rfl (get6 lc 2 rfl ?_)
  refine alike_c Y.s W.s hey he5 fun h24 g24 => ?_
  rw [decide_eq_true rfl]
  refine If_f rfl (J5_3.of ?_)
  unfold JT5_3
  have lc := lc.keep (Tn.of_grw g24)
  have W := W.grw g24
  have gv := gv.grw g24
  have Y := Y.grw g24
  have z22 := g22.1; have z23 := g23.1; have z24 := g24.1
  refine get3 lc 3 rfl (get8 lc 0 rfl ?_)
  refine op_c gv fun h25 g25 => ?_
  have lc := lc.keep (Tn.of_grw g25)
  have W := W.grw g25
  have gv := gv.grw g25
  have Y := Y.grw g25
  refine ask_c (gv.opIn (o := o) ho.fr ho.n ho.k) (tb.grw lc.grw) fun e12 n12 y12 zz3 zz4 zz5 h26 g26 rz hez => ?_
  have lc := lc.keep (Tn.of_grw g26)
  have W := W.grw g26
  have gv := gv.grw g26
  have Y := Y.grw g26
  have Z := rz.rp g26.1
  refine put6 lc fun b11 h27 w11 v11 g27 lc => ?_
  simp only [List.nil_append, List.cons_append] at lc
  have W := W.grw g27
  have gv := gv.grw g27
  have Y := Y.grw g27
  have Z := Z.grw g27
  have z25 := g25.1; have z26 := g26.1; have z27 := g27.1
  refine get3 lc 3 rfl ?_
  refine turned_c gv (by omega) fun h28 a' b' l' f28 gv => ?_
  have z28 := f28.1
  have lc := lc.keepS f28 (fun z hz hc => by
    simp only [List.mem_cons, List.not_mem_nil, or_false] at hz
    rcases hz with rfl | rfl | rfl | rfl | rfl | rfl | rfl | rfl | rfl <;> simp only at hc <;> omega) (fun d hd hlt => by omega)
  have W := W.tn f28 fun c h1 h2 h3 => by simp only at h1 h2; omega
  have Y := Y.tn f28 fun c h1 h2 h3 => by simp only at h1 h2; omega
  have Z := Z.tn f28 fun c h1 h2 h3 => by simp only at h1 h2; omega
  refine get6 lc 8 rfl (get6 lc 2 rfl ?_)
  refine alike_c Z.s W.s hez he5 fun h29 g29 => ?_
  rw [decide_eq_true rfl]
  refine If_f rfl ?_
  have lc := lc.keep (Tn.of_grw g29)
  have W := W.grw g29
  have gv := gv.grw g29
  have Y := Y.grw g29
  have Z := Z.grw g29
  refine get6 lc 6 rfl (get6 lc 2 rfl ?_)
  refine alike_c Y.s W.s hey he5 fun h30 g30 => ?_
  rw [decide_eq_true rfl]
  refine If_f rfl (J5_4.of ?_)
  unfold JT5_4
  have lc := lc.keep (Tn.of_grw g30)
  have W := W.grw g30
  have gv := gv.grw g30
  have Z := Z.grw g30
  refine get3 lc 3 rfl (get8 lc 0 rfl ?_)
  refine op_c gv fun h31 g31 => ?_
  have lc := lc.keep (Tn.of_grw g31)
  have W := W.grw g31
  have gv := gv.grw g31
  have Z := Z.grw g31
  refine says_c (o := { o with a := a', b := b', l := l' }) (gv.opIn (o := o) ho.fr ho.n ho.k) fun e13 n13 y13 m3 m4 m5 h32 g32 rm hem => ?_
  have lc := lc.keep (Tn.of_grw g32)
  have W := W.grw g32
  have gv := gv.grw g32
  have Z := Z.grw g32
  have M := rm.rp g32.1
  refine put6 lc fun b12 h33 w12 v12 g33 lc => ?_
  simp only [List.nil_append, List.cons_append] at lc
  have W := W.grw g33
  have gv := gv.grw g33
  have Z := Z.grw g33
  have M := M.grw g33
  refine get3 lc 3 rfl (get8 lc 0 rfl ?_)
  refine op_c gv fun h34 g34 => ?_
  have lc := lc.keep (Tn.of_grw g34)
  have W := W.grw g34
  have gv := gv.grw g34
  have Z := Z.grw g34
  have M := M.grw g34
  refine ask_c (o := { o with a := a', b := b', l := l' }) (gv.opIn (o := o) ho.fr ho.n ho.k) (tb.grw lc.grw) fun e14 n14 y14 t3 t4 t5 h35 g35 rt het => ?_
  have lc := lc.keep (Tn.of_grw g35)
  have W := W.grw g35
  have Z := Z.grw g35
  have M := M.grw g35
  have U := rt.rp g35.1
  refine put6 lc fun b13 h36 w13 v13 g36 lc => ?_
  simp only [List.nil_append, List.cons_append] at lc
  have W := W.grw g36
  have Z := Z.grw g36
  have M := M.grw g36
  have U := U.grw g36
  refine get6 lc 10 rfl (get6 lc 9 rfl ?_)
  refine alike_c U.s M.s het hem fun h37 g37 => ?_
  rw [decide_eq_true rfl]
  refine If_t rfl ?_
  have lc := lc.keep (Tn.of_grw g37)
  have W := W.grw g37
  have Z := Z.grw g37
  refine get6 lc 8 rfl (get6 lc 2 rfl ?_)
  refine alike_c Z.s W.s hez he5 fun h38 g38 => ?_
  rw [decide_eq_true rfl]
  refine If_t rfl ?_
  have lc := lc.keep (Tn.of_grw g38)
  exact fixed_c (tb.grw lc.grw) fun h39 g39 => hk h39 (lc.grw.trans g39)
end Go.Proofs.YtajgmklgfdgnlaaDoor
