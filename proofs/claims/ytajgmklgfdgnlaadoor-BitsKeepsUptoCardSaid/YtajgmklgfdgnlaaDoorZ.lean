/- The law BitsFollow: morgan. -/
import Derived.Test.YtajgmklgfdgnlaaDoorX
namespace Go.Proofs.YtajgmklgfdgnlaaDoor
open Go Go.Sh
theorem listF_congr {f g : Nat → Bool} {n : Nat} (h : ∀ i, i < n → f i = g i) : listF f n = listF g n := by
  unfold listF
  exact List.map_congr_left fun i hi => h i (List.mem_range.1 hi)
theorem packF_lt {f : Nat → Bool} {n : Nat} (hn : n < 2 ^ 38) : (packN (listF f n)).length < 2 ^ 36 := by rw [packN_len, bo_len]; unfold needN; omega
theorem Bs.pack {h : Hp} {s : Sl} {b : Nat} {f : Nat → Bool} {n : Nat} (o : Own h s b (by8 (packN (listF f n))) 5) (hn : n < 2 ^ 38) : Bs h s (packN (listF f n)) := Bs.of_own o (packN_lt _) (packF_lt hn)
theorem ask_pack {f : Nat → Bool} {n : Nat} : askB (packN (listF f n)).length 0 (n : Int) = 0 := by
  rw [packN_len, bo_len]; exact askB_zero (Int.le_refl _) (by omega) (by unfold needN; omega)
theorem bitN_packF {f : Nat → Bool} {n i : Nat} (h : i < n) : bitN (packN (listF f n)) i = f i := by rw [bitN_pack (by rw [bo_len]; exact h), listF_getD h]
/-- two lists of bytes, compared -/
theorem alikeB {s t : Sl} {l m : List Nat} {h : Hp} {K : Bool → Hp → Prop} {Kp : List PanicEntry → Hp → Prop} (hs : Bs h s l) (ht : Bs h t m) (e : l = m) (hk : ∀ h', Grw h h' → K true h') :
    Fn12 (0 : Int) (0 : Int) false s (⟨none, 0, 0⟩ : Sl) (⟨none, 0, 0⟩ : Sl) (0 : Int) (0 : Int) false t (⟨none, 0, 0⟩ : Sl) (⟨none, 0, 0⟩ : Sl) h K Kp := by
  subst e
  have l1 := hs.2.2
  refine alike_c (ra := { r0 with bytes := l }) (rb := { r0 with bytes := l }) ⟨hs.1, Sv.nil h, Sv.nil h, by simp only [List.length_nil]; omega⟩ ⟨ht.1, Sv.nil h, Sv.nil h, by simp only [List.length_nil]; omega⟩ ⟨rfl, rfl, rfl⟩ ⟨rfl, rfl, rfl⟩ fun h' g => ?_
  rw [decide_eq_true rfl]; exact hk h' g
/-- two lists of booleans -/
theorem alikeL {s t : Sl} {l m : List Bool} {h : Hp} {K : Bool → Hp → Prop} {Kp : List PanicEntry → Hp → Prop} (hs : Sv h s (bo l)) (ht : Sv h t (bo m)) (l1 : l.length < 2 ^ 40) (e : l = m) (hk : ∀ h', Grw h h' → K true h') :
    Fn12 (0 : Int) (0 : Int) false (⟨none, 0, 0⟩ : Sl) s (⟨none, 0, 0⟩ : Sl) (0 : Int) (0 : Int) false (⟨none, 0, 0⟩ : Sl) t (⟨none, 0, 0⟩ : Sl) h K Kp := by
  subst e
  refine alike_c (ra := { r0 with bools := l }) (rb := { r0 with bools := l }) ⟨Sv.nil h, hs, Sv.nil h, by simp only [List.length_nil]; omega⟩ ⟨Sv.nil h, ht, Sv.nil h, by simp only [List.length_nil]; omega⟩ ⟨rfl, rfl, rfl⟩ ⟨rfl, rfl, rfl⟩ fun h' g => ?_
  rw [decide_eq_true rfl]; exact hk h' g
theorem morgan1 {a b : Sl} {N : Nat} {la lb : List Nat} {h : Hp} {K : Bool → Hp → Prop} {Kp : List PanicEntry → Hp → Prop} (ha : Bs h a la) (hb : Bs h b lb) (hla : N ≤ 8 * la.length) (hlb : N ≤ 8 * lb.length) (hN : N < 2 ^ 38) (hk : ∀ h', Grw h h' → K true h') :
    J25_1 a b (N : Int) K Kp h := by
  have iN : I64 (N : Int) := by unfold I64; omega
  have za : askB la.length 0 (N : Int) = 0 := askB_zero (Int.le_refl _) (by omega) (by omega)
  have zb : askB lb.length 0 (N : Int) = 0 := askB_zero (Int.le_refl _) (by omega) (by omega)
  refine J25_1.of ?_
  unfold JT25_1
  refine not_c ha iN (fun hz => absurd za hz) fun _ _ x bx h1 g1 _ ox => ?_
  rw [Int.toNat_natCast] at ox
  have hx := Bs.pack ox hN
  have ha := ha.grw g1
  have hb := hb.grw g1
  refine not_c hb iN (fun hz => absurd zb hz) fun _ _ y by' h2 g2 _ oy => ?_
  rw [Int.toNat_natCast] at oy
  have hy := Bs.pack oy hN
  have ha := ha.grw g2
  have hb := hb.grw g2
  have hx := hx.grw g2
  refine and_c hx hy iN (fun hz => absurd ask_pack hz) (fun _ _ _ hz => absurd ask_pack hz) fun _ _ _ both bb h3 g3 _ oboth => ?_
  rw [Int.toNat_natCast] at oboth
  have hboth := Bs.pack oboth hN
  have ha := ha.grw g3
  have hb := hb.grw g3
  have hx := hx.grw g3
  refine or_c ha hb iN (fun hz => absurd za hz) (fun _ _ _ hz => absurd zb hz) fun _ _ _ some' bs h4 g4 _ osome => ?_
  rw [Int.toNat_natCast] at osome
  have hsome := Bs.pack osome hN
  have ha := ha.grw g4
  have hb := hb.grw g4
  have hx := hx.grw g4
  have hboth := hboth.grw g4
  refine not_c hsome iN (fun hz => absurd ask_pack hz) fun _ _ none' bn h5 g5 _ onone => ?_
  rw [Int.toNat_natCast] at onone
  have hnone := Bs.pack onone hN
  have ha := ha.grw g5
  have hb := hb.grw g5
  have hx := hx.grw g5
  have hboth := hboth.grw g5
  have hsome := hsome.grw g5
  refine If_f rfl (If_f rfl (If_f rfl (If_f rfl (If_f rfl (J25_2.of ?_)))))
  unfold JT25_2
  refine not_c hx iN (fun hz => absurd ask_pack hz) fun _ _ back bk h6 g6 _ oback => ?_
  rw [Int.toNat_natCast] at oback
  have hback := Bs.pack oback hN
  have ha := ha.grw g6
  have hb := hb.grw g6
  have hboth := hboth.grw g6
  have hsome := hsome.grw g6
  have hnone := hnone.grw g6
  refine cut_c ha iN (fun hz => absurd za hz) fun _ _ _ first bf h7 g7 _ ofirst => ?_
  rw [Int.toNat_natCast] at ofirst
  have hfirst := Bs.pack ofirst hN
  have ha := ha.grw g7
  have hb := hb.grw g7
  have hboth := hboth.grw g7
  have hsome := hsome.grw g7
  have hnone := hnone.grw g7
  have hback := hback.grw g7
  refine xor_c ha hb iN (fun hz => absurd za hz) (fun _ _ _ hz => absurd zb hz) fun _ _ _ just bj h8 g8 _ ojust => ?_
  rw [Int.toNat_natCast] at ojust
  have hjust := Bs.pack ojust hN
  have ha := ha.grw g8
  have hb := hb.grw g8
  have hboth := hboth.grw g8
  have hsome := hsome.grw g8
  have hnone := hnone.grw g8
  have hback := hback.grw g8
  have hfirst := hfirst.grw g8
  refine and_c ha hb iN (fun hz => absurd za hz) (fun _ _ _ hz => absurd zb hz) fun _ _ _ all ba h9 g9 _ oall => ?_
  rw [Int.toNat_natCast] at oall
  have hall := Bs.pack oall hN
  have hjust := hjust.grw g9
  have hboth := hboth.grw g9
  have hsome := hsome.grw g9
  have hnone := hnone.grw g9
  have hback := hback.grw g9
  have hfirst := hfirst.grw g9
  refine xor_c hjust hall iN (fun hz => absurd ask_pack hz) (fun _ _ _ hz => absurd ask_pack hz) fun _ _ _ again bg h10 g10 _ oagain => ?_
  rw [Int.toNat_natCast] at oagain
  have hagain := Bs.pack oagain hN
  have hboth := hboth.grw g10
  have hsome := hsome.grw g10
  have hnone := hnone.grw g10
  have hback := hback.grw g10
  have hfirst := hfirst.grw g10
  have G : Grw h h10 := ((((((((g1.trans g2).trans g3).trans g4).trans g5).trans g6).trans g7).trans g8).trans g9).trans g10
  refine If_f rfl (If_f rfl (If_f rfl (If_f rfl (If_f rfl (J25_3.of ?_)))))
  unfold JT25_3
  refine alikeB hboth hnone ?_ fun h11 g11 => If_t rfl ?_
  · congr 1; apply listF_congr; intro i hi
    simp only [bitN_packF hi]
    cases bitN la i <;> cases bitN lb i <;> rfl
  refine alikeB (hback.grw g11) (hfirst.grw g11) ?_ fun h12 g12 => If_t rfl ?_
  · congr 1; apply listF_congr; intro i hi
    simp only [bitN_packF hi, bitsF_zero, Bool.not_not]
  refine alikeB ((hagain.grw g11).grw g12) ((hsome.grw g11).grw g12) ?_ fun h13 g13 => ?_
  · congr 1; apply listF_congr; intro i hi
    simp only [bitN_packF hi]
    cases bitN la i <;> cases bitN lb i <;> rfl
  exact hk h13 (((G.trans g11).trans g12).trans g13)
theorem morgan_c {a b : Sl} {la lb : List Nat} {h : Hp} {K : Bool → Hp → Prop} {Kp : List PanicEntry → Hp → Prop} (ha : Bs h a la) (hb : Bs h b lb) (hla : la.length < 2 ^ 34) (hlb : lb.length < 2 ^ 34) (hk : ∀ h', Grw h h' → K true h') : Fn25 a b h K Kp := by
  refine Fn25.of ?_
  unfold S25
  have han := ha.n
  have hbn := hb.n
  refine Wr_i64 (by omega) (by omega) (If_i (fun c => ?_) fun c => ?_)
  · simp only [decide_eq_true_eq] at c
    refine Wr_i64 (by omega) (by omega) ?_
    have e : (8 : Int) * (b.n : Int) = ((8 * lb.length : Nat) : Int) := by omega
    rw [e]
    exact morgan1 ha hb (by omega) (Nat.le_refl _) (by omega) hk
  · simp only [decide_eq_false_iff_not] at c
    have e : (8 : Int) * (a.n : Int) = ((8 * la.length : Nat) : Int) := by omega
    rw [e]
    exact morgan1 ha hb (Nat.le_refl _) (by omega) (by omega) hk
end Go.Proofs.YtajgmklgfdgnlaaDoor
