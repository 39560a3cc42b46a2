/- Slices that grow by append: owned blocks of things of sz cells. -/
import Derived.Test.YtlbbdbdjiekkaaaGreatDoorNamesShUse
import Derived.Deep.DeepAppendWide
set_option linter.unusedVariables false
set_option linter.unusedSimpArgs false
namespace Go.Sh
theorem Only.refl (b:Nat) (h:Hp):Only b h h:=⟨rfl,fun _ _=>rfl⟩
theorem Only.trans {b:Nat} {h h' h'':Hp} (o:Only b h h') (o':Only b h' h''):Only b h h'':=⟨o'.1.trans o.1,fun c hc=>(o'.2 c hc).trans (o.2 c hc)⟩
theorem StL_i {b o:Nat} {el:TypeId}:∀(vs:List Value) {h:Hp} {i:Nat} {cs:Array Value} {K:Hp→Prop},Blk h b cs el→o+i+vs.length≤cs.size→(∀v∈vs,one v=true) →
    (∀(h':Hp) (cs':Array Value),Only b h h'→Blk h' b cs' el→cs'.size=cs.size→(∀j,cs'[j]? = if o+i≤j∧j < o+i+vs.length then vs[j - (o+i)]? else cs[j]?)→K h')→StL h ⟨b,o,none⟩ i vs K:=by
  intro vs
  induction vs with
  | nil =>
    intro h i cs K hb hl ho hk
    exact hk h cs (Only.refl _ _) hb rfl (fun j=>by rw [if_neg (by simp)])
  | cons v vs ih =>
    intro h i cs K hb hl ho hk
    simp only [List.length_cons] at hl
    show St h ((Addr.mk b o none).add i) v fun h'=>StL h' ⟨b,o,none⟩ (i+1) vs K
    rw [add_blk]
    refine St_i hb (by omega) (ho v (by simp)) fun h' h1 h2 => ?_
    refine ih h2 (by simp;omega) (fun x hx=>ho x (by simp [hx])) fun h'' cs' h3 h4 h5 h6 => ?_
    refine hk h'' cs' (h1.trans h3) h4 (by rw [h5];simp) fun j => ?_
    rw [h6 j]
    simp only [List.length_cons]
    by_cases hj:j=o+i
    · subst hj
      rw [if_neg (by omega),if_pos (by omega),Array.getElem?_setIfInBounds,if_pos rfl,if_pos (by omega)]
      simp
    · by_cases hj2:o+(i+1)≤j∧j < o+(i+1)+vs.length
      · rw [if_pos hj2,if_pos (by omega)]
        have:j - (o+i)=j - (o+(i+1))+1:=by omega
        rw [this,List.getElem?_cons_succ]
      · rw [if_neg hj2,if_neg (by omega),Array.getElem?_setIfInBounds,if_neg (by omega)]
theorem StL_all {h:Hp} {b:Nat} {cs:Array Value} {el:TypeId} {vs:List Value} {K:Hp→Prop} (hb:Blk h b cs el) (hs:cs.size=vs.length) (ho:∀v∈vs,one v=true)
    (hk:∀h',Only b h h'→Blk h' b vs.toArray el→K h'):StL h ⟨b,0,none⟩ 0 vs K :=
  StL_i vs hb (by omega) ho fun h' cs' o1 o2 o3 o4=>hk h' o1 (by
    have:cs'=vs.toArray:=by
      apply Array.ext
      · simp;omega
      · intro i h1 h2
        have:=o4 i
        rw [if_pos (by simp at h2;omega),Array.getElem?_eq_getElem h1] at this
        simp only [Nat.zero_add,Nat.sub_zero] at this
        simp only [List.size_toArray] at h2
        rw [List.getElem?_eq_getElem h2,Option.some.injEq] at this
        simpa using this
    rw [←this];exact o2)
theorem add_0 (a:Addr):a.add 0=a:=by unfold Addr.add;split <;> simp_all
/-- the cells from an address on, stored in a struct's order -/
theorem StL_0 {h:Hp} {a:Addr} {v:Value} {vs:List Value} {K:Hp→Prop} (H:StL h a 0 (v::vs) K):St h a v fun h'=>StL h' a 1 vs K:=by
  have H':St h (a.add 0) v fun h'=>StL h' a 1 vs K:=H
  rwa [add_0] at H'
/-- an owned slice of things of sz cells -/
def OwnS (sz:Nat) (h:Hp) (s:Sl) (b:Nat) (vs:List Value) (el:TypeId):Prop :=
  s.a=some ⟨b,0,none⟩∧vs.length=s.n*sz∧∃cs,Blk h b cs el∧s.n≤s.c∧cs.size=s.c*sz∧∀i,i < s.n*sz→cs[i]? = vs[i]?
theorem OwnS.own {h:Hp} {s:Sl} {b:Nat} {vs:List Value} {el:TypeId} (o:OwnS 1 h s b vs el):Own h s b vs el:=by
  obtain ⟨h1,h2,cs,h3,h4,h5,h6⟩:=o
  simp only [Nat.mul_one] at *
  exact ⟨h1,h2.symm,cs,h3,h4,h5,h6⟩
theorem Own.ownS {h:Hp} {s:Sl} {b:Nat} {vs:List Value} {el:TypeId} (o:Own h s b vs el):OwnS 1 h s b vs el:=by
  obtain ⟨h1,h2,cs,h3,h4,h5,h6⟩:=o
  exact ⟨h1,by omega,cs,h3,h4,by omega,by simpa using h6⟩
theorem OwnS.grw {sz:Nat} {h h':Hp} {s:Sl} {b:Nat} {vs:List Value} {el:TypeId} (o:OwnS sz h s b vs el) (g:Grw h h'):OwnS sz h' s b vs el:=by
  obtain ⟨h1,h2,cs,h3,h4⟩:=o;exact ⟨h1,h2,cs,h3.grw g,h4⟩
theorem OwnS.ix {sz:Nat} {h:Hp} {s:Sl} {b:Nat} {vs:List Value} {el:TypeId} (o:OwnS sz h s b vs el) {i:Int} {K:Addr→Prop} (h0:0≤i) (h1:i < s.n) (hk:K ⟨b,i.toNat*sz,none⟩):Ix s.a s.n sz i K:=by
  unfold Ix;rw [o.1];refine ⟨h0,h1,?_⟩;rw [add_blk,Nat.zero_add];exact hk
end Go.Sh
