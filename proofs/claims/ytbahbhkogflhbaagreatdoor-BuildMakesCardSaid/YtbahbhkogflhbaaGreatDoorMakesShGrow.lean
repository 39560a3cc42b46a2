import Derived.Test.YtbahbhkogflhbaaGreatDoorMakesShUse
import Derived.Deep.DeepAppendWide
namespace Go.Sh
variable {b:Nat} {h:Hp} {el:TypeId} {vs:bq}
theorem eJ.refl(b:Nat)(h:Hp):eJ b h h:=⟨rfl,λ_ _=>rfl⟩
theorem eJ.trans{h' g:Hp}(o:eJ b h h')(e:eJ b h' g):eJ b h g:=⟨e.1.trans o.1,λc a=>(e.2 c a).trans (o.2 c a)⟩
theorem wP{n:Nat}:∀(vs:bq){h:Hp}{i:Nat}{cs:Array Value}{K:Hp->Prop},aN h b cs el->n+i+vs.length<=cs.size->(∀v∈vs,one v=true)->
    (∀(c:Hp)(a:Array Value),eJ b h c->aN c b a el->a.size=cs.size->(∀j,a[j]? =if n+i<=j/\j<n+i+vs.length then vs[j-(n+i)]? else cs[j]?)->K c)->iZ h ⟨b,n,none⟩ i vs K:=by
  intro vs
  induction vs with
  | nil=>
    intro h i cs K g hl e f;exact f h cs (eJ.refl _ _) g rfl (λj=>by rw[aC aA])
  | cons v vs l=>
    intro h i cs K g hl e f;simp only[iN]at hl
    show St h _ v λc=>iZ c ⟨b,n,none⟩ _ vs K
    rw[bz];refine dI g ag (e v aA) λc w u=>l u cy (λx m=>e x (by simp[m])) λk a t s r q=>f k a (w.trans t) s (by rw[r];simp) λj=>?_
    grind
theorem yH{cs:Array Value}{K:Hp->Prop}(l:aN h b cs el)(o:cs.size=vs.length)(j:∀v∈vs,one v=true)
  (k:∀a,eJ b h a->aN a b vs.toArray el->K a):iZ h (aJ b) 0 vs K:=
 wP vs l ag j λa d g f n e=>k a g (by
  have:d=vs.toArray:=by
   apply Array.ext
   ·simp;omega
   ·intro i m c;have:=e i;rw[aK (by simp at c;omega),AD m]at this
    simp only[cF,MJ]at this;grind[List.size_toArray,List.getElem?_eq_getElem,Option.some.injEq]
  grind)
theorem CJ(a:Addr):a.add 0=a:=by unfold Addr.add;simp
theorem yI{a:Addr}{v:Value}{K:Hp->Prop}(H:iZ h a 0 (v::vs) K):St h a v λb=>iZ b a 1 vs K:=by
 have c:St h _ v λb=>iZ b a 1 vs K:=H
 rwa [CJ]at c
def vo(sz:Nat)(h:Hp)(s:Sl)(b:Nat)(vs:bq)(el:TypeId):Prop:=
 s.a=some (aJ b)/\vs.length=s.n*sz/\∃cs,aN h b cs el/\s.n<=s.c/\cs.size=s.c*sz/\∀i,i<s.n*sz->cs[i]? =vs[i]?
theorem vo.own{s:Sl}(o:vo 1 h s b vs el):gZ h s b vs el:=by
 obtain⟨g,f,cs,e,d,c,a⟩:=o;simp only[vi]at *;exact⟨g,f.symm,cs,e,d,c,a⟩
theorem vo.ix{m:Nat}{s:Sl}(o:vo m h s b vs el){i:Int}{K:Addr->Prop}(z:0<=i)(g:i<s.n)(c:K ⟨b,i.toNat*m,none⟩):Ix s.a s.n m i K:=by
 unfold Ix;rw[o.1];simp_all[bz,cF]
end Go.Sh
