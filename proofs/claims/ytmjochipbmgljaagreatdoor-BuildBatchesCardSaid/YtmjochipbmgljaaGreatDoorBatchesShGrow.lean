import Derived.Test.YtmjochipbmgljaaGreatDoorBatchesShUse
import Derived.Deep.DeepAppendWide
namespace Go.Sh
variable {b:Nat} {h:Hp} {el:TypeId} {vs:bg}
theorem eD.refl(b:Nat)(h:Hp):eD b h h:=⟨rfl,λ_ _=>rfl⟩
theorem eD.trans{h' g:Hp}(o:eD b h h')(e:eD b h' g):eD b h g:=⟨e.1.trans o.1,λc a=>(e.2 c a).trans (o.2 c a)⟩
theorem wW{n:Nat}:∀(vs:bg){h:Hp}{i:Nat}{cs:Array Value}{K:Hp->Prop},aN h b cs el->n+i+vs.length<=cs.size->(∀v∈vs,one v=true)->
    (∀(c:Hp)(a:Array Value),eD b h c->aN c b a el->a.size=cs.size->(∀j,a[j]? =if n+i<=j/\j<n+i+vs.length then vs[j-(n+i)]? else cs[j]?)->K c)->ji h ⟨b,n,none⟩ i vs K:=by
  intro vs
  induction vs with
  | nil=>
    intro h i cs K g hl e f;exact f h cs (eD.refl _ _) g rfl (λj=>by rw[aC aA])
  | cons v vs l=>
    intro h i cs K g hl e f;simp only[iq]at hl
    show St h _ v λc=>ji c ⟨b,n,none⟩ _ vs K
    rw[bw];refine dc g ag (e v aA) λc w u=>l u cj (λx m=>e x (by simp[m])) λk a t s r q=>f k a (w.trans t) s (by rw[r];simp) λj=>?_
    grind
theorem Ao{cs:Array Value}{K:Hp->Prop}(l:aN h b cs el)(o:cs.size=vs.length)(j:∀v∈vs,one v=true)
  (k:∀a,eD b h a->aN a b vs.toArray el->K a):ji h (aJ b) 0 vs K:=
 wW vs l ag j λa d g f n e=>k a g (by
  have:d=vs.toArray:=by
   apply Array.ext
   ·simp;omega
   ·intro i m c;have:=e i;rw[aI (by simp at c;omega),Ak m]at this
    simp only[cz,Ma]at this;grind[List.size_toArray,List.getElem?_eq_getElem,Option.some.injEq]
  grind)
theorem Er(a:Addr):a.add 0=a:=by unfold Addr.add;simp
theorem Aq{a:Addr}{v:Value}{K:Hp->Prop}(H:ji h a 0 (v::vs) K):St h a v λb=>ji b a 1 vs K:=by
 have c:St h _ v λb=>ji b a 1 vs K:=H
 rwa [Er]at c
def vm(sz:Nat)(h:Hp)(s:Sl)(b:Nat)(vs:bg)(el:TypeId):Prop:=
 s.a=some (aJ b)/\vs.length=s.n*sz/\∃cs,aN h b cs el/\s.n<=s.c/\cs.size=s.c*sz/\∀i,i<s.n*sz->cs[i]? =vs[i]?
theorem vm.own{s:Sl}(o:vm 1 h s b vs el):gU h s b vs el:=by
 obtain⟨g,f,cs,e,d,c,a⟩:=o;simp only[u7]at *;exact⟨g,f.symm,cs,e,d,c,a⟩
theorem vm.ix{m:Nat}{s:Sl}(o:vm m h s b vs el){i:Int}{K:Addr->Prop}(z:0<=i)(g:i<s.n)(c:K ⟨b,i.toNat*m,none⟩):Ix s.a s.n m i K:=by
 unfold Ix;rw[o.1];simp_all[bw,cz]
end Go.Sh
