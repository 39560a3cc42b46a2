import Derived.Test.YtmjifnioaoamfaaGreatDoorBuildsShUse
import Derived.Deep.DeepAppendWide
set_option linter.all false
namespace Go.Sh
variable {b:Nat} {h:Hp} {el:TypeId} {vs:bg}
theorem eJ.refl(b:Nat)(h:Hp):eJ b h h:=⟨rfl,λ_ _=>rfl⟩
theorem eJ.trans{h' g:Hp}(o:eJ b h h')(e:eJ b h' g):eJ b h g:=⟨e.1.trans o.1,λc a=>(e.2 c a).trans (o.2 c a)⟩
theorem vZ{n:Nat}:∀(vs:bg){h:Hp}{i:Nat}{cs:Array Value}{K:Hp->Prop},aO h b cs el->n+i+vs.length<=cs.size->(∀v∈vs,one v=true)->
    (∀(c:Hp)(a:Array Value),eJ b h c->aO c b a el->a.size=cs.size->(∀j,a[j]? =if n+i<=j/\j<n+i+vs.length then vs[j-(n+i)]? else cs[j]?)->K c)->iZ h ⟨b,n,none⟩ i vs K:=by
  intro vs
  induction vs with
  | nil=>
    intro h i cs K g hl e f;exact f h cs (eJ.refl _ _) g rfl (λj=>by rw[aE aC])
  | cons v vs l=>
    intro h i cs K g hl e f;simp only[iq]at hl
    show St h ((Addr.mk b n none).add i) v λc=>iZ c ⟨b,n,none⟩ (i+1) vs K
    rw[bz];refine dN g ag (e v aC) λc w u=>l u cy (λx m=>e x (by simp[m])) λk a t s r q=>f k a (w.trans t) s (by rw[r];simp) λj=>?_
    grind
theorem zY{cs:Array Value}{K:Hp->Prop}(l:aO h b cs el)(o:cs.size=vs.length)(j:∀v∈vs,one v=true)
  (k:∀a,eJ b h a->aO a b vs.toArray el->K a):iZ h (aF b) 0 vs K:=
 vZ vs l ag j λa d g f n e=>k a g (by
  have:d=vs.toArray:=by
   apply Array.ext
   ·simp;omega
   ·intro i m c;have:=e i;rw[aI (by simp at c;omega),zU m]at this
    simp only[bX,EN]at this;grind[List.size_toArray,List.getElem?_eq_getElem,Option.some.injEq]
  grind)
theorem EP(a:Addr):a.add 0=a:=by unfold Addr.add;simp
theorem zZ{a:Addr}{v:Value}{K:Hp->Prop}(H:iZ h a 0 (v::vs) K):St h a v λb=>iZ b a 1 vs K:=by
 have c:St h (a.add 0) v λb=>iZ b a 1 vs K:=H
 rwa [EP]at c
def uH(sz:Nat)(h:Hp)(s:Sl)(b:Nat)(vs:bg)(el:TypeId):Prop:=
 s.a=some (aF b)/\vs.length=s.n*sz/\∃cs,aO h b cs el/\s.n<=s.c/\cs.size=s.c*sz/\∀i,i<s.n*sz->cs[i]? =vs[i]?
theorem uH.own{s:Sl}(o:uH 1 h s b vs el):gR h s b vs el:=by
 obtain⟨g,f,cs,e,d,c,a⟩:=o;simp only[zS]at *;exact⟨g,f.symm,cs,e,d,c,a⟩
theorem uH.ix{m:Nat}{s:Sl}(o:uH m h s b vs el){i:Int}{K:Addr->Prop}(z:0<=i)(g:i<s.n)(c:K ⟨b,i.toNat*m,none⟩):Ix s.a s.n m i K:=by
 unfold Ix;rw[o.1];simp_all[bz,bX]
end Go.Sh
