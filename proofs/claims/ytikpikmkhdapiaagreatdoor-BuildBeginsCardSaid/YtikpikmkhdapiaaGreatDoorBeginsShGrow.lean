import Derived.Test.YtikpikmkhdapiaaGreatDoorBeginsShUse
import Derived.Deep.DeepAppendWide
set_option linter.unusedSimpArgs false
set_option linter.unusedVariables false
set_option maxRecDepth 100000
set_option maxHeartbeats 1000000
namespace Go.Sh
theorem aM.refl (b:Nat) (h:Hp):aM b h h:=⟨rfl,λ_ _=>rfl⟩
theorem aM.trans {b:Nat} {h g H:Hp} (o:aM b h g) (e:aM b g H):aM b h H:=⟨e.1.trans o.1,λc a=>(e.2 c a).trans (o.2 c a)⟩
theorem rL {b n:Nat} {el:TypeId}:∀(vs:List Value) {h:Hp} {i:Nat} {cs:Array Value} {K:Hp->Prop},aB h b cs el->n+i+vs.length<=cs.size->(∀v∈vs,one v=true) ->
    (∀(c:Hp) (a:Array Value),aM b h c->aB c b a el->a.size=cs.size->(∀j,a[j]? = if n+i<=j/\j < n+i+vs.length then vs[j - (n+i)]? else cs[j]?)->K c)->fI h ⟨b,n,none⟩ i vs K:=by
  intro vs
  induction vs with
  | nil =>
    intro h i cs K g hl e f;exact f h cs (aM.refl _ _) g rfl (λj=>by rw[if_neg aS])
  | cons v vs l =>
    intro h i cs K g hl e f;simp only[List.length_cons] at hl
    show St h ((Addr.mk b n none).add i) v λc=>fI c ⟨b,n,none⟩ (i+1) vs K
    rw[aI];refine cE g ag (e v aS) λc w u=>l u cC (λx m=>e x (by simp[m])) λk a t s r q=>f k a (w.trans t) s (by rw[r];simp) λj => ?_
    rw[q j];simp only[List.length_cons]
    by_cases p:j=n+i
    · subst p;rw[if_neg ag,if_pos ag,Array.getElem?_setIfInBounds,if_pos rfl,if_pos ag];simp
    · by_cases d:n+(i+1)<=j/\j < n+(i+1)+vs.length
      · rw[if_pos d,if_pos ag];have:j - (n+i)=j - (n+(i+1))+1:=ag;rw[this,List.getElem?_cons_succ]
      · rw[if_neg d,if_neg ag,Array.getElem?_setIfInBounds,if_neg ag]
theorem vQ {h:Hp} {b:Nat} {cs:Array Value} {el:TypeId} {vs:List Value} {K:Hp->Prop} (l:aB h b cs el) (o:cs.size=vs.length) (j:∀v∈vs,one v=true)
  (k:∀a,aM b h a->aB a b vs.toArray el->K a):fI h ⟨b,0,none⟩ 0 vs K :=
 rL vs l ag j λa d g f n e=>k a g (by
  have:d=vs.toArray:=by
   apply Array.ext
   ·simp;omega
   ·intro i m c;have:=e i;rw[if_pos (by simp at c;omega),Array.getElem?_eq_getElem m] at this
    simp only[Nat.zero_add,Nat.sub_zero] at this;simp only[List.size_toArray] at c;rw[List.getElem?_eq_getElem c,Option.some.injEq] at this
    simpa using this
  rw[<-this];exact f)
theorem BU (a:Addr):a.add 0=a:=by unfold Addr.add;split <;> simp_all
theorem vR {h:Hp} {a:Addr} {v:Value} {vs:List Value} {K:Hp->Prop} (H:fI h a 0 (v::vs) K):St h a v λb=>fI b a 1 vs K:=by
 have c:St h (a.add 0) v λb=>fI b a 1 vs K:=H
 rwa [BU] at c
def oN (sz:Nat) (h:Hp) (s:Sl) (b:Nat) (vs:List Value) (el:TypeId):Prop :=
 s.a=some ⟨b,0,none⟩/\vs.length=s.n*sz/\∃cs,aB h b cs el/\s.n<=s.c/\cs.size=s.c*sz/\∀i,i < s.n*sz->cs[i]? = vs[i]?
theorem oN.own {h:Hp} {s:Sl} {b:Nat} {vs:List Value} {el:TypeId} (o:oN 1 h s b vs el):dX h s b vs el:=by
 obtain ⟨g,f,cs,e,d,c,a⟩:=o;simp only[Nat.mul_one] at *;exact ⟨g,f.symm,cs,e,d,c,a⟩
theorem oN.ix {m:Nat} {h:Hp} {s:Sl} {b:Nat} {vs:List Value} {el:TypeId} (o:oN m h s b vs el) {i:Int} {K:Addr->Prop} (p:0<=i) (g:i < s.n) (c:K ⟨b,i.toNat*m,none⟩):Ix s.a s.n m i K:=by
 unfold Ix;rw[o.1];refine ⟨p,g,?_⟩;rw[aI,Nat.zero_add];exact c
end Go.Sh
