import Derived.Test.YtikpikmkhdapiaaGreatDoorBeginsShGrow
set_option linter.unusedSimpArgs false
set_option linter.unusedVariables false
set_option maxRecDepth 100000
set_option maxHeartbeats 1000000
namespace Go.Sh
abbrev No:Nat->Prop:=λ_=>False
abbrev In (lo hi:Nat):Nat->Prop:=λb=>lo<=b/\b < hi
theorem Tn.refl (S:Nat->Prop) (h:Hp):Tn S h h:=⟨Nat.le_refl _,λ_ _ _=>rfl⟩
theorem Tn.trans {S:Nat->Prop} {a b c:Hp} (x:Tn S a b) (y:Tn S b c):Tn S a c:=⟨Nat.le_trans x.1 y.1,λd f e=>(y.2 d (Nat.lt_of_lt_of_le f x.1) e).trans (x.2 d f e)⟩
theorem Tn.trans' {S T:Nat->Prop} {a b c:Hp} (x:Tn S a b) (y:Tn T b c) (hT:∀d,T d->d < a.size->S d):Tn S a c:=⟨Nat.le_trans x.1 y.1,λd e f=>(y.2 d (Nat.lt_of_lt_of_le e x.1) λt=>f (hT d t e)).trans (x.2 d e f)⟩
theorem Tn.mono {S T:Nat->Prop} {a b:Hp} (x:Tn S a b) (hT:∀d,S d->d < a.size->T d):Tn T a b:=⟨x.1,λd c e=>x.2 d c λs=>e (hT d s c)⟩
theorem Tn.aT {S:Nat->Prop} {h H:Hp} (g:ah h H):Tn S h H:=⟨g.1,λc a _=>g.2 c a⟩
theorem Tn.aj {h g:Hp} (f:Tn No h g):ah h g:=⟨f.1,λc a=>f.2 c a id⟩
theorem aM.fr {b:Nat} {h g:Hp} (o:aM b h g):Tn (·=b) h g:=⟨Nat.le_of_eq o.1.symm,λc _ a=>o.2 c a⟩
theorem Tn.aK {S:Nat->Prop} {h g:Hp} {b:Nat} {cs:Array Value} {el:TypeId} (f:Tn S h g) (k:aB h b cs el) (a:¬S b):aB g b cs el:=(f.2 b k.lt a).trans k
theorem Tn.cell {S:Nat->Prop} {h g:Hp} {a:Addr} {v:Value} (f:Tn S h g) (c:cell h a=some v) (d:¬S a.block):cell g a=some v:=by
 have:a.block < h.size:=by
  unfold Go.Sh.cell at c;split at c
  ·rename_i e;exact (Array.getElem?_eq_some_iff.1 e).1
  ·simp at c
 unfold Go.Sh.cell at c ⊢;rw[f.2 _ this d];exact c
structure Bk where
 b:Nat
 cs:Array Value
 el:TypeId
structure fX (S:Nat->Prop) (h0 h:Hp) (L:List Bk):Prop where
 fr:Tn S h0 h
 ok:∀x∈L,(h0.size<=x.b\/S x.b)/\aB h x.b x.cs x.el
 nd:(L.map (·.b)).Nodup
section
variable {S:Nat->Prop} {h0 h:Hp} {L:List Bk}
theorem fX.start (S:Nat->Prop) (h:Hp):fX S h h []:=⟨Tn.refl _ _,λ_ a=>by simp at a,by simp⟩
theorem fX.aK (a:fX S h0 h L) {i:Nat} {x:Bk} (c:L[i]? = some x):aB h x.b x.cs x.el:=(a.ok x (List.mem_of_getElem? c)).2
theorem fX.aj (c:fX No h0 h L):ah h0 h:=c.fr.aj
theorem fX.more (e:fX S h0 h L) {g:Hp} {x:Bk} (f:Tn No h g) (j:h.size<=x.b) (k:aB g x.b x.cs x.el):fX S h0 g (L++[x]):=by
 refine ⟨e.fr.trans' f (λ_ t=>t.elim),λy d => ?_,?_⟩
 ·rcases List.mem_append.1 d with d | d
  ·exact ⟨(e.ok y d).1,f.aK (e.ok y d).2 id⟩
  ·simp only[List.mem_singleton] at d;subst d;exact ⟨.inl (Nat.le_trans e.fr.1 j),k⟩
 ·rw[List.map_append,List.nodup_append];refine ⟨e.nd,by simp,λa l c i => ?_⟩
  simp only[List.map_cons,List.map_nil,List.mem_singleton] at i;obtain ⟨y,d,rfl⟩:=List.mem_map.1 l;have:=(e.ok y d).2.lt;omega
theorem fX.set (m:fX S h0 h L) {i:Nat} {x:Bk} {h':Hp} {cs:Array Value} {el:TypeId} (o:L[i]? = some x) (f:Tn (·=x.b) h h') (k:aB h' x.b cs el):fX S h0 h' (L.set i ⟨x.b,cs,el⟩):=by
 have r:=(List.getElem?_eq_some_iff.1 o).1;have a:=m.ok x (List.mem_of_getElem? o);refine ⟨m.fr.trans' f λd C q=>by subst C;exact a.1.resolve_left ag,λy A => ?_,?_⟩
 ·obtain ⟨j,c⟩:=List.mem_iff_getElem?.1 A;rw[List.getElem?_set] at c;split at c
  ·first | (rw[if_pos r] at c;cases c;exact ⟨a.1,k⟩) | (cases c;exact ⟨a.1,k⟩)
  ·rename_i s
   have p:=m.ok y (List.mem_of_getElem? c);refine ⟨p.1,f.aK p.2 λe=>s ?_⟩;have t:=(List.getElem?_eq_some_iff.1 c).1;have e1:(L.map (·.b))[i]? = some x.b:=by simp[o]
   have z:(L.map (·.b))[j]? = some y.b:=by simp[c]
   have n:=List.pairwise_iff_getElem.1 m.nd;have l:i < (L.map (·.b)).length:=by simpa using r
   have g:j < (L.map (·.b)).length:=by simpa using t
   have w:(L.map (·.b))[i]=x.b:=by rw[List.getElem?_eq_getElem l] at e1;simpa using e1
   have v:(L.map (·.b))[j]=y.b:=by rw[List.getElem?_eq_getElem g] at z;simpa using z
   rcases Nat.lt_trichotomy i j with q | B | u
   ·exact absurd (w.trans (e.symm.trans v.symm)) (n i j l g q)
   ·exact B
   ·exact absurd (v.trans (e.trans w.symm)) (n j i g l u)
 ·have e:(L.set i ⟨x.b,cs,el⟩).map (·.b)=L.map (·.b):=by
   apply List.ext_getElem?;intro j;simp only[List.map_set,List.getElem?_set,List.length_map,List.getElem?_map];split
   ·rename_i e;subst e;first | (rw[if_pos r,o];rfl) | (rw[o];rfl)
   ·rfl
  rw[e];exact m.nd
theorem fX.new (c:fX S h0 h L) {cs:Array Value} {t:TypeId} {K:Addr->Hp->Prop} (d:∀b a,h.size<=b->Tn No h a->fX S h0 a (L++[⟨b,cs,t⟩])->K ⟨b,0,none⟩ a):aD h cs t K :=
 az λb a e g k _=>d b a ag (Tn.aT g) (c.more (x:=⟨b,cs,t⟩) (Tn.aT g) cC k)
theorem fX.ld (c:fX S h0 h L) (i:Nat) {α:Type} {b off:Nat} {cs:Array Value} {el:TypeId} {mk:α->Value} {x:α} {K:α->Prop} (d:L[i]? = some ⟨b,cs,el⟩) (e:cs[off]? = some (mk x)) (g:K x):Ld h ⟨b,off,none⟩ mk K :=
 an (c.aK d) e g
theorem fX.mz (a:fX S h0 h L) (i:Nat) {α:Type} {b off n:Nat} {cs:Array Value} {el:TypeId} {mk:α->Value} {x:α} {K:α->Prop} (c:L[i]? = some ⟨b,cs,el⟩) (d:cs[off+n]? = some (mk x)) (e:K x):Ld h ((⟨b,off,none⟩:Addr).add n) mk K:=by
 rw[aI];exact a.ld i c d e
theorem fX.st (d:fX S h0 h L) (i:Nat) {b off:Nat} {cs:Array Value} {el:TypeId} {v:Value} {K:Hp->Prop} (e:L[i]? = some ⟨b,cs,el⟩) (f:Nat.blt off cs.size=true) (t:one v=true)
  (y:∀c,Tn (·=b) h c->fX S h0 c (L.set i ⟨b,cs.setIfInBounds off v,el⟩)->K c):St h ⟨b,off,none⟩ v K :=
 cE (d.aK e) (Nat.le_of_ble_eq_true f) t λc o k=>y c o.fr (d.set e o.fr k)
theorem fX.ko (c:fX S h0 h L) (i:Nat) {b off n:Nat} {cs:Array Value} {el:TypeId} {v:Value} {K:Hp->Prop} (d:L[i]? = some ⟨b,cs,el⟩) (e:Nat.blt (off+n) cs.size=true) (f:one v=true)
  (g:∀a,Tn (·=b) h a->fX S h0 a (L.set i ⟨b,cs.setIfInBounds (off+n) v,el⟩)->K a):St h ((⟨b,off,none⟩:Addr).add n) v K:=by
 rw[aI];exact c.st i d e f g
end
def Sh (lo hi sz:Nat) (h:Hp) (s:Sl) (vs:List Value) (el:TypeId):Prop:=(s=Sl.nil/\vs=[])\/∃b,lo<=b/\b < hi/\oN sz h s b vs el
theorem oN.lt {n:Nat} {h:Hp} {s:Sl} {b:Nat} {vs:List Value} {el:TypeId} (o:oN n h s b vs el):b < h.size:=by obtain ⟨_,_,cs,k,_⟩:=o;exact k.lt
theorem dX.lt {h:Hp} {s:Sl} {b:Nat} {vs:List Value} {el:TypeId} (o:dX h s b vs el):b < h.size:=by obtain ⟨_,_,cs,k,_⟩:=o;exact k.lt
theorem oN.fr {S:Nat->Prop} {n:Nat} {h g:Hp} {s:Sl} {b:Nat} {vs:List Value} {el:TypeId} (o:oN n h s b vs el) (f:Tn S h g) (c:¬S b):oN n g s b vs el:=by
 obtain ⟨i,e,cs,d,a⟩:=o;exact ⟨i,e,cs,f.aK d c,a⟩
theorem dX.fr {S:Nat->Prop} {h g:Hp} {s:Sl} {b:Nat} {vs:List Value} {el:TypeId} (o:dX h s b vs el) (f:Tn S h g) (c:¬S b):dX g s b vs el:=by
 obtain ⟨i,e,cs,d,a⟩:=o;exact ⟨i,e,cs,f.aK d c,a⟩
theorem Sh.fr {S:Nat->Prop} {n m i:Nat} {h g:Hp} {s:Sl} {vs:List Value} {el:TypeId} (o:Sh n m i h s vs el) (f:Tn S h g) (e:∀b,n<=b->b < m->¬S b):Sh n m i g s vs el :=
 o.imp id λ⟨b,c,a,o⟩=>⟨b,c,a,o.fr f (e b c a)⟩
theorem Sh.aj {lo n m:Nat} {h H:Hp} {s:Sl} {vs:List Value} {el:TypeId} (o:Sh lo n m h s vs el) (g:ah h H):Sh lo n m H s vs el:=o.fr (S:=No) (Tn.aT g) λ_ _ _=>id
theorem Sh.wide {lo n m i j:Nat} {h:Hp} {s:Sl} {vs:List Value} {el:TypeId} (o:Sh lo n j h s vs el) (e:m<=lo) (d:n<=i):Sh m i j h s vs el :=
 o.imp id λ⟨b,c,a,o⟩=>⟨b,by omega,by omega,o⟩
theorem Sh.n {lo m sz:Nat} {h:Hp} {s:Sl} {vs:List Value} {el:TypeId} (o:Sh lo m sz h s vs el):vs.length=s.n*sz:=by
 rcases o with ⟨rfl,rfl⟩ | ⟨b,_,_,o⟩
 ·simp[Sl.nil]
 ·exact o.2.1
theorem Sh.cap {m i j:Nat} {h:Hp} {s:Sl} {vs:List Value} {el:TypeId} (o:Sh m i j h s vs el):s.n<=s.c:=by
 rcases o with ⟨rfl,_⟩ | ⟨b,_,_,_,_,_,_,h,_⟩
 ·exact Nat.le_refl _
 ·exact h
theorem Sv.nil (h:Hp):Sv h Sl.nil []:=⟨rfl,Nat.le_refl _,λx a=>by simp[Sl.nil] at a⟩
theorem Sh.sv {n m:Nat} {h:Hp} {s:Sl} {vs:List Value} {el:TypeId} (o:Sh n m 1 h s vs el):Sv h s vs:=by
 rcases o with ⟨rfl,rfl⟩ | ⟨b,_,_,o⟩
 ·exact Sv.nil h
 ·exact o.own.sv
theorem Sh.nil (lo a sz:Nat) (h:Hp) (el:TypeId):Sh lo a sz h Sl.nil [] el:=.inl ⟨rfl,rfl⟩
def Sl.at (s:Sl) (c:Nat):Prop:=∃a,s.a=some a/\a.block=c
theorem Sl.akn (c:Nat):¬Sl.nil.at c:=λ⟨_,h,_⟩=>by simp[Sl.nil] at h
theorem Sh.at {lo n sz:Nat} {h:Hp} {s:Sl} {vs:List Value} {el:TypeId} (o:Sh lo n sz h s vs el) {c:Nat} (q:s.at c):lo<=c/\c < n:=by
 rcases o with ⟨rfl,rfl⟩ | ⟨b,g,f,o⟩
 ·exact absurd q (Sl.akn c)
 ·obtain ⟨a,d,e⟩:=q;rw[o.1] at d;cases d;subst e;exact ⟨g,f⟩
theorem P2 {lo m n:Nat} {h:Hp} {s:Sl} {vs new:List Value} {el:TypeId} {z:Array Value} {bytes:Nat} {j:List Value->Prop} {K:Sl->Hp->Prop} (o:Sh lo h.size m h s vs el) (J:lo<=h.size) (Y:z.size=m)
  (g:new.length=n*m) (t:∀v∈new,one v=true) (y:j new) (Q:(s.n+n+(s.n+n) / 4+192)*bytes<=2 ^ 48) (hn:s.n+n < 2 ^ 63)
  (A:∀w q,Tn s.at h q->(∀c,w.at c->s.at c\/h.size<=c)->Sh lo q.size m q w (vs++new) el->w.n=s.n+n->K w q):Ap h el z m bytes s n j K:=by
 have k:∀old:List Value,rd h s.a (s.n*m) old->old=vs->s.c < s.n+n->Ap h el z m bytes s n j K:=by
  intro old F u l;subst u;have hl:old.length=s.n*m:=o.n;refine ⟨new,y, .inr ⟨l,?_,hn,old,F,?_⟩⟩
  ·have:=nextslicecap_le_wide (need:=s.n+n) (old:=s.c) l;have h7:=Nat.mul_le_mul_right bytes this;omega
  ·intro f H a';refine A _ _ (Tn.aT (ah.push h _)) ?_ (.inr ⟨h.size,J,by simp,rfl,?_,_,by simp only[aB,Array.getElem?_push_size];rfl,H,?_,λi p => ?_⟩) rfl
   ·rintro c ⟨a,x,hb⟩;simp only[Option.some.injEq] at x;subst x;simp only at hb;exact .inr ag
   ·simp only[List.length_append,g,hl,Nat.add_mul]
   ·have:s.n*m+n*m+(f - (s.n+n))*m=f*m:=by
     have e:f=s.n+n+(f - (s.n+n)):=ag
     conv=>rhs;rw[e]
     rw[Nat.add_mul,Nat.add_mul]
    simp[Builtin.zeroCells,hl,g,Y,this]
   ·simp only at p;have b':(old++new).length=(s.n+n)*m:=by simp only[List.length_append,g,hl,Nat.add_mul]
    rw[Array.getElem?_append_left (by simp only[List.size_toArray];omega),List.getElem?_toArray]
 rcases o with ⟨Z,E⟩ | ⟨b,O,N,o⟩
 ·subst Z E
  by_cases e:n=0
  ·subst e;have G:new=[]:=List.eq_nil_of_length_eq_zero ag;subst G;exact ⟨[],y, .inl ⟨Nat.le_refl _,A Sl.nil h (Tn.refl _ _) (λc l=>.inl l) (Sh.nil _ _ _ _ _) rfl⟩⟩
  ·exact k [] rfl rfl (by simp only[Sl.nil];omega)
 ·by_cases l:s.n+n<=s.c
  ·obtain ⟨r,D,cs,C,h4,T,B⟩:=o;refine ⟨new,y, .inl ⟨l,?_⟩⟩;have U:s.n*m+n*m<=s.c*m:=by rw[<-Nat.add_mul];exact Nat.mul_le_mul_right _ l
   rw[r]
   show fI h ((Addr.mk b 0 none).add (s.n*m)) 0 new _
   rw[aI];refine rL new C ag t λq P R X W V=>A _ q (R.fr.mono λd hd _=>⟨_,r,hd.symm⟩) (λc ⟨a,x,M⟩=>.inl ⟨a,by rw[r];exact x,M⟩) (.inr ⟨b,O,by rw[R.1];exact N,rfl,?_,P,X,l,by rw[W,T],λi p => ?_⟩) rfl
   ·simp only[List.length_append,D,g,Nat.add_mul]
   ·rw[V i];have c':i < s.n*m+n*m:=by rw[<-Nat.add_mul];exact p
    by_cases I:i < s.n*m
    ·rw[if_neg ag,B i I,List.getElem?_append_left ag]
    ·rw[if_pos ag,List.getElem?_append_right ag]
     congr 1;omega
  ·refine k vs ?_ rfl ag;obtain ⟨r,D,cs,C,h4,T,B⟩:=o;rw[r];refine ⟨D,λi v p => ?_⟩;have:i < vs.length:=(List.getElem?_eq_some_iff.1 p).1;rw[aI,Nat.zero_add,eW C,B i ag];exact p
theorem aB.uO {h:Hp} {b:Nat} {cs:Array Value} {el:TypeId} {r:Loop} (k:aB h b cs el) (e:h[b]? = some (.loop r)):False:=by
 have a:h[b]? = some (.cells cs el (0,0)):=k;rw[a] at e;cases e
theorem Sh.tw {n m i l:Nat} {h g:Hp} {s:Sl} {vs:List Value} {el:TypeId} (o:Sh n m i h s vs el) (t:Tw l h g):Sh n m i g s vs el:=by
 rcases o with o | ⟨b,d,c,o⟩
 ·exact .inl o
 ·refine .inr ⟨b,d,c,o.fr t.only.fr λe => ?_⟩;obtain ⟨_,_,cs,k,_⟩:=o;obtain ⟨r,_,_,a,_⟩:=t.2.2;subst e;exact k.uO a
theorem Sh.uO {n m i l:Nat} {h g:Hp} {s:Sl} {vs:List Value} {el:TypeId} (o:Sh n m i g s vs el) (t:Tw l h g):¬s.at l:=by
 rintro ⟨a,c,d⟩;rcases o with ⟨rfl,_⟩ | ⟨b,p,j,o⟩
 ·simp[Sl.nil] at c
 ·obtain ⟨e,_,cs,k,_⟩:=o;obtain ⟨r,_,_,_,f⟩:=t.2.2;rw[e] at c;cases c;simp only at d;subst d;exact k.uO f
end Go.Sh
