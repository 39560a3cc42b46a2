import Derived.Test.YtmjochipbmgljaaGreatDoorBatchesShGrow
set_option linter.all false
namespace Go.Sh
variable {S:aQ} {a h g h':Hp} {b lo m i hi:Nat} {el:TypeId} {s:Sl} {vs:bg}
abbrev No:Nat->Prop:=λ_=>False
abbrev In(lo hi:Nat):Nat->Prop:=λb=>lo<=b/\b<hi
theorem Tn.refl(S:aQ)(h:Hp):Tn S h h:=⟨bP _,λ_ _ _=>rfl⟩
abbrev iX:=@Tn.refl
theorem Tn.trans{b c:Hp}(x:Tn S a b)(y:Tn S b c):Tn S a c:=⟨iY x.1 y.1,λd f e=>(y.2 d (kZ f x.1) e).trans (x.2 d f e)⟩
theorem Tn.trans'{T:aQ}{b c:Hp}(x:Tn S a b)(y:Tn T b c)(hT:∀d,T d->d<a.size->S d):Tn S a c:=⟨iY x.1 y.1,λd e f=>(y.2 d (kZ e x.1) λt=>f (hT d t e)).trans (x.2 d e f)⟩
theorem Tn.mono{T:aQ}{b:Hp}(x:Tn S a b)(hT:∀d,S d->d<a.size->T d):Tn T a b:=⟨x.1,λd c e=>x.2 d c λs=>e (hT d s c)⟩
theorem Tn.aa3{H:Hp}(g:az h H):Tn S h H:=⟨g.1,λc a _=>g.2 c a⟩
abbrev bh:=@Tn.aa3
theorem Tn.ai(f:Tn No h g):az h g:=⟨f.1,λc a=>f.2 c a id⟩
theorem Tn.Td(f:Tn S h g)(b:∀d,S d->¬d<h.size):az h g:=⟨f.1,λc a=>f.2 c a λs=>b c s a⟩
theorem eD.fr(o:eD b h h'):Tn (·=b) h h':=⟨Ei o.1.symm,λc _ a=>o.2 c a⟩
theorem Tn.aZ{cs:Array Value}(f:Tn S h h')(k:aN h b cs el)(e:¬S b):aN h' b cs el:=(f.2 b k.lt e).trans k
theorem Tn.cell{a:Addr}{v:Value}(f:Tn S h g)(c:cell h a=some v)(d:¬S a.block):cell g a=some v:=by
 have:a.block<h.size:=by
  unfold Go.Sh.cell at c;split at c
  ·grind
  ·simp at c
 unfold Go.Sh.cell at c ⊢;rw[f.2 _ this d];exact c
structure Bk where
 b:Nat
 cs:Array Value
 el:TypeId
structure jN(S:aQ)(h0 h:Hp)(L:List Bk):Prop where
 fr:Tn S h0 h
 ok:∀x∈L,(h0.size<=x.b\/S x.b)/\aN h x.b x.cs x.el
 nd:(L.map (·.b)).Nodup
section
variable {h0:Hp} {L:List Bk}
theorem jN.start(S:aQ)(h:Hp):jN S h h []:=⟨iX _ _,λ_ a=>by simp at a,aA⟩
theorem jN.aZ(e:jN S h0 h L){i:Nat}{x:Bk}(j:L[i]? =some x):aN h x.b x.cs x.el:=(e.ok x (bL j)).2
theorem jN.ai(o:jN No h0 h L):az h0 h:=o.fr.ai
theorem jN.more(e:jN S h0 h L){g:Hp}{x:Bk}(f:Tn No h g)(j:h.size<=x.b)(k:aN g x.b x.cs x.el):jN S h0 g (L++[x]):=by
 refine⟨e.fr.trans' f (λ_ t=>t.elim),λy d=>?_,?_⟩
 ·rcases nt.1 d with d|d
  ·exact⟨(e.ok y d).1,f.aZ (e.ok y d).2 id⟩
  ·simp only[mA]at d;subst d;exact⟨.inl (iY e.fr.1 j),k⟩
 ·rw[kR,List.nodup_append];refine⟨e.nd,aA,λa l c i=>?_⟩
  simp only[rm,Cb,mA]at i;obtain⟨y,d,rfl⟩:=lU.1 l;have:=(e.ok y d).2.lt;omega
theorem jN.set(m:jN S h0 h L){i:Nat}{x:Bk}{h':Hp}{cs:Array Value}{el:TypeId}(o:L[i]? =some x)(f:Tn (·=x.b) h h')(k:aN h' x.b cs el):jN S h0 h' (L.set i ⟨x.b,cs,el⟩):=by
 have a:=m.ok x (bL o);refine⟨m.fr.trans' f λd C q=>by subst C;exact a.1.resolve_left ag,λy A=>?_,?_⟩
 ·obtain⟨j,c⟩:=ri.1 A;rw[yK]at c;split at c
  ·grind
  ·rename_i s
   have p:=m.ok y (bL c);refine⟨p.1,f.aZ p.2 λe=>s ?_⟩;have e1:(L.map (·.b))[i]? =some x.b:=by simp[o]
   have z:(L.map (·.b))[j]? =some y.b:=by simp[c]
   have n:=uZ.1 m.nd;grind
 ·have e:(L.set i ⟨x.b,cs,el⟩).map (·.b)=L.map (·.b):=by
   apply sE;intro j;simp only[yK,fh];split
   ·grind
   ·rfl
  rw[e];exact m.nd
theorem jN.new(c:jN S h0 h L){cs:Array Value}{t:TypeId}{K:Addr->HP}(d:∀b a,h.size<=b->Tn No h a->jN S h0 a (L++[⟨b,cs,t⟩])->K (aJ b) a):aH h cs t K:=
 aG λb a e g k _=>d b a ag (bh g) (c.more (bh g) cj k)
theorem jN.ld(c:jN S h0 h L)(i:Nat){α:Type}{b off:Nat}{cs:Array Value}{el:TypeId}{mk:α->Value}{x:α}{K:α->Prop}(d:L[i]? =some ⟨b,cs,el⟩)(e:cs[off]? =some (mk x))(f:K x):Ld h ⟨b,off,none⟩ mk K:=
 aj (c.aZ d) e f
theorem jN.qN(a:jN S h0 h L)(i:Nat){α:Type}{b off n:Nat}{cs:Array Value}{el:TypeId}{mk:α->Value}{x:α}{K:α->Prop}(c:L[i]? =some ⟨b,cs,el⟩)(d:cs[off+n]? =some (mk x))(e:K x):Ld h ((⟨b,off,none⟩:Addr).add n) mk K:=by
 rw[bw];exact a.ld i c d e
theorem jN.st(B:jN S h0 h L)(i:Nat){b off:Nat}{cs:Array Value}{el:TypeId}{v:Value}{K:Hp->Prop}(H:L[i]? =some ⟨b,cs,el⟩)(I:Nat.blt off cs.size=true)(J:one v=true)
  (M:∀z,Tn (·=b) h z->jN S h0 z (L.set i ⟨b,cs.setIfInBounds off v,el⟩)->K z):St h ⟨b,off,none⟩ v K:=
 dc (B.aZ H) (U6 I) J λz o k=>M z o.fr (B.set H o.fr k)
theorem jN.ov(c:jN S h0 h L)(i:Nat){b off n:Nat}{cs:Array Value}{el:TypeId}{v:Value}{K:Hp->Prop}(d:L[i]? =some ⟨b,cs,el⟩)(e:Nat.blt (off+n) cs.size=true)(f:one v=true)
  (g:∀a,Tn (·=b) h a->jN S h0 a (L.set i ⟨b,cs.setIfInBounds (off+n) v,el⟩)->K a):St h ((⟨b,off,none⟩:Addr).add n) v K:=by
 rw[bw];exact c.st i d e f g
end
def Sh(lo hi sz:Nat)(h:Hp)(s:Sl)(vs:bg)(el:TypeId):Prop:=(s=Sl.nil/\vs=[])\/∃b,lo<=b/\b<hi/\vm sz h s b vs el
theorem vm.lt{n:Nat}(o:vm n h s b vs el):b<h.size:=by obtain⟨_,_,cs,k,_⟩:=o;exact k.lt
theorem gU.lt(o:gU h s b vs el):b<h.size:=by obtain⟨_,_,cs,k,_⟩:=o;exact k.lt
theorem vm.fr{n:Nat}(o:vm n h s b vs el)(f:Tn S h h')(z:¬S b):vm n h' s b vs el:=by
 obtain⟨e,d,cs,c,a⟩:=o;exact⟨e,d,cs,f.aZ c z,a⟩
theorem gU.fr(o:gU h s b vs el)(f:Tn S h h')(z:¬S b):gU h' s b vs el:=by
 obtain⟨e,d,cs,c,a⟩:=o;exact⟨e,d,cs,f.aZ c z,a⟩
theorem Sh.fr{n:Nat}(o:Sh lo n m h s vs el)(f:Tn S h h')(z:∀b,lo<=b->b<n->¬S b):Sh lo n m h' s vs el:=
 o.imp id λ⟨b,c,a,o⟩=>⟨b,c,a,o.fr f (z b c a)⟩
theorem Sh.ai{n:Nat}{H:Hp}(o:Sh lo n m h s vs el)(g:az h H):Sh lo n m H s vs el:=o.fr (bh g) λ_ _ _=>id
theorem Sh.wide{n j:Nat}(o:Sh lo n j h s vs el)(e:m<=lo)(d:n<=i):Sh m i j h s vs el:=
 o.imp id λ⟨b,c,a,o⟩=>⟨b,ag,ag,o⟩
theorem Sh.n{sz:Nat}(o:Sh lo hi sz h s vs el):vs.length=s.n*sz:=by
 rcases o with⟨rfl,rfl⟩|⟨b,_,_,o⟩
 ·simp[Sl.nil]
 ·exact o.2.1
theorem Sh.cap{j:Nat}(o:Sh m i j h s vs el):s.n<=s.c:=by
 rcases o with⟨rfl,_⟩|⟨b,_,_,_,_,_,_,h,_⟩
 ·exact bP _
 ·exact h
theorem Sv.nil(h:Hp):Sv h Sl.nil []:=⟨rfl,bP _,λx a=>by simp[Sl.nil]at a⟩
abbrev yF:=@Sv.nil
theorem Sh.sv(o:Sh lo hi 1 h s vs el):Sv h s vs:=by
 rcases o with⟨rfl,rfl⟩|⟨b,_,_,o⟩
 ·exact yF h
 ·exact o.own.sv
theorem Sh.nil(lo g sz:Nat)(h:Hp)(el:TypeId):Sh lo g sz h Sl.nil [] el:=.inl ⟨rfl,rfl⟩
theorem Sv.fr(z:Sv h s vs)(f:Tn S h h')(B:∀a,s.a=some a->¬S a.block):Sv h' s vs:=
 ⟨z.1,z.2.1,λx c=>by
  obtain⟨a,b,g⟩:=z.2.2 x c;refine⟨a,b,λi v d=>f.cell (g i v d) ?_⟩;have e:(a.add i).block=a.block:=by unfold Addr.add;split <;> rfl
  simp[*]⟩
def Sl.at(s:Sl)(c:Nat):Prop:=∃a,s.a=some a/\a.block=c
theorem Sl.Uq(c:Nat):¬Sl.nil.at c:=λ⟨_,h,_⟩=>by simp[Sl.nil]at h
theorem Sh.at{sz:Nat}(o:Sh lo hi sz h s vs el){c:Nat}(z:s.at c):lo<=c/\c<hi:=by
 rcases o with⟨rfl,rfl⟩|⟨b,g,f,o⟩
 ·exact absurd z (Sl.Uq c)
 ·obtain⟨a,d,e⟩:=z;rw[o.1]at d;grind
theorem Yz{n:Nat}{new:bg}{z:Array Value}{bytes:Nat}{j:List Value->Prop}{K:Sl->HP}(o:Sh lo h.size m h s vs el)(J:lo<=h.size)(Y:z.size=m)
  (g:new.length=n*m) (t:∀v∈new,one v=true) (y:j new) (Q:(s.n+n+(s.n+n)/4+192)*bytes<=2^48) (hn:s.n+n<2^63)
  (A:∀w q,Tn s.at h q->(∀c,w.at c->s.at c\/h.size<=c)->Sh lo q.size m q w (vs++new) el->w.n=s.n+n->K w q):Ap h el z m bytes s n j K:=by
 have k:∀fG:List Value,rd h s.a (s.n*m) fG->fG=vs->s.c<s.n+n->Ap h el z m bytes s n j K:=by
  intro fG F u l;subst u;have hl:=o.n;refine⟨new,y,.inr ⟨l,?_,hn,fG,F,?_⟩⟩
  ·have:=nextslicecap_le_wide l;have h7:=pG bytes this;omega
  ·intro f H a';refine A _ _ (bh (qW h _)) ?_ (.inr ⟨h.size,J,aA,rfl,?_,_,by simp only[aN,L7];rfl,H,?_,λi p=>?_⟩) rfl
   ·rintro c ⟨a,x,hb⟩;grind
   ·grind
   ·have:s.n*m+n*m+(f-(s.n+n))*m=f*m:=by
     have e:f=s.n+n+(f-(s.n+n)):=ag
     conv=>rhs;rw[e]
     grind
    simp[Builtin.zeroCells,hl,g,Y,this]
   grind
 rcases o with⟨Z,E⟩|⟨b,O,N,o⟩
 ·subst Z E
  by_cases e:n=0
  ·subst e;have G:new=[]:=bU;subst G;exact⟨[],y,.inl ⟨bP _,A Sl.nil h (iX _ _) (λc l=>.inl l) (Sh.nil _ _ _ _ _) rfl⟩⟩
  ·exact k [] rfl rfl (by simp only[Sl.nil];omega)
 ·by_cases l:s.n+n<=s.c
  ·obtain⟨r,D,cs,C,h4,T,B⟩:=o;refine⟨new,y,.inl ⟨l,?_⟩⟩;have U:s.n*m+n*m<=s.c*m:=by rw[<-HR];exact pG _ l
   rw[r]
   show ji h _ 0 new _
   rw[bw];refine wW new C ag t λq P R X W V=>A _ q (R.fr.mono λd hd _=>⟨_,r,hd.symm⟩) (λc⟨a,x,M⟩=>.inl ⟨a,by rw[r];exact x,M⟩) (.inr ⟨b,O,by rw[R.1];exact N,rfl,?_,P,X,l,by rw[W,T],λi p=>?_⟩) rfl
   all_goals grind
  ·refine k vs ?_ rfl ag;obtain⟨r,D,cs,C,h4,T,B⟩:=o;rw[r];refine⟨D,λi v p=>?_⟩;have:i<vs.length:=bU;rw[bw,cz,gW C,B i ag];exact p
theorem aN.Be{cs:Array Value}{r:Loop}(k:aN h b cs el)(e:h[b]? =some (.loop r)):False:=by
 have a:h[b]? =some _:=k;grind
theorem Sh.tw{n l:Nat}(o:Sh n m i h s vs el)(t:Tw l h g):Sh n m i g s vs el:=by
 rcases o with o|⟨b,d,c,o⟩
 ·exact .inl o
 ·refine .inr ⟨b,d,c,o.fr t.only.fr λe=>?_⟩;obtain⟨_,_,cs,k,_⟩:=o;obtain⟨r,_,_,a,_⟩:=t.2.2;subst e;exact k.Be a
theorem Sh.Be{n l:Nat}(o:Sh n m i g s vs el)(t:Tw l h g):¬s.at l:=by
 rintro⟨a,c,d⟩;rcases o with⟨rfl,_⟩|⟨b,p,j,o⟩
 ·simp[Sl.nil]at c
 ·obtain⟨e,_,cs,k,_⟩:=o;obtain⟨r,_,_,_,f⟩:=t.2.2;rw[e]at c;cases c;simp only at d;subst d;exact k.Be f
end Go.Sh
