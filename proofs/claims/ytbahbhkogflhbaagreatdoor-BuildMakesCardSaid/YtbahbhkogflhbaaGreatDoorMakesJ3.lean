import Derived.Test.YtbahbhkogflhbaaGreatDoorMakesJ2
import Derived.Test.YtbahbhkogflhbaaGreatDoorMakesShDeferH
import Derived.Test.YtbahbhkogflhbaaGreatDoorMakesShMix
set_option linter.all false
set_option maxRecDepth 99999
set_option maxHeartbeats 999999
noncomputable section
namespace Go.Proofs.YtbahbhkogflhbaaGreatDoor
open Go Go.Sh Go.WideShapes
section
variable {f c:aq} {q c0:Addr} {k ix:Int} {b i j:Nat} {d:bG} {au B:Bool} {D T E A:aQ} {t eT:Sl} {e el ty:TypeId} {C:bq} {h H:Hp} {Kp:PK} {a:fh} {cs:cN} {x':List Value×TypeId} {Z:Array Value} {N:cU}
theorem abN(n:bB f){vs:aR}{i:Nat}{v:aB}(m:vs[i]? =some v):jF f.k (f.dn (f.st vs)).aY i=eG f.k v:=by
 have ks:=n.ks
 by_cases j:f.k=1
 ·unfold jF eG;simp[j]
 by_cases b:f.k=18
 ·unfold jF eG mU;simp[b]
 by_cases a:f.k=20
 ·unfold jF eG mU;simp[a]
 refine Dh (by unfold mU;simp[j,b,a]) ?_ m
 by_cases h:f.k=12\/f.k=13
 ·rw[wj h];rfl
 by_cases e:f.k=15
 ·rw[HM e];rfl
 by_cases d:f.k=16\/f.k=17
 ·rw[BY d];rfl
 by_cases c:f.k=19
 ·rw[HL c];rfl
 by_cases l:f.k=2
 ·rw[BX l];rfl
 by_cases g:f.k=14
 ·rw[BZ g];rfl
 rw[Ab ag];rfl
theorem axv{p:Nat->Bool}{q:aB->Bool}:∀{vs:aR},(∀i v,vs[i]? =some v->p i=q v)->(List.range vs.length).countP p=vs.countP q
  | vs,h=>by
    have e:(List.range vs.length).map p=vs.map q:=by
      refine qz λi=>?_;rw[eY,eY]
      by_cases a:i<vs.length
      ·simp[*]
      ·simp[*]
    have b:∀{α:Type}(p:α->Bool)(l:List α),l.countP p=(l.map p).countP id:=aA
    simp[*]
theorem arc(g:bB f){vs:aR}(m:f.can vs):IS f.au f.k (f.dn (f.st vs)):=by
 have e:uS f.k (f.dn (f.st vs)).aY (f.dn (f.st vs)).off.toNat (f.dn (f.st vs)).len.toNat=vs.countP (eG f.k):=by
  rw[Aa,xO];unfold uS;exact axv λi v l=>by simp_all[abN]
 refine⟨by rw[e,Ub],λa=>?_⟩
 rw[e]at a;obtain⟨v,j,d⟩:=List.countP_pos_iff.1 a
 by_cases h:f.k=1
 ·exact g.right.2.1.1 h
 ·have c:f.k≠18/\f.k≠20:=by constructor <;> (grind[eG])
  rw[sX h c.1 c.2]at d;have b:=((gj f vs).1 m).fit v j;rw[eM]at b;grind[kB,sZ]
theorem alL{vs:aR}:(dF (aL k vs)).length=0\/(dF (aL k vs)).length=(vs.length+7)/8:=by
 unfold dF;split
 ·simp
 ·refine .inr ?_
  show(qQ _).length=_
  rw[QI,cr]
theorem ZZ(g:aB->Nat)(vs:aR):(laidB (kr g vs) 4).length=(vs.length+1)*4:=by rw[GJ,Dl]
theorem aq4(h:fL k=true)(vs:aR):(aL k vs).dY=vs.map (λv=>(v.num%2^64).toNat)/\(aL k vs).texts=vs.map aB.text:=by simp[aL,h]
theorem Kx{w:Int}{n:Nat}(a:k≠18)(h:b=0\/b=(n+7)/8):ju k w ix 0 n b<=b:=by
 unfold ju;grind
theorem aoe(G:bB f){vs:aR}(S:f.can vs):((f.dn (f.st vs)).aY.length:Int)=kR f.k/\(∀j,j<(f.dn (f.st vs)).aY.length->(dB (f.dn (f.st vs)).aY j).length<=65536)/\
    ∀j,j<(f.dn (f.st vs)).aY.length->ju f.k f.w f.ix j vs.length (dB (f.dn (f.st vs)).aY j).length<=(dB (f.dn (f.st vs)).aY j).length:=by
  have I:=(gj f vs).1 S;have Q:=I.n4;have ks:=G.ks;have C:=alL (k:=f.k) (vs:=vs);have two:∀{a b:dy}{P:aQ},(∀j,j<[a,b].length->P j)↔P 0/\P 1:=λ{a b P}=>⟨λh=>⟨h 0 aA,h 1 aA⟩,λh j d=>by
    match j,d with
    |0,_=>exact h.1
    |1,_=>exact h.2⟩
  by_cases D:f.k=1
  ·rw[HN D];exact⟨by rw[D];rfl,λj d=>by simp[bG.aY]at d,λj d=>by simp[bG.aY]at d⟩
  by_cases o:f.k=20
  ·rw[LH o];exact⟨by rw[o];rfl,λj d=>by simp[bG.aY]at d,λj d=>by simp[bG.aY]at d⟩
  by_cases p:f.k=16\/f.k=17
  · rw[BY p];refine⟨by rcases p with q|q <;> rw[q] <;> rfl,λj d=>?_,λj d=>?_⟩
    · have:j=0:=by simp[bG.aY]at d;exact d
      subst this
      show(dF (aL f.k vs)).length<=_;omega
    · have:j=0:=by simp[bG.aY]at d;exact d
      subst this
      show ju f.k f.w f.ix 0 vs.length (dF (aL f.k vs)).length<=(dF _).length
      exact Kx ag C
  by_cases g:f.k=12\/f.k=13
  · have s:(aL f.k vs).ends=kr (λv=>v.text.length) vs:=by simp[aL,g]
    have H:(aL f.k vs).all=vs.flatMap aB.text:=by simp[aL,g]
    have J:=I.tx g;rw[wj g,s,H];have F:=ZZ (λv=>v.text.length) vs;refine⟨by rcases g with q|q <;> rw[q] <;> rfl,λj d=>?_,λj d=>?_⟩
    · match j,d with
      |0,_=>show(dF (aL f.k vs)).length<=_;omega
      |1,_=>show(laidB _ 4).length<=_;omega
      |2,_=>exact J
    · match j,d with
      |0,_=>exact Kx ag C
      | 1,_=>
        show ju f.k f.w f.ix 1 vs.length (laidB _ 4).length<=(laidB _ 4).length
        unfold ju;rw[ay,ay,ay,dV];omega
      |2,_=>unfold ju;rw[ay,aK (.inr rfl)];exact eu _
  by_cases m:f.k=15
  · have s:(aL f.k vs).ends=kr (λv=>v.items.length) vs:=by simp[aL,m]
    rw[HM m,s];have F:=ZZ (λv=>v.items.length) vs;refine⟨by rw[m];rfl,two.2 ⟨?_,?_⟩,two.2 ⟨?_,?_⟩⟩
    ·show(dF (aL f.k vs)).length<=_;omega
    ·show(laidB _ 4).length<=_;omega
    · show ju f.k f.w f.ix 0 vs.length (dF (aL f.k vs)).length<=(dF (aL f.k vs)).length
      exact Kx ag C
    · show ju f.k f.w f.ix 1 vs.length (laidB _ 4).length<=(laidB (kr (λv=>v.items.length) vs) 4).length
      unfold ju;rw[ay,ay,ay,dV];omega
  by_cases c:f.k=18
  · have H:(aL f.k vs).all=vs.map λv=>UInt8.ofNat (fO v):=by simp[aL,c]
    have s:(aL f.k vs).ends.length=vs.length:=by simp[aL,c]
    rw[LI c];have F:=GJ (aL f.k vs).ends 4;rw[s]at F;have Y:(aL f.k vs).all.length=vs.length:=by rw[H,cr]
    refine⟨by rw[c];rfl,two.2 ⟨?_,?_⟩,two.2 ⟨?_,?_⟩⟩
    ·show(aL f.k vs).all.length<=_;omega
    ·show(laidB _ 4).length<=_;omega
    · show ju f.k f.w f.ix 0 vs.length (aL f.k vs).all.length<=(aL f.k vs).all.length
      unfold ju;rw[aK c];omega
    · show ju f.k f.w f.ix 1 vs.length (laidB _ 4).length<=(laidB (aL f.k vs).ends 4).length
      unfold ju;rw[aK c];omega
  -- L with a z X one E more
  have i:∀(b:dy)(W:Nat),b.length<=65536->(f.k=2->b.length=(vs.length+7)/8)->(f.k≠2->W=(nS f.k f.w f.ix).toNat/\b.length=vs.length*W)->
      (([dF (aL f.k vs),b].length:Nat):Int)=kR f.k/\(∀j,j<[dF (aL f.k vs),b].length->(dB [dF (aL f.k vs),b] j).length<=65536)/\∀j,j<[dF (aL f.k vs),b].length->ju f.k f.w f.ix j vs.length (dB [dF (aL f.k vs),b] j).length<=(dB [dF (aL f.k vs),b] j).length:=by
    intro b W T U K;refine⟨by unfold kR;simp[*],two.2 ⟨?_,T⟩,two.2 ⟨?_,?_⟩⟩
    ·show(dF (aL f.k vs)).length<=_;omega
    · show ju f.k f.w f.ix 0 vs.length (dF (aL f.k vs)).length<=(dF (aL f.k vs)).length
      exact Kx c C
    · show ju f.k f.w f.ix 1 vs.length b.length<=b.length
      unfold ju;rw[aC c,ay]
      by_cases r:f.k=2
      all_goals simp_all
  by_cases e:f.k=19
  · have s:(aL f.k vs).ends.length=vs.length:=by simp[aL,e]
    have V:=G.right.1.2.2.2.2.2.1 e;obtain⟨e1,A,_⟩:=De (k:=f.ix) ag;rw[HL e];have l:=GJ (aL f.k vs).ends (wB f.ix);rw[s]at l;refine i _ (wB f.ix) ?_ (λq=>ag) λ_=>⟨?_,l⟩
    ·rw[l];rcases A with q|q|q|q <;> rw[q] <;> omega
    ·unfold nS;omega
  have O:fL f.k=true:=by
    simp only[not_or]at g p;simp[fL,D,g,m,p,c,e,o]
  obtain⟨y,N⟩:=aq4 O vs
  by_cases r:f.k=2
  ·rw[BX r];have l:=afu (aL f.k vs).dY;rw[y,cr]at l;refine i _ 0 (by rw[y,l];omega) (λ_=>by rw[y];exact l) λq=>absurd r q
  by_cases n:f.k=14
  · rw[BZ n];have Z:=G.right.1.2.2.1 n;have l:(mu f.w.toNat (aL f.k vs).texts).length=vs.length*f.w.toNat:=by
      rw[Li,N,cr];intro t M;rw[N]at M;obtain⟨u,R,rfl⟩:=kZ.1 M;have x:=I.fit u R;cases B:u.au with
      |true=>rw[eM]at x;rw[(kB x B).1];exact .inl rfl
      |false=>exact .inr (((Ei ⟨D,m,ag,ag,c,e,o⟩ x B).2.1 ag).2.2 n)
    refine i _ f.w.toNat ?_ (λq=>ag) λ_=>⟨by unfold nS;omega,l⟩
    rw[l];have:vs.length*f.w.toNat<=4096*16:=tO Q ag;omega
  rw[Ab ag];obtain⟨e1,A,_⟩:=De (k:=f.k) ag;have l:=GJ (aL f.k vs).dY (wB f.k);rw[y,cr]at l;refine i _ (wB f.k) ?_ (λq=>absurd q r) λ_=>⟨by unfold nS;omega,by rw[y];exact l⟩
  rw[y,l];rcases A with q|q|q|q <;> rw[q] <;> omega
abbrev azP(c:aq):Prop:=∀us,c.can us->c.arr (c.dn (c.st us))
theorem alk(c:bB f){vs:aR}(d:f.can vs):AY f.val (f.dn (f.st vs))=vs.map aB.bx:=by
 unfold AY;rw[xO]
 show(List.range vs.length).map _=_
 refine Kk aA λi x a=>?_;grind[Option.map_eq_some_iff,Co,ab6]
theorem ayW(b:bB f){vs:aR}(d:f.can vs)(o:(f.dn (f.st vs)).cs.length=sw f.k f.cs)(n:(f.dn (f.st vs)).ds.length=uP f.k)
  (r:∀(j:Nat)(c:bG),(f.dn (f.st vs)).cs[j]? =some c->(f.k=16->(vs.length:Int)*f.w<=c.len)/\(f.k=17->(vs.length:Int)<=c.len)) (h:Wb f.k f.ix (f.dn (f.st vs)))
  (m:∀(j:Nat)(c:bG),(xj (f.dn (f.st vs)))[j]? =some c->∃g,(r7 f.k f.cs)[j]? =some g/\g.arr c) (p:f.k=20->aj9 (f.dn (f.st vs))):f.arr (f.dn (f.st vs)):=by
 have e:=(gj f vs).1 d;have u:=e.n4;obtain⟨t,b2,s⟩:=aoe b d;have q:((f.dn (f.st vs)).off+(f.dn (f.st vs)).len).toNat=vs.length:=by rw[Aa,xO];omega
 rw[aq.UQ];refine⟨⟨b.ty,t,o,n,by rw[xO];omega,by rw[Aa];omega,by rw[Ub];omega,?_,by rw[xO];omega,by rw[Aa];omega,ag,b2,λj a=>dG,λj c a=>?_,arc b d⟩,h,λj c a=>?_,p,?_⟩
 ·rw[Ub,xO];grind
 ·rw[Aa,xO];grind
 ·obtain⟨g,i,l⟩:=m j c a;simp[*]
 ·have:=alk b d;rw[wC]at this;rw[this,Sr];exact e.wt
theorem api(h:¬(k=12\/k=13\/k=15\/k=18\/k=19)):Wb k ix d:=⟨λq=>absurd q ag,λq=>absurd q ag,λq=>absurd q ag⟩
theorem Ku{g:aB->Nat}{vs:aR}(b:d.off=0)(e:dB d.aY 1=laidB (kr g vs) 4)(a:(vs.map g).sum<2^31){i:Nat}(c:i<=vs.length):uC d i=((vs.take i).map g).sum:=by
 simp_all[uC,cF,Z0]
theorem aqZ{g:aB->Nat}{vs:aR}(b:d.off=0)(hl:d.len=vs.length)(h:dB d.aY 1=laidB (kr g vs) 4)(f:(vs.map g).sum<2^31)(p:Q7 k d=(vs.map g).sum)
  (o:k=12->∀(i:Nat)v,vs[i]? =some v->jF k d.aY i=false->iH (((dB d.aY 2).drop (((vs.take i).map g).sum)).take (g v))=true):agB k d:=by
 refine⟨λi m=>?_,λe i m n=>?_⟩
 ·have a:i<=vs.length:=by rw[hl]at m;omega
  rw[Ku b h f a,p];refine⟨ag,by have:=JV g vs i;omega,λj q=>?_⟩
  subst q;rw[Ku b h f ag];have c:=bJ (l:=vs) (i:=j) ag;rw[FN g c];omega
 ·have a:i<vs.length:=by rw[hl]at m;omega
  have c:=bJ a;rw[b]at n;have:=o e i _ c (by simpa using n)
  rw[Ku b h f ag,Ku b h f ag,FN g c];have e1:((((vs.take i).map g).sum+g vs[i]:Nat):Int).toNat-((((vs.take i).map g).sum:Nat):Int).toNat=g vs[i]:=ag;rw[e1];exact this
theorem ayX(s:bB f)(C:f.k≠15/\f.k≠16/\f.k≠17/\f.k≠18/\f.k≠19/\f.k≠20):azP f:=by
 intro vs y;have A:=(gj f vs).1 y;obtain⟨l,p,o,h,d,b⟩:=C;have ks:=s.ks;have r:=jB.1 (s.right.1.2.2.2.2.2.2.2.2.2.2 ⟨l,p,d,b,o,h⟩);have n:(f.dn (f.st vs)).cs=[]/\(f.dn (f.st vs)).ds=[]:=by
  by_cases B:f.k=1
  ·rw[HN B];exact⟨rfl,rfl⟩
  by_cases a:f.k=12\/f.k=13
  ·rw[wj a];exact⟨rfl,rfl⟩
  by_cases E:f.k=2
  ·rw[BX E];exact⟨rfl,rfl⟩
  by_cases w:f.k=14
  ·rw[BZ w];exact⟨rfl,rfl⟩
  rw[Ab ag];exact⟨rfl,rfl⟩
 refine ayW s y ?_ ?_ (λj c m=>ag) ?_ (λj c m=>by unfold xj at m;grind) (λq=>absurd q b)
 ·rw[n.1,r];unfold sw;simp[*]
 ·rw[n.2];unfold uP;simp[*]
 ·by_cases a:f.k=12\/f.k=13
  ·have u:=A.tx a;have D:(aL f.k vs).ends=kr (λv=>v.text.length) vs:=by simp[aL,a]
   have z:(aL f.k vs).all=vs.flatMap aB.text:=by simp[aL,a]
   refine⟨λ_=>?_,λq=>absurd q ag,λq=>absurd q ag⟩;refine aqZ (Aa f _) (xO f vs) (by rw[wj a,D];rfl) (by rw[Cw]at u;omega) ?_ λe i v t x=>?_
   ·unfold Q7;rw[aC l,wj a,z]
    show((vs.flatMap aB.text).length:Int)=_
    simp
   ·rw[abN s t,sX ag h b]at x;rw[wj a,z]
    show iH (((vs.flatMap aB.text).drop _).take v.text.length)=true
    rw[Lh aB.text t];exact((Ei ⟨ag,l,p,o,h,d,b⟩ (A.fit v (bT t)) x).2.1 ag).2.1 e
  ·exact api ag
def cj(f:aq)(sf sn sb:Sl)(rows cz bF:Nat)(ex:bq):List Value:=
 .string f.name::.bool f.au::ah f.k::ah f.w::ah f.id::ah f.ix::Sl.v sf::ah rows::ah cz::Sl.v sb::ah bF::
 .bool f.cm.au::ah f.cm.num::.string (bs f.cm.text)::Sl.v sn::.bool f.small::ex
structure mN(T:aQ)(h:Hp)(b:Nat)(ty:TypeId)(f:aq)(sf sn sb:Sl)(r:Rb)(ex:bq):Prop where
 k:aN h b (cj f sf sn sb r.rows r.cz r.bF ex).toArray ty
 o:Os T h sb (bv r.bits) Y8
 nT:¬T b
 len:r.bits.length=(r.rows+7)/8
 nl:r.cz<=r.rows
 rl:r.rows<=4096
section
variable {S:aQ} {h':Hp} {sf sn sb:Sl} {r:Rb} {ex:bq}
theorem mN.lt(B:mN T h b ty f sf sn sb r ex):b<h.size:=B.k.lt
theorem mN.fr(B:mN T h b ty f sf sn sb r ex)(t:Tn S h h')(G:¬S b)(z:∀c,T c->c<h.size->¬S c):mN T h' b ty f sf sn sb r ex:=
 ⟨t.aZ B.k G,B.o.fr t z,B.nT,B.len,B.nl,B.rl⟩
theorem UL(x y:Nat)(c:x<2^8)(a:y<2^8):gJ .or .u8 (x:Int) (y:Int)=((x|||y:Nat):Int):=by
 have e:(BitVec.ofInt 8 (x:Int)|||BitVec.ofInt 8 (y:Int)).toNat=x|||y:=by
  rw[BitVec.toNat_or,EJ,EJ,wE,wE,uY c,uY a]
 show IntKind.u8.wrap ((BitVec.ofInt 8 (x:Int)|||BitVec.ofInt 8 (y:Int)).toNat:Int)=_
 rw[e];simp only[IntKind.wrap,IntKind.signed,IntKind.bits];simp;omega
end
section
variable {sf sn sb qO:Sl} {n u w m:Nat} {ex:bq} {K:HP}
theorem BV.st7(k:aN h b (cj f sf sn sb n u w ex).toArray ty)(c:∀h',eJ b h h'->aN h' b (cj f sf sn sb m u w ex).toArray ty->K h'):St h ⟨b,7,none⟩ (ah (m:Int)) K:=
 dI k (by simp[cj]) rfl λh' o a=>c h' o (by simpa[cj]using a)
theorem BV.st8(k:aN h b (cj f sf sn sb n u w ex).toArray ty)(c:∀h',eJ b h h'->aN h' b (cj f sf sn sb n m w ex).toArray ty->K h'):St h ⟨b,8,none⟩ (ah (m:Int)) K:=
 dI k (by simp[cj]) rfl λh' o a=>c h' o (by simpa[cj]using a)
theorem BV.st9(k:aN h b (cj f sf sn sb n u w ex).toArray ty)(c:∀h',eJ b h h'->aN h' b (cj f sf sn qO n u w ex).toArray ty->K h'):St h ⟨b,9,none⟩ (Sl.v qO) K:=
 dI k (by simp[cj]) rfl λh' o a=>c h' o (by simpa[cj]using a)
theorem BV.anK(k:aN h b (cj f sf sn sb n u w ex).toArray ty)(c:∀h',eJ b h h'->aN h' b (cj f sf sn sb n u m ex).toArray ty->K h'):St h ⟨b,10,none⟩ (ah (m:Int)) K:=
 dI k (by simp[cj]) rfl λh' o a=>c h' o (by simpa[cj]using a)
theorem BV.ld7{K:Int->Prop}(k:aN h b (cj f sf sn sb n u w ex).toArray ty)(a:K (n:Int)):Ld h ⟨b,7,none⟩ mI K:=aj k (by simp[cj]) a
abbrev wA:=@BV.ld7
theorem BV.SE{K:Int->Prop}(k:aN h b (cj f sf sn sb n u w ex).toArray ty)(a:K (u:Int)):Ld h ⟨b,8,none⟩ mI K:=aj k (by simp[cj]) a
theorem BV.ld9{K:Sl->Prop}(k:aN h b (cj f sf sn sb n u w ex).toArray ty)(a:K sb):Ld h ⟨b,9,none⟩ Sl.v K:=aj k (by simp[cj]) a
abbrev yl:=@BV.ld9
theorem BV.SG{K:Int->Prop}(k:aN h b (cj f sf sn sb n u w ex).toArray ty)(a:K (w:Int)):Ld h ⟨b,10,none⟩ mI K:=aj k (by simp[cj]) a
end
section
variable {S:aQ} {h':Hp} {sf sn sb:Sl} {r:Rb} {ex:bq}
theorem aaG{n u w:Nat}{K:cK}(k:aN h b (cj f sf sn sb n u w ex).toArray ty)(c:n<4096)(a:∀h',eJ b h h'->aN h' b (cj f sf sn sb (n+1) u w ex).toArray ty->K 0 h'):MZ K Kp (bC b) h:=by
 apply aBR;refine bO ?_;exact wA k (aX ag ag (BV.st7 k a))
theorem aaH{n u w:Nat}{bits:dy}{K:cK}(k:aN h b (cj f sf sn sb n u w ex).toArray ty)(o:Os T h sb (bv bits) Y8)(nT:¬T b)(hl:bits.length=n/8+1)(hn:n<4096)(hu:u<=n)
  (hk:∀h',Tn (λc=>c=b\/T c) h h'->aN h' b (cj f sf sn sb (n+1) (if au then u+1 else u) w ex).toArray ty->Os T h' sb (bv (if au then bits else pF bits n)) Y8->
   (∀{s0:Sl}{l0:bq},Old T h sb s0 l0 Y8->Old T h' sb s0 l0 Y8)->K 0 h'):M0 K Kp (bC b) au h:=by
 refine aBS (aG (λc=>?_) λc=>?_)
 ·subst c;refine bO ?_;refine BV.SE k (aX ag ag (BV.st8 k λh1 o1 k1=>aaG k1 hn λh2 o2 k2=>?_));have t:=o1.fr.trans o2.fr;exact hk h2 (t.mono λd hd _=>.inl hd) k2 (o.fr t λc q _ e=>nT (e▸q)) λq=>q.fr t λc q _ e=>nT (e▸q)
 ·subst c;refine bO ?_;have e1:Int.tdiv (n:Int) 8=((n/8:Nat):Int):=rfl;have e2:Int.tmod (n:Int) 8=((n%8:Nat):Int):=rfl;have PX:sb.n=n/8+1:=by rw[o.n,fP,hl]
  obtain⟨bb,tb,ow⟩:∃bb,T bb/\gZ h sb bb (bv bits) Y8:=by
   rcases o with⟨rfl,_⟩|q
   ·simp[Sl.nil]at PX
   ·exact q
  have hb:=(bits.getD (n/8) 0).toNat_lt;have hp:2^(n%8)<2^8:=Mx bw (yE _ bw);have hg:bits[n/8]? =some (bits.getD (n/8) 0):=by rw[gV];simp[hl]
  refine yl k (wA k (pg bw ?_));rw[e1];refine aX ag ag (ow.vX ag ag (ow.ld (x:=((bits.getD (n/8) 0).toNat:Int)) ag (by grind[bv]) ?_))
  refine wA k (pg bw ?_);rw[e2];refine yO (jw ag ?_);have em:min (Int.toNat ((n%8:Nat):Int)) (IntKind.bits .u8)=n%8:=by
   rw[gf];have:=yE n (show 8>0 by decide);show min _ 8=_;omega
  rw[em];have es:(1:Int)*2^(n%8)=((2^(n%8):Nat):Int):=by rw[Int.one_mul];norm_cast
  rw[es];refine pY rfl hp (yO ?_);rw[UL _ _ hb hp];apply ow.vX ag ag;have ei:(((n/8:Nat):Int)).toNat=n/8:=ag;have eC:=Iv hb hp;refine Os.J9 (.inr ⟨bb,tb,ow⟩) ag ⟨bb,ow.1,by rw[ei,PX];simp⟩ rfl λh1 t1 o1 q1=>aaG (t1.aZ k nT) hn λh2 o2 k2=>?_
  have t2:=o2.fr;refine hk h2 ((t1.mono λd hd _=>.inr hd).trans (t2.mono λd hd _=>.inl hd)) k2 ?_ λq=>(q1 q).fr t2 λc q _ e=>nT (e▸q);have e3:(bv bits).set (sb.n-1) (.int .u8 (((bits.getD (n/8) 0).toNat|||2^(n%8):Nat):Int))=bv (pF bits n):=by
   rw[PX,Nat.add_sub_cancel];simp only[bv,pF,Ct];rw[tN,uY eC]
  rw[e3]at o1;exact o1.fr t2 λc q _ e=>nT (e▸q)
theorem apl{K:cK}(B:mN T h b ty f sf sn sb r ex)(hT:∀c,T c->c<h.size)(p:4096<=r.rows->K 3 h)
  (H:r.rows<4096->∀qO h',Tn (λc=>c=b\/T c) h h'->mN (Or T h) h' b ty f sf sn qO (Rb.row au r) ex->(∀{F:Sl}{G:bq},Old T h sb F G Y8->Old (Or T h) h' qO F G Y8)->K 0 h'):oZ (bC b) au h K Kp:=by
 have bl:=B.lt;have hl:=B.len;have nl:=B.nl;apply aE6;refine bO ?_;refine wA B.k (aG (λc=>p ?_) λc=>?_)
 ·have c:=aS c;omega
 ·have c:=aS c;have s:r.rows<4096:=ag;refine wA B.k (pg bw ?_);rw[show Int.tmod _ 8=((r.rows%8:Nat):Int)from rfl];refine yO (aG (λl=>?_) λl=>?_)
  ·have l:=aS l;have j:r.rows%8=0:=ag;have U:sb.n=r.rows/8:=by rw[B.o.n,fP,hl];omega
   refine yl B.k (aF λW J e1 a Q _=>(B.o.gr a).ap rfl rfl (iJ Q rfl) ag ag λE R D O L=>?_);have g:¬Or T J b:=λq=>q.elim B.nT λq=>by have:=a.1;omega
   refine BV.st9 (D.aZ (B.k.ai a) B.nT) λI N P=>?_;have v:=N.fr;have C:Os (Or T J) I E (bv (r.bits++[0])) Y8:=by
    rw[uT];exact O.fr v λc q _ e=>g (e▸q)
   refine aaH P C g (by simp[hl];omega) s nl λA t z y x=>H s E A ?_ ⟨?_,?_,?_,?_,?_,?_⟩ λq=>?_
   ·refine((bg a).trans (D.mono λd i _=>.inr i)).trans' ((v.mono λd i _=>.inl i).trans t) λd i V=>?_;rcases i with q|q|q
    ·exact .inl q
    ·exact .inr q
    ·have:=a.1;omega
   ·simp only[Rb.row];exact z
   ·simp only[Rb.row,aK j];exact y.mono λc q=>q.imp id λq=>by have:=a.1;omega
   ·exact λq=>q.elim B.nT λq=>ag
   ·simp only[Rb.row,aK j];grind[Ds]
   ·simp only[Rb.row];split <;> omega
   ·show r.rows+1<=4096;omega
   ·have M:=L (q.fr (bg a) λ_ _ _=>id);exact(x (M.fr v λc q _ e=>g (e▸q))).mono λc q=>q.imp id λq=>by have:=a.1;omega
  ·have l:=aS l;have j:¬r.rows%8=0:=ag;refine aaH B.k B.o B.nT ag s nl λA t z y x=>H s sb A t ⟨?_,?_,?_,?_,?_,?_⟩ λq=>(x q).mono λc q=>.inl q
   ·simp only[Rb.row];exact z
   ·simp only[Rb.row,aC j];exact y.mono λc q=>.inl q
   ·exact λq=>q.elim B.nT λq=>ag
   ·simp only[Rb.row,aC j];grind[Ds]
   ·simp only[Rb.row];split <;> omega
   ·show r.rows+1<=4096;omega
theorem alz{x:Int}{n:Nat}{K:cK}(B:mN T h b ty f sf sn sb r ex)(i:x=n)(a:r.bF+n<2^62)
  (j:∀h',eJ b h h'->mN T h' b ty f sf sn sb {r with bF:=r.bF+n} ex->K (if 4194304<r.bF+n then 3 else 0) h'):nL (bC b) x h K Kp:=by
 subst i;apply aE5;refine bO ?_;refine BV.SG B.k (aX ag ag (BV.anK B.k λa d g=>BV.SG g ?_));have l:mN T a b ty f sf sn sb {r with bF:=r.bF+n} ex:=⟨g,B.o.fr d.fr λc q _ e=>B.nT (e▸q),B.nT,B.len,B.nl,B.rl⟩
 have:=j a d l;refine cE (λc=>?_) λc=>?_
 ·grind
 ·grind
theorem ayE{K:cK}(B:mN T h b ty f sf sn sb r ex)(a:K (r.rows:Int) h):ajT (bC b) h K Kp:=by
 apply aFe;refine bO ?_;exact wA B.k a
theorem ayp{K:cK}(B:mN T h b ty f sf sn sb r ex)(a:K (r.bF:Int) h):ajQ (bC b) h K Kp:=by
 apply aFa;refine bO ?_;exact BV.SG B.k a
end
section
variable {sf sn sb qO:Sl} {n u w n' u' w':Nat} {ex:bq}
theorem BV.all{K:ByteArray->Bool->Int->Int->Int->Int->Sl->Int->Int->Sl->Int->Bool->Int->ByteArray->Sl->Bool->Prop}(k:aN h b (cj f sf sn sb n u w ex).toArray ty)
  (a:K f.name f.au f.k f.w f.id f.ix sf n u sb w f.cm.au f.cm.num (bs f.cm.text) sn f.small):ou h (aJ b) K:=by
 unfold ou;simp only[bz,cF];refine aj k (by simp[cj]) (aj k (by simp[cj]) (aj k (by simp[cj]) (aj k (by simp[cj]) (aj k (by simp[cj]) (aj k (by simp[cj]) (aj k (by simp[cj]) (aj k (by simp[cj]) (aj k (by simp[cj]) (aj k (by simp[cj]) (aj k (by simp[cj]) (aj k (by simp[cj]) (aj k (by simp[cj]) (aj k (by simp[cj]) (aj k (by simp[cj]) (aj k (by simp[cj]) a)))))))))))))))
theorem BV.put{K:HP}(k:aN h b (cj f sf sn sb n u w ex).toArray ty)(g:∀h',eJ b h h'->aN h' b (cj f sf sn qO n' u' w' ex).toArray ty->K h'):rH h (aJ b) f.name f.au f.k f.w f.id f.ix sf n' u' qO w' f.cm.au f.cm.num (bs f.cm.text) sn f.small K:=by
 refine rH.l (wP _ k (by simp[cj]) (by simp[one,Sl.v]) λh' cs d c m a=>g h' d ?_)
 have:cs=(cj f sf sn qO n' u' w' ex).toArray:=by
  apply wH;intro i;rw[a i,pO,pO];have e:∀n u w sb,cj f sf sn sb n u w ex=cj f sf sn sb n u w []++ex:=λ_ _ _ _=>rfl;rw[e,e n' u' w' qO];have l:∀n u w sb,(cj f sf sn sb n u w []).length=16:=λ_ _ _ _=>rfl
  by_cases j:i<16
  ·rw[aK cy,gN dG]
   simp[cj]
  ·simp_all[aC,cy,fU]
 grind
end
structure qL(M:aQ)(h:Hp)(b:Nat)(F:Value)(f:aq)(sf sn rW:Sl)(r0:Rb):Prop where
 m:∃b3 b1 b4 x,M b3/\M b1/\M b4/\F=.func (.func 187) #[] #[bH b3,bH b1,bH b4]/\
  aN h b3 (cj f sf sn rW r0.rows r0.cz r0.bF []).toArray MM/\aN h b1 #[bH b] afY/\aN h b4 #[.int .u8 x] Y8/\(0<rW.n->(bv r0.bits)[rW.n-1]? =some (.int .u8 x))
section
variable {M S:aQ} {h':Hp} {sf sn sb rW:Sl} {r r0:Rb} {ex:bq} {F:Value}
theorem qL.fr(m:qL M h b F f sf sn rW r0)(t:Tn S h h')(z:∀c,M c->c<h.size->¬S c):qL M h' b F f sf sn rW r0:=by
 obtain⟨p,q,o,x,d,g,a,e,j,k,i,l⟩:=m;exact⟨p,q,o,x,d,g,a,e,t.aZ j (z _ d j.lt),t.aZ k (z _ g k.lt),t.aZ i (z _ a i.lt),l⟩
theorem qL.mono(m:qL M h b F f sf sn rW r0)(j:∀c,M c->D c):qL D h b F f sf sn rW r0:=by
 obtain⟨k,l,i,x,d,g,a,e⟩:=m;exact⟨k,l,i,x,j _ d,j _ g,j _ a,e⟩
theorem arM{K:di}(B:mN T h b ty f sf sn sb r ex)(I:∀F h',az h h'->one F=true->qL (Nw h) h' b F f sf sn sb r->K F h'):uk (bC b) h K Kp:=by
 refine aE7 (aF λj X e1 C z _=>aj z rfl ?_);have hl:=B.len;have rl:=B.rl;have Z:sb.n=r.bits.length:=by rw[B.o.n,fP]
 refine bO ?_;have Y:=B.fr (bg C) id λ_ _ _=>id;refine BV.all Y.k (aF λi h2 e2 O p _=>rH.b p rfl λJ Q p=>aF λg h4 e4 L U _=>dI U aA rfl λs P H=>?_);have a':=p.lt;have N:=bI O Q ag;have A:=bI L P ag;have G:=ak (ak C N) A;have a:=(z.ai N).ai A;have l:=p.ai A;have t:=B.fr (bg G) id λ_ _ _=>id;apply aj a rfl;refine bO ?_;have d:one (.func (.func 187) #[] #[(bH i),(bH j),(bH g)])=true:=rfl;refine yl t.k (aG (λc=>?_) λc=>?_)
 ·have c:=aS c;apply aj a rfl;refine bO ?_;refine yl t.k (aj a rfl ?_);refine bO ?_;refine yl t.k (aX ag ag ?_);obtain⟨D,tb,E⟩:∃D,T D/\gZ s sb D _ Y8:=by
   rcases t.o with⟨e,_⟩|q
   ·rw[e]at c;simp[Sl.nil]at c
   ·exact q
  obtain⟨y,V⟩:∃y,r.bits[sb.n-1]? =some y:=⟨_,bJ ag⟩;have m:(bv r.bits)[sb.n-1]? =some (.int .u8 (y.toNat:Int)):=by unfold bv;rw[eY,V];rfl
  refine E.vX ag ag (E.ld ag (by rw[<-m];simp) (dI H aA rfl λW v R=>I _ W (bI G v ag) d ⟨i,j,g,(y.toNat:Int),?_,?_,?_,rfl,v.aZ l ag,v.aZ a ag,by simpa using R,λ_=>m⟩))
  all_goals omega
 ·have c:=aS c;refine I _ s G d ⟨i,j,g,0,?_,?_,?_,rfl,l,a,by simpa using H,λq=>ag⟩
  all_goals omega
theorem aya{p:Addr}{K:HP}(H:ajP c0 p q h K Kp):cZ aE (.func (.func 187) #[] #[c9 c0,c9 p,c9 q]) [] h (λr a=>r=.tuple #[]/\K a) Kp:=by
 unfold cZ;exact cast aW H
theorem ayP{K:HP}(m:qL M h b F f sf sn rW r0)(k:aN h b (cj f sf sn sb r.rows r.cz r.bF ex).toArray ty)(o:Old T h sb rW (bv r0.bits) Y8)(s:¬T b)(B:∀c,M c->¬T c/\c≠b)
  (G:r0.bits.length=(r0.rows+7)/8) (V:r0.cz<=r0.rows) (U:r0.rows<=4096)
  (D:∀h',Tn (λc=>c=b\/T c) h h'->mN T h' b ty f sf sn rW r0 ex->K h'):cZ aE F [] h (λr G=>r=.tuple #[]/\K G) Kp:=by
 obtain⟨X,Y,W,x,R,J,I,rfl,N,C,L,O⟩:=m;refine aya (aE4 (aj C rfl (uV N ?_)));refine bO ?_;have Q:rW.n=r0.bits.length:=by
  rcases o.old with⟨e,P⟩|⟨_,_,_,_,e,_⟩
  ·have:=tQ List.length P;rw[fP]at this;rw[e,this];rfl
  ·rw[e,fP]
 refine BV.put k λi y j=>?_;have t:=y.fr;have g:=y.aZ C (B _ J).2;have v:=o.fr t λc q _ e=>s (e▸q);apply aj g rfl;refine bO ?_;refine yl j (aG (λc=>?_) λc=>?_)
 ·have c:=aS c;apply aj g rfl;refine bO ?_;refine yl j (aj g rfl ?_);refine bO ?_;refine yl j (aX ag ag (aj (y.aZ L (B _ I).2) rfl ?_));obtain⟨p,E⟩:∃p,rW.a=some (aJ p):=by
   rcases v.old with⟨e,_⟩|⟨p,_,_,e,_⟩
   all_goals grind
  unfold Ix;rw[E];refine⟨ag,ag,?_⟩
  rw[bz];refine v.back ag (O ag) ⟨p,E,?_⟩ rfl λz A H=>D z ((t.mono λd l _=>.inl l).trans (A.mono λd l _=>.inr l)) ⟨A.aZ j s,H,s,ag,ag,ag⟩
  simp
 ·have c:=aS c;exact D i (t.mono λd l _=>.inl l) ⟨j,v.ayQ ag,s,ag,ag,ag⟩
end
section
variable {h0:Hp} {sf sn sb:Sl} {r:Rb} {ex:bq}
theorem qv{s:Sl}{K:Int->Int->Int->Sl->Sl->Sl->HP}(B:mN T h b ty f sf sn sb r ex)(j:∀a,az h a->K r.rows 0 r.cz s Sl.nil Sl.nil a):iF (bC b) s h K Kp:=by
 refine aE8 (aF λm l e1 c g _=>?_);refine bO ?_;have k:=B.k.ai c;refine wA k (BV.SE k (ig g rfl λi d e=>fJ e (j i (bI c d ag))))
theorem Mo{s:Sl}{l:dy}{K:Sl->HP}(o:Os T h s (bv l) Y8)(hl:l.length<=70000)(i:∀u g,az h g->eD (Nw h) g u (bv l)->K u g):Fo s h K Kp:=by
 refine aEd (aG (λc=>?_) λc=>?_)
 ·rcases o with⟨rfl,e⟩|⟨b,_,o⟩
  ·rw[e]at i;exact i Sl.nil h (cQ h) ⟨yu h,λq=>absurd rfl q⟩
  ·rw[o.1]at c;cases c
 ·refine aF λy x e1 p k _=>?_;have v:=(o.gr p).sv;have m:=v.1;rw[fP]at m;refine(eW.start k (bX y)).ap ag rfl (by simp[fP,m]) (abB _) (ayq l) (by rw[Ss];exact v.Bj v.na) cy cy λt g f _ w=>i t g ?_ (by subst e1;exact eW.lq w)
  exact((bg p:Tn No h x).trans' f λd j z=>by
   obtain⟨a,n,j⟩:=j;grind).ai
theorem wv{K:Sl->HP}(B:mN T h b ty f sf sn sb r ex)(a:∀u d,az h d->eD (Nw h) d u (bv (dF r))->K u d):uj (bC b) h K Kp:=by
 have hl:=B.len;have g:=B.rl;apply aE0;refine bO ?_;refine BV.SE B.k (aG (λc=>?_) λc=>?_)
 ·have c:=aS c;have e:dF r=[]:=by unfold dF;rw[dV]
  rw[e]at a;exact a Sl.nil h (cQ h) ⟨yu h,λq=>absurd rfl q⟩
 ·have c:=aS c;have e:dF r=r.bits:=by unfold dF;rw[ay]
  rw[e]at a;exact yl B.k (Mo B.o ag a)
structure Gb(h0 h:Hp)(t:Sl)(out:dy):Prop where
 g:az h0 h
 o:eW h0.size 1 h t ((bv out).map λv=>[v]) Y8
theorem Gb.n{out:dy}(x:Gb h0 h t out):t.n=out.length:=by rw[x.o.n];simp[bv]
theorem Gb.yg{out:dy}{y:UInt8}{v:Int}{K:Sl->HP}(x:Gb h0 h t out)(q:v=y.toNat)(hl:out.length<=1000000)(s:∀e k,Gb h0 k e (out++[y])->K e k):aI h #[.int .u8 v] Y8 λa j=>Ap j Y8 #[(.int .u8 0)] 1 1 t 1 (rd j (some a) (1*1)) λe w=>K e w:=by
 subst q;have A:=x.n;have B:=x.g.1;refine aF λC j e1 i p _=>(x.o.ai i).ap ag rfl (new:=[[.int .u8 (y.toNat:Int)]]) rfl (λr c=>bZ) (λr c=>by simp at c;subst c;simp[one]) (iJ p rfl) ag ag λl k f _ m=>s l k ⟨?_,by simpa[bv]using m⟩
 exact((bg (ak x.g i):Tn No h0 j).trans' f λd u z=>by have:=((x.o.ai i).at u).1;omega).ai
theorem afg{x:Nat}{X:Int->Prop}(hi:i<8)(hk:X ((UInt8.ofNat (x/2^(8*i))).toNat:Int)):aP ((8:Int)*(i:Int)) λt27=>Nn t27<|Lt (Int.fdiv (x:Int) (2^(min (Int.toNat t27) (IntKind.bits .u64)))) λt28=>Wr .u8 t28 X:=by
 refine aX ag ag (jw ag (yO ?_));have e1:min (Int.toNat ((8:Int)*(i:Int))) (IntKind.bits .u64)=8*i:=by
  have:Int.toNat ((8:Int)*(i:Int))=8*i:=ag;rw[this];show min _ 64=_;omega
 rw[e1];have e2:Int.fdiv (x:Int) (2^(8*i))=((x/2^(8*i):Nat):Int):=by
  rw[EI _ (Iw (EH bw))];norm_cast
 grind[CO,IntKind.wrap_u8,UInt8.toNat_ofNat']
theorem acn(x n:Nat):jj x (n+1)=jj x n++[UInt8.ofNat (x/2^(8*n))]:=by simp[jj,uX]
end
section
variable {h0:Hp}
theorem Gb.start{c:Int}{K:Sl->HP}(h0:0<=c)(f:c<=1000000)(d:∀t a,Gb h a t []->K t a):dP h Y8 #[(.int .u8 0)] 1 1 0 c K:=by
 refine⟨AA _,h0,ag,ag,d _ _ ⟨qx h _,λr b=>by simp[bv]at b,by simp[bv],.inr ⟨h.size,bX _,aA,rfl,by simp[bv],zs #[.int .u8 0] (c.toNat*1),by simp[aN],aA,by simp[zs],λi e=>by simp at e⟩⟩⟩
theorem Gb.lq{out:dy}(x:Gb h0 h t out):eD (Nw h0) h t (bv out):=eW.lq x.o
theorem acs{l:cU}{m n:Nat}(a:l[i]? =some m):laidB (l.take (i+1)) n=laidB (l.take i) n++jj m n:=by
 simp[laidB,Mz,a]
theorem acu(l:cU)(n:Nat):(laidB l n).length=l.length*n:=by
 induction l with
 |nil=>simp[laidB]
 |cons x b a=>simp only[laidB,List.flatMap_cons,iA,iN]at a ⊢;rw[a,Bz,rC];omega
theorem xz{s:Sl}{l:cU}{w:Nat}{K:Sl->HP}(o:Os D h s (l.map λx:Nat=>ah (x:Int)) Y6)(hl:l.length<=70000)(A:w<=8)(C:∀x∈l,x<2^63)
  (G:∀t m,Gb h m t (laidB l w)->K t m):qK s (w:Int) h K Kp:=by
 have E:=o.n;rw[cr]at E;have F:(w:Int)*(s.n:Int)=((w*s.n:Nat):Int):=by norm_cast
 have I:w*s.n<=8*70000:=tO A ag;apply aEZ;rw[F];refine aX ag ag (Gb.start ag ag λM P a=>aAk (λt x f=>∃i:Nat,x=i/\i<=l.length/\Gb h f t (laidB (l.take i) w)) (λ_ x _=>l.length-x.toNat) ⟨0,rfl,ag,by simpa[laidB]using a⟩ ?_)
 rintro t x f ⟨i,rfl,O,a⟩ R hN;refine cE (λc=>?_) λc=>?_
 ·have d:i<l.length:=ag;have j:=bJ d;have r:=C _ (kH d);generalize l[i]=y at j r;obtain⟨p,L,z⟩:∃p,D p/\gZ f s p (l.map λx:Nat=>ah (x:Int)) Y6:=by
   rcases o.gr a.g with⟨e,_⟩|q
   all_goals simp_all
  refine z.vX ag ag (z.ld ag (x:=(y:Int)) (by simp[j]) ?_)
  have H:(laidB (l.take i) w).length<=8*70000:=by rw[acu,m8];exact jE (tO (Nat.min_le_left _ _) A) ag
  apply aAj (λt x B=>∃k:Nat,x=k/\k<=w/\Gb h B t (laidB (l.take i) w++jj y k)) (λ_ x _=>w-x.toNat) ⟨0,rfl,ag,by simpa[jj]using a⟩
  rintro t x B ⟨k,rfl,J,a⟩ Q u;refine cE (λb=>?_) λb=>?_
  ·refine pY rfl (by show y<2^64;omega) (afg ag (a.yg rfl (by rw[iA,Bz];omega) λN m v=>aX ag ag (u _ _ _ ⟨k+1,ag,ag,by grind[acn,List.append_assoc]⟩ ag)))
  ·obtain rfl:k=w:=ag;exact aX ag ag (hN _ _ _ ⟨i+1,ag,ag,by rw[acs j];exact a⟩ ag)
 ·obtain rfl:i=l.length:=ag;rw[m5]at a;exact G t f a
theorem asG{s:Sl}{l:cU}{w:Nat}{K:Sl->HP}(o:Os D h s (l.map λx:Nat=>.int .u64 (x:Int)) pX)(hl:l.length<=70000)(A:w<=8)(C:∀x∈l,x<2^64)
  (G:∀t m,Gb h m t (laidB l w)->K t m):XJ s (w:Int) h K Kp:=by
 have E:=o.n;rw[cr]at E;have F:(w:Int)*(s.n:Int)=((w*s.n:Nat):Int):=by norm_cast
 have I:w*s.n<=8*70000:=tO A ag;apply aEi;rw[F];refine aX ag ag (Gb.start ag ag λM P a=>az0 (λt x f=>∃i:Nat,x=i/\i<=l.length/\Gb h f t (laidB (l.take i) w)) (λ_ x _=>l.length-x.toNat) ⟨0,rfl,ag,by simpa[laidB]using a⟩ ?_)
 rintro t x f ⟨i,rfl,O,a⟩ R hN;refine cE (λc=>?_) λc=>?_
 ·have d:i<l.length:=ag;have j:=bJ d;have r:=C _ (kH d);generalize l[i]=y at j r;obtain⟨p,L,z⟩:∃p,D p/\gZ f s p (l.map λx:Nat=>.int .u64 (x:Int)) pX:=by
   rcases o.gr a.g with⟨e,_⟩|q
   all_goals simp_all
  refine z.vX ag ag (z.ld ag (x:=(y:Int)) (by simp[j]) ?_)
  have H:(laidB (l.take i) w).length<=8*70000:=by rw[acu,m8];exact jE (tO (Nat.min_le_left _ _) A) ag
  apply azZ (λt x B=>∃k:Nat,x=k/\k<=w/\Gb h B t (laidB (l.take i) w++jj y k)) (λ_ x _=>w-x.toNat) ⟨0,rfl,ag,by simpa[jj]using a⟩
  rintro t x B ⟨k,rfl,J,a⟩ Q u;refine cE (λb=>?_) λb=>?_
  ·refine afg ag (a.yg rfl (by rw[iA,Bz];omega) λN m v=>aX ag ag (u _ _ _ ⟨k+1,ag,ag,by grind[acn,List.append_assoc]⟩ ag))
  ·obtain rfl:k=w:=ag;exact aX ag ag (hN _ _ _ ⟨i+1,ag,ag,by rw[acs j];exact a⟩ ag)
 ·obtain rfl:i=l.length:=ag;rw[m5]at a;exact G t f a
end
abbrev nk(v:Value)(x0:Bool)(x1:Int)(x2:fh)(x3:Sl)(h:Hp)(K:cK)(Kp:PK):Prop:=
  fD aE v "colonnade/build.take" [.agg #[.bool x0,ah x1,.string x2,Sl.v x3]] h (λr h'=>∃t:Int,r=ah t/\K t h') Kp
abbrev mL(v:Value)(h:Hp)(K:cK)(Kp:PK):Prop:=fD aE v "colonnade/build.zero" [] h (λr h'=>∃t:Int,r=ah t/\K t h') Kp
abbrev kU(v:Value)(h:Hp)(K:di)(Kp:PK):Prop:=fD aE v "colonnade/build.mark" [] h (λr h'=>∃t:Value,r=t/\K t h') Kp
abbrev akf(v:Value)(h:Hp)(K:cK)(Kp:PK):Prop:=fD aE v "colonnade/build.count" [] h (λr h'=>∃t:Int,r=ah t/\K t h') Kp
abbrev ake(v:Value)(h:Hp)(K:cK)(Kp:PK):Prop:=fD aE v "colonnade/build.weight" [] h (λr h'=>∃t:Int,r=ah t/\K t h') Kp
abbrev mM(v:Value)(h:Hp)(K:Int->Int->Int->Sl->Sl->Sl->HP)(Kp:PK):Prop:=
  fD aE v "colonnade/build.done" [] h (λr h'=>∃t0:Int,∃t1:Int,∃t2:Int,∃t3:Sl,∃t4:Sl,∃t5:Sl,r=.agg #[ah t0,ah t1,ah t2,Sl.v t3,Sl.v t4,Sl.v t5]/\K t0 t1 t2 t3 t4 t5 h') Kp
theorem ic{g:FuncId}{name:String}{v:Value}{K:di}(d:sY aE e name=some (g,true))(c:(Dz aE e true&&jV aE g)=true)
  (a:dX aE g (v::C) h K Kp):fD aE (.iface e v) name C h K Kp:=by
 unfold fD;grind
theorem aev{g:FuncId}{name:String}{K:di}(f:sY aE e name=none)(d:DT aE e name=some (g,0))(c:jV aE g=true)
  (a:dX aE g (bH b::C) h K Kp):fD aE (.iface e (bH b)) name C h K Kp:=by
 unfold fD;simp only[f,d,c];exact a
section
theorem awG{x:Int}{s:Sl}{K:cK}(H:OM (bC b) B x a s h K Kp):nk (.iface pW (bH b)) B x a s h K Kp:=ic aW aW H
theorem awx{K:cK}(H:XS (bC b) h K Kp):mL (.iface pW (bH b)) h K Kp:=ic aW aW H
theorem awP{K:di}(H:ajR (bC b) h K Kp):kU (.iface pW (bH b)) h K Kp:=ic aW aW H
theorem awY{K:Int->Int->Int->Sl->Sl->Sl->HP}(H:ajS (bC b) h K Kp):mM (.iface pW (bH b)) h K Kp:=ic aW aW H
theorem awB{x:Int}{s:Sl}{K:cK}(H:OK (bC b) B x a s h K Kp):nk (.iface pV (bH b)) B x a s h K Kp:=ic aW aW H
theorem aws{K:cK}(H:XR (bC b) h K Kp):mL (.iface pV (bH b)) h K Kp:=ic aW aW H
theorem awK{K:di}(H:OL (bC b) h K Kp):kU (.iface pV (bH b)) h K Kp:=ic aW aW H
theorem awT{K:Int->Int->Int->Sl->Sl->Sl->HP}(H:ajO (bC b) h K Kp):mM (.iface pV (bH b)) h K Kp:=ic aW aW H
theorem awH{x:Int}{s:Sl}{K:cK}(H:OI (bC b) B x a s h K Kp):nk (.iface pU (bH b)) B x a s h K Kp:=ic aW aW H
theorem awy{K:cK}(H:XQ (bC b) h K Kp):mL (.iface pU (bH b)) h K Kp:=ic aW aW H
theorem awQ{K:di}(H:OJ (bC b) h K Kp):kU (.iface pU (bH b)) h K Kp:=ic aW aW H
theorem awZ{K:Int->Int->Int->Sl->Sl->Sl->HP}(H:ajM (bC b) h K Kp):mM (.iface pU (bH b)) h K Kp:=ic aW aW H
theorem awD{x:Int}{s:Sl}{K:cK}(H:OG (bC b) B x a s h K Kp):nk (.iface oU (bH b)) B x a s h K Kp:=ic aW aW H
theorem awu{K:cK}(H:XP (bC b) h K Kp):mL (.iface oU (bH b)) h K Kp:=ic aW aW H
theorem awM{K:di}(H:OH (bC b) h K Kp):kU (.iface oU (bH b)) h K Kp:=ic aW aW H
theorem awV{K:Int->Int->Int->Sl->Sl->Sl->HP}(H:ajK (bC b) h K Kp):mM (.iface oU (bH b)) h K Kp:=ic aW aW H
theorem awC{x:Int}{s:Sl}{K:cK}(H:OE (bC b) B x a s h K Kp):nk (.iface oT (bH b)) B x a s h K Kp:=ic aW aW H
theorem awt{K:cK}(H:XO (bC b) h K Kp):mL (.iface oT (bH b)) h K Kp:=ic aW aW H
theorem awL{K:di}(H:OF (bC b) h K Kp):kU (.iface oT (bH b)) h K Kp:=ic aW aW H
theorem awU{K:Int->Int->Int->Sl->Sl->Sl->HP}(H:ajI (bC b) h K Kp):mM (.iface oT (bH b)) h K Kp:=ic aW aW H
theorem awJ{x:Int}{s:Sl}{K:cK}(H:OA (bC b) B x a s h K Kp):nk (.iface qC (bH b)) B x a s h K Kp:=ic aW aW H
theorem awA{K:cK}(H:XN (bC b) h K Kp):mL (.iface qC (bH b)) h K Kp:=ic aW aW H
theorem awS{K:di}(H:OB (bC b) h K Kp):kU (.iface qC (bH b)) h K Kp:=ic aW aW H
theorem aw1{K:Int->Int->Int->Sl->Sl->Sl->HP}(H:ajF (bC b) h K Kp):mM (.iface qC (bH b)) h K Kp:=ic aW aW H
theorem awI{x:Int}{s:Sl}{K:cK}(H:Ox (bC b) B x a s h K Kp):nk (.iface qB (bH b)) B x a s h K Kp:=ic aW aW H
theorem awz{K:cK}(H:XM (bC b) h K Kp):mL (.iface qB (bH b)) h K Kp:=ic aW aW H
theorem awR{K:di}(H:Oy (bC b) h K Kp):kU (.iface qB (bH b)) h K Kp:=ic aW aW H
theorem aw0{K:Int->Int->Int->Sl->Sl->Sl->HP}(H:ajC (bC b) h K Kp):mM (.iface qB (bH b)) h K Kp:=ic aW aW H
theorem awE{x:Int}{s:Sl}{K:cK}(H:Ot (bC b) B x a s h K Kp):nk (.iface pT (bH b)) B x a s h K Kp:=ic aW aW H
theorem awv{K:cK}(H:XK (bC b) h K Kp):mL (.iface pT (bH b)) h K Kp:=ic aW aW H
theorem awN{K:di}(H:Ou (bC b) h K Kp):kU (.iface pT (bH b)) h K Kp:=ic aW aW H
theorem awW{K:Int->Int->Int->Sl->Sl->Sl->HP}(H:ajz (bC b) h K Kp):mM (.iface pT (bH b)) h K Kp:=ic aW aW H
theorem awF{x:Int}{s:Sl}{K:cK}(H:Oo (bC b) B x a s h K Kp):nk (.iface pS (bH b)) B x a s h K Kp:=ic aW aW H
theorem aww{K:cK}(H:ajw (bC b) h K Kp):mL (.iface pS (bH b)) h K Kp:=ic aW aW H
theorem awO{K:di}(H:Oq (bC b) h K Kp):kU (.iface pS (bH b)) h K Kp:=ic aW aW H
theorem awX{K:Int->Int->Int->Sl->Sl->Sl->HP}(H:ajx (bC b) h K Kp):mM (.iface pS (bH b)) h K Kp:=ic aW aW H
end
abbrev Tr(T:aQ)(h h':Hp):Nat->Prop:=λc=>T c\/(h.size<=c/\c<h'.size)
structure iX(T:aQ)(h:Hp)(b:Nat)(Ls:List (Nat->Prop)):Prop where
 tb:T b
 lt:∀c,T c->c<h.size
 sub:∀L∈Ls,∀c,L c->T c/\c≠b
 ap:Ls.Pairwise λA B=>∀c,A c->¬B c
section
variable {L:aQ} {h':Hp} {Ls:List (Nat->Prop)}
theorem iX.step(t:iX T h b Ls)(i:Nat)(u:h.size<=h'.size):iX (Tr T h h') h' b (Ls.modify i λA=>Tr A h h'):=by
 refine⟨.inl t.tb,λc g=>?_,λA s c g=>?_,?_⟩
 ·rcases g with q|q
  ·have:=t.lt c q;omega
  omega
 ·obtain⟨j,m,rfl⟩:=List.getElem_of_mem s;rw[U9]at g;have a:j<Ls.length:=by simpa using m
  split at g
  ·rcases g with q|q
   ·have:=t.sub _ (kH a) c q;exact⟨.inl this.1,this.2⟩
   ·exact⟨.inr q,λe=>by have:=t.lt b t.tb;omega⟩
  ·have:=t.sub _ (kH a) c g;exact⟨.inl this.1,this.2⟩
 ·rw[vg];intro j k m r n c;have a:j<Ls.length:=by simpa using m
  have l:k<Ls.length:=by simpa using r
  have d:=vg.1 t.ap j k a l n c;have o:=λq=>t.lt c (t.sub _ (kH a) c q).1;have lk:=λq=>t.lt c (t.sub _ (kH l) c q).1;rw[U9,U9];split
  ·rw[ay];rintro(q|q) p
   ·exact d q p
   ·have:=lk p;omega
  ·split
   ·rintro q (p|p)
    ·exact d q p
    ·have:=o q;omega
   ·exact d
theorem iX.nb(t:iX T h b Ls){A:aQ}(d:A∈Ls){c:Nat}(a:A c):c≠b:=(t.sub A d c a).2
theorem iX.l(t:iX T h b Ls){A:aQ}(z:A∈Ls){c:Nat}(e:A c):c<h.size:=t.lt c (t.sub A z c e).1
theorem Os.tr{s:Sl}{vs:bq}(o:Os (Or L h) h' s vs el):Os (Tr L h h') h' s vs el:=
 o.imp id λ⟨b,t,o⟩=>⟨b,t.imp id λq=>⟨q,o.lt⟩,o⟩
theorem Old.tr{s s0:Sl}(o:Old (Or L h) h' s s0 C el):Old (Tr L h h') h' s s0 C el:=
 ⟨o.le,o.old.imp id λ⟨b,cs,t,e,d,a,c⟩=>⟨b,cs,t.imp id λq=>⟨q,a.lt⟩,e,d,a,c⟩⟩
theorem Tr.tr{g:Hp}(a:h.size<=g.size)(e:g.size<=H.size){c:Nat}(q:Tr (Tr L h g) g H c):Tr L h H c:=by
 grind
end
inductive Mem
 |mk (F:Value) (r:Raw) (s:Sl) (ks:List Mem) (sp:bq)
abbrev fT:=Option Mem
def Mem.F:Mem->Value|.mk F _ _ _ _=>F
def Mem.r:Mem->Raw|.mk _ r _ _ _=>r
def Mem.s:Mem->Sl|.mk _ _ s _ _=>s
def Mem.ks:Mem->List Mem|.mk _ _ _ k _=>k
def Mem.sp:Mem->List Value|.mk _ _ _ _ l=>l
def mh(l:cU):List Value:=l.map λx:Nat=>.int .u64 (x:Int)
def ints(l:cU):List Value:=l.map λx:Nat=>ah (x:Int)
def strs(l:iz):List Value:=l.map λt=>.string (bs t)
structure JC(R T0:aQ)(h:Hp)(b:Nat)(f:aq)(sf sn sb:Sl)(F0:Value)(s0:Sl)(r0:Rb):Prop where
 bm:qL R h b F0 f sf sn s0 r0
 o:Old T0 h sb s0 (bv r0.bits) Y8
 len:r0.bits.length=(r0.rows+7)/8
 nl:r0.cz<=r0.rows
 rl:r0.rows<=4096
section
variable {R R' T0 T0' S:aQ} {h':Hp} {sf sn sb s0:Sl} {F0:Value} {r0:Rb}
theorem JC.fr(m:JC R T0 h b f sf sn sb F0 s0 r0)(t:Tn S h h')(B:∀c,R c->c<h.size->¬S c)(z:∀c,T0 c->c<h.size->¬S c):JC R T0 h' b f sf sn sb F0 s0 r0:=
 ⟨m.bm.fr t B,m.o.fr t z,m.len,m.nl,m.rl⟩
end
theorem al3(x:Int):IntKind.u64.wrap x=(((x%2^64).toNat:Nat):Int):=by
 simp only[IntKind.wrap,IntKind.signed,IntKind.bits];simp;omega
section
variable {T':aQ} {h':Hp} {Ls:List (Nat->Prop)}
theorem iX.grow(t:iX T h b Ls)(a:h.size<=h'.size):iX T h' b Ls:=⟨t.tb,λc q=>m9 (t.lt c q) a,t.sub,t.ap⟩
theorem iX.mono(t:iX T h b Ls)(hT:∀c,T c->T' c)(hl:∀c,T' c->c<h.size):iX T' h b Ls:=⟨hT b t.tb,hl,λA a c q=>⟨hT c (t.sub A a c q).1,(t.sub A a c q).2⟩,t.ap⟩
theorem iX.ne(t:iX T h b Ls){i j:Nat}{A B:aQ}(o:Ls[i]? =some A)(l:Ls[j]? =some B)(e:i≠j)(c:Nat)(g:A c):¬B c:=by
 obtain⟨d,rfl⟩:=de.1 o;obtain⟨a,rfl⟩:=de.1 l;rcases Nat.lt_or_gt_of_ne e with q|q
 ·exact vg.1 t.ap i j d a q c g
 ·exact λk=>vg.1 t.ap j i a d q c k g
theorem iX.kX(t:iX T h b Ls){i:Nat}{A:aQ}(a:Ls[i]? =some A):¬A b:=λq=>t.nb (bT a) q rfl
end
section
variable {sf sn sb x y z:Sl} {n u w:Nat} {K:HP}
end
theorem jl(l:dy):(bs l).size=l.length:=by simp[bs,ByteArray.size]
def aqm(x:aB)(r:Rb):Rb:={Rb.row x.au r with bF:=r.bF+(16+x.text.length),dY:=r.dY++[(x.num%2^64).toNat],texts:=r.texts++[x.text]}
def QE(r:Raw)(x:aB):Int×Raw:=if 4096<=r.b.rows then(3,r)else(if 4194304<r.b.bF+(16+x.text.length)then 3 else 0,r.up (aqm x))
section
variable {s:Sl} {vs:bq}
theorem Os.cut{n:Nat}{x:Int}{K:Sl->Prop}(o:Os T h s vs el)(d:n<=s.n)(e:x=n)(g:∀s',s'.n=n->Os T h s' (vs.take n) el->K s'):jo s 1 none (some x) none K:=by
 subst e;have c:s.n<=s.c:=by
  rcases o with⟨rfl,_⟩|⟨b,_,o⟩
  ·exact bX _
  ·obtain⟨_,_,_,_,q,_⟩:=o;exact q
 refine⟨AA _,aA,by simp;omega,aA,?_⟩
 simp only[pQ];rcases o with⟨rfl,rfl⟩|⟨b,t,a,u,cs,l,p,k,j⟩
 ·have:n=0:=by simpa[Sl.nil]using d
  subst this;exact g _ rfl (.inl ⟨by simp[kV,Sl.nil],aA⟩)
 ·refine g _ rfl (.inr ⟨b,t,?_,?_,cs,l,?_,?_,λi x=>?_⟩)
  ·simp only[kV];grind[bz]
  all_goals grind
end
section
variable {r:Raw} {m:fT} {v:Value}
theorem ax0{p:Addr}{K:HP}(H:ajv c0 p q h K Kp):cZ aE (.func (.func 247) #[] #[c9 c0,c9 p,c9 q]) [] h (λr a=>r=.tuple #[]/\K a) Kp:=by
 unfold cZ;exact cast aW H
theorem BV.uR{S c:Sl}{n w:Nat}(k:aN h b (cj f t S c n j w C).toArray ty):Cs h ⟨b,11,none⟩ [.bool f.cm.au,ah f.cm.num,.string (bs f.cm.text),Sl.v S]:=by
 intro i v a;rw[bz,ia k];rcases i with _|_|_|_|i
 ·simpa[cj]using a
 ·simpa[cj]using a
 ·simpa[cj]using a
 ·simpa[cj]using a
 ·simp at a
end
section
variable {h0:Hp}
theorem ayo{K:cK}(hk:K (wB k:Int) h):C4 k h K Kp:=by
 have e:=hk;unfold wB at e;apply ajB
 repeat' refine aG (λc=>?_) (λc=>?_)
 all_goals
  simp only[oh,VD]at*
  simp_all
theorem oM{s:Sl}{n m:dy}{K:Addr->HP}(p:eD D h s (bv n))(o:eD D h t (bv m))(z:D h.size)(q:∀a f,az h f->fH D D f ⟨some a,2,2⟩ [n,m]->K a f):aI h #[Sl.v s,Sl.v t] fQ K:=by
 refine aF λb w e1 g k _=>q _ w g ⟨[s,t],rfl,?_,λj u l c d=>?_⟩
 ·refine⟨⟨rfl,bX _,λx y=>⟨_,rfl,λi v e=>?_⟩⟩,λ_ a r=>by cases r;exact e1▸z⟩
  rw[bz,ia k];grind
 ·rcases j with _|_|j
  ·simp at c d;subst c d;exact p.gr g
  ·simp at c d;subst c d;exact o.gr g
  ·simp at c
theorem eD.mo{D':aQ}{s:Sl}{vs:bq}(v:eD D h s vs)(a:∀c,D c->D' c):eD D' h s vs:=v.fr (iV _ _) (λ_ _ _=>id) a
theorem BV.LL{s S:Sl}{n m w:Nat}(k:aN h b (cj f s t S n m w C).toArray ty):Cs h ⟨b,2,none⟩ [ah f.k,ah f.w,ah f.id,ah f.ix,Sl.v s]:=by
 intro i v a;rw[bz,ia k];rcases i with _|_|_|_|_|i
 ·simpa[cj]using a
 ·simpa[cj]using a
 ·simpa[cj]using a
 ·simpa[cj]using a
 ·simpa[cj]using a
 ·simp at a
end
def Wl(cs:cN):Prop:=∀{n:fh}{au:Bool}{k w id ix:Int}{h:Hp}{s:Sl}{K:ByteArray->Bool->Int->Int->Int->Int->Sl->HP}{Kp:PK},cH h s cs->cs.length<=70000->jG cs->
 (∀t h',az h h'->bM (Nw h) h' t cs->K n au k w id ix t h')->OV n au k w id ix s h K Kp
theorem aq2(IH:∀f∈cs,Wl f.cs):Wl cs:=by
  intro n au k w k' ix U s K Kp O hl d' hk;have hn:=O.n;refine aFO (aF λa1 hy e1 gy k1 _=>aF λa2 h e2 X k2 _=>?_);have G0:=ak gy X;have C:=k1.ai X;simp only[bz,cF];apply aj C rfl;refine aAK (λB x m=>∃(i:Nat)(G:List Sl),x=i/\i<=cs.length/\G.length=i/\az h m/\eW h.size 7 m B (List.zipWith aq.row (cs.take i) G) gO/\
      ∀(j:Nat)(f:aq)(u:Sl),cs[j]? =some f->G[j]? =some u->bM (λb=>h.size<=b/\¬B.at b) m u f.cs)
    (λB x _=>cs.length-x.toNat) ⟨0,[],rfl,ag,rfl,cQ _,tL _ _ _ _,aA⟩ ?_
  rintro B x m ⟨i,G,rfl,hi,z,y,A,hu⟩ N1 hN;have Z:=A.n;rw[m7,m8]at Z;refine cE (λc=>?_) λc=>?_
  · have V:cs[i]? =some cs[i]:=aA;have N:cs.take (i+1)=cs.take i++[cs[i]]:=aA;have p:cs[i]∈cs:=aA;generalize cs[i]=f at V N p;refine(O.gr G0).ix rfl V λa ha=>?_;obtain⟨u,c,f'⟩:=ha.row;refine gH (c.ai y) (aF λb5 hx eb gx kx _=>oO kx rfl λT J k5=>dO k5 ?_);have M:=bI gx J ag;have P:=(d'.get f p).cs;refine IH f p ((f'.gr y).gr M) P.1 P.2 λt h3 g3 ht=>aF λn' R e5 g5 a' _=>?_;have I:=ak (ak M g3) g5;have c':=lM ht g5;refine(A.ai I).ap (by have:=y.1;have:=I.1;omega) rfl (new:=[f.row t]) rfl (λr L=>by simp at L;subst L;rfl) (λr L=>by simp at L;subst L;exact row_one f t) (by simpa[aq.row,nU]using iJ a' rfl) ag ag λs' h6 Y Q o6=>aX ag ag (hN _ _ _ ⟨i+1,G++[t],aA,ag,by simp[z],?_,?_,?_⟩ ag)
    ·exact(((bg (ak y I):Tn No h R)).trans' Y λd hd l'=>by have:=((A.ai I).at hd).1;omega).ai
    ·rw[N,CB cy];exact o6
    · intro j g v W H;have h':=I.1
      by_cases e:j<i
      · rw[gN ag]at H;refine bM.fr Y (λb l=>l.1.2) (λb l=>⟨l.1.1,λq=>?_⟩) _ (lM (bM.lt _ (hu j g v W H)) I);rcases Q b q with q|q
        ·exact l.1.2 q
        omega
      · have e':=(de.1 H).1;simp only[iA,jC]at e';have:j=i:=ag;subst this;rw[fU ag,z]at H;simp only[yz,CA,mF]at H;subst H;rw[V]at W;cases W;refine bM.fr Y (λb l q=>by have:=(A.at q).2;have:=M.1;omega) (λb l=>⟨by have:=y.1;have:=M.1;omega,λq=>?_⟩) _ (bM.lt _ c')
        rcases Q b q with q|q
        ·have:=(A.at q).2;have:=M.1;omega
        omega
  · have:i=cs.length:=ag;subst this;rw[m5]at A;have fin:bM (λb=>h.size<=b/\b<m.size) m B cs:=by
      apply bM.lt _;rcases A.cases with⟨rfl,e⟩|⟨b,l,o⟩
      · have:cs=[]:=by
          cases cs with
          |nil=>rfl
          | cons f fs=>cases G with
            |nil=>simp at z
            |cons=>simp at e
        subst this;unfold bM;grind
      ·exact bM.sub (bM.of o z l λj f u hf b'=>bM.fr (iV _ _) (λ_ _=>id) (λb l=>l.1) _ (hu j f u hf b')) rfl rfl A.cap
    simp only[bz,cF,Nat.reduceAdd];refine dI (C.ai y) aA rfl λT J k3=>dO k3 (oO (J.aZ (k2.ai y) ag) rfl λh3 o3 k4=>dO k4 (hk B h3 ?_ ?_))
    ·exact bI (bI (ak G0 y) J ag) o3 ag
    · have f2:=bM.fr J.fr (λb l e=>ag) (λ_ q=>q) _ fin
      exact bM.fr o3.fr (λb l e=>ag) (λb l=>ag) _ f2
theorem abI:∀f:aq,Wl f.cs
 |.mk _ _ _ _ _ _ cs=>aq2 (cs:=cs) λf _=>abI f
open Classical in
theorem ar6{L:HP}{mk:Fr}{T:(Fr->HP)->HP}(apd:Wu L mk T)(P:Nat->HP){h:Hp}(h0:∃n,P n h)(step:∀n h,P n h->∀N:Fr->HP,(∀m h',m<n->P m h'->N mk h')->T N h):L h:=by
 let μ:Hp->Nat:=λh=>if hh:∃n,P n h then Classical.choose (least (λn=>P n h) hh)else 0
 have sp:∀h,(∃n,P n h)->P (μ h) h/\∀m,m<μ h->¬P m h:=by
  intro h hh
  have:μ h=Classical.choose (least (λn=>P n h) hh):=by simp only[μ];rw[dif_pos hh]
  rw[this];exact Classical.choose_spec (least (λn=>P n h) hh)
 refine apd (λh=>∃n,P n h) μ h0 λh hI N hN=>step (μ h) h (sp h hI).1 N λm h' hm hP=>hN h' ⟨m,hP⟩ ?_
 have:=(sp h' ⟨m,hP⟩).2 m
 grind
theorem awl(e:f.cs[0]? =some c):c.dep<f.dep:=by
 obtain⟨b,au,k,w,id,ix,cs⟩:=f;cases cs with
 |nil=>simp[aq.cs]at e
 |cons x a=>simp[aq.cs]at e;subst e;simp[aq.dep,Ue];omega
theorem SB:∀cs:List aq,(vU cs).length=cs.length
 |[]=>rfl
 |x::a=>by simp[vU,SB a]
theorem GB{s:Sl}{K:fB}{v:PK}(F:cH h s f.cs)(r:∀d,az h d->K f.lets d):Jj f.name f.au f.k f.w f.id f.ix s h K v:=by
  refine aFn (aF λa P Q t C _=>ar6 aAs (λn d=>∃(g:aq)(u:Sl),g.dep=n/\az h d/\aN d a (g.row u).toArray gO/\cH h u g.cs/\g.lets=f.lets) ⟨f.dep,f,s,rfl,t,C,F,rfl⟩ ?_);rintro n j ⟨g,u,rfl,G,k,o,el⟩ N hN;have j1:¬(g.k=20/\g.cs.length=1)->Ni K v (aJ a) j:=by
    intro q;have e:g.lets=(g.au&&decide (g.k≠18)):=by
      obtain⟨A,au,B,w,id,ix,cs⟩:=g;simp only[aq.lets,ny]at q ⊢;rw[aC (by rw[SB];exact q)]
      congr
    apply aB1;simp only[bz,cF];refine aj k rfl (aG (λc=>aj k rfl ?_) λc=>?_)
    ·have:=r j G;grind
    ·have:=r j G;grind
  simp only[bz,cF];have L:=o.n;refine aj k rfl (aG (λc=>?_) λc=>j1 ?_)
  · simp only[sm,reduceCtorEq]at c;refine aj k rfl (aG (λl=>?_) λl=>j1 ?_)
    · simp only[sm,reduceCtorEq]at l;have hl:g.cs.length=1:=ag;have e:g.cs[0]? =some g.cs[0]:=aA;generalize g.cs[0]=c0 at e;refine aj k rfl (o.ix rfl e λp E=>?_);obtain⟨y,J,m⟩:=E.row;refine gH (J.ai G) (oO k rfl λH z D=>hN c0.dep H (awl e) ⟨c0,y,rfl,bI G z ag,D,m,?_⟩);rw[<-el];obtain⟨A,au,B,w,id,ix,cs⟩:=g;simp only[aq.cs]at c hl e;cases cs with
      |nil=>simp at e
      | cons x M=>
        simp at e;subst e;simp only[aq.lets,ny];rw[aK ⟨c,by rw[SB];exact hl⟩]
        simp[vU]
    grind
  grind
theorem apu{c:fh}{w id:Int}{s:Sl}{K:fB}{t:PK}(j:lP h)(g:(aq.mk c au k w id ix cs).fN)(l:cH h s cs)
  (m:∀b i,az h i->(b=true↔bB (.mk c au k w id ix cs))->K b i):Jo c au k w id ix s h K t:=by
 refine aFU (aF λa u v d f _=>dO f (LQ (j.ai d) g (l.gr d) λe p n q r o=>m _ q (ak d r) ?_));simp[*]
theorem arL{c:fh}{w id:Int}{s:Sl}{K:fB}{t:PK}(j:lP h)(g:(aq.mk c au k w id ix cs).fN)(l:cH h s cs)
  (m:∀b i,az h i->(b=true↔bB (.mk c au k w id ix cs))->K b i):Jl c au k w id ix s h K t:=by
 refine aFD (aF λa u v d f _=>dO f (LQ (j.ai d) g (l.gr d) λe p n q r o=>m _ q (ak d r) ?_));simp[*]
theorem zw(h:fL k=true):k≠1/\k≠12/\k≠13/\k≠15/\k≠16/\k≠17/\k≠18/\k≠19/\k≠20:=by
 simp[fL]at h;omega
theorem amm(i:fL f.k=true)(r:Raw)(x:aB):f.tk r x=QE r x:=by
 obtain⟨h,l,j,g,e,d,c,b,a⟩:=zw i;rw[kG];unfold iI QE;rw[aC h,ay,aC g,aC e,aC d,aC c,aC b,aC a];unfold eU;split
 ·simp[cW]
 ·simp only[gB,fE]
  congr 1
theorem Zo(x:aB):16+x.text.length<=x.bx:=by rw[hO];omega
theorem qL.lt{M:aQ}{F:Value}{s u:Sl}{r0:Rb}(m:qL M h b F f s t u r0):qL (λc=>M c/\c<h.size) h b F f s t u r0:=by
 obtain⟨o,p,n,x,j,k,i,e,d,g,a,l⟩:=m;exact⟨o,p,n,x,⟨j,d.lt⟩,⟨k,g.lt⟩,⟨i,a.lt⟩,e,d,g,a,l⟩
theorem qL.cells{F:Value}{s u:Sl}{r0:Rb}(m:qL D h b F f s t u r0):F.cells=#[F]:=by
 obtain⟨i,j,g,x,c,d,a,e,_⟩:=m;rw[e];rfl
theorem abQ(b:bB f):f.cm.text.length<=4194304:=by
 by_cases a:f.small=true
 ·grind[sS,hO]
 ·have:f.cm=A6:=by unfold aq.cm;simp_all[aC,Dp]
  rw[this];exact eu _
def jr(f:aq):Prop:=∀v,f.fit v=true->dW f (λr=>f.tk r v) v
theorem ab1{s:Sl}{K:fB}{i:PK}(d:lP h)(a:f.fN)(e:cH h s f.cs)(g:∀b c,az h c->(b=true↔bB f)->K b c):Jl f.name f.au f.k f.w f.id f.ix s h K i:=by
 obtain⟨j,au,k,w,id,ix,cs⟩:=f;exact arL d a e g
theorem Ql{s:Sl}{K:fB}{i:PK}(d:lP h)(a:f.fN)(e:cH h s f.cs)(g:∀b c,az h c->(b=true↔bB f)->K b c):Jo f.name f.au f.k f.w f.id f.ix s h K i:=by
 obtain⟨j,au,k,w,id,ix,cs⟩:=f;exact apu d a e g
def CN(f:aq):Prop:=∀{h:Hp}{s:Sl}{K:cK}{Kp:PK},cH h s f.cs->(∀h',az h h'->K (f.wz:Int) h')->yW f.name f.au f.k f.w f.id f.ix s h K Kp
def CK(f:aq):Prop:=∀{h:Hp}{s:Sl}{K:Bool->Int->ByteArray->Sl->HP}{Kp:PK},cH h s f.cs->(∀t h',az h h'->aO (Nw h) h' t f.zv.items->K f.zv.au f.zv.num (bs f.zv.text) t h')->
 yV f.name f.au f.k f.w f.id f.ix s h K Kp
theorem FH(hl:f.lets=true):f.wz=16:=by rw[Am,hl];rfl
theorem JE(hl:f.lets=true):f.zv=v0:=by rw[aq.JG,hl];rfl
theorem alp(hl:f.lets=true):CN f:=by
 intro h s K l d e;refine ajW (aF λk j e1 a c _=>dO c (GB (d.gr a) λg i=>bS hl ?_));have:=e g (ak a i)
 rwa [FH hl]at this
theorem aks(hl:f.lets=true):CK f:=by
 intro h s K v k l;refine ajV (aF λu q e1 c j _=>aF λt p r a i _=>dO (j.ai a) (GB ((k.gr c).gr a) λo d=>bS hl (mC (i.ai d) rfl λm e g=>fk g ?_)));have:=l bN m (bI (ak c (ak a d)) e ag) (by rw[JE hl];exact pL _)
 rwa [JE hl]at this
theorem aze(J:CN f)(I:CK f)(v:bB f)(u:f.fN){h:Hp}{s:Sl}{K:Bool->Int->ByteArray->Sl->Int->HP}{O:PK}(L:lP h)(n:cH h s f.cs)
  (y:∀t p,az h p->aO (Nw h) p t f.cm.items->K f.cm.au f.cm.num (bs f.cm.text) t (if f.small then 0 else 3) p):X2 f.name f.au f.k f.w f.id f.ix s h K O:=by
 refine aFy (aF λX V e1 B m _=>aF λW U i g l _=>dO (m.ai g) ?_);have r:=ak B g;refine ab1 (L.ai r) u (n.gr r) λb T a M=>?_;obtain rfl:b=true:=M.2 v;have C:=ak r a;refine bu rfl (dO ((m.ai g).ai a) (J (n.gr C) λo d=>?_));have j:=ak C d;refine aG (λc=>?_) λc=>?_
 ·have c:=aS c;refine mC ((l.ai a).ai d) rfl λz F H=>fk H ?_;have e1:f.cm=A6:=by unfold aq.cm;rw[ay]
  have i:f.small=false:=by unfold aq.small;simp;omega
  have:=y bN z (bI j F ag) (by rw[e1];exact pL _)
  rw[e1,i]at this;exact this
 ·have c:=aS c;refine dO (((m.ai g).ai a).ai d) (I (n.gr j) λt z A E=>mC (((l.ai a).ai d).ai A) rfl λN x G=>fk G ?_);have e1:f.cm=f.zv:=by unfold aq.cm;rw[dV]
  have i:f.small=true:=by unfold aq.small;simp;omega
  have R:=a.1;have Q:=d.1;have:=y t N (bI (ak j A) x ag) (by
   rw[e1];exact aO.fr x.fr (λc(q:o.size<=c)_ e=>ag) (λc(q:o.size<=c)=>ag) _ E)
  grind
theorem ayF(C:CN f)(B:CK f)(n:bB f)(m:f.fN){h:Hp}{s:Sl}{K:ByteArray->Bool->Int->Int->Int->Int->Sl->Int->Int->Sl->Int->Bool->Int->ByteArray->Sl->Bool->HP}{M:PK}(E:lP h)(F:cH h s f.cs)
  (G:∀t l,az h l->aO (Nw h) l t f.cm.items->K f.name f.au f.k f.w f.id f.ix s 0 0 bN 0 f.cm.au f.cm.num (bs f.cm.text) t f.small l):X4 f.name f.au f.k f.w f.id f.ix s h K M:=by
 refine aFE (aF λY T e1 u r _=>aF λX j V g p _=>dO (r.ai g) ?_);have i:=ak u g;refine aze C B n m (E.ai i) (F.gr i) λt J d v=>aF λW S U L A _=>mC A rfl λI x z=>?_;have a:=bI L x ag;refine dO (((r.ai g).ai d).ai a) (fk z (rH.b ((p.ai d).ai a) rfl λH o y=>uV y ?_));have:=G t H (bI (ak i (ak d a)) o ag) (aO.fr o.fr (λc(q:j.size<=c)_ e=>ag) (λc(q:j.size<=c)=>ag) _ (dU v a))
 have e:((if f.small=true then(0:Int)else 3)==0)=f.small:=by cases f.small <;> rfl
 grind
mutual
def aB.lU:aB->Prop
 |.mk _ n _ xs=>(-9223372036854775808<=n/\n<=9223372036854775807)/\nY xs
def nY:List aB->Prop
 |[]=>True
 |x::xs=>x.lU/\nY xs
end
theorem aB.lU.num{v:aB}(h:v.lU): -9223372036854775808<=v.num/\v.num<=9223372036854775807:=by
 obtain⟨_,n,_,a⟩:=v;exact h.1
theorem alx{K:fB}(a:K (decide (3<=k/\k<=10)) h):XV k h K Kp:=by
 refine aFl (cE (λc=>?_) λc=>?_)
 ·grind
 ·grind
theorem apI{n:Int}{K:fB}(d:3<=k/\k<=10)(g: -9223372036854775808<=n/\n<=9223372036854775807)(a:K (kW k n) h):XU k n h K Kp:=by
 have e:k=3\/k=4\/k=5\/k=6\/k=7\/k=8\/k=9\/k=10:=ag;have fin:∀b,b=kW k n->K b h:=λb e=>e▸a;rcases e with rfl|rfl|rfl|rfl|rfl|rfl|rfl|rfl
 ·refine AQ (AP (bS rfl (bS rfl (aX bw bw (jw bw (aX bw bw (bu rfl (bS rfl (aX bw bw (jw bw (aX bw bw (show aV (n>= -128) _ _ from aG (λc=>(aX bw bw (jw bw (fin (decide (n<128)) ?_)))) λc=>fin _ ?_))))))))))))
  all_goals(simp only[sm,reduceCtorEq]at c;unfold kW;rw[ki];simp[dN];omega)
 ·refine AQ (AP (bS rfl (bS rfl (aX bw bw (jw bw (aX bw bw (bu rfl (bS rfl (aX bw bw (jw bw (aX bw bw (show aV (n>= -32768) _ _ from aG (λc=>(aX bw bw (jw bw (fin (decide (n<32768)) ?_)))) λc=>fin _ ?_))))))))))))
  all_goals(simp only[sm,reduceCtorEq]at c;unfold kW;rw[ki];simp[dN];omega)
 ·refine AQ (AP (bS rfl (bS rfl (aX bw bw (jw bw (aX bw bw (bu rfl (bS rfl (aX bw bw (jw bw (aX bw bw (show aV (n>= -2147483648) _ _ from aG (λc=>(aX bw bw (jw bw (fin (decide (n<2147483648)) ?_)))) λc=>fin _ ?_))))))))))))
  all_goals(simp only[sm,reduceCtorEq]at c;unfold kW;rw[ki];simp[dN];omega)
 ·refine AQ (AP (bS rfl (bS rfl (aX bw bw (jw bw (aX bw bw (bS rfl (fin _ ?_))))))));unfold kW;simp;omega
 ·refine AQ (AP (bS rfl (bu rfl (aX bw bw (jw bw (aX bw bw (bu rfl (bu rfl (aG (λc=>(jw bw (aX bw bw (fin (decide (n<256)) ?_)))) λc=>fin _ ?_)))))))))
  all_goals(simp only[sm,reduceCtorEq]at c;unfold kW;rw[ki];simp[dN];omega)
 ·refine AQ (AP (bS rfl (bu rfl (aX bw bw (jw bw (aX bw bw (bu rfl (bu rfl (aG (λc=>(jw bw (aX bw bw (fin (decide (n<65536)) ?_)))) λc=>fin _ ?_)))))))))
  all_goals(simp only[sm,reduceCtorEq]at c;unfold kW;rw[ki];simp[dN];omega)
 ·refine AQ (AP (bS rfl (bu rfl (aX bw bw (jw bw (aX bw bw (bu rfl (bu rfl (aG (λc=>(jw bw (aX bw bw (fin (decide (n<4294967296)) ?_)))) λc=>fin _ ?_)))))))))
  all_goals(simp only[sm,reduceCtorEq]at c;unfold kW;rw[ki];simp[dN];omega)
 ·refine AQ (AP (bS rfl (bu rfl (aX bw bw (jw bw (aX bw bw (bS rfl (fin _ ?_))))))));unfold kW;simp;omega
def ni(f:aq):Prop:=∀{D:aQ}{h:Hp}{x left:Nat}{v:aB}{s t:Sl}{K:fB}{Kp:PK},iW h->aN h x #[ah (left:Int)] rE->left<=4194304->bM D h s f.cs->aO D h t v.items->¬D x->v.lU->
 (∀b h',Tn (·=x) h h'->(b=true↔v.bx<=left/\f.fit v=true)->(b=true->aN h' x #[ah ((left-v.bx:Nat):Int)] rE)->K b h')->AR (bC x) f.name f.au f.k f.w f.id f.ix s v.au v.num (bs v.text) t h K Kp
theorem Cm(l m:dy):((bs l).toList==(bs m).toList)=decide (l=m):=by
 rw[ki,Ck,dR];constructor
 ·intro h;have:=tQ tx h;simpa only[JT]using this
 grind
theorem Mh(l:dy):((bs l).toList==(bs []).toList)=decide (l.length=0):=by
 rw[Cm,ki];simp
section
variable {x left:Nat} {v:aB} {s:Sl} {K:fB}
theorem adG(k:aN h x #[ah (left:Int)] rE)(hl:left<=4194304)(Y:bM D h s f.cs)(U:¬D x)(X:aO D h t v.items)
  (a:∀i,Tn (·=x) h i->¬(v.bx<=left/\f.fit v=true)->K false i)
  (gR:∀i,Tn (·=x) h i->aN i x #[ah ((left-v.bx:Nat):Int)] rE->v.bx<=left->f.fit v=true->K true i)
  (r:∀i u z,Tn (·=x) h i->aN i x #[ah ((left-16-v.text.length:Nat):Int)] rE->16+v.text.length<=left->v.items.length<=4096->v.au=false->aN i u (f.row s).toArray gO->
   aN i z #[.bool v.au,ah v.num,.string (bs v.text),Sl.v t] dh->h.size<=u->h.size<=z->WN K Kp (bC x) (aJ u) (aJ z) i):AR (bC x) f.name f.au f.k f.w f.id f.ix s v.au v.num (bs v.text) t h K Kp:=by
 refine aFx (aF λu h1 e1 M m _=>aF λz h2 e2 I g _=>?_);have hn:=X.n;have xl:=k.lt;have W:=hO v;have d:=(k.ai M).ai I;have m:=m.ai I;refine bO ?_;refine aj d rfl (aX ag ag (dI d aA rfl λh3 G d=>aj d rfl ?_));have C:=((bg (ak M I)).trans G.fr);have m:=G.aZ m ag;have g:=G.aZ g ag;have A:f.fit v=true->v.items.length<=4096:=λq=>by rw[eM]at q;exact Eh q
 refine aG (λc=>a _ C ?_) λc=>?_
 ·grind
 refine aj g rfl (aj d rfl (aG (λp=>a _ C ?_) λp=>?_))
 ·have p:=aS p;rw[jl]at p;omega
 have p:=aS p;rw[jl]at p;refine aj g rfl (aG (λy=>a _ C ?_) λy=>?_)
 ·grind
 have y:=aS y;apply aCi;refine bO ?_;refine aj d rfl (aj g rfl (aX bZ ag (dI d aA rfl λH F d=>aCh ?_)))
 have B:=C.trans F.fr;have m:=F.aZ m ag;have g:=F.aZ g ag;rw[jl]at d;have ex:(left:Int)-16-(v.text.length:Int)=((left-16-v.text.length:Nat):Int):=ag;have d:aN H x #[ah ((left-16-v.text.length:Nat):Int)] rE:=by simpa[ex]using d
 simp only[bz,cF];refine aj g rfl (aG (λO=>?_) λO=>r H u z B d ag ag O m g ag ag);have N:f.fit v=(decide (v.items.length<=4096)&&(decide (v.num=0)&&decide (v.text.length=0)&&decide (v.items.length=0)&&f.lets)):=by
  rw[eM];unfold fG;simp[*]
 have l:∀b,(b=true->v.num=0/\v.text.length=0/\v.items.length=0)->(b=false->¬(v.num=0/\v.text.length=0/\v.items.length=0))->Nq K Kp (aJ u) b H:=by
  intro b Q P;refine aCj (aG (λj=>?_) λj=>a _ B ?_)
  ·obtain⟨T,L,J⟩:=Q j;refine dO m (GB (bM.h _ (bM.fr B (λb q e=>U (e▸q)) (λ_ q=>q) _ Y)) λZ S=>?_)
   ·have d:=d.ai S;have R:=B.trans (bg S);have V:v.bx=16:=by
     have:v.items=[]:=jB.1 J;rw[W,this,L];rfl
    cases hl:f.lets with
    |true=>exact gR _ R (by rw[V];simpa[L]using d) ag (by rw[N];simp[T,L,J,hl])
    |false=>exact a _ R λq=>by rw[N,hl]at q;simp at q
  ·simp_all
 refine aj g rfl (cE (λj=>?_) λj=>?_)
 ·apply aj g rfl;rw[Mh];refine aiC (aG (λo=>?_) λo=>?_)
  ·have o:=aS o;simp only[bz,cF];refine aj g rfl (l _ (λq=>?_) λq=>?_)
   all_goals simp_all
  ·simp_all
 ·exact aiC (bu rfl (l _ (λq=>by cases q) λ_ q=>j q.1))
theorem adN(hf:1<=f.k/\f.k<=11):ni f:=by
 intro D h x left v s t K Kp hu k hl R g O E A;have r:=hO v;refine adG k hl R O g (λB y q=>A false B y (by simpa using q) (λe=>by cases e)) (λB y P M L=>A true B y (by simp[M,L]) λ_=>P) λF U a5 J z b1 b2 gR C l l4 l5=>aiA ?_
 have d:f.fit v=(decide (v.text.length=0)&&(decide (v.items.length=0)&&(if f.k=2 then decide (v.num=0\/v.num=1)else decide (3<=f.k/\f.k<=11)&&kW f.k v.num))):=by
  rw[eM];unfold fG;rw[aC (by simp[gR]),ay,ay,ay,ay,ay,ay]
  simp[b2]
 have T:Cs F ⟨U,2,none⟩ [ah f.k,ah f.w,ah f.id,ah f.ix,Sl.v s]:=by
  intro i v g;rw[bz,ia C];rcases i with _|_|_|_|_|i
  ·simpa[aq.row,nU]using g
  ·simpa[aq.row,nU]using g
  ·simpa[aq.row,nU]using g
  ·simpa[aq.row,nU]using g
  ·simpa[aq.row,nU]using g
  ·simp at g
 simp only[bz,cF];refine nF T (aF λa7 h4 e7 H j _=>pM j rfl λu N j=>aj j rfl ?_);have G:=bI H N ag;have l:=l.ai G;have z:=z.ai G;have I:=J.trans (bg G);refine bu cy (I1 (bu cy (bu cy (bu cy (bu cy (WM (bu cy (bu cy (bu cy (aiD (bu cy (aCg ?_))))))))))));simp only[bz,cF];have fin:∀b,b=f.fit v->K b u:=λb e=>A b u I ⟨λq=>?_,λq=>by rw[e];exact q.2⟩ λq=>?_
 rotate_left
 ·have q:=e▸q;rw[d]at q;simp only[dw,dR]at q;have:v.items=[]:=jB.1 q.2.1;rw[this]at r;exact⟨by rw[r];simp[bL];omega,by rw[<-e];assumption⟩
 ·have q:=e▸q;rw[d]at q;simp only[dw,dR]at q;have:v.items=[]:=jB.1 q.2.1;rw[this]at r;have S:left-v.bx=left-16-v.text.length:=by rw[r];simp[bL];omega
  rw[S];exact z
 apply aj l rfl;rw[Mh];refine aG (λc=>fin _ ?_) λc=>?_
 ·have c:=aS c;rw[d];simp[c]
 have c:=aS c;refine aj l rfl (aG (λp=>fin _ ?_) λp=>aCf ?_)
 ·have p:=aS p;have:=g.n;rw[d];simp;intro _ q;rw[q]at this;simp at this;omega
 have p:=aS p;have Q:v.items.length=0:=by have:=g.n;omega
 have d:f.fit v=(if f.k=2 then decide (v.num=0\/v.num=1)else decide (3<=f.k/\f.k<=11)&&kW f.k v.num):=by
  rw[d];simp[c,Q]
 simp only[bz,cF];refine aj j rfl (cE (λm=>?_) λm=>?_)
 ·rw[aK m]at d;refine aj l rfl (aG (λa=>fin _ ?_) λa=>aj l rfl (fin _ ?_))
  ·have a:=aS a;rw[d];simp[a]
  ·have a:=aS a;rw[d,ki];simp[a]
 ·rw[aC m]at d;refine aj j rfl (aG (λa=>fin _ ?_) λa=>aCe ?_)
  ·have a:=aS a;rw[d,a];have:=E.num;simp[kW];omega
  have a:=aS a;refine aj j rfl (alx (aG (λo=>?_) λo=>fin _ ?_))
  ·have o:=aS o;simp only[bz,cF];refine aj j rfl (aj l rfl (apI o E.num (fin _ ?_)));simp_all
  ·have o:=aS o;rw[d];have:decide (3<=f.k/\f.k<=11)=false:=by simp;omega
   rw[this];simp
end
theorem auS(y:ni f){D E:aQ}{h:Hp}{v:aB}{s t:Sl}{K:fB}{Kp:PK}(o:iW h)(p:bM D h s f.cs)(n:aO E h t v.items)(r:v.lU)
  (u:∀b e,az h e->(b=true↔v.bx<=4194304/\f.fit v=true)->K b e):X3 f.name f.au f.k f.w f.id f.ix s v.au v.num (bs v.text) t h K Kp:=by
 refine aFC (aF λQ L e1 g m _=>aF λP J N d l _=>aF λO B M a j _=>dO ((m.ai d).ai a) (fk (l.ai a) ?_));have G:=ak g (ak d a);refine y (D:=λc=>(D c\/E c)/\c<h.size) (o.ai G) j (bX _) ?_ ?_ (λq=>ag) r λb A i z _=>u b A (((bg G:Tn No h B)).trans' i λc q C=>ag).ai z
 ·exact bM.fr (bg G) (λ_ _=>id) (λc q=>⟨.inl q.1,q.2⟩) _ (bM.lt _ p)
 ·exact aO.fr (bg G) (λ_ _ _=>id) (λc q=>⟨.inr q.1,q.2⟩) _ (aO.lt _ n)
theorem aHg(A:ni f)(j:bB f)(i:f.fN){D E:aQ}{h:Hp}{v:aB}{s t:Sl}{K:cK}{Kp:PK}(u:lP h)(r:iW h)(m:bM D h s f.cs)(p:aO E h t v.items)(y:v.lU)
  (z:∀n,az h n->K (if v.bx<=4194304/\f.fit v=true then 0 else 7) n):X7 f.name f.au f.k f.w f.id f.ix s v.au v.num (bs v.text) t h K Kp:=by
 refine aFM (aF λN J e1 F l _=>aF λM I L g o _=>dO (l.ai g) ?_);have G:=ak F g;refine ab1 (u.ai G) i ((bM.h _ m).gr G) λb H e a=>?_;obtain rfl:b=true:=a.2 j;refine bu rfl (dO ((l.ai g).ai e) (fk (o.ai e) ?_));have d:=ak G e;refine auS A (r.ai d) (lM m d) (dU p d) y λb B C a=>?_;have:=z B (ak d C);refine aG (λc=>?_) λc=>?_
 ·have c:=aS c;grind
 ·grind
def Cb:Code:=Tryz.f25.body.getD .skip
def axC:Code:=Tryz.f41.body.getD .skip
def abu:wQ:=[]
def Zi:List Value:=[ah 0]
def acz(K:cK):Value->HP:=λv h=>rI v λr0=>K r0 h
theorem aHk{c1:Addr}{K:HP}(H:Ld h c0 mI λt2=>If (t2 !=0) (Ld h c1 id λt4=>cZ aE t4 [] h (λr h1=>r=(.tuple #[])/\(K h1)) (λ_ _=>False)) (K h)):∀w,aU w=h->oy aE 41 [c9 c0,c9 c1] .returning w λu2 w'=>u2=.returning/\cG w w'/\K (aU w'):=by
 intro w hw;have:=awn (bY:=[]) (D:=kT aE []) (zZ _) (c:=axC) (caps:=[.pointer (some c0),.pointer (some c1)]) (zs:=[]) (Kv:=λ_ h=>K h)
  Tryz.func41 aW aW (cast aW H) w hw
 apply this.mono;rintro e u2 w' ⟨hv,h1,h2,v,h3⟩;refine⟨hv,h1,h2,?_⟩;simp only[gQ,A8]at h3;exact h3.2
def ahk(b:Option Addr)(a3 a4 a5:Addr)(K:cK)(h:Hp):Prop:=
  NN b λzC=>
  Ld h (zC.add 7) id λt15=>
  bP h a3 λane anb ana am9=>
  fD aE t15 "colonnade/build.take" [(.agg #[(.bool ane),(ah anb),(.string ana),(Sl.v am9)])] h (λr h1=>∃t17:Int,r=(ah t17)/\(
    St h1 a4 (ah t17) λh2=>
    ∀w,aU w=h2->oy aE 41 [c9 a4,c9 a5] .returning w λu' w'=>u'=.returning/\cG w w'/\Ld (aU w') a4 mI λr0=>K r0 (aU w'))) (λ_ _=>False)
abbrev TV(b:Option Addr)(sP:Bool)(sO:Int)(sN:fh)(sM:Sl)(a3 a4 a5 p7:Addr)(t9 t10:Value):Fr:=
 [some (.pointer b),some (.agg #[(.bool sP),(ah sO),(.string sN),(Sl.v sM)]),none,some (c9 a3),some (c9 a4),some (c9 a5),some (.pointer b),some (c9 p7),some (c9 (p7.add 7)),some t9,some t10,none,none,none,none,none,none,none]
abbrev O8(b:Option Addr)(sP:Bool)(sO:Int)(sN:fh)(sM:Sl)(a3 a4 a5 p7:Addr)(t9 t10:Value)(K:cK)(h:Hp):Prop:=
 ∃(caps:bq),Nat.blt 11 (TV b sP sO sN sM a3 a4 a5 p7 t9 t10).length=true/\iL (ev (TV b sP sO sN sM a3 a4 a5 p7 t9 t10)) [.tmp 4,.tmp 5]=some caps/\
  fZ aE [] (kT aE abu) none (sub [1,1,1] Cb) (HO aE 41 caps Tryz.f25.results.toList Zi (acz K)) (λ_ _=>False) ((TV b sP sO sN sM a3 a4 a5 p7 t9 t10).set 11 (some (.func (.func 41) #[] caps.toArray))) h
theorem O8.of{b:Option Addr}{sP:Bool}{sO:Int}{sN:fh}{sM:Sl}{a3 a4 a5 p7:Addr}{t9 t10:Value}{K:cK}(H:ahk b a3 a4 a5 K h):O8 b sP sO sN sM a3 a4 a5 p7 t9 t10 K h:=
 ⟨[c9 a4,c9 a5],by kernel_rfl,by kernel_rfl,cast aW H⟩
theorem aFL{b:Option Addr}{sP:Bool}{sO:Int}{sN:fh}{sM:Sl}{K:cK}(H:iP h sP sO sN sM λa3 h1=>
    aI h1 #[(ah 0)] MN λa4 h2=>
    NN b λp7=>
    Ld h2 (p7.add 7) id λt9=>
    fD aE t9 "colonnade/build.mark" [] h2 (λr h3=>∃t10:Value,r=t10/\(
      aI h3 #[(.nilFunc)] Y4 λa5 h4=>
      NA t10 <|
      St h4 a5 t10 λh5=>
      O8 b sP sO sN sM a3 a4 a5 p7 t9 t10 K h5)) (λ_ _=>False)):X6 b sP sO sN sM h K Kp:=by
  have:=ava (bY:=[]) (D:=kT aE abu) (zZ _) (g:=41) (pre:=[sub [0] Cb,sub [1,0] Cb]) (c2:=sub [1,1,1] Cb) (id:=2) (o1:=zF (sub [1,1] Cb) 0) (o2:=zF (sub [1,1] Cb) 1) (tc:=11) (HS:=#[.tmp 4,.tmp 5]) (call:=Ut (zF (sub [1,1] Cb) 1))
    (zs:=Zi) (args:=[(.pointer b),(.agg #[(.bool sP),(.int .i64 sO),(.string sN),(Sl.v sM)])]) (h:=h) (Kv:=acz K) (Kp:=Kp) Tryz.func25 aW aW aW aW aW aW aW aW aW aW aW aW (cast aW H)
  exact cast aW this
def hB(x c:Int):Int:=IntKind.u64.wrap (gJ .xor .u64 x (IntKind.u64.wrap c)*1099511628211)
def hN:Nat->Int->Int->Int
 |0,x,_=>x
 |k+1,x,n=>hN k (hB x (IntKind.u8.wrap n)) (Int.fdiv n (2^8))
def hT(x:Int)(l:dy):Int:=l.foldl (λx b=>hB x (b.toNat:Int)) x
mutual
def aB.nC:aB->Int->Int
 |.mk au num text items,x=>uN items (hN 8 (hT (hN 8 (hN 8 (hB x (if au then 1 else 0)) (IntKind.u64.wrap num)) (IntKind.u64.wrap (text.length:Int))) text) (IntKind.u64.wrap (items.length:Int)))
def uN:List aB->Int->Int
 |[],x=>x
 |v::vs,x=>uN vs (v.nC x)
end
def aB.hash(v:aB):Int:=v.nC 14695981039346656037
def hl(aH:aR)(n:Nat)(u:Int):List Nat:=(List.range n).filter λi=>decide ((aH.getD i v0).hash=u)
structure nM(es:List MapEntry)(P:Int->Prop)(S:Int->Sl):Prop where
 a:∀e∈es,∃u:Int,e.key=.int .u64 u/\e.val=Sl.v (S u)/\P u
 b:∀u,P u->∃e∈es,e.key=.int .u64 u
 c:es.Pairwise λx y=>x.key≠y.key
theorem Qj{m:Nat}{g:Hp}{s:Sl}{rows:List (List Value)}(o:eW m i h s rows el)(f:Tn D h g)(k:∀c,s.at c->¬D c):eW m i g s rows el:=by
 rcases o.cases with⟨j,e⟩|⟨b,l,r⟩
 ·rw[j,e];exact tL _ _ _ _
 ·have d:=r.fr f (k b ⟨_,r.a,rfl⟩);exact⟨d.len,d.n,.inr ⟨b,l,d.lt,d.own⟩⟩
structure gm(X:aQ)(h:Hp)(sv:Sl)(mr:Nat)(aH:aR)(n:Nat):Prop where
 ex:∃(Xi:aQ)(ts:List Sl)(S:Int->Sl)(bk:Int->Nat),((∀c,Xi c->X c/\¬sv.at c/\c≠mr/\∀u,hl aH n u≠[]->c≠bk u)/\(∀c,sv.at c->X c/\c≠mr/\∀u,hl aH n u≠[]->c≠bk u)/\X mr/\
  (∀u,hl aH n u≠[]->X (bk u)/\bk u≠mr/\gZ h (S u) (bk u) (ints (hl aH n u)) Y6)/\∀u v,hl aH n u≠[]->hl aH n v≠[]->u≠v->bk u≠bk v)/\
  (ts.length=aH.length/\eW 0 4 h sv (List.zipWith aB.row aH ts) dh/\∀(j:Nat)(v:aB)(t:Sl),aH[j]? =some v->ts[j]? =some t->aO Xi h t v.items)/\∃es c,h[mr]? =some (.map es c)/\nM es.toList (λu=>hl aH n u≠[]) S
theorem gm.fr{X S:aQ}{h':Hp}{sv:Sl}{m n:Nat}{aH:aR}(d:gm X h sv m aH n)(t:Tn S h h')(z:∀c,X c->c<h.size->¬S c):gm X h' sv m aH n:=by
 obtain⟨J,s,K,r,⟨l,i,g,A,y⟩,⟨C,o,B⟩,H,c,e1,I⟩:=d;have p:=(jD.1 e1).1;refine⟨J,s,K,r,⟨l,i,g,λu D=>?_,y⟩,⟨C,?_,λj v w G F=>aO.fr t (λc b hl=>z c (l c b).1 hl) (λ_ q=>q) _ (B j v w G F)⟩,H,c,(t.2 m p (z m g p)).trans e1,I⟩
 ·obtain⟨f,x,e⟩:=A u D;have:r u<h.size:=by obtain⟨_,_,cs,k,_⟩:=e;exact k.lt
  exact⟨f,x,e.fr t (z _ f this)⟩
 ·exact Qj o t λc b=>z c (i c b).1 (by obtain⟨a,E,rfl⟩:=b;exact(o.at ⟨a,E,rfl⟩).2)
theorem gm.mono{sv:Sl}{m n:Nat}{j:aR}(d:gm D h sv m j n)(k:∀c,D c->E c):gm E h sv m j n:=by
 obtain⟨s,l,t,r,⟨g,f,q,b,o⟩,p,e⟩:=d;exact⟨s,l,t,r,⟨λc a=>⟨k c (g c a).1,(g c a).2⟩,λc a=>⟨k c (f c a).1,(f c a).2⟩,k _ q,λu i=>⟨k _ (b u i).1,(b u i).2⟩,o⟩,p,e⟩
def bK(k:Int):TypeId:=if k=1 then pW else if k=12\/k=13 then pV else if k=15 then pU else if k=16 then oU else if k=17 then oT else if k=18 then qC else if k=19 then qB else if k=20 then pT else pS
def iU(k:Int):TypeId:=if k=1 then VS else if k=12\/k=13 then VR else if k=15 then VQ else if k=16 then VP else if k=17 then VO else if k=18 then VN else if k=19 then VM else if k=20 then VL else VJ
def cC(k:Int)(r:Rb):List (List Value×TypeId):=
 if k=12\/k=13 then[(ints r.ends,Y6),(bv r.all,Y8)]else if k=15\/k=19\/k=20 then[(ints r.ends,Y6)]else if k=18 then[(bv r.all,Y8),(ints r.ends,Y6)]else if k=1\/k=16\/k=17 then[]else[(mh r.dY,pX),(strs r.texts,rF)]
def nW(k:Int)(kv:bq)(ks:Sl)(sp:bq):List Value:=if k=15\/k=16\/k=19\/k=20 then kv++sp else if k=17\/k=18 then Sl.v ks::sp else sp
abbrev iK(k:Int)(SS:List Sl)(kv:bq)(ks:Sl)(sp:bq):List Value:=SS.map Sl.v++nW k kv ks sp
structure dP where
 b:Nat
 sf:Sl
 sn:Sl
 sb:Sl
 ks:Sl
 SS:List Sl
 ST:List (Nat->Prop)
 KT:List (Nat->Prop)
 kv:List Value
 sp:List Value
 T0:Nat->Prop
 R:Nat->Prop
 X:Nat->Prop
variable {g:dP}
def dP.Ls(g:dP):List (Nat->Prop):=g.T0::g.R::g.X::(g.ST++g.KT)
abbrev cO:=(Nat->Prop)->Hp->Value->Raw->Option Mem->Prop
def lE(r:Rb):aB:=r.aH.getLast?.getD A6
def iO(k:Int)(X:aQ)(h:Hp)(sp:bq)(r:Rb):Prop:=
 if k=19 then∃sv mr,sp=[Sl.v sv,.map (some mr)]/\gm X h sv mr r.aH r.aH.length else if k=20 then∃t,sp=[.bool (lE r).au,ah (lE r).num,.string (bs (lE r).text),Sl.v t]/\aO X h t (lE r).items else sp=[]
def AI(R:aQ)(h:Hp)(caps:bq)(cs:List (Array Value)):Prop:=
 caps.length=cs.length/\∀(i:Nat)c,cs[i]? =some c->∃a t,caps[i]? =some (bH a)/\R a/\aN h a c t
def CX(R:aQ)(h:Hp)(KF:Value)(Fs:bq):Prop:=
 ∃a t s,KF=.func (.func 214) #[] #[bH a]/\R a/\aN h a #[Sl.v s] t/\eD R h s Fs
def pI(n:Nat):Array Value:=#[ah (n:Int)]
def jv(k:Int)(b:Nat)(F0 KF:Value)(mm:Mem):List (Array Value):=
 let m:Array Value:=#[bH b]
 if k=12\/k=13 then[#[F0],m,pI mm.r.b.ends.length,pI mm.r.b.all.length]
 else if k=15 then[#[F0],#[KF],m,pI mm.r.b.ends.length]
 else if k=16\/k=17 then[#[F0],#[KF]]
 else if k=18 then[#[F0],#[KF],m,pI mm.r.b.all.length]
 else if k=19 then[#[F0],#[KF],m,pI mm.r.b.ends.length,pI mm.r.b.aH.length]
 else if k=20 then[#[F0],#[KF],m,pI mm.r.b.ends.length,mm.sp.toArray,pI (mm.r.b.ends.getLastD 0)]
 else[#[F0],m,pI mm.r.b.dY.length]
def eN(k:Int)(r m:Rb):Prop:=
 if k=12\/k=13 then m.ends <+: r.ends/\m.all <+: r.all else if k=15 then m.ends <+: r.ends else if k=19 then m.ends <+: r.ends/\m.aH <+: r.aH/\r.aH.length<=5000/\∀v∈r.aH,v.bx<=4194304
 else if k=18 then m.ends <+: r.ends/\m.all <+: r.all/\m.ends.length=m.all.length
 else if k=1\/k=16\/k=17 then True else if k=20 then m.ends.length<=r.ends.length/\m.ends.dropLast <+: r.ends/\m.ends.length<=4096 else m.dY <+: r.dY/\m.texts <+: r.texts/\m.dY.length=m.texts.length
structure IW(f:aq)(bk:FuncId)(h:Hp)(r:Raw)(mm:Mem)(g:dP):Prop where
 c:∃F0 KF,JC g.R g.T0 h g.b f g.sf g.sn g.sb F0 mm.s mm.r.b/\(f.k=15\/f.k=16\/f.k=19\/f.k=20->∃m0,mm.ks=[m0]/\KF=m0.F)/\(f.k=17\/f.k=18->CX g.R h KF (mm.ks.map Mem.F))/\
  (f.k=1->mm.F=F0)/\(f.k≠1->∃caps:List Value,mm.F=.func (.func bk) #[] caps.toArray/\AI g.R h caps (jv f.k g.b F0 KF mm))
 pr:eN f.k r.b mm.r.b
 ks:mm.r.kids=mm.ks.map Mem.r/\mm.ks.length=f.cs.length
 sp:f.k=20->iO 20 g.X h mm.sp mm.r.b
def gL(k:Int):FuncId:=if k=12\/k=13 then 195 else if k=15 then 200 else if k=16 then 205 else if k=17 then 212 else if k=18 then 219 else if k=19 then 227 else if k=20 then 241 else 247
structure bW(f:aq)(KM:List cO)(T:aQ)(h:Hp)(r:Raw)(m:fT)(g:dP):Prop where
 t:iX T h g.b g.Ls
 B:mN g.T0 h g.b (iU f.k) f g.sf g.sn g.sb r.b (iK f.k g.SS g.kv g.ks g.sp)
 ls:g.SS.length=(cC f.k r.b).length/\g.ST.length=(cC f.k r.b).length
 sl:∀(i:Nat)s A x,g.SS[i]? =some s->g.ST[i]? =some A->(cC f.k r.b)[i]? =some x->Os A h s x.1 x.2
 lk:g.kv.length=KM.length/\g.KT.length=KM.length/\r.kids.length=KM.length
 aM:∀(j:Nat)(M:cO)A w,KM[j]? =some M->g.KT[j]? =some A->g.kv[j]? =some w->M A h w (r.aM j) (m.bind λmm=>mm.ks[j]?)
 no:aO g.R h g.sn f.cm.items
 kl:f.k=17\/f.k=18->eD g.R h g.ks g.kv
 sp:iO f.k g.X h g.sp r.b
 mm:∀mm,m=some mm->IW f (gL f.k) h r mm g
def cV(f:aq)(KM:List cO):cO:=λT h v r m=>∃g:dP,v=.iface (bK f.k) (bH g.b)/\bW f KM T h r m g
def gG(M:cO):Prop:=∀{T S:aQ}{h h':Hp}{v:Value}{r:Raw}{m:fT},M T h v r m->Tn S h h'->(∀c,T c->c<h.size->¬S c)->M T h' v r m
section
variable {KM:List cO} {R X S:aQ} {h':Hp} {r:Raw} {m:fT}
theorem iO.fr{sp:bq}{B:Rb}(s:iO k X h sp B)(t:Tn S h h')(G:∀c,X c->c<h.size->¬S c):iO k X h' sp B:=by
 unfold iO at s ⊢;split
 ·rename_i q
  rw[aK q]at s;obtain⟨u,w,e,v⟩:=s;exact⟨u,w,e,v.fr t G⟩
 ·rename_i q
  rw[aC q]at s;split
  ·rename_i a
   rw[aK a]at s;obtain⟨u,e,v⟩:=s;exact⟨u,e,aO.fr t G (λ_ z=>z) _ v⟩
  grind
theorem iO.eq{sp:bq}{r a:Rb}(s:iO k X h sp r)(e:a.aH=r.aH):iO k X h sp a:=by
 unfold iO lE at *;simp[*]
theorem iO.mono{sp:bq}{r:Rb}(s:iO k X h sp r)(j:∀c,X c->D c):iO k D h sp r:=by
 unfold iO at s ⊢;split
 ·rename_i q
  rw[aK q]at s;obtain⟨u,w,e,v⟩:=s;exact⟨u,w,e,v.mono j⟩
 ·rename_i q
  rw[aC q]at s;split
  ·rename_i a
   rw[aK a]at s;grind[aO.mo]
  grind
theorem AI.fr{caps:bq}{cs:List (Array Value)}(c:AI R h caps cs)(t:Tn S h h')(z:∀c,R c->c<h.size->¬S c):AI R h' caps cs:=
 ⟨c.1,λi x d=>by obtain⟨a,y,e,b,k⟩:=c.2 i x d;exact⟨a,y,e,b,t.aZ k (z a b k.lt)⟩⟩
theorem CX.fr{KF:Value}(c:CX R h KF C)(t:Tn S h h')(B:∀c,R c->c<h.size->¬S c):CX R h' KF C:=by
 obtain⟨a,y,s,e,b,k,v⟩:=c;exact⟨a,y,s,e,b,t.aZ k (B a b k.lt),v.fr t B λ_ z=>z⟩
theorem dP.gC(g:dP):g.Ls[0]? =some g.T0:=rfl
theorem dP.fM(g:dP):g.Ls[1]? =some g.R:=rfl
theorem dP.iR(g:dP):g.Ls[2]? =some g.X:=rfl
theorem dP.iw(g:dP){i:Nat}{A:aQ}(b:g.ST[i]? =some A):g.Ls[3+i]? =some A:=by
 unfold dP.Ls;grind
theorem dP.fF(g:dP){j:Nat}{A:aQ}(a:g.KT[j]? =some A):g.Ls[3+g.ST.length+j]? =some A:=by
 unfold dP.Ls;grind
theorem IW.fr{B:FuncId}{mm:Mem}(M:IW f B h r mm g)(t:Tn S h h')(z:∀c,g.R c->c<h.size->¬S c)(H:∀c,g.T0 c->c<h.size->¬S c)(G:∀c,g.X c->c<h.size->¬S c):IW f B h' r mm g:=by
 obtain⟨⟨n,KF,l,k,j,i,d⟩,b,ks,sp⟩:=M;exact⟨⟨n,KF,l.fr t z H,k,λq=>(j q).fr t z,i,λq=>by obtain⟨a,e,mc⟩:=d q;exact⟨a,e,mc.fr t z⟩⟩,b,ks,λq=>(sp q).fr t G⟩
theorem bW.fr(G:bW f KM T h r m g)(KF:∀(j:Nat)M,KM[j]? =some M->gG M)(t:Tn S h h')(H:∀c,T c->c<h.size->¬S c):bW f KM T h' r m g:=by
 have q:∀{A:aQ}(i:Nat),g.Ls[i]? =some A->∀c,A c->c<h.size->¬S c:=λi o c k hl=>H c (G.t.sub _ (bT o) c k).1 hl;exact⟨G.t.grow t.1,G.B.fr t (H g.b G.t.tb (G.t.lt _ G.t.tb)) (q 0 g.gC),G.ls,λi s A x d a l=>(G.sl i s A x d a l).fr t (q _ (g.iw a)),G.lk,
  λj M A w d a l=>KF j M d (G.aM j M A w d a l) t λc k hl=>q _ (g.fF a) c k hl,aO.fr t (q 1 g.fM) (λ_ z=>z) _ G.no,λz=>(G.kl z).fr t (q 1 g.fM) λ_ z=>z,G.sp.fr t (q 2 g.iR),λn e=>(G.mm n e).fr t (q 1 g.fM) (q 0 g.gC) (q 2 g.iR)⟩
theorem cV.fr{v:Value}(KF:∀(j:Nat)M,KM[j]? =some M->gG M):gG (cV f KM):=by
 rintro T S h h' v r m ⟨g,e,G⟩ t a;exact⟨g,e,G.fr KF t a⟩
theorem bW.mono(G:bW f KM T h r m g)(hT:∀c,T c->D c)(hl:∀c,D c->c<h.size):bW f KM D h r m g:=
 ⟨G.t.mono hT hl,G.B,G.ls,G.sl,G.lk,G.aM,G.no,G.kl,G.sp,G.mm⟩
end
theorem abV{α:Type}{l:List α}{a:α}{F:α->α}(h:l[i]? =some a):l.modify i F=l.set i (F a):=by
 apply qz;grind
theorem dP.aap(g:dP){i:Nat}{B:aQ}(a:i<g.ST.length):g.Ls.set (3+i) B={g with ST:=g.ST.set i B}.Ls:=by
 have e:3+i=i+1+1+1:=ag;unfold dP.Ls;simp[*]
theorem dP.aaq(g:dP){j:Nat}{B:aQ}:g.Ls.set (3+g.ST.length+j) B={g with KT:=g.KT.set j B}.Ls:=by
 have e:3+g.ST.length+j=g.ST.length+j+1+1+1:=ag;unfold dP.Ls;simp[*]
section
variable {KM:List cO} {S:aQ} {h':Hp} {r:Raw} {m:fT}
theorem bW.av(G:bW f KM T h r m g){i j:Nat}{A B:aQ}(l:g.Ls[i]? =some A)(o:∀c,S c->c<h.size->c=g.b\/A c)(a:g.Ls[j]? =some B)(ne:i≠j):∀c,B c->c<h.size->¬S c:=
 λc d hl k=>(o c k hl).elim (λe=>G.t.kX a (e▸d)) λn=>G.t.ne l a ne c n d
theorem bW.kA(G:bW f KM T h r m g){i:Nat}{A:aQ}(a:g.Ls[i]? =some A){c:Nat}(b:A c):T c:=(G.t.sub _ (bT a) c b).1
theorem bW.bl(G:bW f KM T h r m g):g.b<h.size:=G.t.lt _ G.t.tb
theorem apk{K:cK}(G:bW f KM T h r m g)(KF:∀(j:Nat)M,KM[j]? =some M->gG M)(v:4096<=r.b.rows->K 3 h)
  (J:r.b.rows<4096->∀a h',Tn (λc=>c=g.b\/g.T0 c) h h'->bW f KM (Tr T h h') h' (r.up (Rb.row au)) m {g with sb:=a,T0:=Tr g.T0 h h'}->K 0 h'):oZ (bC g.b) au h K Kp:=by
 refine apl G.B (λc q=>G.t.l (by simp[dP.Ls]) q) v λu a h' t p q=>?_
 have N:∀c,(c=g.b\/g.T0 c)->c<h.size->c=g.b\/g.T0 c:=λc q _=>q;have av:∀{j:Nat}{B:aQ},g.Ls[j]? =some B->0≠j->∀c,B c->c<h.size->¬(c=g.b\/g.T0 c):=λL ne=>G.av g.gC N L ne;refine J u a h' t ⟨G.t.step 0 t.1,⟨p.k,p.o.tr,λq=>?_,p.len,p.nl,p.rl⟩,G.ls,λi s A x C d D=>(G.sl i s A x C d D).fr t (av (g.iw d) ag),G.lk,
  λj M A w C d D=>KF j M C (G.aM j M A w C d D) t (av (g.fF d) ag),aO.fr t (av g.fM ag) (λ_ z=>z) _ G.no,λz=>(G.kl z).fr t (av g.fM ag) λ_ z=>z,G.sp.fr t (av g.iR ag),λI e=>?_⟩
 ·rcases q with q|q
  ·exact G.t.kX g.gC q
  ·have q:h.size<=g.b/\g.b<h'.size:=q;have:=G.bl;omega
 ·obtain⟨⟨U,F,n,R,Q,P,O⟩,H,ks,sp⟩:=G.mm I e;have E:=av g.fM ag;exact⟨⟨U,F,⟨n.bm.fr t E,(q n.o).tr,n.len,n.nl,n.rl⟩,R,λz=>(Q z).fr t E,P,λz=>by obtain⟨y,e,mc⟩:=O z;exact⟨y,e,mc.fr t E⟩⟩,H,ks,λz=>(sp z).fr t (av g.iR ag)⟩
theorem bW.base{a:Rb}(G:bW f KM T h r m g)(KF:∀(j:Nat)M,KM[j]? =some M->gG M)(o:eJ g.b h h')(C:mN g.T0 h' g.b (iU f.k) f g.sf g.sn g.sb a (iK f.k g.SS g.kv g.ks g.sp))
  (e1:cC f.k a=cC f.k r.b) (B:a.aH=r.b.aH) (y:∀x,eN f.k r.b x->eN f.k a x):bW f KM T h' (.mk a r.kids) m g:=by
 have q:∀{A:aQ}(i:Nat),g.Ls[i]? =some A->∀c,A c->c<h.size->¬c=g.b:=λi u c v hl e=>G.t.kX u (e▸v);have t:=o.fr;refine⟨G.t.grow (EN o.1.symm),C,by rw[show(Raw.mk a r.kids).b=a from rfl,e1];exact G.ls,λi s A x n d l=>?_,G.lk,λj M A w n d l=>KF j M n (G.aM j M A w n d l) t (q _ (g.fF d)),
  aO.fr t (q 1 g.fM) (λ_ z=>z) _ G.no,λz=>(G.kl z).fr t (q 1 g.fM) λ_ z=>z,?_,λp e=>?_⟩
 ·rw[show(Raw.mk a r.kids).b=a from rfl,e1]at l;exact(G.sl i s A x n d l).fr t (q _ (g.iw d))
 ·exact(G.sp.fr t (q 2 g.iR)).eq B
 ·have M:=(G.mm p e).fr t (q 1 g.fM) (q 0 g.gC) (q 2 g.iR);exact⟨M.c,y _ M.pr,M.ks,M.sp⟩
theorem alB{x:Int}{n:Nat}{K:cK}(G:bW f KM T h r m g)(KF:∀(j:Nat)M,KM[j]? =some M->gG M)(a:x=n)(d:r.b.bF+n<2^62)
  (c:∀h',eJ g.b h h'->bW f KM T h' (fE n r).2 m g->K (fE n r).1 h'):nL (bC g.b) x h K Kp:=by
 exact alz G.B a d λh' o e=>c h' o (G.base KF o e rfl rfl λ_ z=>z)
theorem bW.slot{u:Sl}{R:Raw}(G:bW f KM T h r m g)(KF:∀(j:Nat)M,KM[j]? =some M->gG M)(E:g.ST[i]? =some A)(t:Tn A h H)(os:Os (Tr A h H) H u x'.1 x'.2)
  (o:eJ g.b H h') (F:aN h' g.b (cj f g.sf g.sn g.sb r.b.rows r.b.cz r.b.bF (iK f.k (g.SS.set i u) g.kv g.ks g.sp)).toArray (iU f.k))
  (l:R.b.rows=r.b.rows/\R.b.cz=r.b.cz/\R.b.bits=r.b.bits/\R.b.bF=r.b.bF) (e1:cC f.k R.b=(cC f.k r.b).set i x') (e0:R.kids=r.kids) (K:R.b.aH=r.b.aH) (J:∀v,m=some v->eN f.k r.b v.r.b->eN f.k R.b v.r.b):bW f KM (Tr T h H) h' R m {g with SS:=g.SS.set i u,ST:=g.ST.set i (Tr A h H)}/\Tn (λc=>A c\/c=g.b) h h':=by
 have y:=(de.1 E).1;have C:=g.iw E;have nb:¬A g.b:=G.t.kX C;have bl:=G.bl;have n:Tn (λc=>A c\/c=g.b) h h':=(t.mono λc q _=>.inl q).trans (o.fr.mono λc q _=>.inr q);have D:∀c,(A c\/c=g.b)->c<h.size->c=g.b\/A c:=λc q _=>q.symm;have av:∀{j:Nat}{B:aQ},g.Ls[j]? =some B->3+i≠j->∀c,B c->c<h.size->¬(A c\/c=g.b):=λI ne=>G.av C D I ne;refine⟨⟨?_,?_,?_,λj s B x d a p=>?_,by rw[e0];exact G.lk,λj M B w d a p=>?_,aO.fr n (av g.fM ag) (λ_ z=>z) _ G.no,λz=>(G.kl z).fr n (av g.fM ag) λ_ z=>z,?_,λv e=>?_⟩,n⟩
 ·have:=(G.t.step (3+i) t.1).grow (EN o.1.symm);rw[abV C,g.aap y]at this;exact this
 ·refine⟨dG,by rw[l.2.2.1];exact G.B.o.fr n (av g.gC ag),G.B.nT,by rw[l.2.2.1,l.1];exact G.B.len,by rw[l.2.1,l.1];exact G.B.nl,by rw[l.1];exact G.B.rl⟩
 ·simp only[Ay,e1];exact G.ls
 ·dsimp only at d a;rw[e1]at p;rw[vh]at d a p
  by_cases e:i=j
  ·subst e;have N:=G.ls.1;have L:=G.ls.2;rw[aK rfl,dV]at d p;rw[aK rfl,aK y]at a;cases d;cases a;cases p;refine os.fr o.fr λc q _ e=>?_;grind
  ·rw[aC e]at d a p;exact(G.sl j s B x d a p).fr n (av (g.iw a) ag)
 ·have:=KF j M d (G.aM j M B w d a p) n (av (g.fF a) ag)
  unfold Raw.aM at this ⊢;grind
 ·exact(G.sp.fr n (av g.iR ag)).eq K
 ·have M:=(G.mm v e).fr n (av g.fM ag) (av g.gC ag) (av g.iR ag);exact⟨M.c,J v e M.pr,M.ks,M.sp⟩
theorem bW.asM{R:Raw}(G:bW f KM T h r m g)(KF:∀(j:Nat)M,KM[j]? =some M->gG M)(p:g.KT[j]? =some A)(t:Tn A h h')
  (y:∀M w,KM[j]? =some M->g.kv[j]? =some w->M (Tr A h h') h' w R (m.bind λl=>l.ks[j]?)):bW f KM (Tr T h h') h' (r.fo j R) m {g with KT:=g.KT.set j (Tr A h h')}:=by
 have o:=(de.1 p).1;have v:∀c,A c->c<h.size->c=g.b\/A c:=λc q _=>.inr q;have n:=g.fF p;have nb:=G.t.kX n;have av:∀{i:Nat}{B:aQ},g.Ls[i]? =some B->3+g.ST.length+j≠i->∀c,B c->c<h.size->¬A c:=λu ne=>G.av n v u ne;have lk:=G.lk;refine⟨?_,G.B.fr t nb (av g.gC ag),G.ls,λi s B x d a k=>(G.sl i s B x d a k).fr t (av (g.iw a) bZ),⟨lk.1,dG,by rw[vJ];omega⟩,λi M B w d a k=>?_,
  aO.fr t (av g.fM ag) (λ_ z=>z) _ G.no,λz=>(G.kl z).fr t (av g.fM ag) λ_ z=>z,G.sp.fr t (av g.iR ag),λl e=>(G.mm l e).fr t (av g.fM ag) (av g.gC ag) (av g.iR ag) |> λM=>⟨M.c,M.pr,M.ks,M.sp⟩⟩
 ·have:=G.t.step (3+g.ST.length+j) t.1;rw[abV n,g.aaq]at this;omega
 ·dsimp only at a;rw[vh]at a
  by_cases e:j=i
  ·subst e;rw[aK rfl,aK o]at a;cases a;rw[lC ag];exact y M w d k
  ·rw[aC e]at a;rw[Ba e];exact KF i M d (G.aM i M B w d a k) t (av (g.fF a) ag)
def Out(g:dP)(c:Nat):Prop:=c≠g.b/\∀(i:Nat)A,g.Ls[i]? =some A->i≠1->¬A c
theorem bW.out(G:bW f KM T h r m g){c:Nat}(a:¬T c):Out g c:=⟨λe=>a (e▸G.t.tb),λi A b _ q=>a (G.kA b q)⟩
theorem bW.DK(G:bW f KM T h r m g){c:Nat}(a:g.R c):Out g c:=⟨λe=>G.t.kX g.fM (e▸a),λi A b ne q=>G.t.ne b g.fM ne c q a⟩
theorem Out.not{c:Nat}(G:bW f KM T h r m g)(a:¬Out g c):T c:=by
 by_cases q:T c
 ·exact q
 ·exact absurd (G.out q) a
theorem Out.set{a:dP}{c:Nat}(o:Out g c)(t:a.b=g.b)(u:a.Ls=g.Ls.set i (Tr A h h'))(p:g.Ls[i]? =some A)(y:c<h.size):Out a c:=by
 refine⟨by rw[t];exact o.1,λj B hB ne q=>?_⟩
 rw[u,vh]at hB;have d:=(de.1 p).1
 by_cases e:i=j
 ·subst e;rw[aK rfl,aK d]at hB;cases hB;rcases q with q|q
  ·exact o.2 i A p ne q
  ·omega
 ·rw[aC e]at hB;exact o.2 j B hB ne q
end
section
variable {s:Sl} {vs:bq}
theorem Os.Cp{bytes n:Nat}{news:bq}{e:List Value->Prop}{z:Array Value}{K:Sl->HP}(o:Os T h s vs el)(P:z.size=1)(Q:∀x∈news,one x=true)(hl:news.length=n)(w:e news)
  (F:(s.n+n+(s.n+n)/4+192)*bytes<=2^48) (R:s.n+n<2^63)
  (y:∀G h',Tn T h h'->Os (Or T h) h' G (vs++news) el->K G h'):Ap h el z 1 bytes s n e K:=by
 have j:∀old:List Value,rd h s.a (s.n*1) old->old=vs->s.c<s.n+n->Ap h el z 1 bytes s n e K:=by
  intro old A q p;subst q;have k:=o.n;refine⟨news,w,.inr ⟨p,?_,R,old,A,?_⟩⟩
  ·have:=nextslicecap_le_wide p;have Y:=oQ bytes this;omega
  ·intro u B X;refine y _ _ (bg (qx h _)) (.inr ⟨h.size,.inr (bX _),rfl,?_,_,by simp only[aN,ID];rfl,B,?_,λi l=>?_⟩)
   ·simp[k,hl]
   ·simp[Builtin.zeroCells,k,P];omega
   grind
 rcases o with⟨rfl,rfl⟩|⟨b,t,J,W,cs,I,Z,V,H⟩
 ·by_cases h0:n=0
  ·subst h0;have:news=[]:=bZ;subst this;exact⟨[],w,.inl ⟨bX _,y Sl.nil h (iV _ _) (.inl ⟨rfl,rfl⟩)⟩⟩
  ·exact j [] rfl rfl (by simp only[Sl.nil];omega)
 ·by_cases p:s.n+n<=s.c
  ·refine⟨news,w,.inl ⟨p,?_⟩⟩;rw[J]
   show iZ h _ 0 news _
   rw[bz];refine wP news I ag Q λh' D O N M L=>y _ h' (O.fr.mono λd U _=>U▸t) (.inr ⟨b,.inl t,rfl,by simp[W,hl],D,N,p,by rw[M,V],λi l=>?_⟩)
   grind
  ·refine j vs ?_ rfl ag;rw[J];refine⟨ag,λi v l=>?_⟩
   have:i<vs.length:=bZ;rw[bz,cF,ia I,H i ag];exact l
end
structure fj(f:aq)(KM:List cO)(T:aQ)(h0 h:Hp)(r:Raw)(m:fT)(g:dP)(E:aQ):Prop where
 t:Tn T h0 h
 G:bW f KM (Tr T h0 h) h r m g
 e:∀c,E c->c<h.size/\Out g c
section
variable {KM:List cO} {S:aQ} {h0 h':Hp} {r r':Raw} {m:fT} {g':dP}
theorem fj.of(G:bW f KM T h r m g)(z:∀c,E c->c<h.size/\Out g c):fj f KM T h h r m g E:=
 ⟨iV _ _,G.mono (λc q=>.inl q) λc q=>q.elim (λq=>G.t.lt c q) λq=>ag,z⟩
theorem fj.next(s:fj f KM T h0 h r m g E)(G:bW f KM (Tr (Tr T h0 h) h h') h' r' m g')(t:Tn S h h')(d:∀c,S c->c<h.size->¬Out g c)(j:∀c,c<h.size->Out g c->Out g' c):fj f KM T h0 h' r' m g' E/\Tn (λc=>¬E c) h h':=by
 have i:=s.t.1;have b:=t.1;refine⟨⟨s.t.trans' t λc q a=>(Out.not s.G (d c q ag)).elim id λq=>ag,G.mono (λc q=>Tr.tr i b q) λc q=>?_,λc q=>?_⟩,t.mono λc q a z=>d c q a (s.e c z).2⟩
 ·rcases q with q|q
  ·have:=s.G.t.lt c (.inl q);omega
  omega
 ·have:=s.e c q;grind
theorem fj.ai(KF:∀(j:Nat)M,KM[j]? =some M->gG M)(s:fj f KM T h0 h r m g E)(gr:az h h'):fj f KM T h0 h' r m g (λc=>E c\/(h.size<=c/\c<h'.size)):=by
 have b:=gr.1;have a:=s.G.fr KF (bg gr) λ_ _ _=>id;refine⟨s.t.trans (bg gr),a.mono (λc q=>q.imp id λq=>⟨q.1,ag⟩) λc q=>?_,λc q=>?_⟩
 ·rcases q with q|q
  ·have:=s.G.t.lt c (.inl q);omega
  omega
 ·rcases q with q|q
  ·have:=s.e c q;grind
  ·exact⟨q.2,s.G.out λz=>by have:=s.G.t.lt c z;omega⟩
theorem fj.only(s:fj f KM T h0 h r m g E)(o:eJ g.b h h')(G:bW f KM (Tr T h0 h) h' r' m g):fj f KM T h0 h' r' m g E/\Tn (λc=>¬E c) h h':=
 s.next (G.mono (λc q=>.inl q) λc q=>q.elim (λq=>G.t.lt c q) λq=>q.2) o.fr (λc q _ z=>z.1 q) λc _ o=>o
theorem fj.vW{a:Nat}{cs:Array Value}(t:Tn (λc=>¬E c) h h')(k:aN h a cs ty)(b:E a):aN h' a cs ty:=t.aZ k λq=>q b
abbrev lJ:=@fj.vW
theorem rZ{n:Bool}{F:Raw->Int×Raw}(h:4096<=r.b.rows):cW (eU n r) F=(3,r):=by
 unfold eU;rw[aK h];rfl
theorem rY{n:Bool}{F:Raw->Int×Raw}(h:r.b.rows<4096):cW (eU n r) F=F (r.up (Rb.row n)):=by
 unfold eU;rw[ay];rfl
theorem bW.dH{s:Sl}{K:Sl->Prop}(G:bW f KM T h r m g)(l:g.b=b)(a:g.SS[i]? =some s)(d:K s):Ld h ⟨b,16+i,none⟩ Sl.v K:=by
 subst l;refine aj G.B.k ?_ d;rw[pO];have e:∀c,cj f g.sf g.sn g.sb r.b.rows r.b.cz r.b.bF c=cj f g.sf g.sn g.sb r.b.rows r.b.cz r.b.bF []++c:=λ_=>rfl;rw[e,fU (by show 16<=_;omega)]
 show _[16+i-16]? =_
 grind
theorem bW.vH{s s':Sl}{K:HP}(G:bW f KM T h r m g)(j:g.SS[i]? =some s)(k:aN H g.b (cj f g.sf g.sn g.sb r.b.rows r.b.cz r.b.bF (iK f.k g.SS g.kv g.ks g.sp)).toArray (iU f.k))
  (l:∀h',eJ g.b H h'->aN h' g.b (cj f g.sf g.sn g.sb r.b.rows r.b.cz r.b.bF (iK f.k (g.SS.set i s') g.kv g.ks g.sp)).toArray (iU f.k)->K h'):St H ⟨g.b,16+i,none⟩ (Sl.v s') K:=by
 have e:∀d,cj f g.sf g.sn g.sb r.b.rows r.b.cz r.b.bF d=cj f g.sf g.sn g.sb r.b.rows r.b.cz r.b.bF []++d:=λ_=>rfl;have a:(cj f g.sf g.sn g.sb r.b.rows r.b.cz r.b.bF []).length=16:=rfl;refine dI k ?_ rfl λh' o c=>l h' o ?_
 all_goals grind[List.set_append_right,List.set_append_left,List.map_set]
theorem fj.app{n bytes:Nat}{s:Sl}{x:List Value×TypeId}{news:bq}{a:List Value->Prop}{z:Array Value}{K:HP}(KF:∀(j:Nat)M,KM[j]? =some M->gG M)(S:fj f KM T h0 h r m g E)(W:g.b=b)(C:g.SS[i]? =some s)(L:(cC f.k r.b)[i]? =some x)
  (J:z.size=1) (O:∀v∈news,one v=true) (hl:news.length=n) (N:a news) (d:(s.n+n+(s.n+n)/4+192)*bytes<=2^48) (P:s.n+n<2^63) (V:x'=(x.1++news,x.2))
  (U:r'.b.rows=r.b.rows/\r'.b.cz=r.b.cz/\r'.b.bits=r.b.bits/\r'.b.bF=r.b.bF) (e1:cC f.k r'.b=(cC f.k r.b).set i x') (e0:r'.kids=r.kids) (Y:r'.b.aH=r.b.aH) (X:∀y,m=some y->eN f.k r.b y.r.b->eN f.k r'.b y.r.b)
  (Q:∀e A' h',Tn (λc=>¬E c) h h'->fj f KM T h0 h' r' m {g with SS:=g.SS.set i e,ST:=g.ST.set i A'} E->K h'):Ap h x.2 z 1 bytes s n a λe p=>St p ⟨b,16+i,none⟩ (Sl.v e) K:=by
 subst W;have ls:=S.G.ls;have hi:=(de.1 C).1;have l:g.ST[i]? =some g.ST[i]:=aA;generalize g.ST[i]=A at l;refine(S.G.sl i s A x C l L).Cp J O hl N d P λe p t os=>?_;have nb:=S.G.t.kX (g.iw l);refine S.G.vH C (t.aZ S.G.B.k nb) λh' o H=>?_;have w:Os (Tr A h p) p e x'.1 x'.2:=by rw[V];exact os.tr
 obtain⟨G',F⟩:=S.G.slot KF l t w o H U e1 e0 Y X;have so:=o.1;have u:=g.iw l;have I:i<g.ST.length:=ag;obtain⟨Z,D⟩:=S.next (G'.mono (λc q=>q.imp id λq=>⟨q.1,ag⟩) λc q=>by rcases q with q|q;(have:=S.G.t.lt c q;have:=t.1;omega);exact q.2) F (λc q _ z=>q.elim (z.2 _ A u ag) z.1) λc R z=>z.set rfl (g.aap I).symm u R
 grind
theorem fj.row{K:cK}(KF:∀(j:Nat)M,KM[j]? =some M->gG M)(S:fj f KM T h0 h r m g E)(p:g.b=b)(e:4096<=r.b.rows->K 3 h)
  (o:r.b.rows<4096->∀d A' h',Tn (λc=>¬E c) h h'->fj f KM T h0 h' (r.up (Rb.row au)) m {g with sb:=d,T0:=A'} E->K 0 h'):oZ (bC b) au h K Kp:=by
 subst p;refine apk S.G KF e λc d h' k t=>?_;obtain⟨n,a⟩:=S.next t k (λc q _ z=>q.elim z.1 (z.2 0 _ g.gC bw)) λc l z=>z.set rfl rfl g.gC l;exact o c d _ h' a n
theorem fj.ql{x:Int}{n:Nat}{K:cK}(KF:∀(j:Nat)M,KM[j]? =some M->gG M)(S:fj f KM T h0 h r m g E)(l:g.b=b)(d:x=n)(k:r.b.bF+n<2^62)
  (e:∀h',Tn (λc=>¬E c) h h'->fj f KM T h0 h' (fE n r).2 m g E->K (fE n r).1 h'):nL (bC b) x h K Kp:=by
 subst l;refine alB S.G KF d k λh' o p=>?_;obtain⟨i,a⟩:=S.only o p;exact e h' a i
theorem fj.aM{rj:Raw}(KF:∀(j:Nat)M,KM[j]? =some M->gG M)(S:fj f KM T h0 h r m g E)(u:g.KT[j]? =some A)(t:Tn A h h')
  (B:∀M w,KM[j]? =some M->g.kv[j]? =some w->M (Tr A h h') h' w rj (m.bind λy=>y.ks[j]?)):fj f KM T h0 h' (r.fo j rj) m {g with KT:=g.KT.set j (Tr A h h')} E/\Tn (λc=>¬E c) h h':=by
 have a:=g.fF u;exact S.next (S.G.asM KF u t B) t (λc q _ z=>z.2 _ A a ag q) λc b z=>z.set rfl g.aaq.symm a b
theorem bW.lW{w:Value}{K:Value->Prop}(G:bW f KM T h r m g)(l:g.b=b)(a:f.k=15\/f.k=16\/f.k=19\/f.k=20)(hl:g.SS.length=i)(c:g.kv[0]? =some w)(j:K w):Ld h ⟨b,16+i,none⟩ id K:=by
 subst l;refine aj G.B.k ?_ j;rw[pO];have e:∀d,cj f g.sf g.sn g.sb r.b.rows r.b.cz r.b.bF d=cj f g.sf g.sn g.sb r.b.rows r.b.cz r.b.bF []++d:=λ_=>rfl;rw[e,fU (by show 16<=_;omega)]
 show _[16+i-16]? =_
 rw[fU cy,cr,show 16+i-16-g.SS.length=0 by omega]
 unfold nW;grind
end
structure MC(f:aq)(M:cO):Prop where
 fr:gG M
 lt:∀{T:aQ}{h:Hp}{v:Value}{r:Raw}{m:fT},M T h v r m->∀c,T c->c<h.size
 na:∀{T:aQ}{h:Hp}{v:Value}{r:Raw}{m:fT},M T h v r m->∃k b,v=.iface (bK k) (bH b)
 mono:∀{T T':aQ}{h:Hp}{v:Value}{r:Raw}{m:fT},M T h v r m->(∀c,T c->T' c)->(∀c,T' c->c<h.size)->M T' h v r m
 drop:∀{T:aQ}{h:Hp}{v:Value}{r:Raw}{m:fT},M T h v r m->M T h v r none
 take:∀{T D:aQ}{h:Hp}{v:Value}{vs:aR}{m:fT}{x:aB}{s:Sl}{K:cK}{Kp:PK},f.can vs->f.fit x=true->x.bx<=4194304->M T h v (f.st vs) m->aO D h s x.items->(∀c,D c->¬T c)->
  (∀h',Tn T h h'->M (Tr T h h') h' v (f.tk (f.st vs) x).2 m->K (f.tk (f.st vs) x).1 h')->nk v x.au x.num (bs x.text) s h K Kp
 zero:∀{T:aQ}{h:Hp}{v:Value}{vs:aR}{m:fT}{K:cK}{Kp:PK},f.can vs->M T h v (f.st vs) m->
  (∀h',Tn T h h'->M (Tr T h h') h' v (f.zk (f.st vs)).2 m->K (f.zk (f.st vs)).1 h')->mL v h K Kp
 mark:∀{T:aQ}{h:Hp}{v:Value}{vs:aR}{K:di}{Kp:PK},f.can vs->M T h v (f.st vs) none->
  (∀mm h',az h h'->one mm.F=true->mm.F.cells=#[mm.F]->mm.r=f.st vs->M (Tr T h h') h' v (f.st vs) (some mm)->K mm.F h')->kU v h K Kp
 back:∀{T:aQ}{h:Hp}{v:Value}{r:Raw}{mm:Mem}{K:HP}{Kp:PK},M T h v r (some mm)->
  (∀h',Tn T h h'->M T h' v mm.r (some mm)->K h')->cZ aE mm.F [] h (λr h1=>r=.tuple #[]/\K h1) Kp
 done:∀{T:aQ}{h:Hp}{v:Value}{vs:aR}{m:fT}{K:Int->Int->Int->Sl->Sl->Sl->HP}{Kp:PK},f.can vs->M T h v (f.st vs) m->
  (∀p h',az h h'->eR (Nw h) (Nw h) h' p (f.dn (f.st vs))->K (f.dn (f.st vs)).len (f.dn (f.st vs)).off (f.dn (f.st vs)).au p.1 p.2.1 p.2.2 h')->mM v h K Kp
 count:∀{T:aQ}{h:Hp}{v:Value}{r:Raw}{m:fT}{K:cK}{Kp:PK},M T h v r m->K (r.b.rows:Int) h->akf v h K Kp
 weight:∀{T:aQ}{h:Hp}{v:Value}{r:Raw}{m:fT}{K:cK}{Kp:PK},M T h v r m->K (r.b.bF:Int) h->ake v h K Kp
section
variable {KM:List cO} {v:Value} {r:Raw} {m:fT} {x:aB} {s:Sl} {K:cK}
theorem bW.oI{s:Sl}{x:List Value×TypeId}(G:bW f KM T h r m g)(a:g.SS[i]? =some s)(c:(cC f.k r.b)[i]? =some x):s.n=x.1.length:=by
 have d:=G.ls;have e:=(de.1 a).1;exact(G.sl i s _ x a (bJ ag) c).n
theorem amn(a:f.k=1)(r:Raw)(x:aB):f.tk r x=cW (eU true r) (fE 16):=by
 rw[kG];unfold iI;simp[*]
theorem ZU(e:f.k=1)(KF:∀(j:Nat)M,KM[j]? =some M->gG M)(G:bW f KM T h r m g)(I:r.b.bF<=2^50)(d:∀i,Tn T h i->cV f KM (Tr T h i) i (.iface (bK f.k) (bH g.b)) (f.tk r x).2 m->K (f.tk r x).1 i):OM (bC g.b) x.au x.num (bs x.text) s h K Kp:=by
 have l:bK f.k=pW:=by unfold bK;simp[*]
 rw[l]at d;rw[amn e]at d;refine aFb (aF λa u H w C _=>?_);simp only[nH];have n:=(fj.of (E:=λ_=>False) G λ_ q=>q.elim).ai KF w;refine n.row KF rfl (λc=>bS rfl ?_) λc z J F B y=>bu rfl ?_
 ·rw[rZ c]at d;exact d u n.t ⟨g,by rw[l],n.G⟩
 ·rw[rY c]at d;refine y.ql KF rfl rfl (by show r.b.bF+16<2^62;omega) λp A o=>d p o.t ⟨_,by rw[l],o.G⟩
theorem amh(c:f.k=12\/f.k=13)(r:Raw)(x:aB):f.tk r x=cW (eU x.au r) λa=>if 65536<a.b.all.length+x.text.length then(4,a)else fE (16+x.text.length) (a.up λb=>{b with all:=b.all++x.text,ends:=b.ends++[b.all.length+x.text.length]}):=by
 rw[kG];unfold iI;grind
theorem ZN(A:f.k=12\/f.k=13)(KF:∀(j:Nat)M,KM[j]? =some M->gG M)(G:bW f KM T h r m g)(b1:r.b.ends.length<=70000)(b2:r.b.all.length<=2^40)(b3:r.b.bF<=2^50)(b4:x.text.length<=2^40)
  (o:∀J,Tn T h J->cV f KM (Tr T h J) J (.iface (bK f.k) (bH g.b)) (f.tk r x).2 m->K (f.tk r x).1 J):OK (bC g.b) x.au x.num (bs x.text) s h K Kp:=by
 have L:bK f.k=pV:=by unfold bK;grind
 rw[L]at o;rw[amh A]at o;have l:∀I:Rb,cC f.k I=[(ints I.ends,Y6),(bv I.all,Y8)]:=λI=>by unfold cC;simp[*]
 have U:∀a b:Rb,eN f.k a b↔b.ends <+: a.ends/\b.all <+: a.all:=λa b=>by unfold eN;simp[*]
 obtain⟨C,p,d⟩:∃C p,g.SS=[C,p]:=by
  have:=G.ls.1;rw[l]at this
  match hg:g.SS,this with
  |[a,b],_=>simp
 refine aE2 (aF λa S ea g1 e _=>?_);refine bO ?_;have O:=(fj.of (E:=λ_=>False) G λ_ q=>q.elim).ai KF g1;have P:(λc=>False\/(h.size<=c/\c<S.size)) a:=ag
 refine aj e rfl (O.row KF rfl (λc=>bS rfl ?_) λc a' A' h2 Y w=>bu rfl ?_)
 ·rw[rZ c]at o;exact o S O.t ⟨g,by rw[L],O.G⟩
 ·rw[rY c]at o;have e:=lJ Y e P;have n1:p.n=r.b.all.length:=by have:=w.G.oI (i:=1) (s:=p) (by simp[d]) (by rw[l];rfl);rw[this,fP];rfl
  have n0:C.n=r.b.ends.length:=by have:=w.G.oI (i:=0) (s:=C) (by simp[d]) (by rw[l];rfl);rw[this,ints,cr];rfl
  refine w.G.dH (i:=1) (s:=p) rfl (by simp[d]) (aj e rfl (aX ag (by rw[jl];omega) (aG (λu=>?_) λu=>?_)))
  ·have u:=aS u;rw[jl]at u;rw[aK (by show 65536<r.b.all.length+_;omega)]at o
   exact o h2 w.t ⟨_,by rw[L],w.G⟩
  ·have u:=aS u;rw[jl]at u;rw[aC (by show¬65536<r.b.all.length+_;omega)]at o
   refine w.G.dH (i:=1) (s:=p) rfl (by simp[d]) (aj e rfl ?_)
   refine w.app (i:=1) (x:=(bv r.b.all,Y8)) (x':=(bv (r.b.all++x.text),Y8)) (r':=(r.up (Rb.row x.au)).up λb=>{b with all:=b.all++x.text}) KF rfl (by simp[d]) (by rw[l];rfl) rfl ?_ (by rw[fP,jl]) ?_ bZ bZ (by rw[uT])
    ⟨rfl,rfl,rfl,rfl⟩ (by rw[l,l];rfl) rfl rfl (λZ _ q=>?_) λz A1 h3 X H=>?_
   ·intro v F;simp only[bv,kZ]at F;obtain⟨y,_,rfl⟩:=F;rfl
   ·rfl
   ·rw[U]at q ⊢;exact⟨q.1,q.2.trans (tM _ _)⟩
   have e:=lJ X e P;have Q:z.n=r.b.all.length+x.text.length:=by have:=H.G.oI (i:=1) (s:=z) (by simp[d]) (by rw[l];rfl);rw[this,fP];exact iA
   refine H.G.dH (i:=0) (s:=C) rfl (by simp[d]) (H.G.dH (i:=1) (s:=z) rfl (by simp[d]) (aF λa5 h4 e5 N R _=>bQ H.G.B.k N ?_))
   rw[Q]at R;refine(H.ai KF N).app (i:=0) (s:=C) (x:=(ints r.b.ends,Y6)) (x':=(ints (r.b.ends++[r.b.all.length+x.text.length]),Y6)) (r':=(r.up (Rb.row x.au)).up λb=>{b with all:=b.all++x.text,ends:=b.ends++[b.all.length+x.text.length]}) (news:=[ah ((r.b.all.length+x.text.length:Nat):Int)]) KF rfl (by simp[d]) (by rw[l];rfl) rfl ?_ rfl (iJ R rfl) ag ag (by simp[ints])
    ⟨rfl,rfl,rfl,rfl⟩ (by rw[l,l];rfl) rfl rfl (λZ _ q=>?_) λb' A0 h5 W S5=>aBQ ?_
   ·intro v F;simp only[ng]at F;subst F;rfl
   ·rw[U]at q ⊢;exact⟨q.1.trans (tM _ _),q.2⟩
   have e:=lJ W (e.ai N) (.inl P);refine bO ?_;refine aj e rfl (aX ag bZ (S5.ql KF rfl (n:=16+x.text.length) (by rw[jl];omega) (by show r.b.bF+_<2^62;omega) λh6 t6 V=>o h6 V.t ⟨_,by rw[L],V.G⟩))
end
theorem FW{g:Raw->Int×Raw}{a:List (Raw->Int×Raw)}{r:Raw}{F:Raw->Int×Raw}(h:(g r).1≠0):cW (fu (g::a) r) F=g r:=by
 show cW (cW (g r) (fu a)) F=g r
 unfold cW;simp[*]
theorem FU{g:Raw->Int×Raw}{a:List (Raw->Int×Raw)}{r:Raw}{F:Raw->Int×Raw}(h:(g r).1=0):cW (fu (g::a) r) F=cW (fu a (g r).2) F:=by
 show cW (cW (g r) (fu a)) F=_
 unfold cW;simp[*]
theorem FV{r:Raw}{F:Raw->Int×Raw}:cW (fu [] r) F=F r:=by
 unfold cW fu;simp
theorem oB{Y:aB}:∀{l:aR},Y∈l->Y.bx<=bL l
  |[],h=>by simp at h
  | z::l,h=>by
    rcases mE.1 h with rfl|h
    ·simp[bL]
    ·have:=oB h;simp[bL];omega
theorem iM{X:aR}(h:c.can X):(c.st X).b.bF<=4194304/\(c.st X).b.bF=bL X:=by
 rw[fI];exact⟨((gj c X).1 h).wt,rfl⟩
theorem Ln(e:f.cs=[c])(d:f.k=15\/f.k=16){x:aB}(a:f.fit x=true):∀y∈x.items,c.fit y=true:=by
 rw[eM]at a;unfold fG at a;have b:(f.cs.map aq.fit).getD 0 uE=c.fit:=by rw[e];rfl
 rw[b]at a;grind
section
variable {M:cO} {v:Value} {vs:aR} {m:fT} {x:aB} {s:Sl} {K:cK}
theorem nE(C:MC c M):∀(j:Nat)b,[M][j]? =some b->gG b:=by
 intro j b a;rcases j with _|j
 ·simp at a;subst a;exact C.fr
 ·simp at a
theorem amo(d:f.k=15)(e:f.cs=[c])(r:Raw)(x:aB):f.tk r x=cW (eU x.au r) λg=>cW (fu (x.items.map λy=>dm 0 λq=>c.tk q y) g) λa=>fE (16+(eL a 0-eL g 0)) (a.up λb=>{b with ends:=b.ends++[(a.aM 0).b.rows]}):=by
 rw[kG];unfold iI;simp[*]
theorem ZV(o:f.k=15)(f':f.cs=[c])(C:MC c M)(PC:jr c)(hc:f.can vs)(P:f.fit x=true)(hw:x.bx<=4194304)(G:bW f [M] T h (f.st vs) m g)(hv:aO D h s x.items)(hD:∀c,D c->c<h.size->Out g c)
  (R:∀h',Tn T h h'->cV f [M] (Tr T h h') h' (.iface (bK f.k) (bH g.b)) (f.tk (f.st vs) x).2 m->K (f.tk (f.st vs) x).1 h'):OI (bC g.b) x.au x.num (bs x.text) s h K Kp:=by
 have KF:=nE C;have ed:bK f.k=pU:=by unfold bK;rw[ay,ay,aK o]
 rw[ed]at R;rw[amo o f']at R;have es:∀rb:Rb,cC f.k rb=[(ints rb.ends,Y6)]:=λrb=>by simp_all[cC,aC]
 have ep:∀a b:Rb,eN f.k a b↔b.ends <+: a.ends:=λa b=>by unfold eN;rw[ay,aK o]
 obtain⟨s0,F⟩:∃s0,g.SS=[s0]:=by
  have:=G.ls.1;rw[es]at this
  match hg:g.SS,this with
  |[a],_=>exact⟨a,rfl⟩
 obtain⟨w,l⟩:∃w,g.kv=[w]:=by
  have:=G.lk.1
  match hg:g.kv,this with
  |[a],_=>exact⟨a,rfl⟩
 have s':f.cs[0]? =some c:=by rw[f'];rfl
 have b':=mY s' vs;have e':=fC s' hc;generalize dK f.k f.w _ 0 vs=d at b' e';have p':=Ln f' (.inl o) P;have hxw:=hO x;have hil:x.items.length<=4096:=by rw[eM]at P;exact Eh P
 have hn:=hv.n;refine aEW (aF λa h1 ea g1 ka _=>?_);refine bO ?_;have S1:=(fj.of (E:=λc=>D c/\c<h.size) G λc q=>⟨q.2,hD c q.1 q.2⟩).ai KF g1;generalize hE:(λc=>(D c/\c<h.size)\/(h.size<=c/\c<h1.size))=E at S1;have E1:E a:=by rw[<-hE];exact .inr ⟨ag,ka.lt⟩
 have i':∀c,D c/\c<h.size->E c:=λc q=>by rw[<-hE];exact .inl q
 have uM:=dU (aO.lt _ hv) g1;have wh:(f.st vs).b.ends.length<=5000:=by
  have:=((gj f vs).1 hc).n4;rw[fI];simp only[aL];rw[ay,aK o,Dl];omega
 refine aj ka rfl (S1.row KF rfl (λq=>bS rfl ?_) λq qO A' h2 t2 S2=>bu rfl ?_)
 ·rw[rZ q]at R;exact R h1 S1.t ⟨g,by rw[ed],S1.G⟩
 rw[rY q]at R;have ka:=lJ t2 ka E1;have z':=aO.fr t2 (λc q _ z=>z (i' c q)) (λ_ z=>z) _ uM;generalize l':(f.st vs).up _=Q at R S2;have k1:Q.aM 0=c.st d:=by rw[<-l',ji];exact b'
 have b1:Q.b.ends=(f.st vs).b.ends/\Q.b.bF=(f.st vs).b.bF:=by rw[<-l'];exact⟨rfl,rfl⟩
 have u':=S2.G.aM 0 M _ w rfl (bJ (by have:=G.lk.2.1;simp_all)) (by simp[l])
 refine S2.G.lW (i:=1) rfl (.inl o) (by simp[F]) (by simp[l]) (C.weight u' (aj ka rfl ?_))
 rw[k1];have n':=iM e';refine aAi (λy h'=>∃(i:Nat)(L:dP)(r':Raw),y=i/\i<=x.items.length/\fj f [M] T h h' r' m L E/\L.b=g.b/\L.SS=g.SS/\L.kv=g.kv/\r'.b=Q.b/\r'.aM 0=c.st (d++x.items.take i)/\c.can (d++x.items.take i)/\
   aO _ h' s x.items/\(cW (fu (x.items.map λy=>dm 0 λq=>c.tk q y) Q) λr2=>fE (16+(eL r2 0-eL Q 0)) (r2.up λb=>{b with ends:=b.ends++[(r2.aM 0).b.rows]}))=
    cW (fu ((x.items.drop i).map λy=>dm 0 λq=>c.tk q y) r') λr2=>fE (16+(eL r2 0-eL Q 0)) (r2.up λb=>{b with ends:=b.ends++[(r2.aM 0).b.rows]}))
  (λy _=>x.items.length-y.toNat) ⟨0,_,Q,rfl,eu _,S2,rfl,rfl,rfl,rfl,by simpa using k1,by simpa using e',z',rfl⟩ ?_
 rintro y h3 ⟨i,L,r',rfl,hi,S3,j,I,r,d',H,U,k',O⟩ N hN;have Tl:0<L.KT.length:=by have:=S3.G.lk.2.1;simp only[jC]at this;omega
 have hA:=bJ Tl;generalize L.KT[0]=A at hA;refine aG (λX=>?_) λX=>?_
 ·have X:=aS X;have V:i<x.items.length:=ag;have hx:=bJ V;have c':=kS V;have q':=CC V;have J:=kH V;generalize x.items[i]=z at hx c' q' J;rw[q',rD]at O;refine k'.ix rfl hx λp u cx hz=>gY cx (aF λa8 h4 e4 g4 k8 _=>mC k8 rfl λh5 o5 k8=>?_);refine bO ?_;have g5:=bI g4 o5 ag;have S:=S3.ai KF g5;have DY:=S.G.aM 0 M A w rfl hA (by rw[r,l];rfl)
  rw[H]at DY;refine S.G.lW (i:=1) j (.inl o) (by rw[I,F];rfl) (by rw[r,l];rfl) (fk k8 (C.take U (p' z J) (by have:=oB J;omega) DY (dU hz g5) (λX q z=>(S.e X (.inl (i' X q))).2.2 _ A (L.fF hA) ag z) λh6 t6 M6=>?_))
  obtain⟨Z,v'⟩:=S.aM KF hA t6 λM' w' q1 q2=>by
   simp at q1;subst q1;rw[r,l]at q2;simp at q2;subst q2;exact M6
  have hE6:=(bg g5).trans (v'.mono λc q _ z=>q (.inl z));have W:(dm 0 (λq=>c.tk q z) r')=((c.tk (c.st (d++x.items.take i)) z).1,r'.fo 0 (c.tk (c.st (d++x.items.take i)) z).2):=by unfold dm;rw[H]
  refine cE (λY=>?_) λY=>?_
  ·rw[O,FW (by rw[W];exact Y),W]at R
   exact R h6 Z.t ⟨_,by rw[ed];simp only[j],Z.G⟩
  ·have m':=PC z (p' z J) _ U Y;rw[FU (by rw[W];exact Y),W]at O
   refine aX ag ag (hN _ _ ⟨i+1,_,_,aA,ag,⟨Z.t,Z.G,λc q=>Z.e c (.inl q)⟩,j,I,r,by rw[nv];exact d',?_,?_,aO.fr hE6 (λc q _ z=>z (i' c q)) (λ_ z=>z) _ k',O⟩ ag)
   ·rw[lC (by have:=S.G.lk.2.2;simp only[jC]at this;omega),m'.2,c',rz]
   ·rw[c',<-rz];exact m'.1
 ·have X:=aS X;have:i=x.items.length:=ag;subst this;rw[EF,CD,FV]at O;rw[m5]at H U;rw[O]at R;apply aBO;refine bO ?_;have a':=S3.G.aM 0 M A w rfl hA (by rw[r,l];rfl)
  rw[H]at a';have n0:s0.n=r'.b.ends.length:=by have:=S3.G.oI (i:=0) (s:=s0) (by rw[I,F];rfl) (by rw[es];rfl);rw[this,ints,cr]
  have n0':s0.n<=5000:=by rw[n0,d',b1.1];exact wh
  have j':aN h3 g.b _ _:=j▸S3.G.B.k;refine S3.G.dH (i:=0) (s:=s0) j (by rw[I,F];rfl) (S3.G.lW (i:=1) (w:=w) j (.inl o) (by rw[I,F];rfl) (by rw[r,l];rfl) (C.count a' (bQ j' (cQ _) (aF λa5 h4 e4 g4 k5 _=>bQ j' g4 ?_))))
  refine(S3.ai KF g4).app (i:=0) (s:=s0) (x:=(ints r'.b.ends,Y6)) (x':=(ints (r'.b.ends++[(c.st (d++x.items)).b.rows]),Y6)) (r':=r'.up λb=>{b with ends:=b.ends++[(r'.aM 0).b.rows]}) (news:=[ah ((c.st (d++x.items)).b.rows:Int)]) KF j (by rw[I,F];rfl) (by rw[es];rfl) rfl ?_ rfl (iJ k5 rfl) ag ag (by simp[ints])
   ⟨rfl,rfl,rfl,rfl⟩ (by rw[es,es,gz,H];rfl) (jS) rfl (λmm _ q=>?_) λy' A0 h5 t5 S=>aBN ?_
  ·intro v hv;simp only[ng]at hv;subst hv;rfl
  ·rw[ep]at q ⊢;exact q.trans (tM _ _)
  refine bO ?_;have DY:=S.G.aM 0 M A w rfl hA (by show L.kv[0]? =_;rw[r,l];rfl)
  rw[ji,H]at DY;have o':=iM U;have t':=pq d x.items;have Tv:eL Q 0=bL d:=by unfold eL;rw[k1];exact n'.2
  have Tu:eL r' 0=bL d+bL x.items:=by unfold eL;rw[H,o'.2,t']
  have hvh:r'.b.bF<=4194304:=by rw[d',b1.2];exact(iM hc).1
  refine S.G.lW (i:=1) (w:=w) j (.inl o) (by show(L.SS.set 0 y').length=1;rw[Ay,I,F];rfl) (by show L.kv[0]? =_;rw[r,l];rfl) (C.weight DY (aX ag ag (aX ag ag (S.ql KF j (n:=16+(eL r' 0-eL Q 0)) (by rw[Tv,Tu,o'.2,t',n'.2];omega) (by show r'.b.bF+_<2^62;omega) λh6 t6 Z=>R h6 Z.t ⟨_,by rw[ed];simp only[j],Z.G⟩))))
end
theorem arf{K:Value->Prop}(a:K (.iface e (bH b))):sI aE (.iface e (bH b)) K:=by
 unfold sI yK;exact a
def wT(t:TypeId):Prop:=match sY aE t "colonnade/build.take" with|some (_,true)=>True|_=>False
theorem arC:wT pW:=cast aW trivial
theorem arB:wT pV:=cast aW trivial
theorem arA:wT pU:=cast aW trivial
theorem arz:wT oU:=cast aW trivial
theorem ary:wT oT:=cast aW trivial
theorem arx:wT qC:=cast aW trivial
theorem arw:wT qB:=cast aW trivial
theorem arv:wT pT:=cast aW trivial
theorem aru:wT pS:=cast aW trivial
theorem art(k:Int):wT (bK k):=by
 unfold bK
 by_cases Ae:k=1
 ·rw[aK Ae];exact arC
 rw[aC Ae]
 by_cases xU:k=12\/k=13
 ·rw[aK xU];exact arB
 rw[aC xU]
 by_cases Cf:k=15
 ·rw[aK Cf];exact arA
 rw[aC Cf]
 by_cases a:k=16
 ·rw[aK a];exact arz
 rw[aC a]
 by_cases xT:k=17
 ·rw[aK xT];exact ary
 rw[aC xT]
 by_cases Ad:k=18
 ·rw[aK Ad];exact arx
 rw[aC Ad]
 by_cases xS:k=19
 ·rw[aK xS];exact arw
 rw[aC xS]
 by_cases LX:k=20
 all_goals simp_all[arv,aru]
theorem abU{X:Prop}(e:X):CV aE (.iface (bK k) (bH b)) "colonnade/build.take" X:=⟨art k,e⟩
section
variable {M:cO} {v:Value} {vs:aR} {m:fT} {x:aB} {s:Sl} {K:cK}
def nt(f c:aq)(x:aB):List aB:=if x.au then List.replicate f.w.toNat c.cm else x.items
def qq(f c:aq)(x:aB):List (Raw->Int×Raw):=if x.au then List.replicate f.w.toNat (dm 0 c.zk)else x.items.map λy=>dm 0 λq=>c.tk q y
theorem amj(a:f.k=16)(b:f.cs=[c])(r:Raw)(x:aB):f.tk r x=cW (eU x.au r) λe=>cW (fu (qq f c x) e) λd=>fE (if x.au then 16 else 16+(eL d 0-eL e 0)) d:=by
 rw[kG];unfold iI;rw[ay,ay,ay,aK a,b];rfl
theorem anP(f c:aq)(x:aB):(nt f c x).length=(qq f c x).length:=by
 unfold nt qq;split <;> simp
theorem anN(b:f.k=16)(e:f.cs=[c])(a:f.fit x=true):(qq f c x).length=f.w.toNat:=by
 unfold qq;split
 ·simp
 ·rename_i d
  rw[eM]at a;unfold fG at a;grind
theorem anM{x:aB}(n:jr c)(l:dW c c.zk c.cm)(e:x.au=false->∀y∈x.items,c.fit y=true){i:Nat}{g:Raw->Int×Raw}{y:aB}(b:(qq f c x)[i]? =some g)(a:(nt f c x)[i]? =some y):∃G:Raw->Int×Raw,g=dm 0 G/\dW c G y/\(x.au=true->G=c.zk)/\(x.au=false->x.items[i]? =some y/\G=λq=>c.tk q y):=by
  unfold qq at b;unfold nt at a;cases d:x.au with
  | true=>
    grind
  | false=>
    rw[d]at b a;simp only[mG,lN]at b a;rw[eY,a]at b;simp only[pP,mF]at b;subst b;exact⟨_,rfl,n y (e d y (bT a)),λq=>(by cases q),λ_=>⟨a,rfl⟩⟩
theorem ZQ(ff:bB f)(l:f.k=16)(Z:f.cs=[c])(C:MC c M)(PC:jr c)(PZ:dW c c.zk c.cm)(hc:f.can vs)(c':f.fit x=true)(hw:x.bx<=4194304)(G:bW f [M] T h (f.st vs) m g)(hv:aO D h s x.items)(hD:∀c,D c->c<h.size->Out g c)
  (r:∀h',Tn T h h'->cV f [M] (Tr T h h') h' (.iface (bK f.k) (bH g.b)) (f.tk (f.st vs) x).2 m->K (f.tk (f.st vs) x).1 h'):OG (bC g.b) x.au x.num (bs x.text) s h K Kp:=by
 have KF:=nE C;have ed:bK f.k=oU:=by unfold bK;simp_all
 rw[ed]at r;rw[amj l Z]at r;have KQ:=ff.right.1.2.2.2.1 l;have es:∀rb:Rb,cC f.k rb=[]:=λrb=>by simp_all[cC,aC]
 have V:g.SS=[]:=by
  have:=G.ls.1;rw[es]at this;exact jB.1 this
 obtain⟨w,I⟩:∃w,g.kv=[w]:=by
  have:=G.lk.1
  match hg:g.kv,this with
  |[a],_=>exact⟨a,rfl⟩
 have x':f.cs[0]? =some c:=by rw[Z];rfl
 have b':=mY x' vs;have f':=fC x' hc;generalize dK f.k f.w _ 0 vs=d at b' f';have u':=Ln Z (.inr l) c';have hlen:=anN l Z c';have hYG:=anP f c x;have hxw:=hO x;refine aES (aF λa h1 ea g1 ka _=>?_);refine bO ?_;have kal:=ka.lt;have S1:=(fj.of (E:=λc=>D c/\c<h.size) G λc q=>⟨q.2,hD c q.1 q.2⟩).ai KF g1;generalize hE:(λc=>(D c/\c<h.size)\/(h.size<=c/\c<h1.size))=E at S1;have E1:E a:=by rw[<-hE];exact .inr ⟨ag,kal⟩
 have i':∀c,D c/\c<h.size->E c:=λc q=>by rw[<-hE];exact .inl q
 have uM:=dU (aO.lt _ hv) g1;refine aj ka rfl (S1.row KF rfl (λq=>bS rfl ?_) λq qO A' h2 t2 S2=>bu rfl ?_)
 ·rw[rZ q]at r;exact r h1 S1.t ⟨g,by rw[ed],S1.G⟩
 rw[rY q]at r;have ka:=lJ t2 ka E1;have GW:=aO.fr t2 (λc q _ z=>z (i' c q)) (λ_ z=>z) _ uM;generalize o':(f.st vs).up _=r1 at r S2;have k1:r1.aM 0=c.st d:=by rw[<-o',ji];exact b'
 have b1:r1.b.bF=(f.st vs).b.bF:=by rw[<-o'];rfl
 have z':=S2.G.aM 0 M _ w rfl (bJ (by have:=G.lk.2.1;simp_all)) (by simp[I])
 have kb2:=S2.G.B.k;refine S2.G.lW (i:=0) rfl (.inr (.inl l)) (by simp[V]) (by simp[I]) (C.weight z' (aj kb2 (by simp[cj];rfl) ?_))
 rw[k1];have q':=iM f';generalize hF:(λr2:Raw=>fE _ r2)=F at r
 refine aAh (λy h'=>∃(i:Nat)(Q:dP)(P:Raw),y=i/\i<=f.w.toNat/\fj f [M] T h h' P m Q E/\Q.b=g.b/\Q.SS=g.SS/\Q.kv=g.kv/\P.b=r1.b/\P.aM 0=c.st (d++(nt f c x).take i)/\c.can (d++(nt f c x).take i)/\
   aO _ h' s x.items/\aN h' a #[.bool x.au,ah x.num,.string _,Sl.v s] dh/\cW (fu (qq f c x) r1) F=cW (fu ((qq f c x).drop i) P) F)
  (λy _=>f.w.toNat-y.toNat) ⟨0,_,r1,rfl,eu _,S2,rfl,rfl,rfl,rfl,by simpa using k1,by simpa using f',GW,ka,rfl⟩ ?_
 rintro y h3 ⟨i,Q,P,rfl,hi,R,o,X,J,e',W,O,n',U,L⟩ N hN;have Tl:0<Q.KT.length:=by have:=R.G.lk.2.1;simp only[jC]at this;omega
 have hA:=bJ Tl;generalize Q.KT[0]=A at hA;have j:=R.G.aM 0 M A w rfl hA (by rw[J,I];rfl)
 rw[W]at j;refine cE (λcc=>?_) λcc=>?_
 ·have t':(qq f c x)[i]? =some (qq f c x)[i]:=bJ ag;have l':(nt f c x)[i]? =some (nt f c x)[i]:=bJ ag;have d':(nt f c x).take (i+1)=(nt f c x).take i++[(nt f c x)[i]]:=kS ag;have v':(qq f c x).drop i=(qq f c x)[i]::(qq f c x).drop (i+1):=CC ag;generalize(qq f c x)[i]=gi at t' v';generalize(nt f c x)[i]=yi at l' d';rw[v']at L;obtain⟨Gi,rfl,j',hz,hnz⟩:=anM PC PZ (λ_=>u') t' l';have Y:dm 0 Gi P=((Gi (c.st (d++(nt f c x).take i))).1,P.fo 0 (Gi (c.st (d++(nt f c x).take i))).2):=by unfold dm;rw[W]
  -- behind the kid's call
  have fin:∀H,Tn A h3 H->M (Tr A h3 H) H w (Gi (c.st (d++(nt f c x).take i))).2 (m.bind λmm=>mm.ks[0]?)->
    If ((Gi (c.st (d++(nt f c x).take i))).1 !=0) (K (Gi (c.st (d++(nt f c x).take i))).1 H) (aP ((i:Int)+1) λt55=>N (Gu (bC g.b) (aJ a) ((c.st d).b.bF:Int) f.w t55) H):=by
   intro H t6 M6;obtain⟨S,k'⟩:=R.aM KF hA t6 λM' w' q1 q2=>by
    simp at q1;subst q1;rw[J,I]at q2;simp at q2;subst q2;exact M6
   refine cE (λc2=>?_) λc2=>?_
   ·rw[L,FW (by rw[Y];exact c2),Y]at r
    exact r H S.t ⟨_,by rw[ed];simp only[o],S.G⟩
   ·have p':=j' _ O c2;rw[FU (by rw[Y];exact c2),Y]at L
    refine aX ag ag (hN _ _ ⟨i+1,_,_,aA,ag,S,o,X,J,by rw[nv];exact e',?_,?_,aO.fr k' (λc q _ z=>z (i' c q)) (λ_ z=>z) _ n',lJ k' U E1,L⟩ ag)
    ·rw[lC (by have:=R.G.lk.2.2;simp only[jC]at this;omega),p'.2,d',rz]
    ·rw[d',<-rz];exact p'.1
  refine aj U rfl (aG (λcn=>?_) λcn=>?_)
  ·refine bO ?_;have:=hz cn;subst this;exact R.G.lW (i:=0) o (.inr (.inl l)) (by rw[X,V];rfl) (by rw[J,I];rfl) (C.zero O j λH t6 M6=>fin H t6 M6)
  ·refine bO ?_;obtain⟨m',rfl⟩:=hnz cn;have a':=bT m';obtain⟨kk,bb,rfl⟩:=C.na j;refine R.G.lW (i:=0) o (.inr (.inl l)) (by rw[X,V];rfl) (by rw[J,I];rfl) (aj U rfl (n'.ix rfl m' λp u cx GU=>gY cx (arf (C.take (D:=λc=>D c/\c<h.size) O (u' yi a') (by have:=oB a';omega) j GU (λcc q z=>(R.e cc (i' cc q)).2.2 _ A (Q.fF hA) ag z) λH t6 M6=>fin H t6 M6))))
 ·have:i=f.w.toNat:=ag;subst this;rw[<-hlen,EF,FV]at L;rw[qy ag]at W O j;rw[L,<-hF]at r;refine aBL (aj U rfl (aG (λcn=>?_) λcn=>?_))
  ·simp only[nH];dsimp only at r;rw[cn]at r;simp only[gB]at r;refine R.ql KF o (n:=16) rfl (by rw[e',b1];have:=(iM hc).1;omega) λH t6 S=>r H S.t ⟨_,by rw[ed];simp only[o],S.G⟩
  ·refine bO ?_;dsimp only at r;rw[cn]at r;simp only[mG,lN]at r;have s':=iM O;have y':=pq d (nt f c x);have Tv:eL r1 0=bL d:=by unfold eL;rw[k1];exact q'.2
   have Tu:eL P 0=bL d+bL (nt f c x):=by unfold eL;rw[W,s'.2,y']
   have hvh:P.b.bF<=4194304:=by rw[e',b1];exact(iM hc).1
   refine R.G.lW (i:=0) (w:=w) o (.inr (.inl l)) (by rw[X,V];rfl) (by rw[J,I];rfl) (C.weight j (aX ag ag (aX ag ag (R.ql KF o (n:=16+(eL P 0-eL r1 0)) (by rw[Tv,Tu,s'.2,y',q'.2];omega) ag λH t6 S=>r H S.t ⟨_,by rw[ed];simp only[o],S.G⟩))))
end
def kK(cs:cN)(KM:List cO):Prop:=KM.length=cs.length/\∀(j:Nat)c M,cs[j]? =some c->KM[j]? =some M->MC c M
theorem kK.qY{KM:List cO}(C:kK cs KM):∀(j:Nat)M,KM[j]? =some M->gG M:=by
 intro j M a;have d:=(de.1 a).1;have b:j<cs.length:=by have:=C.1;omega
 have q:=C.2 j _ M (bJ b) a;intro T S h e v r m;exact q.fr
section
variable {KM:List cO} {v:Value} {vs:aR} {r:Raw} {m:fT} {x:aB} {s:Sl} {K:cK}
def uw(r:Raw)(i:Nat):Nat:=((List.range i).map λj=>(r.aM j).b.bF).sum
theorem Dm(r:Raw)(i:Nat):uw r (i+1)=uw r i+(r.aM i).b.bF:=by
 grind[uw,List.range_succ]
theorem Dn{r:Raw}{n:Nat}(a:∀j,(r.aM j).b.bF<=n):∀i,uw r i<=i*n
 |0=>by simp[uw]
 |i+1=>by rw[Dm];have:=Dn a i;grind
theorem JU(G:bW f KM T h r m g)(C:kK f.cs KM)(p:f.k=17\/f.k=18)(u:∀j,(r.aM j).b.bF<=2^40)(M:KM.length<=4096)(E:K (total r:Int) h):Fp g.ks h K Kp:=by
 have q:=G.kl p;have lk:=G.lk;have L:g.ks.n=KM.length:=by rw[q.1.1,lk.1]
 have B:total r=uw r KM.length:=by rw[qm,lk.2.2];rfl
 refine aEJ (aAb (λy z A=>A=h/\∃i:Nat,z=i/\i<=KM.length/\y=(uw r i:Int)) (λ_ z _=>KM.length-z.toNat) ⟨rfl,0,rfl,eu _,rfl⟩ ?_);rintro y z A ⟨rfl,i,rfl,O,rfl⟩ N hN;refine aG (λd=>?_) λd=>?_
 ·have d:=aS d;have e:i<f.cs.length:=by have:=C.1;omega
  have w:KM[i]? =some KM[i]:=aA;have t:g.kv[i]? =some g.kv[i]:=aA;have F:g.KT[i]? =some g.KT[i]:=aA;have o:f.cs[i]? =some f.cs[i]:=aA;have I:=Dn u i;have J:=u i;have:i*2^40<=4096*2^40:=ag;refine q.1.ix ag ag aA λa H=>⟨_,H,(C.2 i _ _ o w).weight (G.aM i _ _ _ w F t) (aX ag ag (aX ag ag (hN _ _ _ ⟨rfl,i+1,aA,ag,?_⟩ ag)))⟩
  rw[Dm];simp
 ·grind
theorem bW.uG{K:Sl->Prop}(G:bW f KM T h r m g)(l:g.b=b)(a:f.k=17\/f.k=18)(hl:g.SS.length=i)(j:K g.ks):Ld h ⟨b,16+i,none⟩ Sl.v K:=by
 subst l;refine aj G.B.k ?_ j;rw[pO];have e:∀d,cj f g.sf g.sn g.sb r.b.rows r.b.cz r.b.bF d=cj f g.sf g.sn g.sb r.b.rows r.b.cz r.b.bF []++d:=λ_=>rfl;rw[e,fU (by show 16<=_;omega)]
 show _[16+i-16]? =_
 rw[fU cy,cr,show 16+i-16-g.SS.length=0 by omega]
 unfold nW;grind
def J5(x:aB)(j:Nat)(c:aq):aB:=if x.au then c.cm else x.items.getD j v0
def qn(x:aB)(j:Nat)(c:aq):Raw->Int×Raw:=if x.au then c.zk else λq=>c.tk q (x.items.getD j v0)
def vF(f:aq)(x:aB):List (Raw->Int×Raw):=(List.range f.cs.length).map λi=>dm i (if x.au then(f.cs.map aq.zk).getD i oz else λc=>((f.cs.map aq.tk).getD i oG) c (x.items.getD i v0))
theorem anp(a:f.cs[j]? =some c):(vF f x)[j]? =some (dm j (qn x j c)):=by
 have b:=(de.1 a).1;simp_all[vF,qn]
theorem Z5:(vF f x).length=f.cs.length:=by simp[vF]
theorem ami(a:f.k=17)(r:Raw)(x:aB):f.tk r x=cW (eU x.au r) λd=>cW (fu (vF f x) d) λb=>fE (if x.au then 16 else 16+(total b-total d)) b:=by
 simp_all[kG,iI,vF]
theorem ZO(ff:bB f)(S:f.k=17)(C:kK f.cs KM)(PC:∀c∈f.cs,jr c/\dW c c.zk c.cm)(hc:f.can vs)(i':f.fit x=true)(hw:x.bx<=4194304)(G:bW f KM T h (f.st vs) m g)(hv:aO D h s x.items)(hD:∀c,D c->c<h.size->Out g c)
    (I:∀h',Tn T h h'->cV f KM (Tr T h h') h' (.iface (bK f.k) (bH g.b)) (f.tk (f.st vs) x).2 m->K (f.tk (f.st vs) x).1 h'):OE (bC g.b) x.au x.num (bs x.text) s h K Kp:=by
  have KF:=C.qY;have CL:=C.1;have W:f.k=17\/f.k=18:=.inl S;have ed:bK f.k=oT:=by unfold bK;simp_all
  rw[ed]at I;rw[ami S]at I;have z':=ff.right.1.2.2.2.2.2.2.2.2.1 S;have es:∀rb:Rb,cC f.k rb=[]:=λrb=>by simp_all[cC,aC]
  have j':g.SS=[]:=by
    have:=G.ls.1;rw[es]at this;exact jB.1 this
  have Z:=λj(c:aq)(d:f.cs[j]? =some c)=>mY d vs;have X:=λj(c:aq)(d:f.cs[j]? =some c)=>fC d hc;generalize f':(λj=>dK f.k f.w _ j vs)=l;have Z:∀(j:Nat)(c:aq),f.cs[j]? =some c->(f.st vs).aM j=c.st (l j):=λj c d=>by rw[<-f'];exact Z j c d
  have X:∀(j:Nat)(c:aq),f.cs[j]? =some c->c.can (l j):=λj c d=>by rw[<-f'];exact X j c d
  have hfy:∀(j:Nat)(c:aq),f.cs[j]? =some c->dW c (qn x j c) (J5 x j c)/\(x.au=false->c.fit (x.items.getD j v0)=true):=by
    intro j c d;have hm:=bT d;unfold qn J5;cases hn:x.au with
    |true=>simp_all
    |false=>have q:=(Eg S i' hn).2.2 j c d;exact⟨(PC c hm).1 _ q,λ_=>q⟩
  have hlen:x.au=false->x.items.length=f.cs.length:=λhn=>(Eg S i' hn).2.1;have hxw:=hO x;have hn:=hv.n;have out:∀(B:Raw),B.kids.length=f.cs.length->(∀(j:Nat)(c:aq),f.cs[j]? =some c->∃us,B.aM j=c.st us/\c.can us)->∀j,(B.aM j).b.bF<=2^40:=by
    intro B hl hr j
    by_cases d:j<f.cs.length
    ·obtain⟨us,e,hu⟩:=hr j _ (bJ d);rw[e];have:=(iM hu).1;omega
    ·unfold Raw.aM;rw[gV,IF ag];exact eu _
  refine aEO (aF λa h1 ea g1 ka _=>?_);refine bO ?_;have S1:=(fj.of (E:=λc=>D c/\c<h.size) G λc q=>⟨q.2,hD c q.1 q.2⟩).ai KF g1;generalize hE:(λc=>(D c/\c<h.size)\/(h.size<=c/\c<h1.size))=E at S1;have E1:E a:=by rw[<-hE];exact .inr ⟨ag,ka.lt⟩
  have k':∀c,D c/\c<h.size->E c:=λc q=>by rw[<-hE];exact .inl q
  have uM:=dU (aO.lt _ hv) g1;refine aj ka rfl (S1.row KF rfl (λq=>bS rfl ?_) λq qO A' h2 t2 S2=>bu rfl ?_)
  ·rw[rZ q]at I;exact I h1 S1.t ⟨g,by rw[ed],S1.G⟩
  rw[rY q]at I;have ka:=lJ t2 ka E1;have GW:=aO.fr t2 (λc q _ z=>z (k' c q)) (λ_ z=>z) _ uM;generalize u':(f.st vs).up (Rb.row x.au)=P at I S2;have k1:∀(j:Nat)(c:aq),f.cs[j]? =some c->P.aM j=c.st (l j):=by grind[ji]
  have b1:P.b.bF=(f.st vs).b.bF:=by rw[<-u'];rfl
  have l1:P.kids.length=f.cs.length:=by rw[S2.G.lk.2.2];exact CL
  have o1:=out P l1 λj c d=>⟨l j,k1 j c d,X j c d⟩;refine S2.G.uG (i:=0) rfl W (by simp[j']) (JU S2.G C W o1 ag (S2.G.uG (i:=0) rfl W (by simp[j']) ?_))
  generalize hF:(λr2:Raw=>fE (if x.au then 16 else 16+(total r2-total P)) r2)=F at I
  refine aAf (λy h'=>∃(i:Nat)(Q:dP)(B:Raw),y=i/\i<=f.cs.length/\fj f KM T h h' B m Q E/\Q.b=g.b/\Q.SS=g.SS/\Q.kv=g.kv/\Q.ks=g.ks/\B.b=P.b/\
      (∀(j:Nat)(c:aq),f.cs[j]? =some c->B.aM j=c.st (l j++if j<i then[J5 x j c]else[])/\c.can (l j++if j<i then[J5 x j c]else[]))/\
      aO (λc=>D c/\c<h.size) h' s x.items/\aN h' a #[.bool x.au,ah x.num,.string (bs x.text),Sl.v s] dh/\cW (fu (vF f x) P) F=cW (fu ((vF f x).drop i) B) F)
    (λy _=>f.cs.length-y.toNat) ⟨0,_,P,rfl,eu _,S2,rfl,rfl,rfl,rfl,rfl,λj c d=>by simpa using⟨k1 j c d,X j c d⟩,GW,ka,rfl⟩ ?_
  rintro y h3 ⟨i,Q,B,rfl,hi,S3,L,y',hgk,o,t',R,s',a',U⟩ N hN;have n':=S3.G.lk;have o':=S3.G.kl W;have ns:g.ks.n=f.cs.length:=by rw[<-o,o'.1.1,n'.1,CL]
  refine cE (λcc=>?_) λcc=>?_
  · have x':i<f.cs.length:=ag;have V:=bJ x';have d':KM[i]? =some KM[i]:=bJ ag;have e':Q.KT[i]? =some Q.KT[i]:=bJ ag;have b':Q.kv[i]? =some Q.kv[i]:=bJ ag;generalize f.cs[i]=H at V;generalize KM[i]=Mi at d';generalize Q.KT[i]=A at e';generalize Q.kv[i]=w at b';have Ci:=C.2 i H Mi V d';have M:=S3.G.aM i Mi A w d' e' b';obtain⟨Y,O⟩:=R i H V;rw[ay,qA]at Y O;rw[Y]at M;have hdr:(vF f x).drop i=dm i (qn x i H)::(vF f x).drop (i+1):=by
      rw[CC (by rw[Z5];exact x')]
      congr 1
      have:=de.1 (anp (x:=x) V);exact this.2
    rw[hdr]at U;obtain⟨l',hfi⟩:=hfy i H V;have c':dm i (qn x i H) B=((qn x i H (H.st (l i))).1,B.fo i (qn x i H (H.st (l i))).2):=by unfold dm;rw[Y]
    have fin:∀J,Tn A h3 J->Mi (Tr A h3 J) J w (qn x i H (H.st (l i))).2 (m.bind λmm=>mm.ks[i]?)->
        If ((qn x i H (H.st (l i))).1 !=0) (K (qn x i H (H.st (l i))).1 J) (aP ((i:Int)+1) λt51=>N (Gt (bC g.b) (aJ a) (total P:Int) g.ks (g.ks.n:Int) t51) J):=by
      intro J t6 M6;obtain⟨S6,m'⟩:=S3.aM KF e' t6 λM' w' q1 q2=>by
        rw[d']at q1;cases q1;rw[b']at q2;cases q2;exact M6
      refine cE (λc2=>?_) λc2=>?_
      · rw[U,FW (by rw[c'];exact c2),c']at I
        exact I J S6.t ⟨_,by rw[ed];simp only[L],S6.G⟩
      · have v':=l' _ O c2;rw[FU (by rw[c'];exact c2),c']at U
        refine aX ag ag (hN _ _ ⟨i+1,_,_,aA,ag,S6,L,y',hgk,o,by rw[nv];exact t',λj c d=>?_,aO.fr m' (λc q _ z=>z (k' c q)) (λ_ z=>z) _ s',lJ m' a' E1,U⟩ ag)
        by_cases e:i=j
        ·subst e;rw[V]at d;cases d;rw[lC ag,dV];exact⟨v'.2,v'.1⟩
        · rw[Ba e];have:=R j c d
          by_cases q:j<i
          ·rw[aK q]at this;rw[dV];exact this
          ·rw[aC q]at this;rw[ay];exact this
    rw[<-o];refine o'.1.ix ag (by rw[o];omega) (by rw[gf];exact b') λp cp=>⟨_,cp,aj a' rfl (aG (λcn=>?_) λcn=>?_)⟩
    · rw[o];have eg:qn x i H=H.zk:=by unfold qn;rw[cn];rfl
      rw[eg]at fin;exact Ci.zero O M λJ t6 M6=>fin J t6 M6
    · rw[o];have eg:qn x i H=λq=>H.tk q (x.items.getD i v0):=by unfold qn;rw[cn];rfl
      rw[eg]at fin;have hl:=hlen cn;have q':x.items[i]? =some (x.items.getD i v0):=by rw[gV,bJ ag];rfl
      obtain⟨kk,bb,rfl⟩:=Ci.na M;simp only[bz,cF];refine aj a' rfl (s'.ix rfl q' λp' u cx GU=>gY cx (abU (Ci.take (D:=λc=>D c/\c<h.size) O (hfi cn) (by have:=oB (bT q');omega) M GU (λcc q z=>(S3.e cc (k' cc q)).2.2 _ A (Q.fF e') ag z) λJ t6 M6=>fin J t6 M6)))
  · have:i=f.cs.length:=ag;subst this;rw[<-Z5 (f:=f) (x:=x),EF,FV]at U;rw[U,<-hF]at I;have hvh:B.b.bF<=4194304:=by rw[t',b1];exact(iM hc).1
    refine aBI (aj a' rfl (aG (λcn=>?_) λcn=>?_))
    ·simp only[nH];dsimp only at I;rw[cn]at I;simp only[gB]at I;refine S3.ql KF L (n:=16) rfl ag λJ t6 S6=>I J S6.t ⟨_,by rw[ed];simp only[L],S6.G⟩
    · refine bO ?_;dsimp only at I;rw[cn]at I;simp only[mG,lN]at I;have l3:B.kids.length=f.cs.length:=by rw[n'.2.2];exact CL
      have o3:=out B l3 λj c d=>⟨_,(R j c d).1,(R j c d).2⟩;have hle:total P<=total B:=by
        rw[qm,qm,l1,l3];have:∀n,n<=f.cs.length->uw P n<=uw B n:=by
          intro n
          induction n with
          |zero=>intro _;exact bX _
          | succ n ih=>
            intro hn;have d:f.cs[n]? =some f.cs[n]:=bJ ag;have q1:=(iM (R n _ d).2).2;have q2:=(iM (X n _ d)).2;rw[Dm,Dm,k1 n _ d,(R n _ d).1,q1,q2,pq];have:=ih ag;omega
        exact this _ (bX _)
      have BG:total P<=32*2^40:=by rw[qm,l1];exact jE (Dn o1 _) (oQ _ z')
      have D0:total B<=32*2^40:=by rw[qm,l3];exact jE (Dn o3 _) (oQ _ z')
      refine S3.G.uG (i:=0) L W (by rw[y',j'];rfl) (JU S3.G C W o3 ag (aX ag ag (aX ag ag (S3.ql KF L (n:=16+(total B-total P)) ag ag λJ t6 S6=>I J S6.t ⟨_,by rw[ed];simp only[L],S6.G⟩))))
end
theorem ax3{k:Value}{p:Addr}{K:cK}(H:ajD k p h K Kp):cZ aE (.func (.func 221) #[] #[c9 p]) [k] h (λr a=>∃t:Int,r=ah t/\K t a) Kp:=by
 unfold cZ;exact cast aW H
theorem axY{k:Value}{K:cK}(H:mL k h K Kp):cZ aE (.func (.methodOf II "colonnade/build.zero") #[] #[]) [k] h (λr d=>∃t:Int,r=ah t/\K t d) Kp:=by
  unfold cZ;exact cast aW H
section
variable {KM:List cO} {h0:Hp} {v:Value} {vs:aR} {m:fT} {x:aB} {s:Sl} {K:cK}
theorem acp{V:Value}{F:Raw->Int×Raw}(H:f.k=18)(C:kK f.cs KM)(hc:f.can vs)(hj:f.cs[j]? =some c)(p':j<32)(S:fj f KM T h0 h (f.st vs) m g E)(y:g.b=b)
  (hF:∀I,c.can I->(F (c.st I)).1=0->(F (c.st I)).2.b.bF<=4194304/\(c.st I).b.bF<=(F (c.st I)).2.b.bF)
  (HT:∀{Q:Hp}{A:aQ}{M:cO}{w:Value}{mo:fT}{I:aR}{K':cK},KM[j]? =some M->c.can I->M A Q w (c.st I) mo->Tn (λc=>¬E c) h Q->(∀c,E c->¬A c)->
   (∀P,Tn A Q P->M (Tr A Q P) P w (F (c.st I)).2 mo->K' (F (c.st I)).1 P)->cZ aE V [w] Q (λr h1=>∃t:Int,r=ah t/\K' t h1) Kp)
  (o:∀Q g',g'.b=b->fj f KM T h0 Q (th j F (f.st vs)).2 m g' E->K (th j F (f.st vs)).1 Q):Oz (bC b) (j:Int) V h K Kp:=by
 have KF:=C.qY;have CL:=C.1;have j':f.k=17\/f.k=18:=.inr H;have L:∀rb:Rb,cC f.k rb=[(bv rb.all,Y8),(ints rb.ends,Y6)]:=λrb=>by unfold cC;rw[ay,ay,aK H]
 have ep:∀a b:Rb,eN f.k a b↔b.ends <+: a.ends/\b.all <+: a.all/\b.ends.length=b.all.length:=λa b=>by unfold eN;rw[ay,ay,ay,aK H]
 obtain⟨s0,s1,l⟩:∃s0 s1,g.SS=[s0,s1]:=by
  have:=S.G.ls.1;rw[L]at this
  match hg:g.SS,this with
  |[a,b],_=>exact⟨a,b,rfl⟩
 have y':=(de.1 hj).1;have Y:=mY hj vs;have O:=fC hj hc;generalize dK f.k f.w _ j vs=u at Y O;have n4:=((gj f vs).1 hc).n4;have al:(f.st vs).b.all.length<=4096:=by rw[fI];simp only[aL];rw[ay,aK H,cr];exact n4
 have el:(f.st vs).b.ends.length<=4096:=by rw[fI];simp only[aL];rw[ay,ay,aK H,cr,Il];exact n4
 apply aED;refine bO ?_;unfold th at o;refine S.row KF y (λq=>bS rfl ?_) λq s' A' h2 t2 N=>bu rfl ?_
 ·rw[rZ q]at o;exact o h g y S
 rw[rY q]at o;generalize e':(f.st vs).up _=d at o N;have k1:d.aM j=c.st u:=by rw[<-e',ji];exact Y
 have a1:d.b.all=(f.st vs).b.all/\d.b.ends=(f.st vs).b.ends/\d.b.bF=(f.st vs).b.bF:=by rw[<-e'];exact⟨rfl,rfl,rfl⟩
 have b':=N.G.kl j';have a':=N.G.lk;have m':j<g.kv.length:=by have:g.kv.length=KM.length:=a'.1;omega
 have n':j<g.KT.length:=by have:g.KT.length=KM.length:=a'.2.1;omega
 have Z:KM[j]? =some KM[j]:=bJ ag;have hw:=bJ m';have hA:=bJ n';generalize KM[j]=M at Z;generalize g.kv[j]=w at hw;generalize g.KT[j]=A at hA;have Cj:=C.2 j c M hj Z;have ns:g.ks.n=KM.length:=by have:=b'.1.1;rw[a'.1]at this;exact this
 have X:=N.G.aM j M A w Z hA hw;rw[k1]at X;refine N.G.uG (i:=2) y j' (by simp[l]) (b'.1.ix ag (by show(j:Int)<g.ks.n;omega) (by rw[gf];exact hw) λp cp=>⟨_,cp,Cj.weight X ?_⟩)
 have n0:s0.n=(f.st vs).b.all.length:=by have:=N.G.oI (i:=0) (s:=s0) (by simp[l]) (by rw[L];rfl);rw[this,fP,a1.1]
 have n1:s1.n=(f.st vs).b.ends.length:=by have:=N.G.oI (i:=1) (s:=s1) (by simp[l]) (by rw[L];rfl);rw[this,ints,cr,a1.2.1]
 refine N.G.dH (i:=0) (s:=s0) y (by simp[l]) (pY rfl (by omega:j<2^8) (aF λa3 h3 e3 g3 k3 _=>?_))
 have k':(UInt8.ofNat j).toNat=j:=by rw[tN];omega
 refine(N.ai KF g3).app (i:=0) (x:=(bv d.b.all,Y8)) (x':=(bv (d.b.all++[UInt8.ofNat j]),Y8)) (r':=d.up λb=>{b with all:=b.all++[UInt8.ofNat j]}) (news:=[.int .u8 (j:Int)]) KF y (by simp[l]) (by rw[L];rfl) rfl ?_ rfl (iJ k3 rfl) ag ag (by rw[uT];simp[bv,k'])
  ⟨rfl,rfl,rfl,rfl⟩ (by rw[L,L];rfl) rfl rfl (λmm _ q=>?_) λu' A0 h4 t4 S4=>?_
 ·intro v hv;simp only[ng]at hv;subst hv;rfl
 ·rw[ep]at q ⊢;exact⟨q.1,q.2.1.trans (tM _ _),q.2.2⟩
 have W:=S4.G.aM j M A w Z hA hw;rw[ji,k1]at W;have c':aN h4 b _ _:=y▸S4.G.B.k;refine S4.G.dH (i:=1) (s:=s1) y (by simp[l]) (Cj.count W (bQ c' (cQ _) (aF λa5 h5 e5 g5 k5 _=>bQ c' g5 ?_)))
 refine(S4.ai KF g5).app (i:=1) (s:=s1) (x:=(ints d.b.ends,Y6)) (x':=(ints (d.b.ends++[(c.st u).b.rows]),Y6)) (r':=d.up λb=>{b with all:=b.all++[UInt8.ofNat j],ends:=b.ends++[(d.aM j).b.rows]}) (news:=[ah ((c.st u).b.rows:Int)]) KF y (by simp[l]) (by rw[L];rfl) rfl ?_ rfl (iJ k5 rfl) ag ag (by simp[ints])
  ⟨rfl,rfl,rfl,rfl⟩ (by rw[L,L,gz,k1];rfl) rfl rfl (λmm _ q=>?_) λt' A1 h6 t6 S6=>?_
 ·intro v hv;simp only[ng]at hv;subst hv;rfl
 ·rw[ep]at q ⊢;exact⟨q.1.trans (tM _ _),q.2.1,q.2.2⟩
 have U:=S6.G.aM j M A w Z hA hw;rw[ji,k1]at U;have tE:Tn (λc=>¬E c) h h6:=(((t2.trans (bg g3)).trans (t4.mono λc q _ z=>q (.inl z))).trans (bg g5)).trans (t6.mono λc q _ z=>q (.inl (.inl z)));generalize d':(d.up λb=>{b with all:=b.all++[UInt8.ofNat j],ends:=b.ends++[(d.aM j).b.rows]})=J at o S6
 have k2:J.aM j=c.st u:=by rw[<-d',ji];exact k1
 have b2:J.b.bF=(f.st vs).b.bF:=by rw[<-d'];exact a1.2.2
 have o':dm j F J=((F (c.st u)).1,J.fo j (F (c.st u)).2):=by unfold dm;rw[k2]
 rw[o']at o;refine HT Z O U tE (λcc q z=>(S6.e cc (.inl (.inl q))).2.2 _ A (dP.fF _ hA) ag z) λh7 t7 M7=>?_;obtain⟨S7,q'⟩:=S6.aM KF hA t7 λM' w' q1 q2=>by
  rw[Z]at q1;cases q1;have q2:g.kv[j]? =some w':=q2;rw[hw]at q2;cases q2;exact M7
 have S7:fj f KM T h0 h7 (J.fo j (F (c.st u)).2) m _ E:=⟨S7.t,S7.G,λc q=>S7.e c (.inl (.inl q))⟩;refine cE (λR=>?_) λR=>?_
 ·unfold cW at o;rw[aC R]at o;exact o h7 _ (by exact y) S7
 ·unfold cW at o;rw[aK R]at o;obtain⟨q1,q2⟩:=hF u O R;have l':j<J.kids.length:=by have:J.kids.length=KM.length:=S6.G.lk.2.2;omega
  have i':eL d j=(c.st u).b.bF:=by unfold eL;rw[k1]
  have f':eL (J.fo j (F (c.st u)).2) j=(F (c.st u)).2.b.bF:=by unfold eL;rw[lC l']
  refine Cj.weight M7 (aX ag ag (aX ag ag (S7.ql KF y (n:=16+(eL (J.fo j (F (c.st u)).2) j-eL d j)) (by rw[i',f'];omega) ?_ λh8 t8 S8=>o h8 _ (by exact y) S8)))
  rw[nv,b2,i',f'];have:=(iM hc).1;omega
end
section
variable {KM:List cO} {M:cO} {h0:Hp} {v:Value} {vs:aR} {r:Raw} {m:fT} {x:aB} {s:Sl} {K:cK}
theorem avk(b:f.k=18)(a:f.fit x=true):x.au=false/\0<=x.num/\x.num<f.cs.length/\x.items.length=1/\∀c,f.cs[x.num.toNat]? =some c->c.fit (x.items.getD 0 v0)=true:=by
  rw[eM]at a;have hl:f.lets=false:=by rw[ym];unfold ny;rw[ay];simp[b]
  rw[hl]at a;unfold fG at a;simp only[dw]at a;obtain⟨_,a⟩:=a;cases d:x.au with
  |true=>grind
  | false=>
    rw[d,aC aA,ay,aK b]at a;simp only[dw,dR]at a;obtain⟨_,n,l,j,e⟩:=a;simp_all
theorem ams(a:f.k=18)(b:f.cs[x.num.toNat]? =some c)(r:Raw):f.tk r x=th x.num.toNat (λq=>c.tk q (x.items.getD 0 v0)) r:=by
 rw[kG];unfold iI;simp[*]
theorem ZX(S:bB f)(e:f.k=18)(C:kK f.cs KM)(PC:∀c∈f.cs,jr c)(hc:f.can vs)(J:f.fit x=true)(hw:x.bx<=4194304)(G:bW f KM T h (f.st vs) m g)(hv:aO D h s x.items)(hD:∀c,D c->c<h.size->Out g c)
  (O:∀l,Tn T h l->cV f KM (Tr T h l) l (.iface (bK f.k) (bH g.b)) (f.tk (f.st vs) x).2 m->K (f.tk (f.st vs) x).1 l):OA (bC g.b) x.au x.num (bs x.text) s h K Kp:=by
 obtain⟨_,h1,h2,h3,h4⟩:=avk e J;have b':=(S.right.1.2.2.2.2.2.2.2.2.2.1 e).2;have o:f.cs[x.num.toNat]? =some f.cs[x.num.toNat]:=bJ ag;generalize f.cs[x.num.toNat]=c at o;have n:=h4 c o;have B:=PC c (bT o) _ n;have j:x.items[0]? =some (x.items.getD 0 v0):=by rw[gV,bJ ag];rfl
 have a':=hO x;have i:=bT j;rw[ams e o]at O;generalize x.items.getD 0 v0=y at j O n B i;refine aEG (aF λa I ea P N _=>?_);refine bO ?_;have Z:=(fj.of (E:=λc=>D c/\c<h.size) G λc q=>⟨q.2,hD c q.1 q.2⟩).ai C.qY P;generalize X:(λc=>(D c/\c<h.size)\/(h.size<=c/\c<I.size))=E at Z;have E1:E a:=by rw[<-X];exact .inr ⟨ag,N.lt⟩
 have H:∀c,D c/\c<h.size->E c:=λc q=>by rw[<-X];exact .inl q
 have R:=dU (aO.lt _ hv) P;have en:x.num=(x.num.toNat:Int):=ag;apply aj N rfl;rw[en];refine acp e C hc o ag Z rfl (λL d hz=>?_) (λ{l A M w mo L K'}hM d W t V U=>?_) λl g' eg S'=>O l S'.t ⟨g',by rw[eg],S'.G⟩
 ·obtain⟨q1,q2⟩:=B L d hz;rw[q2];have:=iM q1;have:=iM d;have:=pq L [y];exact⟨ag,ag⟩
 ·have Cj:=C.2 _ c M o hM;obtain⟨kk,bb,rfl⟩:=Cj.na W;refine ax3 (aEC ?_);simp only[bz,cF];refine aj (lJ t N E1) rfl ((aO.fr t (λc q _ z=>z (H c q)) (λ_ z=>z) _ R).ix rfl j λp u cx Q=>gY cx (abU (Cj.take d n (by have:=oB i;omega) W Q (λY q z=>V Y (H Y q) z) U)))
end
section
variable {KM:List cO} {M:cO} {v:Value} {vs:aR} {r:Raw} {m:fT} {K:cK}
theorem vA(a:f.small=true\/¬(16<=f.k/\f.k<=20))(r:Raw):f.zk r=f.tk r f.cm:=by
 simp_all[sC,nQ]
theorem bW.uR(G:bW f KM T h r m g):Cs h ⟨g.b,11,none⟩ [.bool f.cm.au,ah f.cm.num,.string (bs f.cm.text),Sl.v g.sn]:=BV.uR G.B.k
theorem akG(d:f.k=1)(KF:∀(j:Nat)M,KM[j]? =some M->gG M)(G:bW f KM T h r m g)(i:r.b.bF<=2^50)(e:∀a,Tn T h a->cV f KM (Tr T h a) a (.iface (bK f.k) (bH g.b)) (f.zk r).2 m->K (f.zk r).1 a):XS (bC g.b) h K Kp:=by
 rw[vA (.inr ag)]at e;apply aE9;refine bO ?_;exact gY G.uR (ZU d KF G i e)
theorem akB(d:bB f)(e:f.k=12\/f.k=13)(KF:∀(j:Nat)M,KM[j]? =some M->gG M)(G:bW f KM T h r m g)(n:r.b.ends.length<=70000)(b2:r.b.all.length<=2^40)(l:r.b.bF<=2^50)
  (i:∀a,Tn T h a->cV f KM (Tr T h a) a (.iface (bK f.k) (bH g.b)) (f.zk r).2 m->K (f.zk r).1 a):XR (bC g.b) h K Kp:=by
 rw[vA (.inr ag)]at i;have:=abQ d;apply aE1;refine bO ?_;exact gY G.uR (ZN e KF G n b2 l ag i)
theorem akH(a:bB f)(e:f.k=15)(i:f.cs=[c])(C:MC c M)(o:jr c)(l:f.can vs)(G:bW f [M] T h (f.st vs) m g)
  (j:∀d,Tn T h d->cV f [M] (Tr T h d) d (.iface (bK f.k) (bH g.b)) (f.zk (f.st vs)).2 m->K (f.zk (f.st vs)).1 d):XQ (bC g.b) h K Kp:=by
 rw[vA (.inr ag)]at j;obtain⟨_,n,s,p⟩:=sS a (PY a ag);apply aEV;refine bO ?_;exact gY G.uR (ZV e i C o l n ag G G.no (λc q _=>G.DK q) j)
end
section
variable {KM:List cO} {M:cO} {v:Value} {vs:aR} {r:Raw} {m:fT} {K:cK}
theorem aku(i:¬f.small=true)(a:f.k=16)(b:f.cs=[c])(r:Raw):f.zk r=cW (eU false r) λe=>cW (fu (List.replicate f.w.toNat (dm 0 c.zk)) e) λd=>fE (16+(eL d 0-eL e 0)) d:=by
 rw[sC];unfold nQ;simp[*]
theorem akE(S:bB f)(j:f.k=16)(W:f.cs=[c])(C:MC c M)(PC:jr c)(PZ:dW c c.zk c.cm)(hc:f.can vs)(G:bW f [M] T h (f.st vs) m g)
  (e:∀X,Tn T h X->cV f [M] (Tr T h X) X (.iface (bK f.k) (bH g.b)) (f.zk (f.st vs)).2 m->K (f.zk (f.st vs)).1 X):XP (bC g.b) h K Kp:=by
 apply aER;refine bO ?_;refine aj G.B.k (by simp[cj];rfl) ?_
 by_cases hs:f.small=true
 ·rw[vA (.inl hs)]at e;obtain⟨_,h2,h3,h4⟩:=sS S hs;exact bS hs (gY G.uR (ZQ S j W C PC PZ hc h2 ag G G.no (λc q _=>G.DK q) e))
 rw[aku hs j W]at e;apply bu (by simpa using hs)
 have KF:=nE C;have ed:bK f.k=oU:=by unfold bK;simp_all
 rw[ed]at e;have v':=S.right.1.2.2.2.1 j;have es:∀rb:Rb,cC f.k rb=[]:=λrb=>by simp_all[cC,aC]
 have P:g.SS=[]:=by
  have:=G.ls.1;rw[es]at this;exact jB.1 this
 obtain⟨w,l⟩:∃w,g.kv=[w]:=by
  have:=G.lk.1
  match hg:g.kv,this with
  |[a],_=>exact⟨a,rfl⟩
 have i':f.cs[0]? =some c:=by rw[W];rfl
 have J:=mY i' vs;have U:=fC i' hc;generalize dK f.k f.w _ 0 vs=d at J U;have S1:=fj.of (E:=λ_=>False) G λ_ q=>q.elim;refine S1.row KF rfl (λq=>bS rfl ?_) λq u' A' h2 t2 S2=>bu rfl ?_
 ·rw[rZ q]at e;exact e h S1.t ⟨g,by rw[ed],S1.G⟩
 rw[rY q]at e;generalize b':(f.st vs).up _=H at e S2;have k1:H.aM 0=c.st d:=by rw[<-b',ji];exact J
 have b1:H.b.bF=(f.st vs).b.bF:=by rw[<-b'];rfl
 have k':=S2.G.aM 0 M _ w rfl (bJ (by have:=G.lk.2.1;simp_all)) (by simp[l])
 have l':=S2.G.B.k;refine S2.G.lW (i:=0) rfl (.inr (.inl j)) (by simp[P]) (by simp[l]) (C.weight k' (aj l' (by simp[cj];rfl) ?_))
 rw[k1];have d':=iM U;generalize hF:(λr2:Raw=>fE _ r2)=F at e;generalize f':List.replicate f.w.toNat _=Y at e;have q':Y.length=f.w.toNat:=by rw[<-f'];simp
 refine aAg (λy X=>∃(i:Nat)(z:dP)(x:Raw),y=i/\i<=f.w.toNat/\fj f [M] T h X x m z _/\z.b=g.b/\z.SS=g.SS/\z.kv=g.kv/\x.b=H.b/\x.aM 0=c.st (d++List.replicate i c.cm)/\c.can (d++List.replicate i c.cm)/\
   cW (fu Y H) F=cW (fu (Y.drop i) x) F)
  (λy _=>f.w.toNat-y.toNat) ⟨0,_,H,rfl,eu _,S2,rfl,rfl,rfl,rfl,by simpa using k1,by simpa using U,rfl⟩ ?_
 rintro y h3 ⟨i,z,x,rfl,hi,O,o,V,s,a',Q,R,p⟩ N hN;have m':0<z.KT.length:=by have:=O.G.lk.2.1;simp only[jC]at this;omega
 have hA:=bJ m';generalize z.KT[0]=A at hA;have u:=O.G.aM 0 M A w rfl hA (by rw[s,l];rfl)
 rw[Q]at u;refine cE (λcc=>?_) λcc=>?_
 ·refine bO ?_;have n':i<Y.length:=ag;have s':Y.drop i=dm 0 c.zk::Y.drop (i+1):=by
   rw[CC n']
   congr 1
   simp[<-f']
  rw[s']at p;have D:dm 0 c.zk x=((c.zk (c.st (d++List.replicate i c.cm))).1,x.fo 0 (c.zk (c.st (d++List.replicate i c.cm))).2):=by unfold dm;rw[Q]
  refine O.G.lW (i:=0) o (.inr (.inl j)) (by rw[V,P];rfl) (by rw[s,l];rfl) (C.zero R u λh6 t6 M6=>?_)
  obtain⟨Z,t'⟩:=O.aM KF hA t6 λM' w' q1 q2=>by
   simp at q1;subst q1;rw[s,l]at q2;simp at q2;subst q2;exact M6
  refine cE (λI=>?_) λI=>?_
  ·rw[p,FW (by rw[D];exact I),D]at e
   exact e h6 Z.t ⟨_,by rw[ed];simp only[o],Z.G⟩
  ·have c':=PZ _ R I;rw[FU (by rw[D];exact I),D]at p
   have L:List.replicate (i+1) c.cm=List.replicate i c.cm++[c.cm]:=EE;refine aX ag ag (hN _ _ ⟨i+1,_,_,aA,ag,Z,o,V,s,by rw[nv];exact a',?_,?_,p⟩ ag)
   ·rw[lC (by have:=O.G.lk.2.2;simp only[jC]at this;omega),c'.2,L,rz]
   ·rw[L,<-rz];exact c'.1
 ·have:i=f.w.toNat:=ag;subst this;rw[<-q',EF,FV]at p;rw[p,<-hF]at e;apply aBK;refine bO ?_;dsimp only at e;have e':=iM R;have j':=pq d (List.replicate f.w.toNat c.cm);have p':eL H 0=bL d:=by unfold eL;rw[k1];exact d'.2
  have o':eL x 0=bL d+bL (List.replicate f.w.toNat c.cm):=by unfold eL;rw[Q,e'.2,j']
  have x':x.b.bF<=4194304:=by rw[a',b1];exact(iM hc).1
  refine O.G.lW (i:=0) o (.inr (.inl j)) (by rw[V,P];rfl) (by rw[s,l];rfl) (C.weight u (aX ag ag (aX ag ag (O.ql KF o (by rw[p',o',e'.2,j',d'.2];omega) ag λh6 t6 Z=>e h6 Z.t ⟨_,by rw[ed];simp only[o],Z.G⟩))))
end
section
variable {KM:List cO} {M:cO} {v:Value} {vs:aR} {r:Raw} {m:fT} {K:cK}
def vB(f:aq):List (Raw->Int×Raw):=(List.range (f.cs.map aq.zk).length).map λi=>dm i ((f.cs.map aq.zk).getD i oz)
theorem akK(a:f.cs[j]? =some c):(vB f)[j]? =some (dm j c.zk):=by
 grind[List.getElem?_eq_some_iff,vB]
theorem Zg:(vB f).length=f.cs.length:=by simp[vB]
theorem akt(e:¬f.small=true)(a:f.k=17)(r:Raw):f.zk r=cW (eU false r) λd=>cW (fu (vB f) d) λb=>fE (16+(total b-total d)) b:=by
 simp_all[sC,nQ,vB]
theorem akC(b':bB f)(L:f.k=17)(C:kK f.cs KM)(PC:∀c∈f.cs,jr c/\dW c c.zk c.cm)(hc:f.can vs)(G:bW f KM T h (f.st vs) m g)
    (s:∀h',Tn T h h'->cV f KM (Tr T h h') h' (.iface (bK f.k) (bH g.b)) (f.zk (f.st vs)).2 m->K (f.zk (f.st vs)).1 h'):XO (bC g.b) h K Kp:=by
  apply aEN;refine bO ?_;refine aj G.B.k (by simp[cj];rfl) ?_
  by_cases hs:f.small=true
  ·rw[vA (.inl hs)]at s;obtain⟨_,h2,h3,h4⟩:=sS b' hs;exact bS hs (gY G.uR (ZO b' L C PC hc h2 ag G G.no (λc q _=>G.DK q) s))
  rw[akt hs L]at s;apply bu (by simpa using hs)
  have KF:=C.qY;have CL:=C.1;have D:f.k=17\/f.k=18:=.inl L;have ed:bK f.k=oT:=by unfold bK;simp_all
  rw[ed]at s;have m':=b'.right.1.2.2.2.2.2.2.2.2.1 L;have es:∀rb:Rb,cC f.k rb=[]:=λrb=>by simp_all[cC,aC]
  have a':g.SS=[]:=by
    have:=G.ls.1;rw[es]at this;exact jB.1 this
  have R:=λj(c:aq)(a:f.cs[j]? =some c)=>mY a vs;have J:=λj(c:aq)(a:f.cs[j]? =some c)=>fC a hc;generalize Z:(λj=>dK f.k f.w _ j vs)=l;have R:∀(j:Nat)(c:aq),f.cs[j]? =some c->(f.st vs).aM j=c.st (l j):=λj c a=>by rw[<-Z];exact R j c a
  have J:∀(j:Nat)(c:aq),f.cs[j]? =some c->c.can (l j):=λj c a=>by rw[<-Z];exact J j c a
  have out:∀(d:Raw),d.kids.length=f.cs.length->(∀(j:Nat)(c:aq),f.cs[j]? =some c->∃us,d.aM j=c.st us/\c.can us)->∀j,(d.aM j).b.bF<=2^40:=by
    intro d hl hr j
    by_cases a:j<f.cs.length
    ·obtain⟨us,e,hu⟩:=hr j _ (bJ a);rw[e];have:=(iM hu).1;omega
    ·unfold Raw.aM;rw[gV,IF ag];exact eu _
  have S1:=fj.of (E:=λ_=>False) G λ_ q=>q.elim;refine S1.row KF rfl (λq=>bS rfl ?_) λq q' A' h2 t2 S2=>bu rfl ?_
  ·rw[rZ q]at s;exact s h S1.t ⟨g,by rw[ed],S1.G⟩
  rw[rY q]at s;generalize i':(f.st vs).up _=H at s S2;have k1:∀(j:Nat)(c:aq),f.cs[j]? =some c->H.aM j=c.st (l j):=by grind[ji]
  have b1:H.b.bF=(f.st vs).b.bF:=by rw[<-i'];rfl
  have l1:H.kids.length=f.cs.length:=by rw[S2.G.lk.2.2];exact CL
  have o1:=out H l1 λj c a=>⟨l j,k1 j c a,J j c a⟩;refine S2.G.uG (i:=0) rfl D (by simp[a']) (JU S2.G C D o1 ag (S2.G.uG (i:=0) rfl D (by simp[a']) ?_))
  generalize hF:(λr2:Raw=>fE (16+(total r2-total H)) r2)=F at s;refine aAe (λy h'=>∃(i:Nat)(I:dP)(d:Raw),y=i/\i<=f.cs.length/\fj f KM T h h' d m I (λ_=>False)/\I.b=g.b/\I.SS=g.SS/\I.kv=g.kv/\I.ks=g.ks/\d.b=H.b/\
      (∀(j:Nat)(c:aq),f.cs[j]? =some c->d.aM j=c.st (l j++if j<i then[c.cm]else[])/\c.can (l j++if j<i then[c.cm]else[]))/\cW (fu (vB f) H) F=cW (fu ((vB f).drop i) d) F)
    (λy _=>f.cs.length-y.toNat) ⟨0,_,H,rfl,eu _,S2,rfl,rfl,rfl,rfl,rfl,λj c a=>by simpa using⟨k1 j c a,J j c a⟩,rfl⟩ ?_
  rintro y h3 ⟨i,I,d,rfl,hi,S3,O,l',n',o,f',u,x⟩ N hN;have d':=S3.G.lk;have e':=S3.G.kl D;have ns:g.ks.n=f.cs.length:=by rw[<-o,e'.1.1,d'.1,CL]
  refine cE (λcc=>?_) λcc=>?_
  · have k':i<f.cs.length:=ag;have z:=bJ k';have W:KM[i]? =some KM[i]:=bJ ag;have c':I.KT[i]? =some I.KT[i]:=bJ ag;have U:I.kv[i]? =some I.kv[i]:=bJ ag;generalize f.cs[i]=S at z;generalize KM[i]=Mi at W;generalize I.KT[i]=A at c';generalize I.kv[i]=w at U;have Y:=S3.G.aM i Mi A w W c' U;obtain⟨P,Q⟩:=u i S z;rw[ay,qA]at P Q;rw[P]at Y;have o':(vB f).drop i=dm i S.zk::(vB f).drop (i+1):=by
      rw[CC (by rw[Zg];exact k')]
      congr 1
      exact(de.1 (akK z)).2
    rw[o']at x;have V:dm i S.zk d=((S.zk (S.st (l i))).1,d.fo i (S.zk (S.st (l i))).2):=by unfold dm;rw[P]
    rw[<-o];refine e'.1.ix ag (by rw[o];omega) (by rw[gf];exact U) λp cp=>⟨_,cp,(C.2 i S Mi z W).zero Q Y λh6 t6 M6=>?_⟩
    rw[o];obtain⟨S6,p'⟩:=S3.aM KF c' t6 λM' w' q1 q2=>by
      rw[W]at q1;cases q1;rw[U]at q2;cases q2;exact M6
    refine cE (λX=>?_) λX=>?_
    · rw[x,FW (by rw[V];exact X),V]at s
      exact s h6 S6.t ⟨_,by rw[ed];simp only[O],S6.G⟩
    · have j':=((PC S (bT z)).2) _ Q X;rw[FU (by rw[V];exact X),V]at x
      refine aX ag ag (hN _ _ ⟨i+1,_,_,aA,ag,S6,O,l',n',o,by rw[nv];exact f',λj c a=>?_,x⟩ ag)
      by_cases e:i=j
      ·subst e;rw[z]at a;cases a;rw[lC ag,dV];exact⟨j'.2,j'.1⟩
      · rw[Ba e];have:=u j c a
        by_cases q:j<i
        ·rw[aK q]at this;rw[dV];exact this
        ·rw[aC q]at this;rw[ay];exact this
  · have:i=f.cs.length:=ag;subst this;rw[<-Zg,EF,FV]at x;rw[x,<-hF]at s;have s':d.b.bF<=4194304:=by rw[f',b1];exact(iM hc).1
    apply aBH;refine bO ?_;dsimp only at s;have l3:d.kids.length=f.cs.length:=by rw[d'.2.2];exact CL
    have o3:=out d l3 λj c a=>⟨_,(u j c a).1,(u j c a).2⟩;have v':total H<=total d:=by
      rw[qm,qm,l1,l3];have:∀n,n<=f.cs.length->uw H n<=uw d n:=by
        intro n
        induction n with
        |zero=>intro _;exact bX _
        | succ n ih=>
          intro hn;have a:f.cs[n]? =some f.cs[n]:=bJ ag;have q1:=(iM (u n _ a).2).2;have q2:=(iM (J n _ a)).2;rw[Dm,Dm,k1 n _ a,(u n _ a).1,q1,q2,pq];have:=ih ag;omega
      exact this _ (bX _)
    have u':total H<=32*2^40:=by rw[qm,l1];exact jE (Dn o1 _) (oQ _ m')
    have t':total d<=32*2^40:=by rw[qm,l3];exact jE (Dn o3 _) (oQ _ m')
    refine S3.G.uG (i:=0) O D (by rw[l',a'];rfl) (JU S3.G C D o3 ag (aX ag ag (aX ag ag (S3.ql KF O (n:=16+(total d-total H)) ag ag λh6 t6 S6=>s h6 S6.t ⟨_,by rw[ed];simp only[O],S6.G⟩))))
theorem akA(b:¬f.small=true)(a:f.k=18)(d:f.cs[0]? =some c)(r:Raw):f.zk r=th 0 c.zk r:=by
 rw[sC];unfold nQ;simp[*]
theorem akJ(i:bB f)(d:f.k=18)(C:kK f.cs KM)(y:∀c∈f.cs,jr c/\dW c c.zk c.cm)(p:f.can vs)(G:bW f KM T h (f.st vs) m g)
  (o:∀e,Tn T h e->cV f KM (Tr T h e) e (.iface (bK f.k) (bH g.b)) (f.zk (f.st vs)).2 m->K (f.zk (f.st vs)).1 e):XN (bC g.b) h K Kp:=by
 apply aEF;refine bO ?_;refine aj G.B.k (by simp[cj];rfl) ?_
 by_cases l:f.small=true
 ·rw[vA (.inl l)]at o;obtain⟨_,L,S,R⟩:=sS i l;exact bS l (gY G.uR (ZX i d C (λc p=>(y c p).1) p L ag G G.no (λc q _=>G.DK q) o))
 have U:=(i.right.1.2.2.2.2.2.2.2.2.2.1 d).1;have n:f.cs[0]? =some f.cs[0]:=aA;generalize f.cs[0]=c at n;rw[akA l d n]at o;apply bu dG
 have P:=fj.of (E:=λ_=>False) G λ_ q=>q.elim;refine acp (j:=0) d C p n ag P rfl (λs a H=>?_) (λ{e A M w mo s V}I a J t Q u=>axY ((C.2 0 c M n I).zero a J u)) λe N O x=>o e x.t ⟨N,by rw[O],x.G⟩
 obtain⟨D,z⟩:=(y c (bT n)).2 s a H;grind[iM,pq]
end
section
variable {KM:List cO} {r:Raw} {m:fT} {x:aB} {s:Sl} {K:cK}
theorem aml(p:fL f.k=true)(r:Raw)(x:aB):f.tk r x=cW (eU x.au r) λn=>fE (16+x.text.length) (n.up λb=>{b with dY:=b.dY++[(x.num%2^64).toNat],texts:=b.texts++[x.text]}):=by
 simp_all[zw,kG,iI]
theorem ZT(P:fL f.k=true)(KF:∀(j:Nat)M,KM[j]? =some M->gG M)(G:bW f KM T h r m g)(b1:r.b.dY.length<=70000)(b2:r.b.texts.length<=70000)(b3:r.b.bF<=2^50)(b4:x.text.length<=2^50)
  (w:∀C,Tn T h C->cV f KM (Tr T h C) C (.iface (bK f.k) (bH g.b)) (f.tk r x).2 m->K (f.tk r x).1 C):Oo (bC g.b) x.au x.num (bs x.text) s h K Kp:=by
 obtain⟨k1,g',f',O,e',d',z,N,L⟩:=zw P;rw[aml P]at w;have l:∀A:Rb,cC f.k A=[(mh A.dY,pX),(strs A.texts,rF)]:=λA=>by unfold cC;simp[*]
 have S:∀a b:Rb,eN f.k a b↔b.dY <+: a.dY/\b.texts <+: a.texts/\b.dY.length=b.texts.length:=λa b=>by unfold eN;simp[*]
 obtain⟨p,o,d⟩:∃p o,g.SS=[p,o]:=by
  have:=G.ls.1;rw[l]at this
  match hg:g.SS,this with
  |[a,b],_=>simp
 refine aEk (aF λa Q ea R e _=>?_);refine bO ?_;have I:=(fj.of (E:=λ_=>False) G λ_ q=>q.elim).ai KF R;have J:(λc=>False\/(h.size<=c/\c<Q.size)) a:=ag
 refine aj e rfl (I.row KF rfl (λc=>bS rfl ?_) λc a' A' h2 Y y=>bu rfl ?_)
 ·rw[rZ c]at w;exact w Q I.t ⟨g,rfl,I.G⟩
 rw[rY c]at w;have e:=lJ Y e J;have n0:p.n=r.b.dY.length:=by have:=y.G.oI (i:=0) (s:=p) (by simp[d]) (by rw[l];rfl);rw[this,mh,cr];rfl
 have n1:o.n=r.b.texts.length:=by have:=y.G.oI (i:=1) (s:=o) (by simp[d]) (by rw[l];rfl);rw[this,strs,cr];rfl
 refine y.G.dH (i:=0) (s:=p) rfl (by simp[d]) (aj e rfl (CO ?_))
 rw[al3];refine aF λi' h3 e3 F k3 _=>bQ y.G.B.k F ?_;refine(y.ai KF F).app (i:=0) (x:=(mh r.b.dY,pX)) (x':=(mh (r.b.dY++[(x.num%2^64).toNat]),pX)) (r':=(r.up (Rb.row x.au)).up λb=>{b with dY:=b.dY++[(x.num%2^64).toNat]}) KF rfl (by simp[d]) (by rw[l];rfl) rfl ?_ rfl (iJ k3 rfl) ag ag (by simp[mh])
  ⟨rfl,rfl,rfl,rfl⟩ (by rw[l,l];rfl) rfl rfl (λZ _ q=>?_) λc' A0 h4 X H=>aBr ?_
 ·intro v u;simp only[ng]at u;subst u;rfl
 ·rw[S]at q ⊢;exact⟨q.1.trans (tM _ _),q.2⟩
 have e:=lJ X (e.ai F) (.inl J);refine bO ?_;refine H.G.dH (i:=1) (s:=o) rfl (by simp[d]) (aj e rfl (aF λb6 h5 e5 D k5 _=>bQ H.G.B.k D ?_))
 refine(H.ai KF D).app (i:=1) (s:=o) (x:=(strs r.b.texts,rF)) (x':=(strs (r.b.texts++[x.text]),rF)) (r':=(r.up (Rb.row x.au)).up λb=>{b with dY:=b.dY++[(x.num%2^64).toNat],texts:=b.texts++[x.text]}) (news:=[.string (bs x.text)]) KF rfl (by simp[d]) (by rw[l];rfl) rfl ?_ rfl (iJ k5 rfl) ag ag (by simp[strs])
  ⟨rfl,rfl,rfl,rfl⟩ (by rw[l,l];rfl) rfl rfl (λZ _ q=>?_) λV A1 h6 W S6=>aBq ?_
 ·intro v u;simp only[ng]at u;subst u;rfl
 ·rw[S]at q ⊢;exact⟨q.1,q.2.1.trans (tM _ _),q.2.2⟩
 have e:=lJ W (e.ai D) (.inl (.inl J));refine bO ?_;exact aj e rfl (aX ag (by rw[jl];omega) (S6.ql KF rfl (n:=16+x.text.length) (by rw[jl];omega) (by show r.b.bF+_<2^62;omega) λh7 t7 U=>w h7 U.t ⟨_,by rfl,U.G⟩))
end
section
variable {KM:List cO} {M:cO} {S:aQ} {h':Hp} {r r':Raw} {m:fT} {mm:Mem} {K:HP}
theorem bW.GN{rj:Raw}(G:bW f KM T h r m g)(KF:∀(j:Nat)M,KM[j]? =some M->gG M)(l:g.KT[j]? =some A)(t:Tn A h h')
  (u:∀M w,KM[j]? =some M->g.kv[j]? =some w->M A h' w rj (m.bind λmm=>mm.ks[j]?)):bW f KM T h' (r.fo j rj) m g:=by
 have v:=(de.1 l).1;have p:∀c,A c->c<h.size->c=g.b\/A c:=λc q _=>.inr q;have n:=g.fF l;have nb:=G.t.kX n;have av:∀{i:Nat}{B:aQ},g.Ls[i]? =some B->3+g.ST.length+j≠i->∀c,B c->c<h.size->¬A c:=λo ne=>G.av n p o ne;have lk:=G.lk;refine⟨G.t.grow t.1,G.B.fr t nb (av g.gC ag),G.ls,λi s B x d a k=>(G.sl i s B x d a k).fr t (av (g.iw a) bZ),⟨lk.1,lk.2.1,by rw[vJ];omega⟩,λi M B w d a k=>?_,
  aO.fr t (av g.fM ag) (λ_ z=>z) _ G.no,λz=>(G.kl z).fr t (av g.fM ag) λ_ z=>z,G.sp.fr t (av g.iR ag),λmm e=>(G.mm mm e).fr t (av g.fM ag) (av g.gC ag) (av g.iR ag) |> λM=>⟨M.c,M.pr,M.ks,M.sp⟩⟩
 by_cases e:j=i
 ·subst e;rw[l]at a;cases a;rw[lC ag];exact u M w d k
 ·rw[Ba e];exact KF i M d (G.aM i M B w d a k) t (av (g.fF a) ag)
theorem bW.w9{s':Sl}(G:bW f KM T h r m g)(KF:∀(j:Nat)M,KM[j]? =some M->gG M)(p:g.ST[i]? =some A)(os:Os A h s' x'.1 x'.2)
  (o:eJ g.b h h') (u:aN h' g.b (cj f g.sf g.sn g.sb r.b.rows r.b.cz r.b.bF (iK f.k (g.SS.set i s') g.kv g.ks g.sp)).toArray (iU f.k))
  (d:r'.b.rows=r.b.rows/\r'.b.cz=r.b.cz/\r'.b.bits=r.b.bits/\r'.b.bF=r.b.bF) (e1:cC f.k r'.b=(cC f.k r.b).set i x') (e0:r'.kids=r.kids) (D:r'.b.aH=r.b.aH) (C:∀mm,m=some mm->eN f.k r.b mm.r.b->eN f.k r'.b mm.r.b):bW f KM T h' r' m {g with SS:=g.SS.set i s'}:=by
 have E:=(de.1 p).1;have q:∀{A:aQ}(i:Nat),g.Ls[i]? =some A->∀c,A c->c<h.size->¬c=g.b:=λi v c y hl e=>G.t.kX v (e▸y);have t:=o.fr;refine⟨G.t.grow (EN o.1.symm),⟨dG,by rw[d.2.2.1];exact G.B.o.fr t (q 0 g.gC),G.B.nT,by rw[d.2.2.1,d.1];exact G.B.len,by rw[d.2.1,d.1];exact G.B.nl,by rw[d.1];exact G.B.rl⟩,?_,λj s B x a n l=>?_,by rw[e0];exact G.lk,λj M B w a n l=>?_,
  aO.fr t (q 1 g.fM) (λ_ z=>z) _ G.no,λz=>(G.kl z).fr t (q 1 g.fM) λ_ z=>z,?_,λmm e=>?_⟩
 ·simp only[Ay,e1];exact G.ls
 ·dsimp only at a n;rw[e1]at l;rw[vh]at a l
  by_cases e:i=j
  ·subst e;have H:=G.ls.1;have F:=G.ls.2;rw[aK rfl,dV]at a l;rw[p]at n;cases a;cases n;cases l;exact os.fr t (q _ (g.iw p))
  ·rw[aC e]at a l;exact(G.sl j s B x a n l).fr t (q _ (g.iw n))
 ·have:=KF j M a (G.aM j M B w a n l) t (q _ (g.fF n));unfold Raw.aM at this ⊢;grind
 ·exact(G.sp.fr t (q 2 g.iR)).eq D
 ·have M:=(G.mm mm e).fr t (q 1 g.fM) (q 0 g.gC) (q 2 g.iR);exact⟨M.c,C mm e M.pr,M.ks,M.sp⟩
theorem bW.conv(G:bW f KM T h r m g)(a:r'.b.rows=r.b.rows/\r'.b.cz=r.b.cz/\r'.b.bits=r.b.bits/\r'.b.bF=r.b.bF)(e1:cC f.k r'.b=cC f.k r.b)(e0:r'.kids=r.kids)(u:f.k=19\/f.k=20->r'.b.aH=r.b.aH)(p:∀mm,m=some mm->eN f.k r.b mm.r.b->eN f.k r'.b mm.r.b):bW f KM T h r' m g:=by
 refine⟨G.t,⟨by rw[a.1,a.2.1,a.2.2.2];exact G.B.k,by rw[a.2.2.1];exact G.B.o,G.B.nT,by rw[a.2.2.1,a.1];exact G.B.len,by rw[a.2.1,a.1];exact G.B.nl,by rw[a.1];exact G.B.rl⟩,by rw[e1];exact G.ls,λi s A x n l d=>G.sl i s A x n l (e1▸d),by rw[e0];exact G.lk,λj M A w n l d=>?_,G.no,G.kl,?_,λmm e=>?_⟩
 ·have:=G.aM j M A w n l d;unfold Raw.aM at this ⊢;grind
 ·by_cases q:f.k=19\/f.k=20
  ·exact G.sp.eq (u q)
  ·have:=G.sp;unfold iO at this ⊢;grind
 ·have M:=G.mm mm e;exact⟨M.c,p mm e M.pr,M.ks,M.sp⟩
def Raw.qN(r m:Raw):Raw:=.mk {r.b with rows:=m.b.rows,cz:=m.b.cz,bits:=m.b.bits,bF:=m.b.bF} r.kids
theorem x9{v:Value}(G:bW f KM T h r (some mm) g)(KF:∀(j:Nat)M,KM[j]? =some M->gG M)(d:JC g.R g.T0 h g.b f g.sf g.sn g.sb v mm.s mm.r.b)
  (I:∀h',Tn (λc=>c=g.b\/g.T0 c) h h'->bW f KM T h' (r.qN mm.r) (some mm) {g with sb:=mm.s}->K h'):cZ aE v [] h (λr D=>r=.tuple #[]/\K D) Kp:=by
 refine ayP d.bm G.B.k d.o G.B.nT (λc q=>⟨G.t.ne g.fM g.gC bw c q,λe=>G.t.kX g.fM (e▸q)⟩) d.len d.nl d.rl λD a l=>?_;have L:∀c,(c=g.b\/g.T0 c)->c<h.size->c=g.b\/g.T0 c:=λc q _=>q;have av:∀{j:Nat}{B:aQ},g.Ls[j]? =some B->0≠j->∀c,B c->c<h.size->¬(c=g.b\/g.T0 c):=λJ ne=>G.av g.gC L J ne;have p:=av g.fM ag;refine I D a ⟨G.t.grow a.1,⟨l.k,l.o,l.nT,l.len,l.nl,l.rl⟩,G.ls,λi s A x y n C=>(G.sl i s A x y n C).fr a (av (g.iw n) ag),G.lk,λj M A w y n C=>KF j M y (G.aM j M A w y n C) a (av (g.fF n) ag),
  aO.fr a p (λ_ z=>z) _ G.no,λz=>(G.kl z).fr a p λ_ z=>z,G.sp.fr a (av g.iR ag),λV e=>?_⟩
 cases e;obtain⟨⟨U,F,E,Q,P,O,N⟩,H,ks,sp⟩:=G.mm mm rfl;exact⟨⟨U,F,⟨E.bm.fr a p,Old.of l.o,d.len,d.nl,d.rl⟩,Q,λz=>(P z).fr a p,O,λz=>by obtain⟨u,e,mc⟩:=N z;exact⟨u,e,mc.fr a p⟩⟩,H,ks,λz=>(sp z).fr a (av g.iR ag)⟩
end
theorem ax9{p a:Addr}{K:HP}(H:ajN c0 p q a h K Kp):cZ aE (.func (.func 195) #[] #[c9 c0,c9 p,c9 q,c9 a]) [] h (λr b=>r=.tuple #[]/\K b) Kp:=by
 unfold cZ;exact cast aW H
theorem ax7{p:Addr}{K:HP}(H:ajJ c0 p h K Kp):cZ aE (.func (.func 205) #[] #[c9 c0,c9 p]) [] h (λr a=>r=.tuple #[]/\K a) Kp:=by
 unfold cZ;exact cast aW H
theorem ax8{p a:Addr}{K:HP}(H:ajL c0 p q a h K Kp):cZ aE (.func (.func 200) #[] #[c9 c0,c9 p,c9 q,c9 a]) [] h (λr b=>r=.tuple #[]/\K b) Kp:=by
 unfold cZ;exact cast aW H
section
variable {R:aQ} {caps:bq}
theorem ab0{d:Array Value}(mc:AI R h caps [Z,d]):∃b a i e,caps=[bH b,bH a]/\(R b/\aN h b Z i)/\(R a/\aN h a d e):=by
  obtain⟨b,i,e0,k⟩:=mc.2 0 Z rfl;obtain⟨a,e,e1,j⟩:=mc.2 1 d rfl
  match caps,mc.1 with
  | [u,v],_=>
    grind
theorem Sm{k j i:Array Value}(mc:AI R h caps [Z,k,j,i]):∃e d b a o n m l,caps=[bH e,bH d,bH b,bH a]/\
    (R e/\aN h e Z o)/\(R d/\aN h d k n)/\(R b/\aN h b j m)/\(R a/\aN h a i l):=by
  obtain⟨e,o,e0,y⟩:=mc.2 0 Z rfl;obtain⟨d,n,e1,x⟩:=mc.2 1 k rfl;obtain⟨b,m,q,t⟩:=mc.2 2 j rfl;obtain⟨a,l,p,s⟩:=mc.2 3 i rfl
  match caps,mc.1 with
  | [u,v,w,z],_=>
    grind
end
section
variable {KM:List cO} {M:cO} {r:Raw} {mm:Mem} {K:HP}
theorem ayI(v:f.k=16)(b':f.cs=[c])(C:MC c M)(G:bW f [M] T h r (some mm) g)(W:∀u,Tn T h u->cV f [M] T u (.iface (bK f.k) (bH g.b)) mm.r (some mm)->K u):cZ aE mm.F [] h (λr p=>r=.tuple #[]/\K p) Kp:=by
 have KF:=nE C;obtain⟨⟨O,c',bm,c1,c2,c3,c4⟩,pr,ks⟩:=G.mm mm rfl;obtain⟨caps,eF,mc⟩:=c4 ag;obtain⟨d,L,rfl⟩:=c1 ag;have x:jv f.k g.b O d.F mm=[#[O],#[d.F]]:=by unfold jv;simp only;rw[ay,ay,dV]
 rw[x]at mc;obtain⟨a0,a1,t0,t1,ec,⟨r0,V⟩,⟨Q,I⟩⟩:=ab0 mc;have z:gL f.k=205:=by unfold gL;rw[ay,ay,aK v]
 have J:∀E:Rb,cC f.k E=[]:=λE=>by unfold cC;rw[ay,ay,ay,dV]
 have ep:∀a b:Rb,eN f.k a b:=λa b=>by unfold eN;rw[ay,ay,ay,ay,dV];trivial
 rw[eF,ec,z];have Y:∀c,(c=g.b\/g.T0 c)->c<h.size->c=g.b\/g.T0 c:=λc q _=>q;have av:∀{j:Nat}{B:aQ},g.Ls[j]? =some B->0≠j->∀c,B c->c<h.size->¬(c=g.b\/g.T0 c):=λX ne=>G.av g.gC Y X ne;refine ax7 (aEQ (aj V rfl (x9 G KF bm λp D N=>aj (D.aZ I (av g.fM ag _ Q I.lt)) rfl ?_)));have lk:=G.lk;have U:0<g.KT.length:=by have:=lk.2.1;simp only[jC]at this;omega
 have S:0<g.kv.length:=by have:=lk.1;simp only[jC]at this;omega
 have m:=bJ U;have n:=bJ S;generalize g.KT[0]=A at m;generalize g.kv[0]=w at n;have i:=N.aM 0 M A w rfl m n;have e0:((some mm).bind λmm=>mm.ks[0]?)=some d:=by show mm.ks[0]? =some d;rw[L];rfl
 rw[e0]at i
 show cZ aE d.F [] p _ _
 refine C.back i λZ u2 M2=>W Z ?_ ⟨{g with sb:=mm.s},rfl,(N.GN (rj:=d.r) KF m u2 λM' P H l=>?_).conv ⟨rfl,rfl,rfl,rfl⟩ (by rw[J,J]) ?_ (λq=>ag) λa' _ _=>ep _ _⟩
 ·exact(D.mono λc q _=>q.elim (λe=>e▸G.t.tb) λq=>G.kA g.gC q).trans (u2.mono λc q _=>G.kA (g.fF m) q)
 ·simp at H;subst H;have l:=l;rw[n]at l;cases l;rw[e0];exact M2
 ·have hl:=lk.2.2;have e1:mm.r.kids=[d.r]:=by rw[ks.1,L];rfl
  rw[e1]
  show[d.r]=((r.qN mm.r).fo 0 d.r).kids
  have:r.kids.length=1:=hl
  match o:r.kids,this with
  |[y],_=>simp[Raw.fo,Raw.qN,Raw.kids] <;> (unfold Raw.kids at o;simp[o])
end
theorem SZ{a b:cU}(p:a <+: b):(ints b).take a.length=ints a:=by
 grind[ints,List.map_take,List.prefix_iff_eq_take]
theorem afm{a b:dy}(p:a <+: b):(bv b).take a.length=bv a:=by
 grind[bv,List.map_take,List.prefix_iff_eq_take]
section
variable {KM:List cO} {M:cO} {r:Raw} {mm:Mem} {K:HP}
theorem ayG(J:f.k=12\/f.k=13)(Z:f.cs=[])(G:bW f [] T h r (some mm) g)(hk:∀U,Tn T h U->cV f [] T U (.iface (bK f.k) (bH g.b)) mm.r (some mm)->K U):cZ aE mm.F [] h (λr h1=>r=.tuple #[]/\K h1) Kp:=by
 have KF:∀(j:Nat)(M:cO),([]:List cO)[j]? =some M->gG M:=λj M q=>by simp at q
 obtain⟨⟨W,c',bm,c1,c2,c3,c4⟩,C,ks⟩:=G.mm mm rfl;obtain⟨d',eF,mc⟩:=c4 ag;have a':jv f.k g.b W c' mm=[#[W],#[bH g.b],pI mm.r.b.ends.length,pI mm.r.b.all.length]:=by unfold jv;simp only;rw[dV]
 rw[a']at mc;obtain⟨a0,a1,a2,a3,t0,t1,t2,t3,ec,⟨r0,k0⟩,⟨r1,o⟩,⟨r2,O⟩,⟨r3,w⟩⟩:=Sm mc;have b':gL f.k=195:=by unfold gL;rw[aK J]
 have m:∀N:Rb,cC f.k N=[(ints N.ends,Y6),(bv N.all,Y8)]:=λN=>by unfold cC;rw[aK J]
 have P:∀a b:Rb,eN f.k a b↔b.ends <+: a.ends/\b.all <+: a.all:=λa b=>by unfold eN;rw[dV]
 rw[P]at C;obtain⟨z,y,d⟩:∃z y,g.SS=[z,y]:=by
  have:=G.ls.1;rw[m]at this
  match hg:g.SS,this with
  |[a,b],_=>exact⟨a,b,rfl⟩
 obtain⟨S,Q,l⟩:∃S Q,g.ST=[S,Q]:=by
  have:=G.ls.2;rw[m]at this
  match hg:g.ST,this with
  |[a,b],_=>exact⟨a,b,rfl⟩
 rw[eF,ec,b'];have hS:∀c,(c=g.b\/g.T0 c)->c<h.size->c=g.b\/g.T0 c:=λc q _=>q;have v:=G.av g.gC hS g.fM ag;have nR:∀{c:Nat},g.R c->c≠g.b:=λq e=>G.t.kX g.fM (e▸q);refine ax9 (aEY (aj k0 rfl ?_))
 show cZ aE W [] h _ _
 refine x9 G KF bm λh1 L u=>?_;have o:=L.aZ o (v _ r1 o.lt);have O:=L.aZ O (v _ r2 O.lt);have w:=L.aZ w (v _ r3 w.lt);have o0:=u.sl 0 z S (ints r.b.ends,Y6) (by simp[d]) (by simp[l]) (by rw[m];rfl)
 have o1:=u.sl 1 y Q (bv r.b.all,Y8) (by simp[d]) (by simp[l]) (by rw[m];rfl)
 have n0:=o0.n;have n1:=o1.n;have p0:=C.1.length_le;have p1:=C.2.length_le;simp only[ints,cr]at n0;rw[fP]at n1;refine aj o rfl (aj o rfl (aj o rfl ?_));refine bO ?_;refine u.dH (i:=0) rfl (by simp[d]) (aj O rfl (o0.cut ag rfl λE e0 I=>aj o rfl ?_))
 refine bO ?_;refine u.dH (i:=1) rfl (by simp[d]) (aj w rfl (o1.cut ag rfl λD e1 H=>?_))
 rw[SZ C.1]at I;rw[afm C.2]at H;refine u.vH (i:=0) (s:=z) (by simp[d]) u.B.k λh2 x Y=>?_
 have V:=u.w9 (x':=(ints mm.r.b.ends,Y6)) (r':=(r.qN mm.r).up λb=>{b with ends:=mm.r.b.ends}) KF (by simp[l]) I x Y ⟨rfl,rfl,rfl,rfl⟩ (by rw[m,m];rfl) rfl rfl λp _ q=>by rw[P]at q ⊢;cases‹some mm=some p›;exact⟨jI _,q.2⟩
 refine mK w (x.aZ w (nR r3)) (mK o (x.aZ o (nR r1)) (V.vH (i:=1) (s:=y) (by simp[d]) V.B.k λh3 w3 X=>?_))
 have G3:=V.w9 (i:=1) (s':=D) (A:=Q) (x':=(bv mm.r.b.all,Y8)) (r':=(r.qN mm.r).up λb=>{b with ends:=mm.r.b.ends,all:=mm.r.b.all}) KF (by simp[l]) (H.fr x.fr λc q _ e=>G.t.kX (g.iw (i:=1) (by simp[l])) (e▸q)) w3 X ⟨rfl,rfl,rfl,rfl⟩ (by rw[m,m];rfl) rfl rfl λp _ q=>by rw[P]at q ⊢;cases‹some mm=some p›;exact⟨q.1,jI _⟩
 refine hk h3 ?_ ⟨_,by rfl,G3.conv (r':=mm.r) ⟨rfl,rfl,rfl,rfl⟩ (by rw[m,m];rfl) ?_ (λq=>ag) λp e q=>?_⟩
 ·exact((L.mono λc q _=>q.elim (λe=>e▸G.t.tb) λq=>G.kA g.gC q).trans (x.fr.mono λc q _=>q▸G.t.tb)).trans (w3.fr.mono λc q _=>q▸G.t.tb)
 ·have e1:mm.r.kids=[]:=by
   rw[ks.1];have:=ks.2;rw[Z]at this;rw[jB.1 this];rfl
  have e2:r.kids=[]:=jB.1 G.lk.2.2;rw[e1];exact e2.symm
 ·cases e;rw[P];exact⟨jI _,jI _⟩
end
section
variable {KM:List cO} {M:cO} {r:Raw} {mm:Mem} {K:HP}
theorem aqT{r m:Raw}{k:Raw}(hl:r.kids.length=1):((r.qN m).fo 0 k).kids=[k]:=by
 obtain⟨b,ks⟩:=r
 match ks,hl with
 |[y],_=>rfl
theorem ayM(u:f.k=15)(d':f.cs=[c])(C:MC c M)(G:bW f [M] T h r (some mm) g)(hk:∀V,Tn T h V->cV f [M] T V (.iface (bK f.k) (bH g.b)) mm.r (some mm)->K V):cZ aE mm.F [] h (λr U=>r=.tuple #[]/\K U) Kp:=by
 have KF:=nE C;obtain⟨⟨X,f',bm,c1,c2,c3,c4⟩,Q,ks⟩:=G.mm mm rfl;obtain⟨c',eF,mc⟩:=c4 ag;obtain⟨j,em,rfl⟩:=c1 ag;have a':jv f.k g.b X j.F mm=[#[X],#[j.F],#[bH g.b],pI mm.r.b.ends.length]:=by unfold jv;simp only;rw[ay,aK u]
 rw[a']at mc;obtain⟨a0,a1,a2,a3,t0,t1,t2,t3,ec,⟨r0,k0⟩,⟨r1,N⟩,⟨r2,l⟩,⟨r3,x⟩⟩:=Sm mc;have b':gL f.k=200:=by unfold gL;rw[ay,aK u]
 have o:∀P:Rb,cC f.k P=[(ints P.ends,Y6)]:=λP=>by unfold cC;rw[ay,dV]
 have W:∀a b:Rb,eN f.k a b↔b.ends <+: a.ends:=λa b=>by unfold eN;rw[ay,aK u]
 rw[W]at Q;obtain⟨y,p⟩:∃y,g.SS=[y]:=by
  have:=G.ls.1;rw[o]at this
  match hg:g.SS,this with
  |[a],_=>exact⟨a,rfl⟩
 obtain⟨O,I⟩:∃O,g.ST=[O]:=by
  have:=G.ls.2;rw[o]at this
  match hg:g.ST,this with
  |[a],_=>exact⟨a,rfl⟩
 have lk:=G.lk;have l1:0<g.KT.length:=by have:=lk.2.1;simp only[jC]at this;omega
 have l2:0<g.kv.length:=by have:=lk.1;simp only[jC]at this;omega
 have z:=bJ l1;have S:=bJ l2;generalize g.KT[0]=A at z;generalize g.kv[0]=w at S;rw[eF,ec,b'];have hS:∀c,(c=g.b\/g.T0 c)->c<h.size->c=g.b\/g.T0 c:=λc q _=>q;have v:=G.av g.gC hS g.fM ag;have nA:∀c,g.R c->¬A c:=λc q=>G.t.ne g.fM (g.fF z) ag c q;refine ax8 (aEU (aj k0 rfl ?_))
 show cZ aE X [] h _ _
 refine x9 G KF bm λU J G1=>?_;have N:=J.aZ N (v _ r1 N.lt);have l:=J.aZ l (v _ r2 l.lt);have x:=J.aZ x (v _ r3 x.lt);have d:=G1.aM 0 M A w rfl z S;have e0:((some mm).bind λmm=>mm.ks[0]?)=some j:=by show mm.ks[0]? =some j;rw[em];rfl
 rw[e0]at d;apply aj N rfl
 show cZ aE j.F [] U _ _
 refine C.back d λh2 u2 M2=>?_;have D:=G1.GN KF z u2 λM' w' q1 L=>by
  simp at q1;subst q1;have L:=L;rw[S]at L;cases L;rw[e0];exact M2
 have l:=u2.aZ l (nA _ r2);have x:=u2.aZ x (nA _ r3);have o0:=D.sl 0 y O (ints r.b.ends,Y6) (by simp[p]) (by simp[I]) (by rw[o];rfl)
 have n0:=o0.n;have p0:=Q.length_le;simp only[ints,cr]at n0;refine aj l rfl (aj l rfl ?_);refine bO ?_;refine D.dH (i:=0) rfl (by simp[p]) (aj x rfl (o0.cut ag rfl λE e' H=>?_))
 rw[SZ Q]at H;refine D.vH (i:=0) (s:=y) (by simp[p]) D.B.k λh3 w3 Z=>?_
 have G3:=D.w9 (x':=(ints mm.r.b.ends,Y6)) (r':=((r.qN mm.r).fo 0 j.r).up λb=>{b with ends:=mm.r.b.ends}) KF (by simp[I]) H w3 Z ⟨rfl,rfl,rfl,rfl⟩ (by rw[o,o];rfl) rfl rfl λY e _=>by rw[W];cases e;exact jI _
 refine hk h3 ?_ ⟨_,by rfl,G3.conv ⟨rfl,rfl,rfl,rfl⟩ (by rw[o,o];rfl) ?_ (λq=>ag) λY e _=>by cases e;rw[W];exact jI _⟩
 ·exact((J.mono λc q _=>q.elim (λe=>e▸G.t.tb) λq=>G.kA g.gC q).trans (u2.mono λc q _=>G.kA (g.fF z) q)).trans (w3.fr.mono λc q _=>q▸G.t.tb)
 ·rw[ks.1,em];exact(aqT lk.2.2).symm
end
theorem ax5{K:HP}(H:ajG c0 h K Kp):cZ aE (.func (.func 214) #[] #[c9 c0]) [] h (λr a=>r=.tuple #[]/\K a) Kp:=by
 unfold cZ;exact cast aW H
theorem ax6{p:Addr}{K:HP}(H:ajH c0 p h K Kp):cZ aE (.func (.func 212) #[] #[c9 c0,c9 p]) [] h (λr a=>r=.tuple #[]/\K a) Kp:=by
 unfold cZ;exact cast aW H
section
variable {KM:List cO} {r:Raw} {mm:Mem} {K:HP}
def MU(g:dP):Nat->Prop:=λc=>∃(j:Nat)(A:aQ),g.KT[j]? =some A/\A c
theorem afB{v:Value}(C:kK f.cs KM)(G:bW f KM T h r (some mm) g)(kf:CX g.R h v (mm.ks.map Mem.F))(hl:mm.ks.length=f.cs.length)(a':f.cs.length<=32)
  (hk:∀r' d,Tn (MU g) h d->bW f KM T d r' (some mm) g->r'.b=r.b->r'.kids=mm.ks.map Mem.r->K d):cZ aE v [] h (λr h1=>r=.tuple #[]/\K h1) Kp:=by
 have CL:=C.1;obtain⟨a,t,s,rfl,ra,ka,sv⟩:=kf;have nR:∀c,g.R c->¬MU g c:=λc q z=>by
  obtain⟨j,A,m,z⟩:=z;exact G.t.ne g.fM (g.fF m) ag c q z
 have hn:s.n=mm.ks.length:=by have:=sv.1.1;rw[cr]at this;exact this
 refine ax5 (aEI (aj ka rfl ?_));refine aAa (λy d=>∃(i:Nat)(r':Raw),y=i/\i<=mm.ks.length/\Tn (MU g) h d/\bW f KM T d r' (some mm) g/\r'.b=r.b/\∀j B,j<i->mm.ks[j]? =some B->r'.aM j=B.r) (λy _=>mm.ks.length-y.toNat)
  ⟨0,r,rfl,eu _,iV _ _,G,rfl,λj _ D=>ag⟩ ?_
 rintro y d ⟨i,r',rfl,hi,I,H,Z,Y⟩ N hN;have lk:=H.lk;refine cE (λo=>?_) λo=>?_
 ·have V:i<mm.ks.length:=ag;have S:i<g.KT.length:=ag;have P:i<g.kv.length:=ag;have Q:i<KM.length:=ag;have U:i<f.cs.length:=ag;have k:=bJ V;have m:=bJ S;have L:=bJ P;have E:=bJ Q;have x:=bJ U;generalize mm.ks[i]=J at k;generalize g.KT[i]=A at m;generalize g.kv[i]=w at L;generalize KM[i]=M at E;generalize f.cs[i]=ci at x;have aM:=H.aM i M A w E m L;have e0:((some mm).bind λmm=>mm.ks[i]?)=some J:=k;rw[e0]at aM;have O:=sv.fr I (λc q _=>nR c q) λ_ z=>z;refine O.1.ix ag ag (by rw[gf,eY,k];rfl) λp cp=>⟨_,cp,?_⟩
  show cZ aE J.F [] d _ _
  refine(C.2 i ci M x E).back aM λh2 u2 M2=>aX ag ag (hN _ _ ⟨i+1,_,aA,ag,I.trans (u2.mono λc q _=>⟨i,A,m,q⟩),H.GN (rj:=J.r) C.qY m u2 λM' w' X W=>?_,by rw[nv];exact Z,λj B D l=>?_⟩ ag)
  ·rw[E]at X;cases X;rw[L]at W;cases W;rw[e0];exact M2
  ·by_cases e:i=j
   ·subst e;rw[k]at l;cases l;rw[lC ag]
   ·rw[Ba e];exact Y j B ag l
 ·have:i=mm.ks.length:=ag;subst this;refine hk r' d I H Z (qz λj=>?_)
  by_cases D:j<mm.ks.length
  ·grind[Raw.aM,List.getElem?_eq_getElem]
  simp_all
theorem ayH(u:bB f)(d:f.k=17)(C:kK f.cs KM)(G:bW f KM T h r (some mm) g)(I:∀p,Tn T h p->cV f KM T p (.iface (bK f.k) (bH g.b)) mm.r (some mm)->K p):cZ aE mm.F [] h (λr o=>r=.tuple #[]/\K o) Kp:=by
 obtain⟨⟨s,i,U,c1,S,c3,Q⟩,pr,ks⟩:=G.mm mm rfl;obtain⟨D,P,mc⟩:=Q ag;have w:jv f.k g.b s i mm=[#[s],#[i]]:=by unfold jv;simp only;simp[*]
 rw[w]at mc;obtain⟨a0,a1,Z,Y,O,⟨r0,H⟩,⟨E,z⟩⟩:=ab0 mc;have x:gL f.k=212:=by unfold gL;grind
 have B:∀y:Rb,cC f.k y=[]:=λy=>by unfold cC;simp[*]
 have N:∀a b:Rb,eN f.k a b:=λa b=>by unfold eN;grind
 rw[P,O,x];have J:∀c,(c=g.b\/g.T0 c)->c<h.size->c=g.b\/g.T0 c:=λc q _=>q;have l:=G.av g.gC J g.fM ag;refine ax6 (aEK (aj H rfl ?_))
 show cZ aE s [] h _ _
 refine x9 G C.qY U λo n W=>aj (n.aZ z (l _ E z.lt)) rfl ?_
 show cZ aE i [] o _ _
 refine afB C W ((S (.inl d)).fr n l) ks.2 (u.right.1.2.2.2.2.2.2.2.2.1 d) λr' M u2 V m v=>I M ?_ ⟨_,by rfl,V.conv ⟨by rw[m];rfl,by rw[m];rfl,by rw[m];rfl,by rw[m];rfl⟩ (by rw[B,B]) bZ (λq=>ag) λX _ _=>N _ _⟩
 exact(n.mono λc q _=>q.elim (λe=>e▸G.t.tb) λq=>G.kA g.gC q).trans (u2.mono λc q _=>by obtain⟨j,A,L,q⟩:=q;exact G.kA (g.fF L) q)
end
theorem ax4{p a:Addr}{K:HP}(H:ajE c0 p q a h K Kp):cZ aE (.func (.func 219) #[] #[c9 c0,c9 p,c9 q,c9 a]) [] h (λr b=>r=.tuple #[]/\K b) Kp:=by
 unfold cZ;exact cast aW H
section
variable {KM:List cO} {r:Raw} {mm:Mem} {K:HP}
theorem ayO(c':bB f)(l:f.k=18)(C:kK f.cs KM)(G:bW f KM T h r (some mm) g)(hk:∀h',Tn T h h'->cV f KM T h' (.iface (bK f.k) (bH g.b)) mm.r (some mm)->K h'):cZ aE mm.F [] h (λr h1=>r=.tuple #[]/\K h1) Kp:=by
 have KF:=C.qY;obtain⟨⟨F0,x,bm,c1,c2,c3,c4⟩,pr,ks⟩:=G.mm mm rfl;obtain⟨g',eF,mc⟩:=c4 ag;have e':jv f.k g.b F0 x mm=[#[F0],#[x],#[bH g.b],pI mm.r.b.all.length]:=by unfold jv;simp only;simp[*]
 rw[e']at mc;obtain⟨a0,a1,a2,a3,t0,t1,t2,t3,ec,⟨r0,k0⟩,⟨r1,k1⟩,⟨Z,p⟩,⟨Y,v⟩⟩:=Sm mc;have f':gL f.k=219:=by unfold gL;grind
 have o:∀U:Rb,cC f.k U=[(bv U.all,Y8),(ints U.ends,Y6)]:=λU=>by unfold cC;grind
 have V:∀a b:Rb,eN f.k a b↔b.ends <+: a.ends/\b.all <+: a.all/\b.ends.length=b.all.length:=λa b=>by unfold eN;grind
 rw[V]at pr;obtain⟨O,N,M⟩:=pr;obtain⟨H,E,d⟩:∃H E,g.SS=[H,E]:=by
  have:=G.ls.1;rw[o]at this
  match hg:g.SS,this with
  |[a,b],_=>simp
 obtain⟨X,W,m⟩:∃X W,g.ST=[X,W]:=by
  have:=G.ls.2;rw[o]at this
  match hg:g.ST,this with
  |[a,b],_=>simp
 rw[eF,ec,f'];have hS:∀c,(c=g.b\/g.T0 c)->c<h.size->c=g.b\/g.T0 c:=λc q _=>q;have u:=G.av g.gC hS g.fM ag;have nR:∀{c:Nat},g.R c->c≠g.b:=λq e=>G.t.kX g.fM (e▸q);have nK:∀c,g.R c->¬MU g c:=λc q z=>by
  obtain⟨j,A,hA,z⟩:=z;exact G.t.ne g.fM (g.fF hA) ag c q z
 refine ax4 (aEE (aj k0 rfl ?_))
 show cZ aE F0 [] h _ _
 refine x9 G KF bm λh1 D G1=>aj (D.aZ k1 (u _ r1 k1.lt)) rfl ?_
 show cZ aE x [] h1 _ _
 refine afB C G1 ((c2 (.inr l)).fr D u) ks.2 ((c'.right.1.2.2.2.2.2.2.2.2.2.1 l).2) λr' h2 u2 w I d'=>?_;have p:=u2.aZ (D.aZ p (u _ Z p.lt)) (nK _ Z);have v:=u2.aZ (D.aZ v (u _ Y v.lt)) (nK _ Y);have ea:r'.b.all=r.b.all/\r'.b.ends=r.b.ends:=by rw[I];exact⟨rfl,rfl⟩
 have o0:=w.sl 0 H X _ (by simp[d]) (by simp[m]) (by rw[o,ea.1];rfl)
 have o1:=w.sl 1 E W _ (by simp[d]) (by simp[m]) (by rw[o,ea.2];rfl)
 have n0:=o0.n;have n1:=o1.n;have p0:=O.length_le;have p1:=N.length_le;simp only[ints,cr]at n1;rw[fP]at n0;refine aj p rfl (aj p rfl (aj p rfl ?_));refine bO ?_;refine w.dH (i:=0) rfl (by simp[d]) (aj v rfl (o0.cut ag rfl λL e0 Q=>aj p rfl ?_))
 refine bO ?_;refine w.dH (i:=1) rfl (by simp[d]) (aj v rfl (o1.cut ag rfl λJ e1 P=>?_))
 rw[afm N]at Q;rw[<-M,SZ O]at P;refine w.vH (i:=0) (s:=H) (by simp[d]) w.B.k λh3 y b'=>?_
 have G3:=w.w9 (x':=(bv mm.r.b.all,Y8)) (r':=r'.up λb=>{b with all:=mm.r.b.all}) KF (by simp[m]) Q y b' ⟨rfl,rfl,rfl,rfl⟩ (by rw[o,o];rfl) rfl rfl λS e q=>by rw[V]at q ⊢;cases e;exact⟨q.1,jI _,q.2.2⟩
 refine mK v (y.aZ v (nR Y)) (mK p (y.aZ p (nR Z)) (G3.vH (i:=1) (s:=E) (s':=J) (by simp[d]) G3.B.k λh4 w4 a'=>?_))
 have G4:=G3.w9 (i:=1) (s':=J) (A:=W) (x':=(ints mm.r.b.ends,Y6)) (r':=r'.up λb=>{b with all:=mm.r.b.all,ends:=mm.r.b.ends}) KF (by simp[m]) (P.fr y.fr λc q _ e=>G.t.kX (g.iw (i:=1) (by simp[m])) (e▸q)) w4 a' ⟨rfl,rfl,rfl,rfl⟩ (by rw[o,o];rfl) rfl rfl λS e q=>by rw[V]at q ⊢;cases e;exact⟨jI _,q.2.1,q.2.2⟩
 refine hk h4 ?_ ⟨_,by rfl,G4.conv (r':=mm.r) ⟨by show _=r'.b.rows;rw[I];rfl,by show _=r'.b.cz;rw[I];rfl,by show _=r'.b.bits;rw[I];rfl,by show _=r'.b.bF;rw[I];rfl⟩ (by rw[o,o];rfl) (by rw[jS,d'];exact ks.1) (λq=>ag) λS e q=>by cases e;rw[V];exact⟨jI _,jI _,M⟩⟩
 exact(((D.mono λc q _=>q.elim (λe=>e▸G.t.tb) λq=>G.kA g.gC q).trans (u2.mono λc q _=>by obtain⟨j,A,hA,q⟩:=q;exact G.kA (g.fF hA) q)).trans (y.fr.mono λc q _=>q▸G.t.tb)).trans (w4.fr.mono λc q _=>q▸G.t.tb)
end
section
variable {KM:List cO} {r:Raw} {m:fT} {mm:Mem} {v:Value}
theorem ayL{K:HP}(l:f.k=1)(n:f.cs=[])(G:bW f [] T h r (some mm) g)(u:∀i,Tn T h i->cV f [] T i (.iface (bK f.k) (bH g.b)) mm.r (some mm)->K i):cZ aE mm.F [] h (λr d=>r=.tuple #[]/\K d) Kp:=by
 have KF:∀(j:Nat)(M:cO),([]:List cO)[j]? =some M->gG M:=aA
 obtain⟨⟨J,C,z,I,H,y,E⟩,D,ks⟩:=G.mm mm rfl;have p:∀o:Rb,cC f.k o=[]:=λo=>by unfold cC;simp[*]
 have w:∀a b:Rb,eN f.k a b:=λa b=>by unfold eN;simp[*]
 rw[y l];refine x9 G KF z λd s A=>u d (s.mono λc q _=>q.elim (λe=>e▸G.t.tb) λq=>G.kA g.gC q) ⟨_,by rfl,A.conv ⟨rfl,rfl,rfl,rfl⟩ (by rw[p,p]) ?_ (λq=>ag) λB _ _=>w _ _⟩
 have e1:mm.r.kids=[]:=by
  rw[ks.1];have:=ks.2;rw[n]at this;rw[jB.1 this];rfl
 have x:=jB.1 G.lk.2.2;rw[e1];exact x.symm
theorem cV.drop(k:∀(j:Nat)M,KM[j]? =some M->∀{T:aQ}{h:Hp}{v:Value}{r:Raw}{m:fT},M T h v r m->M T h v r none)(H:cV f KM T h v r m):cV f KM T h v r none:=by
 obtain⟨g,e,G⟩:=H;exact⟨g,e,G.t,G.B,G.ls,G.sl,G.lk,λj M A w a d b=>k j M a (G.aM j M A w a d b),G.no,G.kl,G.sp,λ_ q=>by cases q⟩
theorem cV.lt(H:cV f KM T h v r m):∀c,T c->c<h.size:=by
 obtain⟨g,e,G⟩:=H;exact G.t.lt
theorem cV.na(H:cV f KM T h v r m):∃k b,v=.iface (bK k) (bH b):=by
 obtain⟨g,e,G⟩:=H;grind
theorem cV.mono(H:cV f KM T h v r m)(hT:∀c,T c->D c)(hl:∀c,D c->c<h.size):cV f KM D h v r m:=by
 obtain⟨g,e,G⟩:=H;exact⟨g,e,G.mono hT hl⟩
def wX(t:TypeId):Prop:=(sY aE t "colonnade/build.count"=none/\DT aE t "colonnade/build.count"=some (177,0))/\sY aE t "colonnade/build.weight"=none/\DT aE t "colonnade/build.weight"=some (181,0)
theorem axN:wX pW:=⟨⟨by kernel_rfl,by kernel_rfl⟩,by kernel_rfl,by kernel_rfl⟩
theorem axM:wX pV:=⟨⟨by kernel_rfl,by kernel_rfl⟩,by kernel_rfl,by kernel_rfl⟩
theorem axL:wX pU:=⟨⟨by kernel_rfl,by kernel_rfl⟩,by kernel_rfl,by kernel_rfl⟩
theorem axK:wX oU:=⟨⟨by kernel_rfl,by kernel_rfl⟩,by kernel_rfl,by kernel_rfl⟩
theorem axJ:wX oT:=⟨⟨by kernel_rfl,by kernel_rfl⟩,by kernel_rfl,by kernel_rfl⟩
theorem axI:wX qC:=⟨⟨by kernel_rfl,by kernel_rfl⟩,by kernel_rfl,by kernel_rfl⟩
theorem axH:wX qB:=⟨⟨by kernel_rfl,by kernel_rfl⟩,by kernel_rfl,by kernel_rfl⟩
theorem axG:wX pT:=⟨⟨by kernel_rfl,by kernel_rfl⟩,by kernel_rfl,by kernel_rfl⟩
theorem axF:wX pS:=⟨⟨by kernel_rfl,by kernel_rfl⟩,by kernel_rfl,by kernel_rfl⟩
theorem aek(k:Int):wX (bK k):=by
 unfold bK
 by_cases Ae:k=1
 ·rw[aK Ae];exact axN
 rw[aC Ae]
 by_cases xU:k=12\/k=13
 ·rw[aK xU];exact axM
 rw[aC xU]
 by_cases Cf:k=15
 ·rw[aK Cf];exact axL
 rw[aC Cf]
 by_cases a:k=16
 ·rw[aK a];exact axK
 rw[aC a]
 by_cases xT:k=17
 ·rw[aK xT];exact axJ
 rw[aC xT]
 by_cases Ad:k=18
 ·rw[aK Ad];exact axI
 rw[aC Ad]
 by_cases xS:k=19
 ·rw[aK xS];exact axH
 rw[aC xS]
 by_cases LX:k=20
 all_goals simp_all[axG,axF]
theorem cV.count{K:cK}(H:cV f KM T h v r m)(a:K (r.b.rows:Int) h):akf v h K Kp:=by
 obtain⟨g,rfl,G⟩:=H;have q:=aek f.k;exact aev q.1.1 q.1.2 aW (ayE G.B a)
theorem cV.weight{K:cK}(H:cV f KM T h v r m)(a:K (r.b.bF:Int) h):ake v h K Kp:=by
 obtain⟨g,rfl,G⟩:=H;have q:=aek f.k;exact aev q.2.1 q.2.2 aW (ayp G.B a)
end
def wN(f:aq)(M:cO):Prop:=∀{T D:aQ}{h:Hp}{v:Value}{vs:aR}{m:fT}{x:aB}{s:Sl}{K:cK}{Kp:PK},f.can vs->f.fit x=true->x.bx<=4194304->M T h v (f.st vs) m->aO D h s x.items->(∀c,D c->¬T c)->
  (∀h',Tn T h h'->M (Tr T h h') h' v (f.tk (f.st vs) x).2 m->K (f.tk (f.st vs) x).1 h')->nk v x.au x.num (bs x.text) s h K Kp
def wK(f:aq)(M:cO):Prop:=∀{T:aQ}{h:Hp}{v:Value}{vs:aR}{m:fT}{K:cK}{Kp:PK},f.can vs->M T h v (f.st vs) m->
  (∀h',Tn T h h'->M (Tr T h h') h' v (f.zk (f.st vs)).2 m->K (f.zk (f.st vs)).1 h')->mL v h K Kp
section
variable {KM:List cO} {M:cO}
theorem qJ:∀(j:Nat)(M:cO),([]:List cO)[j]? =some M->gG M:=λj M q=>by simp at q
theorem FM(a:f.k=12\/f.k=13){vs:aR}(d:f.can vs):(f.st vs).b.ends.length<=70000/\(f.st vs).b.all.length<=2^40:=by
 have c:=(gj f vs).1 d;have g:=c.n4;have e:=c.tx a;rw[fI];simp only[aL];rw[aK a,aK a,Dl];omega
theorem amM(a:f.k=1):wN f (cV f []):=by
 intro T D h v vs m x s K l i d n H o p e;obtain⟨g,rfl,G⟩:=H;have j:bK f.k=pW:=by unfold bK;simp[*]
 have q:nk _ x.au x.num _ s h K l:=awG (ZU a qJ G (by have:=(iM i).1;omega) e)
 grind
theorem akQ(a:f.k=1):wK f (cV f []):=by
 intro T h v vs m K j e H d;obtain⟨g,rfl,G⟩:=H;have i:bK f.k=pW:=by unfold bK;simp[*]
 have q:mL _ h K j:=awx (akG a qJ G (by have:=(iM e).1;omega) d)
 grind
theorem amH(n:bB f)(a:f.k=12\/f.k=13):wN f (cV f []):=by
 intro T D h v vs m x s K l d e o H p r i;obtain⟨g,rfl,G⟩:=H;have j:bK f.k=pV:=by unfold bK;grind
 have q:nk _ x.au x.num _ s h K l:=awB (ZN a qJ G (FM a d).1 (FM a d).2 (by have:=(iM d).1;omega) (by have:=Zo x;omega) i)
 simp[*]
theorem akL(e:bB f)(a:f.k=12\/f.k=13):wK f (cV f []):=by
 intro T h v vs m K l d H i;obtain⟨g,rfl,G⟩:=H;have j:bK f.k=pV:=by unfold bK;grind
 have q:mL _ h K l:=aws (akB e a qJ G (FM a d).1 (FM a d).2 (by have:=(iM d).1;omega) i)
 simp[*]
theorem amN(u:bB f)(a:f.k=15)(e:f.cs=[c])(C:MC c M)(r:jr c):wN f (cV f [M]):=by
 intro T D h v vs m x s K t n d i H j o l;obtain⟨g,rfl,G⟩:=H;have p:bK f.k=pU:=by unfold bK;simp[*]
 have q:nk _ x.au x.num _ s h K t:=awH (ZV a e C r n d i G j (λc q _=>G.out (o c q)) l);grind
theorem akR(d:bB f)(a:f.k=15)(e:f.cs=[c])(C:MC c M)(n:jr c):wK f (cV f [M]):=by
 intro T h v vs m K o j H i;obtain⟨g,rfl,G⟩:=H;have l:bK f.k=pU:=by unfold bK;simp[*]
 have q:mL _ h K o:=awy (akH d a e C n j G i);grind
theorem amJ(e:bB f)(a:f.k=16)(i:f.cs=[c])(C:MC c M)(u:jr c)(t:dW c c.zk c.cm):wN f (cV f [M]):=by
 intro T D h v vs m x s K w o d j H l p n;obtain⟨g,rfl,G⟩:=H;have r:bK f.k=oU:=by unfold bK;simp[*]
 have q:nk _ x.au x.num _ s h K w:=awD (ZQ e a i C u t o d j G l (λc q _=>G.out (p c q)) n);grind
theorem akN(d:bB f)(a:f.k=16)(e:f.cs=[c])(C:MC c M)(o:jr c)(n:dW c c.zk c.cm):wK f (cV f [M]):=by
 intro T h v vs m K p j H i;obtain⟨g,rfl,G⟩:=H;have l:bK f.k=oU:=by unfold bK;simp[*]
 have q:mL _ h K p:=awu (akE d a e C o n j G i);grind
theorem amI(e:bB f)(a:f.k=17)(C:kK f.cs KM)(r:∀c∈f.cs,jr c/\dW c c.zk c.cm):wN f (cV f KM):=by
 intro T D h v vs m x s K t n d i H j o l;obtain⟨g,rfl,G⟩:=H;have p:bK f.k=oT:=by unfold bK;simp[*]
 have q:nk _ x.au x.num _ s h K t:=awC (ZO e a C r n d i G j (λc q _=>G.out (o c q)) l);grind
theorem akM(d:bB f)(a:f.k=17)(C:kK f.cs KM)(l:∀c∈f.cs,jr c/\dW c c.zk c.cm):wK f (cV f KM):=by
 intro T h v vs m K n i H e;obtain⟨g,rfl,G⟩:=H;have j:bK f.k=oT:=by unfold bK;simp[*]
 have q:mL _ h K n:=awt (akC d a C l i G e);grind
theorem amP(i:bB f)(a:f.k=18)(C:kK f.cs KM)(r:∀c∈f.cs,jr c/\dW c c.zk c.cm):wN f (cV f KM):=by
 intro T D h v vs m x s K t e d j H l o n;obtain⟨g,rfl,G⟩:=H;have p:bK f.k=qC:=by unfold bK;simp[*]
 have q:nk _ x.au x.num _ s h K t:=awJ (ZX i a C (λc e=>(r c e).1) e d j G l (λc q _=>G.out (o c q)) n);grind
theorem akT(d:bB f)(a:f.k=18)(C:kK f.cs KM)(l:∀c∈f.cs,jr c/\dW c c.zk c.cm):wK f (cV f KM):=by
 intro T h v vs m K n i H e;obtain⟨g,rfl,G⟩:=H;have j:bK f.k=qC:=by unfold bK;simp[*]
 have q:mL _ h K n:=awA (akJ d a C l i G e);grind
end
def wW(f:aq)(M:cO):Prop:=∀{T:aQ}{h:Hp}{v:Value}{vs:aR}{m:fT}{K:Int->Int->Int->Sl->Sl->Sl->HP}{Kp:PK},f.can vs->M T h v (f.st vs) m->
  (∀p h',az h h'->eR (Nw h) (Nw h) h' p (f.dn (f.st vs))->K (f.dn (f.st vs)).len (f.dn (f.st vs)).off (f.dn (f.st vs)).au p.1 p.2.1 p.2.2 h')->mM v h K Kp
section
variable {KM:List cO} {M:cO}
theorem fH.none:fH D E h Sl.nil []:=⟨[],rfl,⟨yu h,λq=>absurd rfl q⟩,λj t l a b=>by simp at a⟩
abbrev Ij:=@fH.none
theorem afp{s u:Sl}{p o n:dy}{K:Addr->HP}(z:eD D h s (bv p))(r:eD D h t (bv o))(q:eD D h u (bv n))(C:D h.size)(A:∀a m,az h m->fH D D m ⟨some a,3,3⟩ [p,o,n]->K a m):aI h #[Sl.v s,Sl.v t,Sl.v u] fQ K:=by
 refine aF λb F e1 k y _=>A _ F k ⟨[s,t,u],rfl,?_,λj w l d e=>?_⟩
 ·refine⟨⟨rfl,bX _,λx G=>⟨_,rfl,λi v g=>?_⟩⟩,λ_ a B=>by cases B;exact e1▸C⟩
  rw[bz,ia y];grind
 ·rcases j with _|_|_|j
  ·simp at d e;subst d e;exact z.gr k
  ·simp at d e;subst d e;exact r.gr k
  ·simp at d e;subst d e;exact q.gr k
  ·simp at d
theorem awb(a:f.k=1):wW f (cV f []):=by
 intro T h v vs m K s w H e;obtain⟨g,rfl,G⟩:=H;have r:bK f.k=pW:=by unfold bK;simp[*]
 have q:mM (.iface pW (bH g.b)) h K s:=by
  refine awY (aFd (aF λz y e1 d n _=>?_));simp only[nH];have t:=G.B.fr (bg d) id λ_ _ _=>id;refine qv t λx i=>ig (n.ai i) rfl λo j l=>fJ l ?_;have p:f.dn (f.st vs)=.mk (f.st vs).b.rows 0 (f.st vs).b.cz [] [] []:=by rw[HN a,fI];rfl
  rw[p]at e;exact e (Sl.nil,Sl.nil,Sl.nil) o (bI (ak d i) j ag) ⟨Ij,jA _,jA _⟩
 grind
theorem av6(d:f.k=12\/f.k=13):wW f (cV f []):=by
 intro T h v vs m K Kp X H W;obtain⟨g,rfl,G⟩:=H;have ed:bK f.k=pV:=by unfold bK;grind
 have F:∀A:Rb,cC f.k A=[(ints A.ends,Y6),(bv A.all,Y8)]:=λA=>by unfold cC;simp[*]
 obtain⟨z,y,l⟩:∃z y,g.SS=[z,y]:=by
  have:=G.ls.1;rw[F]at this
  match hg:g.SS,this with
  |[a,b],_=>simp
 obtain⟨Q,P,r⟩:∃Q P,g.ST=[Q,P]:=by
  have:=G.ls.2;rw[F]at this
  match hg:g.ST,this with
  |[a,b],_=>simp
 have bd:=FM d X;have R:=((gj f vs).1 X).tx d;have Y:(f.st vs).b.all.length<=65536:=by rw[fI];simp only[aL];rw[aK d];exact R
 have o:∀x∈(f.st vs).b.ends,x<2^63:=by
  rw[fI];simp only[aL];rw[aK d];intro x I;unfold kr at I;simp only[kZ,wF]at I;obtain⟨i,_,rfl⟩:=I;have:=JV (λv:aB=>v.text.length) vs i;have e:(vs.map λv:aB=>v.text.length).sum=(vs.flatMap aB.text).length:=by rw[Cw]
  omega
 have q:mM (.iface pV (bH g.b)) h K Kp:=by
  refine awT (aE3 (aF λN h1 e1 L V _=>?_));refine bO ?_;have j:=G.fr qJ (bg L) λ_ _ _=>id;have o0:=j.sl 0 z Q _ (by simp[l]) (by simp[r]) (by rw[F];rfl)
  have o1:=j.sl 1 y P _ (by simp[l]) (by simp[r]) (by rw[F];rfl)
  refine j.dH (i:=0) (s:=z) rfl (by simp[l]) (j.dH (i:=1) (s:=y) rfl (by simp[l]) (wv j.B λu h2 n v2=>bQ j.B.k n (bQ j.B.k n ?_)))
  have z2:=n.1;refine xz (w:=4) (o0.gr n) bd.1 ag o λt h3 p=>bQ (j.B.k.ai n) p.g ?_;have z3:=p.g.1;refine Mo ((o1.gr n).gr p.g) ag λw h4 C Z=>?_;have z4:=C.1;refine afp ((v2.mo λc(q:h1.size<=c)=>(⟨ag,ag⟩:h.size<=c/\c≠N)).gr p.g |>.gr C) ((p.lq.mo λc(q:h2.size<=c)=>(⟨ag,ag⟩:h.size<=c/\c≠N)).gr C) (Z.mo λc(q:h3.size<=c)=>⟨ag,ag⟩) ⟨ag,ag⟩ λb' h5 g5 bf=>?_
  have O:=ak (ak n p.g) (ak C g5);have B5:=j.B.fr (bg O) id λ_ _ _=>id;refine qv B5 λh6 J=>ig ((V.ai O).ai J) rfl λh7 U k7=>fJ k7 ?_;have ef:f.dn (f.st vs)=.mk (f.st vs).b.rows 0 (f.st vs).b.cz [dF (f.st vs).b,laidB (f.st vs).b.ends 4,(f.st vs).b.all] [] []:=by rw[wj d,fI];rfl
  rw[ef]at W;exact W (_,Sl.nil,Sl.nil) h7 (bI (ak (ak L O) J) U ag) ⟨(bf.gr J).fr U.fr (λc q _ e=>q.2 e) (λc q _ e=>q.2 e) (λc q=>q.1) λc q=>q.1,jA _,jA _⟩
 simp[*]
end
section
variable {KM:List cO} {M:cO} {h0:Hp} {vs:aR} {m:fT} {K:Int->Int->Int->Sl->Sl->Sl->HP}
theorem dD.one{a:Nat}{p:Sl×Sl×Sl}(k:aN h a #[ah d.len,ah d.off,ah d.au,Sl.v p.1,Sl.v p.2.1,Sl.v p.2.2] el)(l:D a)(v:eR D E h p d):dD D E h ⟨some (aJ a),1,1⟩ [d]:=by
 obtain⟨n,o,u,aY,cs,ds⟩:=d;have j:iG D E h (aJ a) (.mk n o u aY cs ds):=by
  unfold iG;refine⟨p.1,p.2.1,p.2.2,λi w e=>?_,v.b,v.c,v.x⟩;rw[bz,ia k];rcases i with _|_|_|_|_|_|i
  all_goals first|(simp[zd]at e;done)|(simpa[zd,bG.len,bG.off,bG.au]using e)
 unfold dD;exact⟨rfl,bX _,_,rfl,l,j,by unfold jz;trivial⟩
theorem anL{n:Nat}{b:Sl}{X:TypeId}{c2:Array Value}(r:f.k=16)(s:f.cs=[c])(C:MC c M)(hc:f.can vs)(G:bW f [M] T h (f.st vs) m g)(P:aN h n c2 X)(e2:c2.size=6)
  (O:aN h j #[ah ((f.st vs).b.rows:Int),ah 0,ah ((f.st vs).b.cz:Int),Sl.v b,Sl.v Sl.nil,Sl.v Sl.nil] ck) (bf:fH (λc=>h0.size<=c/\c≠n/\c≠j) (λc=>h0.size<=c/\c≠n/\c≠j) h b [dF (f.st vs).b]) (V:az h0 h) (l2:h0.size<=n) (l3:h0.size<=j) (ne:n≠j)
  (Q:∀p F,az h0 F->eR (Nw h0) (Nw h0) F p (f.dn (f.st vs))->K (f.dn (f.st vs)).len (f.dn (f.st vs)).off (f.dn (f.st vs)).au p.1 p.2.1 p.2.2 F):C1 K Kp (bC g.b) (aJ n) (aJ j) h:=by
 have es:∀N:Rb,cC f.k N=[]:=λN=>by unfold cC;rw[ay,ay,ay,dV]
 have L:g.SS=[]:=by
  have:=G.ls.1;rw[es]at this;exact jB.1 this
 have lk:=G.lk;have Z:0<g.KT.length:=by have:=lk.2.1;simp only[jC]at this;omega
 have Y:0<g.kv.length:=by have:=lk.1;simp only[jC]at this;omega
 have R:=bJ Z;have E:=bJ Y;generalize g.KT[0]=A at R;generalize g.kv[0]=w at E;have aM:=G.aM 0 M A w rfl R E;have d:f.cs[0]? =some c:=by rw[s];rfl
 rw[mY d vs]at aM;have ef:f.dn (f.st vs)=.mk (f.st vs).b.rows 0 (f.st vs).b.cz [dF (f.st vs).b] [c.dn (c.st (dK f.k f.w (dJ f.cs) 0 vs))] []:=by
  have ek:iy f vs=[c.dn (c.st (dK f.k f.w (dJ f.cs) 0 vs))]:=by
   have x:=uH (vs:=vs) d;have l:=DW f vs;rw[s]at l
   match hq:iy f vs,l with
   |[y],_=>rw[hq]at x;simp at x;rw[x]
  rw[BY (.inl r),ek,fI];rfl
 rw[ef]at Q;apply aBM;refine bO ?_;have b':=P.lt;have a':=O.lt;refine G.lW (i:=0) rfl (.inr (.inl r)) (by simp[L]) E (C.done (fC d hc) aM λp x U D1=>aF λa l c' H o _=>?_)
 have z1:=U.1;have B:=ak U H;refine dI (O.ai B) aA rfl λh3 u J=>?_;have t:aN h3 j #[ah ((f.st vs).b.rows:Int),ah 0,ah ((f.st vs).b.cz:Int),Sl.v b,Sl.v ⟨some (aJ a),1,1⟩,Sl.v Sl.nil] ck:=by simpa[Sl.v]using J
 refine fJ t (ig (u.aZ (P.ai B) ne) e2 λS D k4=>fJ k4 (Q (b,⟨some (aJ a),1,1⟩,Sl.nil) S (bI (bI (ak V B) u l3) D l2) ⟨?_,?_,jA _⟩))
 ·exact((bf.gr B).fr u.fr (λc q _ e=>q.2.2 e) (λc q _ e=>q.2.2 e) (λc q=>q) λc q=>q).fr D.fr (λc q _ e=>q.2.1 e) (λc q _ e=>q.2.1 e) (λc q=>q.1) λc q=>q.1
 ·have I:Tn (λc=>c=j\/c=n) l S:=(u.fr.mono λc q _=>.inl q).trans (D.fr.mono λc q _=>.inr q);have d2:dD (λc=>h.size<=c) (λc=>h.size<=c) l ⟨some (aJ a),1,1⟩ [c.dn (c.st (dK f.k f.w (dJ f.cs) 0 vs))]:=dD.one o (by show h.size<=a;omega) (D1.gr H)
  exact dD.fr I (λc(q:h.size<=c)_ z=>ag) (λc(q:h.size<=c)_ z=>ag) (λc(q:h.size<=c)=>by show h0.size<=c;omega) (λc(q:h.size<=c)=>by show h0.size<=c;omega) _ d2
end
section
variable {M:cO} {D' E':aQ}
theorem fH.mo{s:Sl}{aY:iz}(v:fH D E h s aY)(e:∀b,D b->D' b)(a:∀b,E b->E' b):fH D' E' h s aY:=v.fr (iV _ _) (λ_ _ _=>id) (λ_ _ _=>id) e a
theorem EB{s:Sl}{k:dy}{K:Addr->HP}(o:eD D h s (bv k))(t:D h.size)(q:∀b g,az h g->b=h.size->fH D D g ⟨some (aJ b),1,1⟩ [k]->K (aJ b) g):aI h #[Sl.v s] fQ K:=by
 refine aF λb u e1 n p _=>q _ u n e1 ⟨[s],rfl,?_,λj w l d e=>?_⟩
 ·refine⟨⟨rfl,bX _,λx y=>⟨_,rfl,λi v m=>?_⟩⟩,λ_ a r=>by cases r;exact e1▸t⟩
  rw[bz,ia p];grind
 ·rcases j with _|j
  ·simp at d e;subst d e;exact o.gr n
  ·simp at d
theorem av8(w:f.k=16)(O:f.cs=[c])(C:MC c M):wW f (cV f [M]):=by
 intro T h v vs m K X hc H hk;obtain⟨g,rfl,G⟩:=H;have ed:bK f.k=oU:=by unfold bK;simp[*]
 have q:mM (.iface oU (bH g.b)) h K X:=by
  refine awV (aET (aF λa2 p e1 y R _=>?_));simp only[nH];have fin:∀{r:Hp}{j l:Nat}{L:Array Value},az p r->aN r j L ck->L.size=6->p.size<=j->fH (λc=>p.size<=c/\c≠j) (λc=>p.size<=c/\c≠j) r ⟨some (aJ l),1,1⟩ [dF (f.st vs).b]->
    cL r (aJ j) ((f.st vs).b.rows:Int) 0 ((f.st vs).b.cz:Int) ⟨some (aJ l),1,1⟩ Sl.nil Sl.nil λz=>C1 K X (bC g.b) (aJ a2) (aJ j) z:=by
   intro r j l L I n W l3 s;refine ig n W λz Q N=>?_;have J:=bI I Q l3;exact anL w O C hc (G.fr (nE C) (bg (ak y J)) λ_ _ _=>id) (R.ai J) rfl N (s.fr Q.fr (λc q _ e=>q.2 e) (λc q _ e=>q.2 e) (λc q=>⟨ag,ag,q.2⟩) λc q=>⟨ag,ag,q.2⟩) (ak y J) ag ag ag hk
  have Bx:∀{r:Hp},az p r->mN g.T0 r g.b _ f g.sf g.sn g.sb (f.st vs).b _:=λI=>G.B.fr (bg (ak y I)) id λ_ _ _=>id;refine⟨wv (Bx (cQ _)) λu V i P=>⟨EB (P.mo λc q=>q) i.1 λl U o x s=>⟨?_,?_⟩,?_⟩,?_⟩
  ·have t:=ak i o;refine qv (Bx t) λF a=>aF λj A e5 d n _=>?_;have Z:=t.1;have Y:=a.1;refine fin (ak (ak t a) d) n rfl ag (((s.lt.gr a).gr d).mo (λc q=>⟨q.1,ag⟩) λc q=>⟨q.1,ag⟩)
  ·have t:=ak i o;refine aF λj F e4 a n _=>qv (Bx (ak t a)) λA d=>?_;have Z:=t.1;refine fin (ak (ak t a) d) (n.ai d) rfl ag (((s.lt.gr a).gr d).mo (λc q=>⟨q.1,ag⟩) λc q=>⟨q.1,ag⟩)
  ·refine aF λj U W o n _=>EB (D:=λc=>p.size<=c/\c≠j) ((P.lt.gr o).mo λc q=>⟨q.1,ag⟩) (by have:=i.1;omega) λl F a x s=>qv (Bx (ak (ak i o) a)) λA d=>?_
   have z2:=i.1;exact fin (ak (ak (ak i o) a) d) ((n.ai a).ai d) rfl ag (s.gr d)
  ·exact aF λj V e2 i n _=>wv (Bx i) λu U o v3=>EB (v3.mo λc(q:V.size<=c)=>ag) (by have:=i.1;have:=o.1;omega) λl F a x s=>qv (Bx (ak (ak i o) a)) λA d=>fin (ak (ak (ak i o) a) d) (((n.ai o).ai a).ai d) rfl ag (s.gr d)
 grind
end
structure aHp(f:aq)(M:cO)(T:aQ)(h:Hp)(p:Nat)(vs:aR)(en:Bool)(sf:Sl)(v:Value)(Tm R:aQ):Prop where
 tp:T p
 lt:∀c,T c->c<h.size
 tm:∀c,Tm c->T c/\c≠p/\¬R c
 tr:∀c,R c->T c/\c≠p
 k:aN h p #[.string f.name,.bool f.au,ah f.k,ah f.w,ah f.id,ah f.ix,Sl.v sf,v,.bool en] afZ
 c:bM R h sf f.cs
 m:M Tm h v (f.st vs) none
def lR(f:aq)(M:cO)(T:aQ)(h:Hp)(p:Nat)(vs:aR)(en:Bool):Prop:=∃sf v Tm R,aHp f M T h p vs en sf v Tm R
section
variable {M:cO} {S:aQ} {h':Hp} {p:Nat} {vs:aR} {en:Bool} {x:aB} {s:Sl}
theorem lR.fr(C:MC f M)(B:lR f M T h p vs en)(t:Tn S h h')(hS:∀c,T c->¬S c):lR f M T h' p vs en:=by
 have⟨sf,v,Tm,R,B⟩:=B;exact⟨sf,v,Tm,R,B.tp,λc q=>m9 (B.lt c q) t.1,B.tm,B.tr,t.aZ B.k (hS p B.tp),bM.fr t (λc q=>hS c (B.tr c q).1) (λ_ q=>q) _ B.c,C.fr B.m t λc q _=>hS c (B.tm c q).1⟩
theorem lR.lt(B:lR f M T h p vs en):∀c,T c->c<h.size:=by
 have⟨a,v,b,R,B⟩:=B;exact B.lt
theorem asB{K:cK}(C:MC f M)(B:lR f M T h p vs en)(hc:f.can vs)(TB:f.fit x=true)(hP:dW f (λr=>f.tk r x) x)(hw:x.bx<=4194304)(hv:aO D h s x.items)(hD:∀c,D c->¬T c)
  (hk:∀h',Tn T h h'->lR f M (Tr T h h') h' p (if(f.tk (f.st vs) x).1=0 then vs++[x]else vs) en->K (f.tk (f.st vs) x).1 h'):X6 (bC p) x.au x.num (bs x.text) s h K Kp:=by
 have⟨sf,v,Tm,R,B⟩:=B;refine aFL (aF λa3 h1 e3 g1 k3 _=>aF λa4 h2 e4 g2 k4 _=>?_);have pl:=B.k.lt;have G2:=ak g1 g2;have tml:=λc q=>B.lt c (B.tm c q).1;refine bO ?_;refine aj (B.k.ai G2) rfl (C.mark hc (C.fr B.m (bg G2) λ_ _ _=>id) λmm h3 g3 o3 c3 er M3=>aF λa5 h4 e5 g4 k5 _=>⟨c3,dI k5 aA o3 λh5 o5 k5=>O8.of ?_⟩);have s3:=g3.1;have G5:=bI g4 o5 ag;have s5:=G5.1;have Gs:=ak g3 G5;have G:=ak G2 Gs;have k3:=(k3.ai g2).ai Gs;have k4:=k4.ai Gs;have kp:=B.k.ai G;have k5:aN h5 a5 #[mm.F] Y4:=by simpa using k5
 have M5:=C.fr M3 (bg G5) λ_ _ _=>id;unfold ahk;refine bO ?_;have Bu:∀c,Tr Tm h2 h3 c->(Tm c/\c<h.size)\/(h2.size<=c/\c<h3.size):=λc q=>q.imp (λq=>⟨q,tml c q⟩) id;refine aj kp rfl (fk k3 (C.take hc TB hw M5 (dU (aO.lt _ hv) G) (λc q z=>?_) λh6 t6 M6=>?_))
 ·rcases Bu c z with q2|q2
  ·exact hD c q.1 (B.tm c q2.1).1
  ·have:=q.2;omega
 have s6:=t6.1;have k4:=t6.aZ k4 λq=>by rcases Bu a4 q with q|q <;> omega
 have k5:=t6.aZ k5 λq=>by rcases Bu a5 q with q|q <;> omega
 have kp:=t6.aZ kp λq=>by
  rcases Bu p q with q|q
  ·exact(B.tm p q.1).2.1 rfl
  ·omega
 refine dI k4 aA rfl λh7 o7 k4=>?_;have s7:=o7.1;have k5:=o7.aZ k5 ag;have kp:=o7.aZ kp ag;have k4:aN h7 a4 #[ah (f.tk (f.st vs) x).1] MN:=by simpa using k4
 have DR:∀c,Tr _ h5 h6 c->(Tm c/\c<h.size)\/(h2.size<=c/\c<h3.size)\/(h5.size<=c/\c<h6.size):=λc q=>by
  rcases q with q|q
  ·exact(Bu c q).imp id .inl
  ·exact .inr (.inr q)
 have M7:=C.fr M6 o7.fr λc q _ e=>by rcases DR c q with q|q|q <;> omega
 have t57:Tn (λc=>Tr Tm h2 h3 c\/c=a4) h5 h7:=(t6.mono λc q _=>.inl q).trans (o7.fr.mono λc q _=>.inr q);have fs7:bM R h7 sf f.cs:=by
  refine bM.fr t57 (λc q z=>?_) (λc q=>q.1) _ (lM (bM.lt _ B.c) G);rcases z with z|z
  ·rcases Bu c z with q2|q2
   ·exact(B.tm c q2.1).2.2 q.1
   ·have:=q.2;omega
  ·have:=q.2;omega
 -- the end,from a heap h8 that follows h7
 have fin:∀h8 r',Tn (Tr (Tr Tm h2 h3) h5 h6) h7 h8->M (Tr (Tr Tm h2 h3) h5 h6) h8 v r' none->r'=f.st (if(f.tk (f.st vs) x).1=0 then vs++[x]else vs)->aN h8 a4 #[ah (f.tk (f.st vs) x).1] MN->Ld h8 (aJ a4) mI λr0=>K r0 h8:=by
  intro h8 r' t8 M8 er k4;subst er;have s8:=t8.1;have kp:=t8.aZ kp λq=>by
   rcases DR p q with q|q|q
   ·exact(B.tm p q.1).2.1 rfl
   ·omega
   ·omega
  refine aj k4 rfl (hk h8 ?_ ⟨sf,v,Tr (Tr Tm h2 h3) h5 h6,R,.inl B.tp,λc q=>?_,λc q=>?_,λc q=>⟨.inl (B.tr c q).1,(B.tr c q).2⟩,kp,?_,M8⟩)
  ·refine((bg G).trans' t57 λc q eC=>?_).trans' t8 λc q eC=>?_
   ·rcases q with q|q
    ·rcases Bu c q with q|q
     ·exact(B.tm c q.1).1
     ·omega
    ·omega
   ·rcases DR c q with q|q|q
    ·exact(B.tm c q.1).1
    ·omega
    ·omega
  ·rcases q with q|q
   ·have:=B.lt c q;omega
   ·exact q.2
  ·rcases DR c q with q|q|q
   ·exact⟨.inl (B.tm c q.1).1,(B.tm c q.1).2⟩
   ·exact⟨.inr ag,by omega,λz=>by have:=B.lt c (B.tr c z).1;omega⟩
   ·exact⟨.inr ag,by omega,λz=>by have:=B.lt c (B.tr c z).1;omega⟩
  ·refine bM.fr (D:=λc=>R c/\c<h.size) t8 (λc q z=>?_) (λc q=>q.1) _ (bM.fr (S:=No) (iV _ _) (λ_ _=>id) (λc q=>⟨q.1,B.lt c (B.tr c q.1).1⟩) _ (bM.lt _ fs7));rcases DR c z with q2|q2|q2
   ·exact(B.tm c q2.1).2.2 q.1
   ·have:=q.2;omega
   ·have:=q.2;omega
 refine aHk (c0:=⟨a4,0,none⟩) (c1:=⟨a5,0,none⟩) (h:=h7) (K:=λh'=>Ld h' ⟨a4,0,none⟩ mI λr0=>K r0 h') (aj k4 rfl (aG (λc=>?_) λc=>?_))
 ·have c:=aS c;refine aj k5 rfl (C.back M7 λh8 t8 M8=>fin h8 _ t8 (C.drop M8) ?_ (t8.aZ k4 λq=>by rcases DR a4 q with q|q|q <;> omega))
  rw[er,aC c]
 ·have c:=aS c;exact fin h7 _ (iV _ _) (C.drop M7) (by rw[aK c];exact(hP vs hc c).2) k4
def ij(f:aq)(vs:aR)(x:aB):Int:=if x.bx<=4194304/\f.fit x=true then(f.tk (f.st vs) x).1 else 7
theorem ay5(PF:jr f){vs:aR}{x:aB}(hc:f.can vs)(h:ij f vs x=0):f.can (vs++[x])/\f.fit x=true:=by
 unfold ij at h;split at h
 ·rename_i q;exact⟨((PF x q.2) vs hc h).1,q.2⟩
 ·cases h
theorem akn{K:cK}(C:MC f M)(PF:jr f)(FC:ni f)(ff:bB f)(tD:f.fN)(ht:lP h)(hu:iW h)(B:lR f M T h p vs false)(hc:f.can vs)(hr:x.lU)(hv:aO D h s x.items)(hD:∀c,D c->¬T c)
  (hk:∀h',Tn T h h'->lR f M (Tr T h h') h' p (if ij f vs x=0 then vs++[x]else vs) false->K (ij f vs x) h'):Jq (bC p) x.au x.num (bs x.text) s h K Kp:=by
 have B0:=B;have⟨sf,v,Tm,R,B⟩:=B;refine ajZ (aF λa3 h1 e3 g1 k3 _=>?_);refine bO ?_;refine aj (B.k.ai g1) rfl (bu rfl (gH ?_ (fk k3 (aHg FC ff tD (ht.ai g1) (hu.ai g1) (lM B.c g1) (dU hv g1) hr λh2 g2=>?_))))
 ·intro i w hw;rw[bz,ia (B.k.ai g1)];rcases i with _|_|_|_|_|_|_|i
  all_goals first|(simp at hw;done)|(simpa using hw)
 have G:=ak g1 g2;have s2:=g2.1;have B2:=B0.fr C (bg G) λ_ _=>id;have up:∀{h':Hp}{Px:aR},h2.size<=h'.size->lR f M (Tr T h2 h') h' p Px false->lR f M (Tr T h h') h' p Px false:=by
  rintro h' Px hs ⟨sf,v,Tm,R,B⟩;exact⟨sf,v,Tm,R,.inl B0.choose_spec.choose_spec.choose_spec.choose_spec.tp,λc q=>by rcases q with q|q;exact B.lt c (.inl q);exact q.2,λc q=>⟨(B.tm c q).1.imp id λq=>⟨by omega,q.2⟩,(B.tm c q).2⟩,λc q=>⟨(B.tr c q).1.imp id λq=>⟨by omega,q.2⟩,(B.tr c q).2⟩,B.k,B.c,B.m⟩
 refine aG (λc=>?_) λc=>fk (k3.ai g2) ?_
 ·have c:=aS c;have hn:¬(x.bx<=4194304/\f.fit x=true):=λq=>by rw[aK q]at c;exact c rfl
  have e:ij f vs x=7:=by unfold ij;rw[aC hn]
  rw[aC hn];rw[e]at hk;exact hk h2 (bg G) (up (bX _) (by
   have⟨sf,v,Tm,R,B⟩:=B2;exact⟨sf,v,Tm,R,.inl B.tp,λc q=>by rcases q with q|q;exact B.lt c q;exact q.2,λc q=>⟨.inl (B.tm c q).1,(B.tm c q).2⟩,λc q=>⟨.inl (B.tr c q).1,(B.tr c q).2⟩,B.k,B.c,B.m⟩))
 ·have c:=aS c;have hp:x.bx<=4194304/\f.fit x=true:=by
   by_cases q:x.bx<=4194304/\f.fit x=true
   ·exact q
   ·rw[aC q]at c;cases c
  have e:ij f vs x=(f.tk (f.st vs) x).1:=by unfold ij;rw[aK hp]
  rw[e]at hk;exact asB C B2 hc hp.2 (PF x hp.2) hp.1 (dU hv G) hD λh3 t3 B3=>hk h3 ((bg G:Tn T h h2).trans t3) (up t3.1 B3)
theorem aHw{K:cK}{n:Int}{tx:fh}{nl:Bool}(B:lR f M T h p vs true)(hk:∀h',az h h'->K 9 h'):Jq (bC p) nl n tx s h K Kp:=by
 have⟨sf,v,Tm,R,B⟩:=B;refine ajZ (aF λa3 h1 e3 g1 k3 _=>?_);refine bO ?_;exact aj (B.k.ai g1) rfl (bS rfl (hk h1 g1))
theorem azT{K:cK}(C:MC f M)(B:lR f M T h p vs en)(hk:K (vs.length:Int) h):X9 (bC p) h K Kp:=by
 have⟨sf,v,Tm,R,B⟩:=B;apply aFW;refine bO ?_;exact aj B.k rfl (C.count B.m (by rw[zm];exact hk))
theorem aka{K:Int->Int->Int->Sl->Sl->Sl->Int->HP}(C:MC f M)(B:lR f M T h p vs false)(hc:f.can vs)
  (hk:∀q h',Tn (·=p) h h'->lR f M T h' p vs true->eR (Nw h) (Nw h) h' q (f.dn (f.st vs))->K (f.dn (f.st vs)).len (f.dn (f.st vs)).off (f.dn (f.st vs)).au q.1 q.2.1 q.2.2 0 h'):Jp (bC p) h K Kp:=by
 have⟨sf,v,Tm,R,B⟩:=B;refine ajY (aF λa2 h1 e2 g1 k2 _=>?_);have pl:=B.k.lt;refine bO ?_;refine aj (B.k.ai g1) rfl (bu rfl (dI (B.k.ai g1) aA rfl λh2 o2 kp=>?_));have s2:=o2.1;have M2:=C.fr (C.fr B.m (bg g1) λ_ _ _=>id) o2.fr λc q _ e=>(B.tm c q).2.1 e;refine aj kp rfl (C.done hc M2 λq h3 g3 D3=>?_);refine ig ((o2.aZ k2 ag).ai g3) rfl λh4 o4 k4=>fJ k4 ?_;have t3:=((bg g1).trans o2.fr).trans (bg g3);have t4:=t3.trans' o4.fr λc q eC=>by omega
 refine hk q h4 t4 ⟨sf,v,Tm,R,B.tp,λc q=>m9 (B.lt c q) t4.1,B.tm,B.tr,?_,bM.fr t4 (λc q=>(B.tr c q).2) (λ_ q=>q) _ B.c,?_⟩ ?_
 ·have:=o4.aZ (kp.ai g3) ag
  simpa using this
 ·exact C.fr (C.fr M2 (bg g3) λ_ _ _=>id) o4.fr λc q _ e=>by have:=B.lt c (B.tm c q).1;omega
 ·exact D3.fr o4.fr (λc q _ e=>by omega) (λc q _ e=>by omega) (λc q=>by show h.size<=c;omega) λc q=>by show h.size<=c;omega
end
theorem iX.ext{h':Hp}{Ls n:List (Nat->Prop)}(t:iX T h b Ls)(N:Nat->Nat->Prop)(y:h.size<=h'.size)(hl:∀(i:Nat)B,n[i]? =some B->∃A,Ls[i]? =some A/\∀c,B c->A c\/N i c)
  (hN:∀i c,N i c->h.size<=c/\c<h'.size) (v:∀i j c,i≠j->N i c->¬N j c):iX (Tr T h h') h' b n:=by
 refine⟨.inl t.tb,λc k=>?_,λB hB c k=>?_,?_⟩
 ·rcases k with q|q
  ·have:=t.lt c q;omega
  omega
 ·obtain⟨i,hi⟩:=List.getElem?_of_mem hB;obtain⟨A,o,d⟩:=hl i B hi;rcases d c k with q|q
  ·have:=t.sub A (bT o) c q;grind
  ·have:=hN i c q;exact⟨.inr this,λe=>by have:=t.lt b t.tb;omega⟩
 ·rw[vg];intro i j hi u x c k l;obtain⟨A,o,d⟩:=hl i _ (bJ hi);obtain⟨w,m,a⟩:=hl j _ (bJ u);have lA:=λq=>t.lt c (t.sub A (bT o) c q).1;have s:=λq=>t.lt c (t.sub w (bT m) c q).1;rcases d c k with q|q
  ·rcases a c l with p|p
   ·exact t.ne o m ag c q p
   grind
  grind
def dP.mk'(g:dP)(n:Nat)(h h':Hp)(lo hi:Nat->Nat):dP:=
 {g with R:=λc=>g.R c\/(h.size<=c/\c<h'.size/\∀j,j<n->¬(lo j<=c/\c<hi j)),KT:=(List.range n).map λj=>λc=>(g.KT.getD j λ_=>False) c\/(lo j<=c/\c<hi j)}
section
variable {KM:List cO} {M:cO} {h':Hp} {r:Raw} {mm:Mem} {lo hi:Nat->Nat}
theorem bW.marked(G:bW f KM T h r none g)(KF:∀(j:Nat)M,KM[j]? =some M->gG M)(gr:az h h')(I:∀j,j<KM.length->h.size<=lo j/\hi j<=h'.size)(L:∀i j,i<KM.length->j<KM.length->i≠j->hi i<=lo j\/hi j<=lo i)
  (K:∀(j:Nat)M A w,KM[j]? =some M->g.KT[j]? =some A->g.kv[j]? =some w->M (λc=>A c\/(lo j<=c/\c<hi j)) h' w (r.aM j) mm.ks[j]?) (J:IW f (gL f.k) h' r mm (g.mk' KM.length h h' lo hi)):bW f KM (Tr T h h') h' r (some mm) (g.mk' KM.length h h' lo hi):=by
 have lk:=G.lk;have d:=G.fr KF (bg gr) λ_ _ _=>id;have C:∀{j:Nat}{A:aQ},(g.mk' KM.length h h' lo hi).KT[j]? =some A->j<KM.length/\∃B,g.KT[j]? =some B/\A=λc=>B c\/(lo j<=c/\c<hi j):=by
  intro j A l;have D:j<KM.length:=by have:=(de.1 l).1;simpa[dP.mk']using this
  refine⟨D,g.KT[j],bJ ag,?_⟩;simp only[dP.mk']at l;rw[eY,EM D]at l;simp only[pP,mF]at l;rw[<-l,gV,bJ ag];rfl
 refine⟨?_,d.B,d.ls,d.sl,⟨lk.1,by simp[dP.mk'],lk.2.2⟩,λj M A w a b o=>?_,aO.fr (iV _ _) (λ_ _ _=>id) (λc q=>.inl q) _ d.no,λz=>(d.kl z).fr (iV _ _) (λ_ _ _=>id) λc q=>.inl q,d.sp,λP e=>bZ⟩
 ·refine G.t.ext (λi c=>(i=1/\h.size<=c/\c<h'.size/\∀j,j<KM.length->¬(lo j<=c/\c<hi j))\/∃j,i=3+g.ST.length+j/\j<KM.length/\lo j<=c/\c<hi j) gr.1 (λi B hB=>?_) (λi c q=>?_) λi j c ne q p=>?_
  ·rcases i with _|_|_|i
   ·exact⟨g.T0,rfl,λc q=>.inl (by cases hB;exact q)⟩
   ·refine⟨g.R,rfl,λc q=>?_⟩;cases hB;rcases q with q|q
    all_goals grind
   ·exact⟨g.X,rfl,λc q=>.inl (by cases hB;exact q)⟩
   ·by_cases u:i<g.ST.length
    ·have E:=bJ u;have N:=(g.mk' KM.length h h' lo hi).iw E;have n:=g.iw E;rw[show i+1+1+1=3+i by omega]at hB⊢
     rw[N]at hB;grind
    ·have v:(g.mk' KM.length h h' lo hi).KT[i-g.ST.length]? =some B:=by
      have:(g.mk' KM.length h h' lo hi).Ls[i+1+1+1]? =some B:=hB;unfold dP.Ls at this;rw[Cv,Cv,Cv,fU (show(g.mk' KM.length h h' lo hi).ST.length<=i from by show g.ST.length<=i;omega)]at this
      exact this
     obtain⟨a,O,b,rfl⟩:=C v;have n:=g.fF b;grind
  all_goals grind
 ·obtain⟨_,B,F,rfl⟩:=C b;exact K j M B w a F o
end
abbrev qD:=Value->Nat->Nat->HP
variable {VB V2:qD}
structure ua(h h':Hp)(caps:cU)(cs:List (Array Value))(VB V2:qD)(F0 KF:Value)(l0 u0 l2 u2:Nat):Prop where
 g:az h h'
 n:caps.length=cs.length
 c:∀(i:Nat)a,caps[i]? =some a->h.size<=a/\¬(l2<=a/\a<u2)/\∃c t,cs[i]? =some c/\aN h' a c t
 b:VB F0 l0 u0 h'/\h.size<=l0/\u0<=h'.size
 k:V2 KF l2 u2 h'/\h.size<=l2/\u2<=h'.size
 d:u0<=l2\/u2<=l0
abbrev pA(a:Nat):Value:=bH a
abbrev vc(n:Nat)(v:Value):Cl:=.vl n (qi v)
abbrev vb(n b:Nat):Cl:=.vl n (qi (pA b))
abbrev Bw(c:Code)(K:di)(Kp:PK):Fr->HP:=zq aE (pG (sub [1,0] c)) (λfr h=>fZ aE [] (FA aE []) none (.seq (.region 2 #[DL (sub [1,1,0] c) 0,DL (sub [1,1,0] c) 1] false) .ret) (mO aE [.tmp 2] [.nilFunc] K) Kp fr h) Kp (pG (sub [1,0] c)).size (List.range (pG (sub [1,0] c)).size)
theorem jY{a:Nat}{t:TypeId}{p:Option Addr}{K:Option Value->HP}(k:aN h a #[.pointer p] t)(hk:K (some (.pointer p)) h):Ld h (aJ a) Value.pointer λp=>K (some (.pointer p)) h:=aj k rfl hk
theorem zG(n:Int):One (qi (ah n)):=.cst rfl rfl
def IT:qD:=λ_ _ _ _=>True
def ayl:Code:=Tryz.f189.body.getD .skip
def akk(VB V2:qD)(b a1:Nat)(eT:Sl)(Bd:Sl):List Cl:=[vb 6 b,vb 7 b,vc 8 (bH b),.vl 9 VB,vb 10 b,vb 11 b,vc 12 (.pointer (some ⟨b,16,none⟩)),vc 13 (Sl.v eT),vc 14 (ah (eT.n:Int)),vb 15 b,vb 16 b,vc 17 (.pointer (some ⟨b,17,none⟩)),vc 18 (Sl.v Bd),vc 19 (ah (Bd.n:Int)),.al 3 #[.nilFunc] 1 17 3,.al 4 #[ah 0] 3 18 8,.al 5 #[ah 0] 3 19 13,.st 14 3,.st 15 8,.st 16 13]
abbrev aJe(b a1:Nat):Fr:=([some (pA b),some (pA a1),some .nilFunc]++nn 18)
theorem OL.mk{K:di}{Bd:Sl}(n9:∀{h':Hp}{X:Sl->Prop},az h h'->X eT->Ld h' ⟨b,16,none⟩ Sl.v X)(BC:∀{h':Hp}{X:Sl->Prop},az h h'->X Bd->Ld h' ⟨b,17,none⟩ Sl.v X)(sB:l9 h VB)(cB:One VB)(HB:∀{h1:Hp}{X:di},az h h1->(∀v h',az h1 h'->VB v h1.size h'.size h'->X v h')->uk (bC b) h1 X Kp)
  (hk:∀caps F0 KF l0 u0 l2 u2 h',ua h h' caps [#[F0],#[pA b],#[ah (eT.n:Int)],#[ah (Bd.n:Int)]] VB IT F0 KF l0 u0 l2 u2->K (.func (.func 195) #[] (caps.map pA).toArray) h'):OL (bC b) h K Kp:=by
 refine BR (bY:=[]) (zs:=[.nilFunc]) (Kv:=K) Tryz.func189 aW (S:=aI h #[pA b] 78 λa1 h1=>Bw ayl K Kp ([some (pA b),some (.pointer (some a1)),some .nilFunc]++nn 18) h1) ?_ aW aW
 refine aF λa1 h1 e1 g1 k1 _=>zJ (C:=akk VB IT b a1 eT Bd) aW aW aW ⟨
  o0 1 _ λK h g hk=>jY (k1.ai g) hk,
  oE 0,
  oE 1,
  oF 2 (sB.mo g1.1) λK h g hk=>HB (ak g1 g) hk,
  o0 1 _ λK h g hk=>jY (k1.ai g) hk,
  oE 4,
  oE 5,
  oX 6 λK h g hk=>n9 (X:=λs=>K (some s.v) h) (ak g1 g) hk,
  oE 7,
  o0 1 _ λK h g hk=>jY (k1.ai g) hk,
  oE 9,
  oE 10,
  oX 11 λK h g hk=>BC (X:=λs=>K (some s.v) h) (ak g1 g) hk,
  oE 12,
  oA,
  oA,
  oA,
  oS true cB,
  oS false (zG _),
  oS false (zG _),
  trivial⟩ λfr h2 F A lo hi M=>?_
 have nm:∀{i:Nat},i∉([]:cU):=pN;obtain⟨p3,q3,y3,z3⟩:_/\_/\_/\_:=M.c 3 _ rfl nm;obtain⟨p8,q8,y8,z8⟩:_/\_/\_/\_:=M.c 8 _ rfl nm;obtain⟨zC,xh,JI,Dc⟩:_/\_/\_/\_:=M.c 13 _ rfl nm;obtain⟨zB,Pm,zO⟩:_/\_/\_:=M.c 14 _ rfl nm;obtain⟨zA,Pk,zN⟩:_/\_/\_:=M.c 15 _ rfl nm;obtain⟨zy,Pj,zM⟩:_/\_/\_:=M.c 16 _ rfl nm;rw[aC nm,(cB _ _ _ _ q3).2]at zO;rw[aC nm,(q8:F 8=_)]at zN;rw[aC nm,(xh:F 13=_)]at zM;have p1:fr.getD 1 none=some (pA a1):=M.o.2 1 (by simp[akk,Cl.dst])
 have tA:=k1.ai M.g;refine Bb (fn:=.func 195) (caps:=#[.tmp 3,.tmp 1,.tmp 4,.tmp 5]) (vs:=[pA (A 14),pA (a1),pA (A 15),pA (A 16)]) aW aW aW aW aW aW (by rw[M.o.1];exact(by decide:20<21)) (by rw[M.o.1];exact(by decide:2<21)) ?_ rfl ?_
 ·simp only[iL,ev,zB,p1,zA,zy]
 ·refine hk [A 14,a1,A 15,A 16] (F 3) (undef) (lo 3) (hi 3) h2.size h2.size h2 ⟨ak g1 M.g,rfl,λi a dQ=>?_,⟨q3,by omega,z3⟩,⟨trivial,by have:=M.g.1;omega,bX _⟩,.inl z3⟩
  rcases i with _|_|_|_|i
  ·cases dQ;exact⟨by omega,λq=>by omega,_,_,rfl,zO⟩
  ·cases dQ;exact⟨by omega,λq=>by omega,_,_,rfl,tA⟩
  ·cases dQ;exact⟨by omega,λq=>by omega,_,_,rfl,zN⟩
  ·cases dQ;exact⟨by omega,λq=>by omega,_,_,rfl,zM⟩
  ·simp at dQ
def Cf:Code:=Tryz.f197.body.getD .skip
def akj(VB V2:qD)(b a1:Nat)(eT:Sl)(w:Value):List Cl:=[vb 6 b,vb 7 b,vc 8 (bH b),.vl 9 VB,vb 10 b,vb 11 b,vc 12 (.pointer (some ⟨b,16,none⟩)),vc 13 (Sl.v eT),vc 14 (ah (eT.n:Int)),vb 15 b,vb 16 b,vc 17 (.pointer (some ⟨b,17,none⟩)),vc 18 (w),.vl 19 V2,.al 3 #[.nilFunc] 1 17 3,.al 4 #[ah 0] 3 18 8,.al 5 #[.nilFunc] 1 19 13,.st 14 3,.st 15 8,.st 16 13]
abbrev aJd(b a1:Nat):Fr:=([some (pA b),some (pA a1),some .nilFunc]++nn 18)
theorem OJ.mk{K:di}{w:Value}(n9:∀{h':Hp}{X:Sl->Prop},az h h'->X eT->Ld h' ⟨b,16,none⟩ Sl.v X)(BC:∀{h':Hp}{X:Value->Prop},az h h'->X w->Ld h' ⟨b,17,none⟩ id X)(sB:l9 h VB)(cB:One VB)(HB:∀{h1:Hp}{X:di},az h h1->(∀v h',az h1 h'->VB v h1.size h'.size h'->X v h')->uk (bC b) h1 X Kp)(s2:l9 h V2)(c2:One V2)(H2:∀{h1:Hp}{X:di},az h h1->(∀v h',az h1 h'->V2 v h1.size h'.size h'->X v h')->kU w h1 X Kp)
  (hk:∀caps F0 KF l0 u0 l2 u2 h',ua h h' caps [#[F0],#[KF],#[pA b],#[ah (eT.n:Int)]] VB V2 F0 KF l0 u0 l2 u2->K (.func (.func 200) #[] (caps.map pA).toArray) h'):OJ (bC b) h K Kp:=by
 refine BR (bY:=[]) (zs:=[.nilFunc]) (Kv:=K) Tryz.func197 aW (S:=aI h #[pA b] 81 λa1 h1=>Bw Cf K Kp ([some (pA b),some (.pointer (some a1)),some .nilFunc]++nn 18) h1) ?_ aW aW
 refine aF λa1 h1 e1 g1 k1 _=>zJ (C:=akj VB V2 b a1 eT w) aW aW aW ⟨
  o0 1 _ λK h g hk=>jY (k1.ai g) hk,
  oE 0,
  oE 1,
  oF 2 (sB.mo g1.1) λK h g hk=>HB (ak g1 g) hk,
  o0 1 _ λK h g hk=>jY (k1.ai g) hk,
  oE 4,
  oE 5,
  oX 6 λK h g hk=>n9 (X:=λs=>K (some s.v) h) (ak g1 g) hk,
  oE 7,
  o0 1 _ λK h g hk=>jY (k1.ai g) hk,
  oE 9,
  oE 10,
  oX 11 λK h g hk=>BC (X:=λs=>K (some s) h) (ak g1 g) hk,
  oF 12 (s2.mo g1.1) λK h g hk=>H2 (ak g1 g) hk,
  oA,
  oA,
  oA,
  oS true cB,
  oS false (zG _),
  oS true c2,
  trivial⟩ λfr h2 F A lo hi M=>?_
 have nm:∀{i:Nat},i∉([]:cU):=pN;obtain⟨p3,q3,y3,z3⟩:_/\_/\_/\_:=M.c 3 _ rfl nm;obtain⟨p8,q8,y8,z8⟩:_/\_/\_/\_:=M.c 8 _ rfl nm;obtain⟨zC,xh,JI,Dc⟩:_/\_/\_/\_:=M.c 13 _ rfl nm;obtain⟨zB,Pm,zO⟩:_/\_/\_:=M.c 14 _ rfl nm;obtain⟨zA,Pk,zN⟩:_/\_/\_:=M.c 15 _ rfl nm;obtain⟨zy,Pj,zM⟩:_/\_/\_:=M.c 16 _ rfl nm;rw[aC nm,(cB _ _ _ _ q3).2]at zO;rw[aC nm,(q8:F 8=_)]at zN;rw[aC nm,(c2 _ _ _ _ xh).2]at zM;have p1:fr.getD 1 none=some (pA a1):=M.o.2 1 (by simp[akj,Cl.dst])
 have tA:=k1.ai M.g;refine Bb (fn:=.func 200) (caps:=#[.tmp 3,.tmp 5,.tmp 1,.tmp 4]) (vs:=[pA (A 14),pA (A 16),pA (a1),pA (A 15)]) aW aW aW aW aW aW (by rw[M.o.1];exact(by decide:20<21)) (by rw[M.o.1];exact(by decide:2<21)) ?_ rfl ?_
 ·simp only[iL,ev,zB,zy,p1,zA]
 ·refine hk [A 14,A 16,a1,A 15] (F 3) (F 13) (lo 3) (hi 3) (lo 13) (hi 13) h2 ⟨ak g1 M.g,rfl,λi a dQ=>?_,⟨q3,by omega,z3⟩,⟨xh,by omega,Dc⟩,M.vv 3 13 _ _ _ _ rfl rfl nm nm bw⟩
  rcases i with _|_|_|_|i
  ·cases dQ;exact⟨by omega,M.av 14 13 _ _ _ _ _ _ _ rfl rfl nm nm,_,_,rfl,zO⟩
  ·cases dQ;exact⟨by omega,M.av 16 13 _ _ _ _ _ _ _ rfl rfl nm nm,_,_,rfl,zM⟩
  ·cases dQ;exact⟨by omega,λq=>by have:=k1.lt;omega,_,_,rfl,tA⟩
  ·cases dQ;exact⟨by omega,M.av 15 13 _ _ _ _ _ _ _ rfl rfl nm nm,_,_,rfl,zN⟩
  ·simp at dQ
def ayk:Code:=Tryz.f202.body.getD .skip
def aHn(VB V2:qD)(b:Nat)(w:Value):List Cl:=[vb 5 b,vb 6 b,vc 7 (bH b),.vl 8 VB,vb 9 b,vb 10 b,vc 11 (.pointer (some ⟨b,16,none⟩)),vc 12 (w),.vl 13 V2,.al 3 #[.nilFunc] 1 11 3,.al 4 #[.nilFunc] 1 12 8,.st 9 3,.st 10 8]
abbrev au6(b:Nat):Fr:=([some (pA b),none,some .nilFunc]++nn 12)
theorem OH.mk{K:di}{w:Value}(n9:∀{h':Hp}{X:Value->Prop},az h h'->X w->Ld h' ⟨b,16,none⟩ id X)(sB:l9 h VB)(cB:One VB)(HB:∀{h1:Hp}{X:di},az h h1->(∀v h',az h1 h'->VB v h1.size h'.size h'->X v h')->uk (bC b) h1 X Kp)(s2:l9 h V2)(c2:One V2)(H2:∀{h1:Hp}{X:di},az h h1->(∀v h',az h1 h'->V2 v h1.size h'.size h'->X v h')->kU w h1 X Kp)
  (hk:∀caps F0 KF l0 u0 l2 u2 h',ua h h' caps [#[F0],#[KF]] VB V2 F0 KF l0 u0 l2 u2->K (.func (.func 205) #[] (caps.map pA).toArray) h'):OH (bC b) h K Kp:=by
 refine BR (bY:=[]) (zs:=[.nilFunc]) (Kv:=K) Tryz.func202 aW (S:=Bw ayk K Kp (au6 b) h) ?_ aW aW
 have g1:=cQ h;refine zJ (C:=aHn VB V2 b w) aW aW aW ⟨
  o0 0 _ λK h g hk=>hk,
  oE 0,
  oE 1,
  oF 2 (sB.mo g1.1) λK h g hk=>HB (ak g1 g) hk,
  o0 0 _ λK h g hk=>hk,
  oE 4,
  oE 5,
  oX 6 λK h g hk=>n9 (X:=λs=>K (some s) h) (ak g1 g) hk,
  oF 7 (s2.mo g1.1) λK h g hk=>H2 (ak g1 g) hk,
  oA,
  oA,
  oS true cB,
  oS true c2,
  trivial⟩ λfr h2 F A lo hi M=>?_
 have nm:∀{i:Nat},i∉([]:cU):=pN;obtain⟨p3,q3,y3,z3⟩:_/\_/\_/\_:=M.c 3 _ rfl nm;obtain⟨p8,q8,y8,z8⟩:_/\_/\_/\_:=M.c 8 _ rfl nm;obtain⟨p9,y9,zR⟩:_/\_/\_:=M.c 9 _ rfl nm;obtain⟨zD,Pn,zP⟩:_/\_/\_:=M.c 10 _ rfl nm;rw[aC nm,(cB _ _ _ _ q3).2]at zR;rw[aC nm,(c2 _ _ _ _ q8).2]at zP;refine Bb (fn:=.func 205) (caps:=#[.tmp 3,.tmp 4]) (vs:=[pA (A 9),pA (A 10)]) aW aW aW aW aW aW (by rw[M.o.1];exact(by decide:14<15)) (by rw[M.o.1];exact(by decide:2<15)) ?_ rfl ?_
 ·simp only[iL,ev,p9,zD]
 ·refine hk [A 9,A 10] (F 3) _ _ (hi 3) (lo 8) (hi 8) h2 ⟨ak g1 M.g,rfl,λi a dQ=>?_,⟨q3,by omega,z3⟩,⟨q8,by omega,z8⟩,M.vv 3 8 _ _ _ _ rfl rfl nm nm bw⟩
  rcases i with _|_|i
  ·cases dQ;exact⟨by omega,M.av 9 8 _ _ _ _ _ _ _ rfl rfl nm nm,_,_,rfl,zR⟩
  ·cases dQ;exact⟨by omega,M.av 10 8 _ _ _ _ _ _ _ rfl rfl nm nm,_,_,rfl,zP⟩
  ·simp at dQ
def ayj:Code:=Tryz.f207.body.getD .skip
def aHm(VB V2:qD)(b:Nat)(eT:Sl):List Cl:=[vb 5 b,vb 6 b,vc 7 (bH b),.vl 8 VB,vb 9 b,vb 10 b,vc 11 (.pointer (some ⟨b,16,none⟩)),vc 12 (Sl.v eT),.vl 13 V2,.al 3 #[.nilFunc] 1 11 3,.al 4 #[.nilFunc] 1 12 8,.st 9 3,.st 10 8]
abbrev au5(b:Nat):Fr:=([some (pA b),none,some .nilFunc]++nn 12)
theorem OF.mk{K:di}(n9:∀{h':Hp}{X:Sl->Prop},az h h'->X eT->Ld h' ⟨b,16,none⟩ Sl.v X)(sB:l9 h VB)(cB:One VB)(HB:∀{h1:Hp}{X:di},az h h1->(∀v h',az h1 h'->VB v h1.size h'.size h'->X v h')->uk (bC b) h1 X Kp)(s2:l9 h V2)(c2:One V2)(H2:∀{h1:Hp}{X:di},az h h1->(∀v h',az h1 h'->V2 v h1.size h'.size h'->X v h')->OC eT h1 X Kp)
  (hk:∀caps F0 KF l0 u0 l2 u2 h',ua h h' caps [#[F0],#[KF]] VB V2 F0 KF l0 u0 l2 u2->K (.func (.func 212) #[] (caps.map pA).toArray) h'):OF (bC b) h K Kp:=by
 refine BR (bY:=[]) (zs:=[.nilFunc]) (Kv:=K) Tryz.func207 aW (S:=Bw ayj K Kp (au5 b) h) ?_ aW aW
 have g1:=cQ h;refine zJ (C:=aHm VB V2 b eT) aW aW aW ⟨
  o0 0 _ λK h g hk=>hk,
  oE 0,
  oE 1,
  oF 2 (sB.mo g1.1) λK h g hk=>HB (ak g1 g) hk,
  o0 0 _ λK h g hk=>hk,
  oE 4,
  oE 5,
  oX 6 λK h g hk=>n9 (X:=λs=>K (some s.v) h) (ak g1 g) hk,
  oF 7 (s2.mo g1.1) λK h g hk=>H2 (ak g1 g) hk,
  oA,
  oA,
  oS true cB,
  oS true c2,
  trivial⟩ λfr h2 F A lo hi M=>?_
 have nm:∀{i:Nat},i∉([]:cU):=pN;obtain⟨p3,q3,y3,z3⟩:_/\_/\_/\_:=M.c 3 _ rfl nm;obtain⟨p8,q8,y8,z8⟩:_/\_/\_/\_:=M.c 8 _ rfl nm;obtain⟨p9,y9,zR⟩:_/\_/\_:=M.c 9 _ rfl nm;obtain⟨zD,Pn,zP⟩:_/\_/\_:=M.c 10 _ rfl nm;rw[aC nm,(cB _ _ _ _ q3).2]at zR;rw[aC nm,(c2 _ _ _ _ q8).2]at zP;refine Bb (fn:=.func 212) (caps:=#[.tmp 3,.tmp 4]) (vs:=[pA (A 9),pA (A 10)]) aW aW aW aW aW aW (by rw[M.o.1];exact(by decide:14<15)) (by rw[M.o.1];exact(by decide:2<15)) ?_ rfl ?_
 ·simp only[iL,ev,p9,zD]
 ·refine hk [A 9,A 10] (F 3) _ _ (hi 3) (lo 8) (hi 8) h2 ⟨ak g1 M.g,rfl,λi a dQ=>?_,⟨q3,by omega,z3⟩,⟨q8,by omega,z8⟩,M.vv 3 8 _ _ _ _ rfl rfl nm nm bw⟩
  rcases i with _|_|i
  ·cases dQ;exact⟨by omega,M.av 9 8 _ _ _ _ _ _ _ rfl rfl nm nm,_,_,rfl,zR⟩
  ·cases dQ;exact⟨by omega,M.av 10 8 _ _ _ _ _ _ _ rfl rfl nm nm,_,_,rfl,zP⟩
  ·simp at dQ
def ayi:Code:=Tryz.f216.body.getD .skip
def aki(VB V2:qD)(b a1:Nat)(eT:Sl)(rX:Sl):List Cl:=[vb 6 b,vb 7 b,vc 8 (bH b),.vl 9 VB,vb 10 b,vb 11 b,vc 12 (.pointer (some ⟨b,16,none⟩)),vc 13 (Sl.v eT),vc 14 (ah (eT.n:Int)),vb 15 b,vb 16 b,vc 17 (.pointer (some ⟨b,18,none⟩)),vc 18 (Sl.v rX),.vl 19 V2,.al 3 #[.nilFunc] 1 17 3,.al 4 #[ah 0] 3 18 8,.al 5 #[.nilFunc] 1 19 13,.st 14 3,.st 15 8,.st 16 13]
abbrev aJc(b a1:Nat):Fr:=([some (pA b),some (pA a1),some .nilFunc]++nn 18)
theorem OB.mk{K:di}{rX:Sl}(n9:∀{h':Hp}{X:Sl->Prop},az h h'->X eT->Ld h' ⟨b,16,none⟩ Sl.v X)(GL:∀{h':Hp}{X:Sl->Prop},az h h'->X rX->Ld h' ⟨b,18,none⟩ Sl.v X)(sB:l9 h VB)(cB:One VB)(HB:∀{h1:Hp}{X:di},az h h1->(∀v h',az h1 h'->VB v h1.size h'.size h'->X v h')->uk (bC b) h1 X Kp)(s2:l9 h V2)(c2:One V2)(H2:∀{h1:Hp}{X:di},az h h1->(∀v h',az h1 h'->V2 v h1.size h'.size h'->X v h')->OC rX h1 X Kp)
  (hk:∀caps F0 KF l0 u0 l2 u2 h',ua h h' caps [#[F0],#[KF],#[pA b],#[ah (eT.n:Int)]] VB V2 F0 KF l0 u0 l2 u2->K (.func (.func 219) #[] (caps.map pA).toArray) h'):OB (bC b) h K Kp:=by
 refine BR (bY:=[]) (zs:=[.nilFunc]) (Kv:=K) Tryz.func216 aW (S:=aI h #[pA b] 90 λa1 h1=>Bw ayi K Kp ([some (pA b),some (.pointer (some a1)),some .nilFunc]++nn 18) h1) ?_ aW aW
 refine aF λa1 h1 e1 g1 k1 _=>zJ (C:=aki VB V2 b a1 eT rX) aW aW aW ⟨
  o0 1 _ λK h g hk=>jY (k1.ai g) hk,
  oE 0,
  oE 1,
  oF 2 (sB.mo g1.1) λK h g hk=>HB (ak g1 g) hk,
  o0 1 _ λK h g hk=>jY (k1.ai g) hk,
  oE 4,
  oE 5,
  oX 6 λK h g hk=>n9 (X:=λs=>K (some s.v) h) (ak g1 g) hk,
  oE 7,
  o0 1 _ λK h g hk=>jY (k1.ai g) hk,
  oE 9,
  oE 10,
  oX 11 λK h g hk=>GL (X:=λs=>K (some s.v) h) (ak g1 g) hk,
  oF 12 (s2.mo g1.1) λK h g hk=>H2 (ak g1 g) hk,
  oA,
  oA,
  oA,
  oS true cB,
  oS false (zG _),
  oS true c2,
  trivial⟩ λfr h2 F A lo hi M=>?_
 have nm:∀{i:Nat},i∉([]:cU):=pN;obtain⟨p3,q3,y3,z3⟩:_/\_/\_/\_:=M.c 3 _ rfl nm;obtain⟨p8,q8,y8,z8⟩:_/\_/\_/\_:=M.c 8 _ rfl nm;obtain⟨zC,xh,JI,Dc⟩:_/\_/\_/\_:=M.c 13 _ rfl nm;obtain⟨zB,Pm,zO⟩:_/\_/\_:=M.c 14 _ rfl nm;obtain⟨zA,Pk,zN⟩:_/\_/\_:=M.c 15 _ rfl nm;obtain⟨zy,Pj,zM⟩:_/\_/\_:=M.c 16 _ rfl nm;rw[aC nm,(cB _ _ _ _ q3).2]at zO;rw[aC nm,(q8:F 8=_)]at zN;rw[aC nm,(c2 _ _ _ _ xh).2]at zM;have p1:fr.getD 1 none=some (pA a1):=M.o.2 1 (by simp[aki,Cl.dst])
 have tA:=k1.ai M.g;refine Bb (fn:=.func 219) (caps:=#[.tmp 3,.tmp 5,.tmp 1,.tmp 4]) (vs:=[pA (A 14),pA (A 16),pA (a1),pA (A 15)]) aW aW aW aW aW aW (by rw[M.o.1];exact(by decide:20<21)) (by rw[M.o.1];exact(by decide:2<21)) ?_ rfl ?_
 ·simp only[iL,ev,zB,zy,p1,zA]
 ·refine hk [A 14,A 16,a1,A 15] (F 3) (F 13) (lo 3) (hi 3) (lo 13) (hi 13) h2 ⟨ak g1 M.g,rfl,λi a dQ=>?_,⟨q3,by omega,z3⟩,⟨xh,by omega,Dc⟩,M.vv 3 13 _ _ _ _ rfl rfl nm nm bw⟩
  rcases i with _|_|_|_|i
  ·cases dQ;exact⟨by omega,M.av 14 13 _ _ _ _ _ _ _ rfl rfl nm nm,_,_,rfl,zO⟩
  ·cases dQ;exact⟨by omega,M.av 16 13 _ _ _ _ _ _ _ rfl rfl nm nm,_,_,rfl,zM⟩
  ·cases dQ;exact⟨by omega,λq=>by have:=k1.lt;omega,_,_,rfl,tA⟩
  ·cases dQ;exact⟨by omega,M.av 15 13 _ _ _ _ _ _ _ rfl rfl nm nm,_,_,rfl,zN⟩
  ·simp at dQ
def ayh:Code:=Tryz.f223.body.getD .skip
def akh(VB V2:qD)(b a1:Nat)(eT:Sl)(w:Value)(rX:Sl):List Cl:=[vb 7 b,vb 8 b,vc 9 (bH b),.vl 10 VB,vb 11 b,vb 12 b,vc 13 (.pointer (some ⟨b,16,none⟩)),vc 14 (Sl.v eT),vc 15 (ah (eT.n:Int)),vb 16 b,vb 17 b,vc 18 (.pointer (some ⟨b,18,none⟩)),vc 19 (Sl.v rX),vc 20 (ah (rX.n:Int)),vb 21 b,vb 22 b,vc 23 (.pointer (some ⟨b,17,none⟩)),vc 24 (w),.vl 25 V2,.al 3 #[.nilFunc] 1 23 3,.al 4 #[ah 0] 3 24 8,.al 5 #[ah 0] 3 25 13,.al 6 #[.nilFunc] 1 26 18,.st 19 3,.st 20 8,.st 21 13,.st 22 18]
abbrev aJb(b a1:Nat):Fr:=([some (pA b),some (pA a1),some .nilFunc]++nn 24)
theorem Oy.mk{K:di}{w:Value}{rX:Sl}(n9:∀{h':Hp}{X:Sl->Prop},az h h'->X eT->Ld h' ⟨b,16,none⟩ Sl.v X)(BC:∀{h':Hp}{X:Value->Prop},az h h'->X w->Ld h' ⟨b,17,none⟩ id X)(GL:∀{h':Hp}{X:Sl->Prop},az h h'->X rX->Ld h' ⟨b,18,none⟩ Sl.v X)(sB:l9 h VB)(cB:One VB)(HB:∀{h1:Hp}{X:di},az h h1->(∀v h',az h1 h'->VB v h1.size h'.size h'->X v h')->uk (bC b) h1 X Kp)(s2:l9 h V2)(c2:One V2)(H2:∀{h1:Hp}{X:di},az h h1->(∀v h',az h1 h'->V2 v h1.size h'.size h'->X v h')->kU w h1 X Kp)
  (hk:∀caps F0 KF l0 u0 l2 u2 h',ua h h' caps [#[F0],#[KF],#[pA b],#[ah (eT.n:Int)],#[ah (rX.n:Int)]] VB V2 F0 KF l0 u0 l2 u2->K (.func (.func 227) #[] (caps.map pA).toArray) h'):Oy (bC b) h K Kp:=by
 refine BR (bY:=[]) (zs:=[.nilFunc]) (Kv:=K) Tryz.func223 aW (S:=aI h #[pA b] 93 λa1 h1=>Bw ayh K Kp ([some (pA b),some (.pointer (some a1)),some .nilFunc]++nn 24) h1) ?_ aW aW
 refine aF λa1 h1 e1 g1 k1 _=>zJ (C:=akh VB V2 b a1 eT w rX) aW aW aW ⟨
  o0 1 _ λK h g hk=>jY (k1.ai g) hk,
  oE 0,
  oE 1,
  oF 2 (sB.mo g1.1) λK h g hk=>HB (ak g1 g) hk,
  o0 1 _ λK h g hk=>jY (k1.ai g) hk,
  oE 4,
  oE 5,
  oX 6 λK h g hk=>n9 (X:=λs=>K (some s.v) h) (ak g1 g) hk,
  oE 7,
  o0 1 _ λK h g hk=>jY (k1.ai g) hk,
  oE 9,
  oE 10,
  oX 11 λK h g hk=>GL (X:=λs=>K (some s.v) h) (ak g1 g) hk,
  oE 12,
  o0 1 _ λK h g hk=>jY (k1.ai g) hk,
  oE 14,
  oE 15,
  oX 16 λK h g hk=>BC (X:=λs=>K (some s) h) (ak g1 g) hk,
  oF 17 (s2.mo g1.1) λK h g hk=>H2 (ak g1 g) hk,
  oA,
  oA,
  oA,
  oA,
  oS true cB,
  oS false (zG _),
  oS false (zG _),
  oS true c2,
  trivial⟩ λfr h2 F A lo hi M=>?_
 have nm:∀{i:Nat},i∉([]:cU):=pN;obtain⟨p3,q3,y3,z3⟩:_/\_/\_/\_:=M.c 3 _ rfl nm;obtain⟨p8,q8,y8,z8⟩:_/\_/\_/\_:=M.c 8 _ rfl nm;obtain⟨zC,xh,JI,Dc⟩:_/\_/\_/\_:=M.c 13 _ rfl nm;obtain⟨p18,q18,y18,Ph⟩:_/\_/\_/\_:=M.c 18 _ rfl nm;obtain⟨QN,y19,BD⟩:_/\_/\_:=M.c 19 _ rfl nm;obtain⟨QM,y20,GP⟩:_/\_/\_:=M.c 20 _ rfl nm;obtain⟨QK,y21,GO⟩:_/\_/\_:=M.c 21 _ rfl nm;obtain⟨p22,y22,acL⟩:_/\_/\_:=M.c 22 _ rfl nm;rw[aC nm,(cB _ _ _ _ q3).2]at BD;rw[aC nm,(q8:F 8=_)]at GP;rw[aC nm,(xh:F 13=_)]at GO;rw[aC nm,(c2 _ _ _ _ q18).2]at acL;have p1:fr.getD 1 none=some (pA a1):=M.o.2 1 (by simp[akh,Cl.dst])
 have tA:=k1.ai M.g;refine Bb (fn:=.func 227) (caps:=#[.tmp 3,.tmp 6,.tmp 1,.tmp 4,.tmp 5]) (vs:=[pA (A 19),pA (A 22),pA (a1),pA (A 20),pA (A 21)]) aW aW aW aW aW aW (by rw[M.o.1];exact(by decide:26<27)) (by rw[M.o.1];exact(by decide:2<27)) ?_ rfl ?_
 ·simp only[iL,ev,QN,p22,p1,QM,QK]
 ·refine hk [A 19,A 22,a1,A 20,A 21] (F 3) (F 18) (lo 3) (hi 3) (lo 18) (hi 18) h2 ⟨ak g1 M.g,rfl,λi a dQ=>?_,⟨q3,by omega,z3⟩,⟨q18,by omega,Ph⟩,M.vv 3 18 _ _ _ _ rfl rfl nm nm bw⟩
  rcases i with _|_|_|_|_|i
  ·cases dQ;exact⟨by omega,M.av 19 18 _ _ _ _ _ _ _ rfl rfl nm nm,_,_,rfl,BD⟩
  ·cases dQ;exact⟨by omega,M.av 22 18 _ _ _ _ _ _ _ rfl rfl nm nm,_,_,rfl,acL⟩
  ·cases dQ;exact⟨by omega,λq=>by have:=k1.lt;omega,_,_,rfl,tA⟩
  ·cases dQ;exact⟨by omega,M.av 20 18 _ _ _ _ _ _ _ rfl rfl nm nm,_,_,rfl,GP⟩
  ·cases dQ;exact⟨by omega,M.av 21 18 _ _ _ _ _ _ _ rfl rfl nm nm,_,_,rfl,GO⟩
  ·simp at dQ
def ayg:Code:=Tryz.f243.body.getD .skip
def akg(VB V2:qD)(b a1:Nat)(eT:Sl):List Cl:=[vb 5 b,vb 6 b,vc 7 (bH b),.vl 8 VB,vb 9 b,vb 10 b,vc 11 (.pointer (some ⟨b,16,none⟩)),vc 12 (Sl.v eT),vc 13 (ah (eT.n:Int)),.al 3 #[.nilFunc] 1 11 3,.al 4 #[ah 0] 3 12 8,.st 9 3,.st 10 8]
abbrev aI9(b a1:Nat):Fr:=([some (pA b),some (pA a1),some .nilFunc]++nn 12)
theorem Oq.mk{K:di}(n9:∀{h':Hp}{X:Sl->Prop},az h h'->X eT->Ld h' ⟨b,16,none⟩ Sl.v X)(sB:l9 h VB)(cB:One VB)(HB:∀{h1:Hp}{X:di},az h h1->(∀v h',az h1 h'->VB v h1.size h'.size h'->X v h')->uk (bC b) h1 X Kp)
  (hk:∀caps F0 KF l0 u0 l2 u2 h',ua h h' caps [#[F0],#[pA b],#[ah (eT.n:Int)]] VB IT F0 KF l0 u0 l2 u2->K (.func (.func 247) #[] (caps.map pA).toArray) h'):Oq (bC b) h K Kp:=by
 refine BR (bY:=[]) (zs:=[.nilFunc]) (Kv:=K) Tryz.func243 aW (S:=aI h #[pA b] 100 λa1 h1=>Bw ayg K Kp ([some (pA b),some (.pointer (some a1)),some .nilFunc]++nn 12) h1) ?_ aW aW
 refine aF λa1 h1 e1 g1 k1 _=>zJ (C:=akg VB IT b a1 eT) aW aW aW ⟨
  o0 1 _ λK h g hk=>jY (k1.ai g) hk,
  oE 0,
  oE 1,
  oF 2 (sB.mo g1.1) λK h g hk=>HB (ak g1 g) hk,
  o0 1 _ λK h g hk=>jY (k1.ai g) hk,
  oE 4,
  oE 5,
  oX 6 λK h g hk=>n9 (X:=λs=>K (some s.v) h) (ak g1 g) hk,
  oE 7,
  oA,
  oA,
  oS true cB,
  oS false (zG _),
  trivial⟩ λfr h2 F A lo hi M=>?_
 have nm:∀{i:Nat},i∉([]:cU):=pN;obtain⟨p3,q3,y3,z3⟩:_/\_/\_/\_:=M.c 3 _ rfl nm;obtain⟨p8,q8,y8,z8⟩:_/\_/\_/\_:=M.c 8 _ rfl nm;obtain⟨p9,y9,zR⟩:_/\_/\_:=M.c 9 _ rfl nm;obtain⟨zD,Pn,zP⟩:_/\_/\_:=M.c 10 _ rfl nm;rw[aC nm,(cB _ _ _ _ q3).2]at zR;rw[aC nm,(q8:F 8=_)]at zP;have p1:fr.getD 1 none=some _:=M.o.2 1 (by simp[akg,Cl.dst])
 have tA:=k1.ai M.g;refine Bb (fn:=.func 247) (caps:=#[.tmp 3,.tmp 1,.tmp 4]) (vs:=[pA (A 9),pA (a1),pA (A 10)]) aW aW aW aW aW aW (by rw[M.o.1];exact(by decide:14<15)) (by rw[M.o.1];exact(by decide:2<15)) ?_ rfl ?_
 ·simp only[iL,ev,p9,p1,zD]
 ·refine hk [A 9,a1,A 10] (F 3) (undef) (lo 3) (hi 3) h2.size h2.size h2 ⟨ak g1 M.g,rfl,λi a dQ=>?_,⟨q3,by omega,z3⟩,⟨trivial,by have:=M.g.1;omega,bX _⟩,.inl z3⟩
  rcases i with _|_|_|i
  ·cases dQ;exact⟨by omega,λq=>by omega,_,_,rfl,zR⟩
  ·cases dQ;exact⟨by omega,λq=>by omega,_,_,rfl,tA⟩
  ·cases dQ;exact⟨by omega,λq=>by omega,_,_,rfl,zP⟩
  ·simp at dQ
def yM(f:aq)(M:cO):Prop:=∀{h:Hp}{s:Sl}{K:di}{Kp:PK},lP h->cH h s f.cs->(∀v h',az h h'->M (λc=>h.size<=c/\c<h'.size) h' v f.begun none->K v h')->OU f.name f.au f.k f.w f.id f.ix s h K Kp
def wS(f:aq)(M:cO):Prop:=∀{T:aQ}{h:Hp}{v:Value}{vs:aR}{K:di}{Kp:PK},f.can vs->M T h v (f.st vs) none->
  (∀mm h',az h h'->one mm.F=true->mm.F.cells=#[mm.F]->mm.r=f.st vs->M (Tr T h h') h' v (f.st vs) (some mm)->K mm.F h')->kU v h K Kp
def sG(f:aq)(b:Nat)(sf sn sb:Sl)(r:Rb):qD:=λF lo hi h=>(one F=true/\F.cells=#[F])/\qL (λc=>lo<=c/\c<hi) h b F f sf sn sb r
theorem sG.one{s u:Sl}{r:Rb}:One (sG f b s t u r):=λ_ _ _ _ q=>q.1
abbrev Al:=@sG.one
theorem sG.qo{s u S:Sl}{r:Rb}:l9 H (sG f b s u S r):=λ_ _ _ _ _ _ q _ _ t e=>⟨q.1,q.2.fr t λc a _ d=>(e c d).2 a⟩
abbrev Ak:=@sG.qo
theorem sG.call{s u:Sl}{r:Rb}{K:di}(B:mN T h b ty f s t u r C)(g:az h H)
  (d:∀F h',az H h'->sG f b s t u r F H.size h'.size h'->K F h'):uk (bC b) H K Kp:=
 arM (B.fr (bg g) id λ_ _ _=>id) λF h' e oF a=>d F h' e ⟨⟨oF,a.cells⟩,a.lt⟩
abbrev yj:=@sG.call
def lO(M:cO)(A:aQ)(w:Value)(rj:Raw):qD:=λF lo hi h=>(one F=true/\F.cells=#[F])/\∃mm:Mem,mm.F=F/\mm.r=rj/\M (λc=>A c\/(lo<=c/\c<hi)) h w rj (some mm)
theorem lO.one{M:cO}{w:Value}{R:Raw}:One (lO M A w R):=λ_ _ _ _ q=>q.1
theorem lO.qo{M:cO}{w:Value}{R:Raw}(KF:gG M)(l:∀c,A c->c<H.size):l9 H (lO M A w R):=λ_ _ _ _ _ _⟨q,i,e,d,b⟩_ _ t k=>⟨q,i,e,d,KF b t λc a _ j=>by
 grind⟩
section
variable {KM:List cO} {M:cO} {h':Hp} {r:Raw} {w:Value}
theorem lO.call{G:Hp}{X:aR}{K:di}(C:MC c M)(j:c.can X)(H:M A h w (c.st X) none)(g:az h G)(d:∀F h',az G h'->lO M A w (c.st X) F G.size h'.size h'->K F h'):kU w G K Kp:=
 C.mark j (C.fr H (bg g) λ_ _ _=>id) λa h' i b k e l=>d a.F h' i ⟨⟨b,k⟩,a,rfl,e,l⟩
theorem bW.Sq{cs:List (Array Value)}{v KF:Value}{l0 u0 C u2:Nat}{lo hi:Nat->Nat}{qS:List Mem}{sp:bq}(G:bW f KM T h r none g)(J:∀(j:Nat)M,KM[j]? =some M->gG M)
  (Q:ua h h' N cs (sG f g.b g.sf g.sn g.sb r.b) V2 v KF l0 u0 C u2) (H:∀j,j<KM.length->C<=lo j/\hi j<=u2) (hd:∀i j,i<KM.length->j<KM.length->i≠j->hi i<=lo j\/hi j<=lo i)
  (hk:∀(j:Nat)M A w,KM[j]? =some M->g.KT[j]? =some A->g.kv[j]? =some w->∃m,qS[j]? =some m/\m.r=r.aM j/\M (λc=>A c\/(lo j<=c/\c<hi j)) h' w (r.aM j) (some m)) (hl:qS.length=KM.length) (Y:KM.length=f.cs.length) (W:f.k≠1)
  (h1:f.k=15\/f.k=16\/f.k=19\/f.k=20->∃m0,qS=[m0]/\KF=m0.F) (Z:f.k=17\/f.k=18->CX (λc=>C<=c/\c<u2/\∀j,j<KM.length->¬(lo j<=c/\c<hi j)) h' KF (qS.map Mem.F)) (V:eN f.k r.b r.b) (U:f.k=20->iO 20 g.X h' sp r.b)
  (l:jv f.k g.b v KF (.mk (.func (.func (gL f.k)) #[] (N.map pA).toArray) r g.sb qS sp)=cs):cV f KM (Tr T h h') h' (.iface (bK f.k) (bH g.b)) r (some (.mk (.func (.func (gL f.k)) #[] (N.map pA).toArray) r g.sb qS sp)):=by
 have gr:=Q.g;have O:=G.fr J (bg gr) λ_ _ _=>id;have lk:=G.lk;obtain⟨⟨_,bm⟩,b1,b2⟩:=Q.b;have k1:=Q.k.2;have p:r.kids=qS.map Mem.r:=by
  refine qz λj=>?_
  by_cases D:j<KM.length
  ·obtain⟨m,y,u,_⟩:=hk j _ _ _ (bJ D) (bJ ag) (bJ ag);have e:r.kids[j]? =some (r.aM j):=by unfold Raw.aM;rw[gV,bJ ag];rfl
   grind
  ·grind
 have l:jv f.k (g.mk' KM.length h h' lo hi).b v KF _=cs:=l;have E:∀c,h.size<=c/\c<h'.size->¬(C<=c/\c<u2)->(g.mk' KM.length h h' lo hi).R c:=λc q u=>.inr ⟨q.1,q.2,λj D z=>bZ⟩
 refine⟨g.mk' KM.length h h' lo hi,rfl,G.marked J gr (λj D=>bZ) hd (λj M A w y u L=>?_) ⟨⟨v,KF,⟨bm.mono λc q=>E c ⟨ag,ag⟩ λz=>by have:=Q.d;omega,Old.of O.B.o,O.B.len,O.B.nl,O.B.rl⟩,h1,λq=>?_,λq=>absurd q W,λ_=>⟨_,rfl,?_,λi x P=>?_⟩⟩,V,⟨p,by rw[<-Y];exact hl⟩,U⟩⟩
 ·obtain⟨m,K,_,q5⟩:=hk j M A w y u L
  show M _ h' w _ qS[j]?
  rw[K];exact q5
 ·obtain⟨a,t,s,e1,e2,e3,e4⟩:=Z q;have up:∀c,(C<=c/\c<u2/\∀j,j<KM.length->¬(lo j<=c/\c<hi j))->(g.mk' KM.length h h' lo hi).R c:=λc q=>.inr ⟨ag,ag,q.2.2⟩
  exact⟨a,t,s,e1,up a e2,e3,e4.fr (iV _ _) (λ_ _ _=>id) up⟩
 ·rw[l,cr];exact Q.n
 ·rw[l]at P;have I:i<N.length:=by rw[Q.n];exact(de.1 P).1
  obtain⟨y,u,c',t,L,K⟩:=Q.c i _ (bJ I);rw[P]at L;cases L;exact⟨N[i],t,aA,E _ ⟨y,K.lt⟩ u,K⟩
end
section
variable {M:cO} {s:Sl}
theorem agC{K:Option Addr->Int->HP}(d:¬bB f)(c:f.fN)(j:lP h)(m:cH h s f.cs)(n:∀e,az h e->K none 5 e):Fu f.name f.au f.k f.w f.id f.ix s h K Kp:=by
 refine aj0 (aF λq p e1 a g _=>dO g (Ql (j.ai a) c (m.gr a) λb l o i=>?_));have:b=false:=by
  cases b
  ·rfl
  ·exact absurd (i.1 rfl) d
 grind[bS,az.trans]
theorem Wm{K:Option Addr->Int->HP}(C:MC f M)(U:yM f M)(a:bB f)(o:f.fN)(y:lP h)(z:cH h s f.cs)
  (N:∀p e,az h e->lR f M (λc=>h.size<=c/\c<e.size) e p [] false->K (bC p) 0 e):Fu f.name f.au f.k f.w f.id f.ix s h K Kp:=by
 refine aj0 (aF λa1 h1 e1 j x _=>dO x (Ql (y.ai j) o (z.gr j) λb R n O=>?_));obtain rfl:b=true:=O.2 a;have s2:=n.1;have I:=ak j n;refine bu rfl (dO (x.ai n) (abI f (z.gr I) a.jG.cs.1 a.jG.cs.2 λu B F T=>aF λa4 h4 e4 E L _=>oO L rfl λA J l=>dO l (dO l ?_)));have Z:=F.1;have m:=bI E J ag;have X:=m.1;have d:=lM (bM.lt _ T) m;have H:=ak (ak I F) m;refine U (y.ai H) (bM.h _ d) λv Q i G=>bQ l i ⟨by obtain⟨_,_,rfl⟩:=C.na G;rfl,aF λp P e7 g r _=>N p P (ak (ak H i) g) ?_⟩
 have W:=i.1;refine⟨u,v,λc=>A.size<=c/\c<Q.size,λc=>R.size<=c/\c<B.size,⟨ag,r.lt⟩,λc q=>q.2,λc q=>⟨⟨ag,ag⟩,ag,ag⟩,λc q=>⟨⟨ag,ag⟩,ag⟩,r,lM (lM d i) g,?_⟩
 rw[Z8];exact C.fr G (bg g) λ_ _ _=>id
def Good(f:aq)(l:aR)(i:Nat):Prop:=∀j x,j<i->l[j]? =some x->ij f (l.take j) x=0
theorem aes:∀f:aq,f.can []
  | .mk e au k w id ix cs=>by
    have b:∀c∈cs,c.can []:=λc _=>aes c;refine(gj _ _).2 ⟨aA,aA,by simp[bL],aA,by simp[dS],λj o a=>?_⟩
    rw[Ul];simp only[aq.cs,eY,tV]at a;obtain⟨c,d,rfl⟩:=a;grind
theorem Good.can(PF:jr f){l:aR}:∀{i:Nat},i<=l.length->Good f l i->f.can (l.take i):=by
  intro i
  induction i with
  |zero=>intro _ _;exact aes f
  | succ i b=>
    intro e a;have c:l[i]? =some l[i]:=aA;rw[kS ag];exact(ay5 PF (b ag λj x d=>a j x ag) (a i _ ag c)).1
theorem nY.get:∀{l:aR},nY l->∀{i:Nat}{x:aB},l[i]? =some x->x.lU
 |[],_,i,x,h=>by simp at h
 |y::l,a,0,x,h=>by simp at h;subst h;exact a.1
 |y::l,a,i+1,x,h=>nY.get a.2 (by simpa using h)
theorem Wj{l:aR}{K:Int->Int->Int->Sl->Sl->Sl->Int->Int->HP}(C:MC f M)(MD:yM f M)(PF:jr f)(FC:ni f)(J:bB f)(I:f.fN)(hr:nY l)(hl:l.length<=9223372036854775807)(ht:lP h)(hu:iW h)(hs:cH h s f.cs)(hv:aO D h t l)
  (c':∀q d,az h d->f.can l->Good f l l.length->eR (Nw h) (Nw h) d q (f.dn (f.st l))->K (f.dn (f.st l)).len (f.dn (f.st l)).off (f.dn (f.st l)).au q.1 q.2.1 q.2.2 0 0 d)
  (b':∀(i:Nat)x d,az h d->Good f l i->l[i]? =some x->ij f (l.take i) x≠0->K 0 0 0 bN bN bN (ij f (l.take i) x) (i:Int) d):AT f.name f.au f.k f.w f.id f.ix s t h K Kp:=by
 refine aF1 (aF λa2 h1 e1 g1 k1 _=>aF λa4 F e2 g2 X _=>dO (k1.ai g2) ?_);have U:=ak g1 g2;have hn:=hv.n;refine Wm C MD J I (ht.ai U) (hs.gr U) λp h3 g3 B3=>bu rfl ?_;refine aAR (λx d=>∃(i:Nat)(T:aQ),x=i/\i<=l.length/\az F d/\lR f M T d p (l.take i) false/\(∀c,T c->F.size<=c)/\Good f l i) (λx _=>l.length-x.toNat)
  ⟨0,_,rfl,eu _,g3,B3,λc q=>q.1,λj x hj=>ag⟩ ?_
 rintro x d ⟨i,T,rfl,hi,G,B,hT,Q⟩ N hN;have A:=ak U G;have R:=Q.can PF hi;have s3:=G.1;refine cE (λc=>?_) λc=>?_
 ·have E:l[i]? =some l[i]:=aA;have H:l.take (i+1)=l.take i++[l[i]]:=aA;generalize l[i]=x at E H;refine(dU (aO.lt _ hv) A).ix rfl E λa u cx a'=>gY cx (aF λi' h4 e4 g4 v _=>mC v rfl λh5 o5 v=>fk v ?_);have s4:=g4.1;have g:=bI g4 o5 ag;have s5:=g.1;refine akn C PF FC J I (ht.ai (ak A g)) (hu.ai (ak A g)) (B.fr C (bg g) λ_ _=>id) R (hr.get E) (dU a' g) (λc q z=>by have:=hT c z;omega) λh6 t6 B6=>?_
  have G6:az F h6:=((bg (ak G g):Tn No F h5).trans' t6 λc q L=>by have:=hT c q;omega).ai
  have r:=(X.ai G6);refine cE (λo=>?_) λo=>?_
  ·exact ig r rfl λZ P W=>fJ W (b' i x Z (bI (ak U G6) P ag) Q E o)
  ·rw[aK o]at B6;refine aX ag ag (hN _ _ ⟨i+1,_,aA,ag,G6,H▸B6,λc q=>?_,λj y hj Y=>?_⟩ ag)
   ·rcases q with q|q
    ·exact hT c q
    ·omega
   ·by_cases e:j=i
    ·subst e;rw[E]at Y;cases Y;exact o
    ·exact Q j y ag Y
 ·have:i=l.length:=ag;subst this;rw[m5]at B R;have f':F.size<=p:=hT p B.choose_spec.choose_spec.choose_spec.choose_spec.tp;refine aCK (aka C B R λq h4 V _ D4=>aF λg' h5 e5 g m _=>ig m rfl λh6 o6 m=>fJ m ?_);have g6:=bI g o6 ag;have r:=(V.aZ (X.ai G) ag).ai g6;refine ig r rfl λZ P W=>fJ W (c' q Z ?_ R Q ?_)
  ·exact((((bg A:Tn No h d).trans' V λc q L=>ag).trans (bg g6)).trans' P.fr λc q L=>ag).ai
  ·exact(D4.gr g6).fr P.fr (λc(q:d.size<=c)_ e=>ag) (λc(q:d.size<=c)_ e=>ag) (λc(q:d.size<=c)=>ag) λc(q:d.size<=c)=>ag
end
theorem axZ{s:Sl}{K:fB}(H:aju s t h K Kp):cZ aE (.func (.func 35) #[] #[]) [Sl.v s,Sl.v t] h (λr a=>∃t:Bool,r=.bool t/\K t a) Kp:=by
 unfold cZ;exact cast aW H
theorem ayb{x y w z b2:Int}{s u S c b a:Sl}{K:fB}(H:OY x y k s u S w z b2 c b a h K Kp):cZ aE (.func (.func 22) #[] #[]) [(.agg #[(ah x),(ah y),(ah k),(Sl.v s),(Sl.v u),(Sl.v S)]),(.agg #[(ah w),(ah z),(ah b2),(Sl.v c),(Sl.v b),(Sl.v a)])] h (λr d=>∃t:Bool,r=.bool t/\K t d) Kp:=by
 unfold cZ;exact cast aW H
theorem Aj{s:Sl}{l:dy}{K:ByteArray->Prop}(v:Sv h s (bv l))(a:K (bs l)):sL h s K:=⟨l,by have:=v.Bj v.na;rw[vi]at this;exact this,a⟩
section
variable {D' E':aQ} {s1 s2:Sl}
theorem ayt{f b2:iz}{K:fB}(p:fH D E h s1 f)(o:fH D' E' h s2 b2)(hl:f.length<=2^50)(k:∀b,(b=true↔f=b2)->K b h):XI s1 s2 (.func (.func 35) #[] #[]) h K Kp:=by
 have w:=p.n;have C:=o.n;refine aEg (aG (λc=>k false ?_) λc=>?_)
 ·grind
 have c:=aS c;apply azY (λx s=>s=h/\∃i:Nat,x=i/\i<=f.length/\∀j,j<i->dB f j=dB b2 j) (λx _=>f.length-x.toNat) ⟨rfl,0,rfl,eu _,λj y=>ag⟩
 rintro x s ⟨rfl,i,rfl,F,r⟩ N hN;refine aG (λg=>?_) λg=>k true ⟨λ_=>?_,λ_=>rfl⟩
 ·have g:=aS g;refine p.ix rfl ag λa t B u=>⟨t,B,o.ix rfl ag λG v m l=>⟨v,m,axZ (aEf (Aj u.1 (Aj l.1 ?_)))⟩⟩;rw[Cm];refine aG (λd=>k false ⟨λe=>(by cases e),λe=>?_⟩) λd=>aX ag ag (hN _ _ ⟨rfl,i+1,aA,ag,λj y=>?_⟩ ag)
  all_goals grind
 ·have g:=aS g;apply Vr
  ·omega
  ·intro j A z;have:=r j ag
   simpa[dB,gV,A,z]using this
mutual
def bG.mw:bG->Prop
 |.mk _ _ _ aY cs ds=>aY.length<=2^50/\(cs.length<=2^50/\xI cs)/\ds.length<=2^50/\xI ds
def xI:List bG->Prop
 |[]=>True
 |d::ds=>d.mw/\xI ds
end
theorem xI.get:∀{ds:kF},xI ds->∀d∈ds,d.mw
  |[],_,d,h=>by simp at h
  | x::b,a,d,h=>by
    rcases mE.1 h with rfl|h
    ·exact a.1
    ·exact xI.get a.2 d h
def IP(d:bG):Prop:=∀{e:bG}{D E D' E':aQ}{h:Hp}{p q:Sl×Sl×Sl}{K:fB}{Kp:PK},d.mw->eR D E h p d->eR D' E' h q e->(∀b h',az h h'->(b=true↔d=e)->K b h')->
 OY d.len d.off d.au p.1 p.2.1 p.2.2 e.len e.off e.au q.1 q.2.1 q.2.2 h K Kp
theorem ace{cs f:kF}{K:fB}(X:∀c∈cs,IP c)(R:xI cs)(A:dD D E h s1 cs)(z:dD D' E' h s2 f)(hl:cs.length<=2^50)(w:∀b m,az h m->(b=true↔cs=f)->K b m):On s1 s2 (.func (.func 22) #[] #[]) h K Kp:=by
 have P:=A.n;have n2:=z.n;refine aEe (aG (λc=>w false h (cQ _) ?_) λc=>?_)
 ·grind
 have c:=aS c;apply azX (λx m=>az h m/\∃i:Nat,x=i/\i<=cs.length/\∀j,j<i->cs[j]? =f[j]?) (λx _=>cs.length-x.toNat) ⟨cQ _,0,rfl,eu _,λj Q=>ag⟩
 rintro x m ⟨G,i,rfl,hi,B⟩ N hN;refine aG (λo=>?_) λo=>w true m G ⟨λ_=>?_,λ_=>rfl⟩
 ·have o:=aS o;have g:cs[i]? =some cs[i]:=aA;have k:f[i]? =some f[i]:=aA;have v:cs[i]∈cs:=aA;generalize cs[i]=d at g v;generalize f[i]=e at k;refine(A.gr G).ix rfl g λa p W vp=>cg.c W (aF λa8 h1 e8 I r _=>ig r rfl λF O r=>?_);have t:=bI I O ag;refine((z.gr G).gr t).ix rfl k λa' q y L=>cg.c y (aF λa9 h3 e9 H u _=>ig u rfl λT M u=>?_);have s:=bI H M ag;refine fJ (r.ai s) (fJ u (ayb (X d v (R.get d v) ((vp.gr t).gr s) (L.gr s) λb S U C=>?_)));have J:=ak G (ak (ak t s) U);refine aG (λl=>w false S J ⟨λe=>(by cases e),λV=>?_⟩) λl=>aX ag ag (hN _ _ ⟨J,i+1,aA,ag,λj Q=>?_⟩ ag)
  ·have l:=aS l;rw[V,k]at g;have:=C.2 (by simpa using g.symm)
   rw[this]at l;cases l
  ·have l:=aS l
   by_cases q:j=i
   ·subst q;rw[g,k,C.1 l]
   ·exact B j ag
 ·apply qz;grind
theorem aoK{n y:Int}{aY:iz}{cs ds:kF}(U:∀c∈cs,IP c)(T:∀c∈ds,IP c):IP (.mk n y k aY cs ds):=by
 intro e D E D' E' h p q K Kp z L J N;obtain⟨w,v,t,d,g,f⟩:=e;refine aFT (aF λI X e1 S j _=>aF λH W Y O r _=>?_);have G:=ak S O;have j:=j.ai O;have M:∀a,az h a->¬(bG.mk n y k aY cs ds=bG.mk w v t d g f)->K false a:=λa i q=>N false a i ⟨λe=>(by cases e),λe=>absurd e q⟩
 have j4:∀a,az h a->¬(bG.mk n y k aY cs ds=bG.mk w v t d g f)->NL K Kp (aJ I) (aJ H) false a:=λa i q=>aiM (bu rfl (M a i q));have j3:∀a,az h a->¬(bG.mk n y k aY cs ds=bG.mk w v t d g f)->NM K Kp _ _ false a:=λa i q=>aiN (bu rfl (j4 a i q));have j2:∀a,az h a->¬(bG.mk n y k aY cs ds=bG.mk w v t d g f)->NO K Kp _ _ false a:=λa i q=>aiO (bu rfl (j3 a i q));have j1:∀a,az h a->¬(bG.mk n y k aY cs ds=bG.mk w v t d g f)->NP K Kp _ _ false a:=λa i q=>aiP (bu rfl (j2 a i q));refine aj j rfl (aj r rfl (aG (λc=>?_) λc=>j1 _ G ?_))
 ·have c:=aS c;simp only[bz,cF];refine aj j rfl (aj r rfl (aiP (aG (λm=>?_) λm=>j2 _ G ?_)))
  ·have m:=aS m;simp only[bz,cF];refine aj j rfl (aj r rfl (aiO (aG (λl=>?_) λl=>j3 _ G ?_)))
   ·have l:=aS l;simp only[bz,cF];refine aj j rfl (aj r rfl (ayt (L.b.gr G) (J.b.gr G) z.1 λb B=>aiN (aG (λF=>?_) λF=>j4 _ G ?_)))
    ·simp only[bz,cF];have B:=B.1 F;refine aj j rfl (aj r rfl (ace U z.2.1.2 (L.c.gr G) (J.c.gr G) z.2.1.1 λb V s A=>aiM (aG (λC=>?_) λC=>M _ (ak G s) ?_)))
     ·have A:=A.1 C;simp only[bz,cF];refine aj (j.ai s) rfl (aj (r.ai s) rfl (ace T z.2.2.2 ((L.x.gr G).gr s) ((J.x.gr G).gr s) z.2.2.1 λb Q R P=>N b Q (ak (ak G s) R) ?_));rw[P];simp only[bG.aY]at B;simp only[bG.cs,bG.ds]at A ⊢;simp only[bG.len,bG.off,bG.au]at c m l;grind
     ·intro e;cases e;rw[A.2 rfl]at C;cases C
    grind
   grind
  grind
 grind
theorem P6:∀d:bG,IP d
 |.mk n o u aY cs ds=>aoK (λc _=>P6 c) λc _=>P6 c
end
section
variable {M:cO} {s:Sl} {p:Sl×Sl×Sl}
theorem Dk{K:Int->Int->Int->Sl->Sl->Sl->HP}{g:Hp}{n m:Nat}{z:Array Value}{l:TypeId}{x y:Int}{u S:Sl}(o:aN g n Z e)(O:Z.size=6)(r:aN g m z l)(P:z.size=6)(ne:m≠n)
  (N:∀w,Tn (λc=>c=n\/c=m) g w->K x y k t u S w):cL g (aJ n) x y k t u S λi=>cg i (aJ n) λF E C B l A=>cL i (aJ m) F E C B l A λa=>cg a (aJ m) λr0 L J I H G=>K r0 L J I H G a:=
 ig o O λi j o=>fJ o (ig (j.aZ r ne) P λa v r=>fJ r (N a ((j.fr.mono λc q _=>.inl q).trans (v.fr.mono λc q _=>.inr q))))
def Wi(f:aq)(d:bG)(D:aQ)(h:Hp)(s:Sl)(p:Sl×Sl×Sl):Prop:=∀{h1:Hp}{K:Option Addr->Int->Sl->Int->HP}{Kp:PK},az h h1->
 (∀b s' q' h',az h1 h'->h1.size<=b->nP (λx=>(D x/\x<h1.size)\/h1.size<=x) h' b f d d.off d.len s' q'->K (bC b) 0 Sl.nil 0 h')->YT f.name f.au f.k f.w f.id f.ix s d.len d.off d.au p.1 p.2.1 p.2.2 h1 K Kp
theorem aDY{K:Int->Int->Int->Sl->Sl->Sl->Int->HP}(C:MC f M)(MD:yM f M)(PF:jr f)(FC:ni f)(U:bB f)(T:f.fN)(ht:mH h)(hu:iW h)(hs:cH h s f.cs)(OP:Wi f d D h s p)(ow:CS f)(ar:f.arr d){l:aR}(el:l=kE f d d.off.toNat d.len.toNat)(hr:nY l)
  (f':∀q g,az h g->f.can l->Good f l l.length->eR (Nw h) (Nw h) g q (f.dn (f.st l))->K (f.dn (f.st l)).len (f.dn (f.st l)).off (f.dn (f.st l)).au q.1 q.2.1 q.2.2 0 g)
  (e':∀(i:Nat)x g,az h g->Good f l i->l[i]? =some x->ij f (l.take i) x≠0->K 0 0 0 bN bN bN (ij f (l.take i) x) g):Yc f.name f.au f.k f.w f.id f.ix s d.len d.off d.au p.1 p.2.1 p.2.2 h K Kp:=by
 refine aFZ (aF λa2 h1 e1 g1 m _=>aF λa3 h2 e2 g2 k3 _=>aF λa4 Z e3 S B _=>dO ((m.ai g2).ai S) ?_);have G:=ak g1 (ak g2 S);have m:=(m.ai g2).ai S;have k3:=k3.ai S;refine Ql (ht.k.ai G) T (hs.gr G) λb h4 R hb=>?_;obtain rfl:b=true:=hb.2 U;have s4:=R.1;refine bu rfl (dO (m.ai R) (fJ (k3.ai R) (OP (ak G R) λbA s' q' h5 g5 lb A=>aF λa7 h6 e6 g6 k7 _=>mZ k7 rfl λY o7 k7=>aj k7 rfl (bu rfl ?_))));have s5:=g5.1;have O:=bI g6 o7 ag;have s7:=O.1;have P:=ak R (ak g5 O);have G7:=ak G P;have m:=m.ai P;have B:=B.ai P;have V:=Av.whole (A.gr O) ar;have hl:l.length<=9223372036854775807:=by rw[el,Mp];have:=V.bd;omega
 -- i' is j' of k' a'
 have of:∀{o:Hp}{t:Sl}{K':Int->Int->Int->Sl->Sl->Sl->Int->Int->HP}(E:az h o)(H:aO (Nw Y) o t l) _
   (c2:∀(i:Nat)x g,az o g->Good f l i->l[i]? =some x->ij f _ x≠0->K' 0 0 0 bN bN bN _ _ g),AT f.name f.au f.k f.w f.id f.ix s t o K' Kp:=
  λE H c1 c2=>Wj C MD PF FC U T hr hl (ht.k.ai E) (hu.ai E) (hs.gr E) H c1 c2
 have f1:∀{j:Hp}{q:Sl×Sl×Sl}{Q X v:Nat},az h j->eR (λc=>Q<=c/\c<X) (λc=>Q<=c/\c<X) j q (f.dn (f.st l))->Z.size<=Q->Z.size<=v->(v<Q\/X<=v)->f.can l->Good f l l.length->∀g,Tn (λc=>c=v\/c=a4) j g->K (f.dn (f.st l)).len (f.dn (f.st l)).off (f.dn (f.st l)).au q.1 q.2.1 q.2.2 0 g:=by
  intro j q Q X v L D9 b1 b2 b3 J n g W;exact f' q g (((bg L:Tn No h j).trans' W λc q d'=>ag).ai) J n (D9.fr W (λc q _ z=>ag) (λc q _ z=>ag) (λc q=>ag) λc q=>ag)
 have f2:∀{j:Hp}{v:Nat}{i:Nat}{x:aB},az h j->Z.size<=v->Good f l i->l[i]? =some x->ij f (l.take i) x≠0->∀g,Tn (λc=>c=v\/c=a4) j g->K 0 0 0 bN bN bN (ij f (l.take i) x) g:=
  λL b2 n I r g W=>e' _ _ g (((bg L:Tn No h _).trans' W λc q d'=>ag).ai) n I r
 have N:∀{o j:Hp}{q:Sl×Sl×Sl},eR (Nw o) (Nw o) j q (f.dn (f.st l))->eR (λc=>o.size<=c/\c<j.size) (λc=>o.size<=c/\c<j.size) j q (f.dn (f.st l)):=λD9=>D9.lt;refine dO m ⟨agd ow V (hu.ai G7) λt o u H=>bQ m u ?_,aF λv o e8 u y _=>bQ m u (agd ow (V.gr u) (hu.ai (ak G7 u)) λt j e H=>bQ (m.ai u) e ?_)⟩
 ·rw[<-el]at H;have E:=ak G7 u;have m:=m.ai u;have B:=B.ai u;have s8:=u.1;refine⟨of E H (λq j e J n D9=>aF λv F g' a y _=>bQ (m.ai e) a ?_) (λi x j e n I r=>aF λv F g' a y _=>bQ (m.ai e) a ?_),aF λv j e9 e y _=>bQ m e ?_⟩
  ·have s9:=e.1;have b':=a.1;exact Dk y rfl ((B.ai e).ai a) rfl ag (f1 (ak (ak E e) a) ((N D9).gr a) ag ag (.inr ag) J n)
  ·have s9:=e.1;exact Dk y rfl ((B.ai e).ai a) rfl ag (f2 (ak (ak E e) a) ag n I r)
  ·have s9:=e.1;have c':=y.lt;refine of (ak E e) (dU H e) (λq F a J n D9=>?_) λi x F a n I r=>?_
   ·exact Dk (y.ai a) rfl ((B.ai e).ai a) rfl ag (f1 (ak (ak E e) a) (N D9) ag ag (.inl ag) J n)
   ·exact Dk (y.ai a) rfl ((B.ai e).ai a) rfl ag (f2 (ak (ak E e) a) ag n I r)
 ·rw[<-el]at H;have s9:=e.1;have L:=ak (ak G7 u) e;refine of L (sD H λc(q:o.size<=c)=>ag) (λq F a J n D9=>?_) λi x F a n I r=>?_
  ·exact Dk ((y.ai e).ai a) rfl (((B.ai u).ai e).ai a) rfl ag (f1 (ak L a) (N D9) ag ag (.inl ag) J n)
  ·exact Dk ((y.ai e).ai a) rfl (((B.ai u).ai e).ai a) rfl ag (f2 (ak L a) ag n I r)
theorem aDV{K:fB}(C:MC f M)(MD:yM f M)(PF:jr f)(FC:ni f)(B:bB f)(A:f.fN)(Q:mH h)(P:iW h)(R:cH h s f.cs)(v0:eR D D h p d)(OP:Wi f d D h s p)(N:CS f)(Y:f.arr d){l:aR}(el:l=kE f d d.off.toNat d.len.toNat)(T:nY l)(n:(f.dn (f.st l)).mw)
  (F:∀b I,az h I->(b=true↔Good f l l.length/\f.dn (f.st l)=d)->K b I):Yb f.name f.au f.k f.w f.id f.ix s d.len d.off d.au p.1 p.2.1 p.2.2 h K Kp:=by
 refine aFY (aF λa2 h1 e1 J O _=>aF λa3 h2 e2 z u _=>dO (O.ai z) (fJ u ?_));have G:=ak J z;refine aDY C MD PF FC B A (Q.ai G) (P.ai G) (R.gr G) (λg=>OP (ak G g)) N Y el T (λq v j hc H D3=>aF λZ V X y c _=>ig c rfl λo t c=>bS rfl (fJ c ?_)) λi x v j H E m=>aF λZ V X y c _=>ig c rfl λo t c=>bu (by simpa using m) ?_
 ·have L:=j.1;have r:=bI y t ag;have a:=ak j r;refine fJ (u.ai a) (P6 _ n (D3.gr r) ((v0.gr G).gr a) λb U W S=>F b U (ak (ak G a) W) ?_);grind
 ·have r:=bI y t ag;exact F false o (ak G (ak j r)) ⟨λe=>(by cases e),λq=>absurd (q.1 i x (de.1 E).1 E) m⟩
end
def fA:aq:=.mk (bs [97]) true 4 0 0 0 []
def dA:bG:=.mk 2 0 1 [[1],[254,255,0,0]] [] []
section
variable {s wi:Sl} {p:Sl×Sl×Sl}
theorem aly{G:fh}{w id:Int}{K:Sl->HP}(v:C8 h p dA)(H:∀t d,az h d->Nv d t [16,16]->K t d):YN G au 4 w id ix s 2 0 1 p.1 p.2.1 p.2.2 wi h K Kp:=by
 refine aGW (aF λQ Y e1 N l _=>aF λP I e2 u j _=>?_);simp only[bz];refine nF (PL (l.ai u)) (aF λO X Z M m _=>pM m rfl λq F m=>?_);have r:=bI M F ag;have l:=(l.ai u).ai r;have j:=j.ai r;have E:=ak (ak N u) r;refine aj j rfl (Fb ag ag ag λt W L A S=>?_);have tn:t.n=2:=A.2.1;rw[tn];apply aBa (λy a d=>∃i:Nat,y=0/\a=i/\i<=2/\Ws q d q.size t 2 (List.replicate i (ah 16)++List.replicate (2-i) (ah 0))) (λ_ a _=>2-a.toNat) ⟨0,rfl,rfl,ag,L,A,rfl,bX _⟩
 rintro y a V ⟨i,rfl,rfl,C,k⟩ R hN;refine cE (λc=>?_) λc=>?_
 ·have C:i<2:=ag;have e:(List.replicate i (ah 16)++List.replicate (2-i) (ah 0)).set i (ah 16)=List.replicate (i+1) (ah 16)++List.replicate (2-(i+1)) (ah 0):=by
   rcases i with _|_|i
   ·rfl
   ·rfl
   ·omega
  refine aj (j.ai k.g) rfl (aX ag ag (k.st rfl C λU f=>dO (l.ai f.g) (fJ (j.ai f.g) ?_)));rw[e]at f;rw[show _+(i:Int)=((i:Nat):Int) by omega]
  refine abO ((v.gr E).b.gr f.g) (λ_=>by decide) ag λD J=>?_
  have z:=f.ai J;have B:aP ((i:Int)+1) λx=>R (GA wi (aJ Q) (aJ P) (aJ O) t 2 0 x) D:=aX ag ag (hN _ _ _ ⟨i+1,rfl,ag,ag,z⟩ ag)
  refine aG (λ_=>B) λ_=>aj (m.ai z.g) rfl (bu rfl (bu rfl (aDC (bu rfl (bu rfl (bu rfl (bu rfl (bu rfl (bu rfl (bu rfl (aDD (aGE (bS rfl (aA9 (λx d=>x=0/\d=D) (λ_ _=>0) ⟨rfl,rfl⟩ ?_))))))))))))));grind[bu]
 ·obtain rfl:i=2:=ag;exact H _ _ (ak E k.g) k.o.sv
theorem apj{g:fh}{w id x y:Int}{u S:Sl}{K:Int->Sl->Int->HP}(m:∀c,az h c->K 0 Sl.nil 0 c):YO g au 4 w id ix s x y k t u S h K Kp:=by
 refine aGY (aF λb2 A e1 e l _=>aF λE z C a q _=>aF λD v B d j _=>?_);simp only[bz];exact aj ((l.ai a).ai d) rfl (bu rfl (bu rfl (aDE (bu rfl (bu rfl (bu rfl (mZ j rfl λr f i=>oN i (m _ (bI (ak e (ak a d)) f ag)))))))))
theorem axS{K:Int->Sl->Int->Sl->HP} (ht:mH h) (hs:cH h s []) (v:C8 h p dA) (ar:fA.arr dA) (hk:∀t a,az h a->K 0 Sl.nil 0 t a):Fy (bs [97]) true 4 0 0 0 s 2 0 1 p.1 p.2.1 p.2.2 h K Kp:=by
 refine aHf (aF λb2 h1 e1 T o _=>aF λb3 h2 e2 E k _=>aF λF hA e3 D u _ => ?_);have q:=ak T (ak E D);have M:h.size<=F:=ag;have o:=(o.ai E).ai D;have k:=k.ai D;have look:∀{a:Hp} {e m:Int} {l:Sl} {J:HP},az hA a->e=0->(∀y,az a y->J y) ->
   aI a kN kI λG Q=>dZ Q G e l m λj=>Ld j G mI λI=>If (I != 0) (eO j G λW V U=>dZ j (aJ F) W V U λC=>eO C (aJ F) λr0 Y X=>K r0 Y X bN C) (J j):=by
  rintro a e m l J g rfl hJ;exact aF λb6 Q e6 g5 B _=>mZ B rfl λj Z B=>aj B rfl (bu rfl (hJ j (bI g5 Z ag)))
 refine dO o (fJ k (aod (d:=dA) (cs:=[]) (ht.ai q) bw trivial (hs.gr q) (v.gr q) λe t m h4 S et he=>look S (he.2 ar.Dr) λj g6 => ?_));have A:=ak S g6;refine aDU (dO (o.ai A) (fJ (k.ai A) (apj λC R=>look (ak A R) rfl λh8 g8 => ?_)));have H:=ak A (ak R g8);refine aDT (fJ (k.ai H) (aqn (d:=dA) (v.gr (ak q H)) λL h9 g9 ds => ?_));have r:=ak H g9;have n0:=ds.n.1;rw[n0];apply aBm (λO w a=>O=Sl.nil/\w=0/\a=h9) (λ_ _ _=>0) ⟨rfl,rfl,rfl⟩;rintro O w b' ⟨rfl,rfl,rfl⟩ N1 _;refine bu rfl (aDS ?_);simp only[bz];refine aj (o.ai r) rfl (bu rfl (aDR (dO (o.ai r) (fJ (k.ai r) (aly (v.gr (ak q r)) λt N z P => ?_)))));have tn:t.n=2:=P.1;rw[tn];apply aBn (λx f a=>∃i:Nat,x=16*i/\f=i/\i<=2/\a=N) (λ_ f _=>2 - f.toNat) ⟨0,rfl,rfl,ag,rfl⟩
 rintro x f a' ⟨i,rfl,rfl,hi,rfl⟩ N1 hN;have u:=u.ai (ak r z);refine aG (λc => ?_) λc=>bu bZ (mZ u rfl λa o' u=>oN u (hk _ _ (bI (ak (ak q r) z) o' M)))
 have c:=aS c;have hg:([16,16]:cU)[i]? = some 16:=by
  rcases i with _ | _ | i
  ·rfl
  ·rfl
  ·omega
 rw[<-tn];refine P.ld rfl hg (aX ag ag (aX ag ag ?_));rw[tn];exact hN _ _ _ ⟨i+1,ag,ag,ag,rfl⟩ ag
theorem ar8{K:Int->Sl->Int->HP}(ok:bB fA)(q:fA.fN)(u:mH h)(w:cH h s [])(v:C8 h p dA)(E:fA.arr dA)(B:∀x,az h x->K 0 Sl.nil 0 x):XH (bs [97]) true 4 0 0 0 s 2 0 1 p.1 p.2.1 p.2.2 h K Kp:=by
 refine aEb (aF λb2 S e1 z f _=>aF λY R V o i _=>aF λX Q U n a _=>?_);have G:=ak z (ak o n);have f:=(f.ai o).ai n;have i:=i.ai n;refine dO f (LQ (u.k.ai G) q (w.gr G) λe l m P c C=>?_);obtain rfl:e=0:=C.2 ok;have d:=ak G c;refine bu rfl (dO (f.ai c) (fJ (i.ai c) (axS (u.ai d) (w.gr d) (v.gr d) E λt O j=>aF λW N T y g _=>mZ g rfl λM r g=>oN g ?_)));have H:=c.1;have F:=j.1;have a:=r.aZ (((a.ai c).ai j).ai y) ag;exact mZ a rfl λL A a=>oN a (B _ (bI (bI (ak (ak d j) y) r ag) A ag))
theorem avx{g:fh}{w id:Int}{K:ByteArray->Bool->Int->Int->Int->Int->Sl->HP}(m:∀i,az h i->K g au k w id ix Sl.nil i):Ol g au k w id ix Sl.nil h K Kp:=by
 refine aD9 (aF λy u e1 j a _=>aF λb2 t v d c _=>?_);simp only[bz];refine aj (a.ai d) rfl (aGb (bS rfl (dI (a.ai d) aA rfl λn e a=>aj a rfl ?_)));have c:=e.aZ c ag;apply azW (λx f=>f=n/\x=0) (λ_ _=>0) ⟨rfl,rfl⟩;rintro x f ⟨rfl,rfl⟩ z _;exact bu rfl (dO a (oO c rfl λr l c=>dO c (m _ (bI (bI (ak j d) e ag) l ag))))
theorem aej{l:Sl}{K:Sl->HP}(d:l.n=0)(e:K Sl.nil h):O7 l h K Kp:=by
 apply aHd;rw[d];apply aBl (λb a c=>b=Sl.nil/\a=0/\c=h) (λ_ _ _=>0) ⟨rfl,rfl,rfl⟩;grind[bu]
theorem axw{n0:Nat}{K:K6}(v:eR D E h p dA)(B:∀b,E b->b<n0)(J:n0<=h.size)(A:∀g o,az h o->eR (Nw h) E o g dA->K 2 0 1 g.1 g.2.1 g.2.2 o):Ok 2 0 1 p.1 p.2.1 p.2.2 h K Kp:=by
 refine aD8 (aF λG Q e1 w a _=>aF λb2 u R i d _=>?_);simp only[bz];have y:=ak w i;refine aj (a.ai i) rfl (axP y v.b bw λz F r vb=>dI ((a.ai i).ai r) aA rfl λP l a=>aj a rfl (aej v.c.n.1 (dI a aA rfl λO k a=>aj a rfl (aej v.x.n.1 (dI a aA rfl λN j a=>fJ a (ig (j.aZ (k.aZ (l.aZ (d.ai r) ag) ag) ag) rfl λC t d=>fJ d (A (z,Sl.nil,Sl.nil) _ (bI (bI (bI (bI (ak y r) l ag) k ag) j ag) t ag) ?_)))))));have f:Tn (λc=>c=G\/c=b2) F C:=(((l.fr.mono λ_ q _=>.inl q).trans (k.fr.mono λ_ q _=>.inl q)).trans (j.fr.mono λ_ q _=>.inl q)).trans (t.fr.mono λ_ q _=>.inr q);exact⟨vb.fr f (λb(m:u.size<=b)_ e=>ag) (λb m _ e=>bZ) (λb(m:u.size<=b)=>ag) λ_ q=>q,jA _,jA _⟩
theorem aqK(ok:bB fA)(w:fA.fN)(I:mH h)(v0:eR D D h p dA)(R:fA.arr dA):Wi fA dA D h Sl.nil p:=by
 have J:∀{h:Hp},cH h Sl.nil []:=λ{h}=>by unfold cH;exact⟨rfl,bX _⟩
 intro n K Kp F L;have v0:=v0.gr F;have v:=v0.mo (λ_ _=>trivial) λ_ _=>trivial;refine aG0 (aF λb2 h1 e1 E j _=>aF λb3 h2 e2 u c _=>aF λQ O e3 t i _=>?_);have G:=ak E (ak u t);have j:=(j.ai u).ai t;have c:=c.ai t;refine dO j (fJ c (ar8 ok w (I.ai (ak F G)) J (v.gr G) R λh4 r=>aF λb6 h5 e6 C q _=>mZ q rfl λN y q=>aj q rfl (bu rfl ?_)));have Y:=r.1;have i:=y.aZ ((i.ai r).ai C) ag;have a:=bI (ak r C) y ag;have o:=ak G a;have j:=j.ai a;have c:=c.ai a;refine aDJ (dO j (fJ c (avx λM k=>bQ c k ?_)));have S:=a.1;have W:=k.1;refine axw (v0.lt.gr (ak o k)) (λb z=>z.2) ((ak o k).1) λp' h8 B H=>?_;have V:=B.1;refine aqI (d:=dA) (D:=λx=>x≠Q/\((D x/\x<n.size)\/n.size<=x)) (by show bM _ _ _ [];unfold bM;exact⟨rfl,bX _⟩) (H.mo (λx(g:M.size<=x)=>⟨ag,.inr ag⟩) λx g=>⟨ag,.inl g⟩) λb' h9 P z A=>?_
 have m:=ak (ak k B) P;exact mZ (i.ai m) rfl λU l i=>oN i (L _ _ _ _ (bI (ak o m) l ag) ag (A.fr l.fr (λe=>ag) (λx g e=>g.1 e) λ_ g=>g.2))
end
theorem apz(j:f.k≠12/\f.k≠13/\f.k≠15/\f.k≠16/\f.k≠17/\f.k≠18/\f.k≠19/\f.k≠20){D:aQ}{h:Hp}{b bl i:Nat}{d:bG}{o n r L:Int}{s:Sl}{q:Sl×Sl×Sl}{K:KV}{p:PK}(V:Vc D h b bl f d o n s q L i)(l:r=i)(c:jF f.k d.aY i=false)(m:VK h bl L (f.val d i) K):fD aE (xJ f.k) "colonnade/array.read" [bH b,ah r,bH bl] h (KI K) p:=by
  have e:xJ f.k=.iface IL (.agg #[]):=by unfold xJ;simp[j]
  rw[e];exact axR (avc V l j c m)
theorem alM(y:f.k≠12/\f.k≠13/\f.k≠15/\f.k≠16/\f.k≠17/\f.k≠18/\f.k≠19/\f.k≠20):agf f:=by
 intro D h b bl i d o n r L s q K N V w l;have e:=V.kl.lt;refine aGU (aF λM J e1 m j _=>arb (V.A.gr m) V.ar V.lo V.hi w λC g=>aG (λc=>?_) λc=>?_)
 all_goals have G:=ak m g
 all_goals have H:=m.1
 all_goals have F:=g.1
 all_goals have E:=j.lt
 ·have z:f.val d i=v0:=by rw[JN,pz,aK c]
  have p:=V.wl;rw[z]at l p;exact Pv (V.kl.ai G) ag p V.lm λB v a=>l.fin ((bg G).trans v.fr) a (v.aZ (j.ai g) ag) rfl ag e (pL _)
 ·simp only[nH,bz];refine aj (V.A.gr G).k rfl (apz y (V.gr G) w c ?_);intro t B u a x;exact l.fin ((bg G).trans u) a (u.aZ (j.ai g) ag) rfl ag e (x.mo λc(I:C.size<=c)=>⟨ag,ag⟩)
theorem aqz:CS fA:=aqA (alM bw)
section
variable {KM:List cO} {M:cO} {h':Hp} {r:Raw} {w:Value}
theorem bW.BB{s:Sl}{K:Sl->Prop}(G:bW f KM T h r none g)(a:∀(j:Nat)M,KM[j]? =some M->gG M)(gr:az h h')(k:g.b=b)(d:g.SS[i]? =some s)(e:K s):Ld h' ⟨b,16+i,none⟩ Sl.v K:=
 (G.fr a (bg gr) λ_ _ _=>id).dH k d e
theorem Dq{x y:List Value×TypeId}{l:List (List Value×TypeId)}(h:g.SS.length=l.length/\g.ST.length=l.length)(e:l=[x,y]):∃j d,g.SS=[j,d]:=by
 rw[e]at h
 match i:g.SS,h.1 with
 |[a,b],_=>exact⟨a,b,rfl⟩
theorem rV{x:List Value×TypeId}{l:List (List Value×TypeId)}(h:g.SS.length=l.length/\g.ST.length=l.length)(e:l=[x]):∃b,g.SS=[b]:=by
 rw[e]at h
 match d:g.SS,h.1 with
 |[a],_=>exact⟨a,rfl⟩
theorem P0{l:List (List Value×TypeId)}(h:g.SS.length=l.length/\g.ST.length=l.length)(e:l=[]):g.SS=[]:=by
 rw[e]at h;exact jB.1 h.1
theorem bW.ab5{cs:List (Array Value)}{v KF:Value}{n m d u2:Nat}{K:di}(G:bW f [] T h r none g)(Q:ua h h' N cs (sG f g.b g.sf g.sn g.sb r.b) IT v KF n m d u2)(o:f.cs=[])(l:f.k≠1/\f.k≠15/\f.k≠16/\f.k≠17/\f.k≠18/\f.k≠19/\f.k≠20)(e:eN f.k r.b r.b)
  (p:∀F,jv f.k g.b v KF (.mk F r g.sb [] [])=cs) (t:∀a h',az h h'->one a.F=true->a.F.cells=#[a.F]->a.r=r->cV f [] (Tr T h h') h' (.iface (bK f.k) (bH g.b)) r (some a)->K a.F h'):K (.func (.func (gL f.k)) #[] (N.map pA).toArray) h':=
 t _ h' Q.g rfl rfl rfl (G.Sq (lo:=λ_=>0) (hi:=λ_=>0) qJ Q (λj s=>by simp at s) (λi j hi=>by simp at hi) (λj M A w q=>by simp at q) rfl (by rw[o];rfl) l.1 (λq=>ag) (λq=>ag) e (λq=>ag) (p _))
theorem arS(a:f.k=1)(l:f.cs=[]):wS f (cV f []):=by
 intro T h v vs K s u H m;obtain⟨g,rfl,G⟩:=H;have p:bK f.k=pW:=by unfold bK;rw[aK a]
 have q:kU (.iface pW (bH g.b)) h K s:=by
  refine awP (aFc ?_);simp only[nH];refine yj G.B (cQ _) λF h' gr vb=>?_;have d:=G.fr qJ (bg gr) λ_ _ _=>id;refine m (.mk F (f.st vs) g.sb [] []) h' gr vb.1.1 vb.1.2 rfl ⟨g.mk' 0 h h' (λ_=>0) (λ_=>0),rfl,G.marked qJ gr (λj e=>by simp at e) (λi j n=>by simp at n) (λj M A w q=>by simp at q) ⟨⟨F,F,⟨vb.2.mono λc q=>.inr ⟨q.1,q.2,λj e=>by simp at e⟩,Old.of d.B.o,d.B.len,d.B.nl,d.B.rl⟩,λq=>ag,λq=>ag,λ_=>rfl,λq=>absurd a q⟩,?_,⟨?_,by rw[l];rfl⟩,λq=>ag⟩⟩
  ·unfold eN;rw[ay,ay,ay,ay,dV];trivial
  ·have:=G.lk.2.2;exact jB.1 this
 rw[<-p]at q;exact q
theorem arN(a:f.k=12\/f.k=13)(p:f.cs=[]):wS f (cV f []):=by
 intro T h v vs K E N H y;obtain⟨g,rfl,G⟩:=H;have C:bK f.k=pV:=by unfold bK;rw[ay,aK a]
 have D:gL f.k=195:=by unfold gL;rw[aK a]
 have o:∀e:Rb,cC f.k e=[(ints e.ends,Y6),(bv e.all,Y8)]:=λe=>by unfold cC;rw[aK a]
 obtain⟨l,j,d⟩:=Dq G.ls (o _);have x:l.n=(f.st vs).b.ends.length:=by have:=G.oI (i:=0) (s:=l) (by simp[d]) (by rw[o];rfl);rw[this,ints,cr]
 have u:j.n=(f.st vs).b.all.length:=by have:=G.oI (i:=1) (s:=j) (by simp[d]) (by rw[o];rfl);rw[this,fP]
 have q:kU (.iface pV (bH g.b)) h K E:=by
  refine awK (OL.mk (eT:=l) (Bd:=j) (λgr m=>G.BB (i:=0) qJ gr rfl (by simp[d]) m) (λgr m=>G.BB (i:=1) qJ gr rfl (by simp[d]) m) Ak Al (λgr z=>yj G.B gr z) λt O KF L I J u2 h' Q=>?_)
  have:=G.ab5 Q p ag (by unfold eN;rw[aK a];exact⟨jI _,jI _⟩) (λF=>?_) y
  ·rw[D]at this;exact this
  ·unfold jv;simp only;rw[aK a,x,u];rfl
 rw[<-C]at q;exact q
theorem arR(x:fL f.k=true)(u:f.cs=[]):wS f (cV f []):=by
 intro T h v vs K O X H I;obtain⟨g,rfl,G⟩:=H;obtain⟨D,R,P,j,m,l,a,e,d⟩:=zw x;have L:bK f.k=pS:=by unfold bK;rw[aC D,ay,aC j,aC m,aC l,aC a,aC e,aC d]
 have N:gL f.k=247:=by unfold gL;rw[ay,aC j,aC m,aC l,aC a,aC e,aC d]
 have y:∀p:Rb,cC f.k p=[(mh p.dY,pX),(strs p.texts,rF)]:=λp=>by unfold cC;rw[ay,ay,aC a,ay]
 obtain⟨t,U,o⟩:=Dq G.ls (y _);have C:t.n=(f.st vs).b.dY.length:=by have:=G.oI (i:=0) (s:=t) (by simp[o]) (by rw[y];rfl);rw[this,mh,cr]
 have q:kU (.iface pS (bH g.b)) h K O:=by
  refine awO (Oq.mk (eT:=t) (λgr E=>G.BB (i:=0) qJ gr rfl (by simp[o]) E) Ak Al (λgr J=>yj G.B gr J) λz Y KF W S V u2 h' Q=>?_)
  have:=G.ab5 Q u ag ?_ (λF=>?_) I
  ·rw[N]at this;exact this
  ·unfold eN;rw[ay,aC j,aC e,aC a,ay,aC d];refine⟨jI _,jI _,?_⟩;rw[fI];simp only[aL,x,gB,cr]
  ·unfold jv;simp only;rw[ay,aC j,ay,aC a,aC e,aC d,C];rfl
 rw[<-L]at q;exact q
theorem bW.KE{cs:List (Array Value)}{v KF:Value}{n d a u2:Nat}{K:di}{sp:bq}(G:bW f [M] T h r none g)(D:∀(j:Nat)o,[M][j]? =some o->gG o)(t:f.cs=[c])(E:g.KT[0]? =some A)(z:g.kv[0]? =some w)
  (Q:ua h h' N cs (sG f g.b g.sf g.sn g.sb r.b) (lO M A w (r.aM 0)) v KF n d a u2) (J:f.k=15\/f.k=16\/f.k=19\/f.k=20) (s:eN f.k r.b r.b) (p:f.k=20->iO 20 g.X h' sp r.b)
  (u:∀F m,jv f.k g.b v KF (.mk F r g.sb [m] sp)=cs) (B:∀e h',az h h'->one e.F=true->e.F.cells=#[e.F]->e.r=r->cV f [M] (Tr T h h') h' (.iface (bK f.k) (bH g.b)) r (some e)->K e.F h'):K (.func (.func (gL f.k)) #[] (N.map pA).toArray) h':=by
 obtain⟨⟨_,m,rfl,H,I⟩,P,O⟩:=Q.k;refine B _ h' Q.g rfl rfl rfl (G.Sq D Q (λ_ _=>⟨bX _,bX _⟩) (λi j hi C ne=>?_) (λj o R L l y x=>?_) rfl (by rw[t];rfl) ag (λ_=>⟨m,rfl,rfl⟩) (λq=>ag) s p (u _ m))
 ·simp only[jC]at hi C;omega
 ·rcases j with _|j
  ·simp at l;subst l;rw[E]at y;cases y;rw[z]at x;cases x;exact⟨m,rfl,H,I⟩
  ·simp at l
theorem tj{KM:List cO}{m:fT}(G:bW f KM T h r m g)(hl:KM.length=1):∃A w,g.KT[0]? =some A/\g.kv[0]? =some w/\g.kv=[w]:=by
 have lk:=G.lk;have e:g.KT.length=1:=by rw[lk.2.1,hl]
 have d:g.kv.length=1:=by rw[lk.1,hl]
 match j:g.KT,i:g.kv,e,d with
 |[a],[b],_,_=>exact⟨a,b,rfl,rfl,rfl⟩
theorem arT(a:f.k=15)(j:f.cs=[c])(C:MC c M):wS f (cV f [M]):=by
 intro T h v vs K V P H O;obtain⟨g,rfl,G⟩:=H;have D:=nE C;have R:bK f.k=pU:=by unfold bK;rw[ay,ay,aK a]
 have U:gL f.k=200:=by unfold gL;rw[ay,aK a]
 have J:∀x:Rb,cC f.k x=[(ints x.ends,Y6)]:=λx=>by unfold cC;rw[ay,dV]
 obtain⟨u,e⟩:=rV G.ls (J _);obtain⟨A,w,E,z,W⟩:=tj G rfl;have o:f.cs[0]? =some c:=by rw[j];rfl
 have N:u.n=(f.st vs).b.ends.length:=by have:=G.oI (i:=0) (s:=u) (by simp[e]) (by rw[J];rfl);rw[this,ints,cr]
 have aM:=G.aM 0 M A w rfl E z;have d:=mY o vs;have I:∀c,A c->c<h.size:=λc q=>G.t.l (bT (g.fF E)) q;have q:kU (.iface pU (bH g.b)) h K V:=by
  rw[d]at aM;refine awQ (OJ.mk (eT:=u) (V2:=lO M A w ((f.st vs).aM 0)) (λgr y=>G.BB (i:=0) D gr rfl (by simp[e]) y) (λgr y=>(G.fr D (bg gr) λ_ _ _=>id).lW (i:=1) rfl (.inl a) (by simp[e]) z y) Ak Al (λgr p=>yj G.B gr p) (lO.qo C.fr I) lO.one (λgr p=>?_) λL F0 KF Z X Y u2 h' Q=>?_)
  ·rw[d]at p;exact lO.call C (fC o P) aM gr p
  ·have:=G.KE (sp:=[]) D j E z Q (.inl a) (by unfold eN;rw[ay,aK a];exact jI _) (λq=>ag) (λF m=>?_) O
   ·rw[U]at this;exact this
   ·unfold jv;simp only;rw[ay,aK a,N];rfl
 rw[<-R]at q;exact q
theorem arP(a:f.k=16)(e:f.cs=[c])(C:MC c M):wS f (cV f [M]):=by
 intro T h v vs K O I H E;obtain⟨g,rfl,G⟩:=H;have y:=nE C;have L:bK f.k=oU:=by unfold bK;rw[ay,ay,ay,aK a]
 have N:gL f.k=205:=by unfold gL;rw[ay,ay,aK a]
 have J:∀x:Rb,cC f.k x=[]:=λx=>by unfold cC;rw[ay,ay,ay,dV]
 have s:=P0 G.ls (J _);obtain⟨A,w,p,o,P⟩:=tj G rfl;have j:f.cs[0]? =some c:=by rw[e];rfl
 have aM:=G.aM 0 M A w rfl p o;have d:=mY j vs;have u:∀c,A c->c<h.size:=λc q=>G.t.l (bT (g.fF p)) q;have q:kU (.iface oU (bH g.b)) h K O:=by
  rw[d]at aM;refine awM (OH.mk (V2:=lO M A w ((f.st vs).aM 0)) (λgr D=>(G.fr y (bg gr) λ_ _ _=>id).lW (i:=0) rfl (.inr (.inl a)) (by simp[s]) o D) Ak Al (λgr n=>yj G.B gr n) (lO.qo C.fr u) lO.one (λgr n=>?_) λz W KF V R U u2 h' Q=>?_)
  ·rw[d]at n;exact lO.call C (fC j I) aM gr n
  ·have:=G.KE (sp:=[]) y e p o Q (.inr (.inl a)) (by unfold eN;rw[ay,ay,ay,ay,dV];trivial) (λq=>ag) (λF m=>?_) E
   ·rw[N]at this;exact this
   ·unfold jv;simp only;rw[ay,ay,dV]
 rw[<-L]at q;exact q
end
end
end Go.Proofs.YtbahbhkogflhbaaGreatDoor
