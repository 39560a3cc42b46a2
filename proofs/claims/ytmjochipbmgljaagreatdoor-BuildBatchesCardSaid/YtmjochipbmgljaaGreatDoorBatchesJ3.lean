import Derived.Test.YtmjochipbmgljaaGreatDoorBatchesJ2
import Derived.Test.YtmjochipbmgljaaGreatDoorBatchesShDeferH
import Derived.Test.YtmjochipbmgljaaGreatDoorBatchesShMix
set_option linter.all false
set_option maxRecDepth 99999
set_option maxHeartbeats 999999
noncomputable section
namespace Go.Proofs.YtmjochipbmgljaaGreatDoor
open Go Go.Sh Go.WideShapes
section
variable {f c:aq} {q c0:Addr} {k ix:Int} {b i j:Nat} {d:bD} {au B:Bool} {D T E A:aQ} {t eN:Sl} {e el ty:TypeId} {C:bg} {h H:Hp} {Kp:PK} {a:ff} {cs:cC} {x':List Value×TypeId} {Z:Array Value} {N:cG}
theorem aba(n:bC f){vs:aP}{i:Nat}{v:aB}(m:vs[i]? =some v):jC f.k (f.dn (f.st vs)).aX i=eu f.k v:=by
 have ks:=n.ks
 by_cases j:f.k=1
 ·unfold jC eu;simp[j]
 by_cases b:f.k=18
 ·unfold jC eu mR;simp[b]
 by_cases a:f.k=20
 ·unfold jC eu mR;simp[a]
 refine CS (by unfold mR;simp[j,b,a]) ?_ m
 by_cases h:f.k=12\/f.k=13
 ·rw[wq h];rfl
 by_cases e:f.k=15
 ·rw[GS e];rfl
 by_cases d:f.k=16\/f.k=17
 ·rw[BG d];rfl
 by_cases c:f.k=19
 ·rw[GR c];rfl
 by_cases l:f.k=2
 ·rw[BE l];rfl
 by_cases g:f.k=14
 ·rw[BH g];rfl
 rw[zP ag];rfl
theorem awx{p:Nat->Bool}{q:aB->Bool}:∀{vs:aP},(∀i v,vs[i]? =some v->p i=q v)->(List.range vs.length).countP p=vs.countP q
  | vs,h=>by
    have e:(List.range vs.length).map p=vs.map q:=by
      refine sE λi=>?_;rw[fh,fh]
      by_cases a:i<vs.length
      ·simp[*]
      ·simp[*]
    have b:∀{α:Type}(p:α->Bool)(l:List α),l.countP p=(l.map p).countP id:=aA
    simp[*]
theorem aqo(g:bC f){vs:aP}(m:f.can vs):Ie f.au f.k (f.dn (f.st vs)):=by
 have e:uS f.k (f.dn (f.st vs)).aX (f.dn (f.st vs)).off.toNat (f.dn (f.st vs)).len.toNat=vs.countP (eu f.k):=by
  rw[zO,xZ];unfold uS;exact awx λi v l=>by simp_all[aba]
 refine⟨by rw[e,TA],λa=>?_⟩
 rw[e]at a;obtain⟨v,j,d⟩:=List.countP_pos_iff.1 a
 by_cases h:f.k=1
 ·exact g.right.2.1.1 h
 ·have c:f.k≠18/\f.k≠20:=by constructor <;> (grind[eu])
  rw[sW h c.1 c.2]at d;have b:=((gk f vs).1 m).fit v j;rw[eL]at b;grind[kz,sY]
theorem ak4{vs:aP}:(dF (aK k vs)).length=0\/(dF (aK k vs)).length=(vs.length+7)/8:=by
 unfold dF;split
 ·simp
 ·refine .inr ?_
  show(qJ _).length=_
  rw[P9,cm]
theorem Zs(g:aB->Nat)(vs:aP):(laidB (kj g vs) 4).length=(vs.length+1)*4:=by rw[Ga,CW]
theorem aqg(h:fH k=true)(vs:aP):(aK k vs).dV=vs.map (λv=>(v.num%2^64).toNat)/\(aK k vs).texts=vs.map aB.text:=by simp[aK,h]
theorem JT{w:Int}{n:Nat}(a:k≠18)(h:b=0\/b=(n+7)/8):jq k w ix 0 n b<=b:=by
 unfold jq;grind
theorem anx(G:bC f){vs:aP}(S:f.can vs):((f.dn (f.st vs)).aX.length:Int)=kO f.k/\(∀j,j<(f.dn (f.st vs)).aX.length->(dD (f.dn (f.st vs)).aX j).length<=65536)/\
    ∀j,j<(f.dn (f.st vs)).aX.length->jq f.k f.w f.ix j vs.length (dD (f.dn (f.st vs)).aX j).length<=(dD (f.dn (f.st vs)).aX j).length:=by
  have I:=(gk f vs).1 S;have Q:=I.n4;have ks:=G.ks;have C:=ak4 (k:=f.k) (vs:=vs);have two:∀{a b:dB}{P:aQ},(∀j,j<[a,b].length->P j)↔P 0/\P 1:=λ{a b P}=>⟨λh=>⟨h 0 aA,h 1 aA⟩,λh j d=>by
    match j,d with
    |0,_=>exact h.1
    |1,_=>exact h.2⟩
  by_cases D:f.k=1
  ·rw[GU D];exact⟨by rw[D];rfl,λj d=>by simp[bD.aX]at d,λj d=>by simp[bD.aX]at d⟩
  by_cases o:f.k=20
  ·rw[KZ o];exact⟨by rw[o];rfl,λj d=>by simp[bD.aX]at d,λj d=>by simp[bD.aX]at d⟩
  by_cases p:f.k=16\/f.k=17
  · rw[BG p];refine⟨by rcases p with q|q <;> rw[q] <;> rfl,λj d=>?_,λj d=>?_⟩
    · have:j=0:=by simp[bD.aX]at d;exact d
      subst this
      show(dF (aK f.k vs)).length<=_;omega
    · have:j=0:=by simp[bD.aX]at d;exact d
      subst this
      show jq f.k f.w f.ix 0 vs.length (dF (aK f.k vs)).length<=(dF _).length
      exact JT ag C
  by_cases g:f.k=12\/f.k=13
  · have s:(aK f.k vs).ends=kj (λv=>v.text.length) vs:=by simp[aK,g]
    have H:(aK f.k vs).all=vs.flatMap aB.text:=by simp[aK,g]
    have J:=I.tx g;rw[wq g,s,H];have F:=Zs (λv=>v.text.length) vs;refine⟨by rcases g with q|q <;> rw[q] <;> rfl,λj d=>?_,λj d=>?_⟩
    · match j,d with
      |0,_=>show(dF (aK f.k vs)).length<=_;omega
      |1,_=>show(laidB _ 4).length<=_;omega
      |2,_=>exact J
    · match j,d with
      |0,_=>exact JT ag C
      | 1,_=>
        show jq f.k f.w f.ix 1 vs.length (laidB _ 4).length<=(laidB _ 4).length
        unfold jq;rw[ay,ay,ay,dR];omega
      |2,_=>unfold jq;rw[ay,aI (.inr rfl)];exact dN _
  by_cases m:f.k=15
  · have s:(aK f.k vs).ends=kj (λv=>v.items.length) vs:=by simp[aK,m]
    rw[GS m,s];have F:=Zs (λv=>v.items.length) vs;refine⟨by rw[m];rfl,two.2 ⟨?_,?_⟩,two.2 ⟨?_,?_⟩⟩
    ·show(dF (aK f.k vs)).length<=_;omega
    ·show(laidB _ 4).length<=_;omega
    · show jq f.k f.w f.ix 0 vs.length (dF (aK f.k vs)).length<=(dF (aK f.k vs)).length
      exact JT ag C
    · show jq f.k f.w f.ix 1 vs.length (laidB _ 4).length<=(laidB (kj (λv=>v.items.length) vs) 4).length
      unfold jq;rw[ay,ay,ay,dR];omega
  by_cases c:f.k=18
  · have H:(aK f.k vs).all=vs.map λv=>UInt8.ofNat (fL v):=by simp[aK,c]
    have s:(aK f.k vs).ends.length=vs.length:=by simp[aK,c]
    rw[K0 c];have F:=Ga (aK f.k vs).ends 4;rw[s]at F;have Y:(aK f.k vs).all.length=vs.length:=by rw[H,cm]
    refine⟨by rw[c];rfl,two.2 ⟨?_,?_⟩,two.2 ⟨?_,?_⟩⟩
    ·show(aK f.k vs).all.length<=_;omega
    ·show(laidB _ 4).length<=_;omega
    · show jq f.k f.w f.ix 0 vs.length (aK f.k vs).all.length<=(aK f.k vs).all.length
      unfold jq;rw[aI c];omega
    · show jq f.k f.w f.ix 1 vs.length (laidB _ 4).length<=(laidB (aK f.k vs).ends 4).length
      unfold jq;rw[aI c];omega
  -- L with a z X one E more
  have i:∀(b:dB)(W:Nat),b.length<=65536->(f.k=2->b.length=(vs.length+7)/8)->(f.k≠2->W=(nI f.k f.w f.ix).toNat/\b.length=vs.length*W)->
      (([dF (aK f.k vs),b].length:Nat):Int)=kO f.k/\(∀j,j<[dF (aK f.k vs),b].length->(dD [dF (aK f.k vs),b] j).length<=65536)/\∀j,j<[dF (aK f.k vs),b].length->jq f.k f.w f.ix j vs.length (dD [dF (aK f.k vs),b] j).length<=(dD [dF (aK f.k vs),b] j).length:=by
    intro b W T U K;refine⟨by unfold kO;simp[*],two.2 ⟨?_,T⟩,two.2 ⟨?_,?_⟩⟩
    ·show(dF (aK f.k vs)).length<=_;omega
    · show jq f.k f.w f.ix 0 vs.length (dF (aK f.k vs)).length<=(dF (aK f.k vs)).length
      exact JT c C
    · show jq f.k f.w f.ix 1 vs.length b.length<=b.length
      unfold jq;rw[aC c,ay]
      by_cases r:f.k=2
      all_goals simp_all
  by_cases e:f.k=19
  · have s:(aK f.k vs).ends.length=vs.length:=by simp[aK,e]
    have V:=G.right.1.2.2.2.2.2.1 e;obtain⟨e1,A,_⟩:=CP (k:=f.ix) ag;rw[GR e];have l:=Ga (aK f.k vs).ends (wB f.ix);rw[s]at l;refine i _ (wB f.ix) ?_ (λq=>ag) λ_=>⟨?_,l⟩
    ·rw[l];rcases A with q|q|q|q <;> rw[q] <;> omega
    ·unfold nI;omega
  have O:fH f.k=true:=by
    simp only[not_or]at g p;simp[fH,D,g,m,p,c,e,o]
  obtain⟨y,N⟩:=aqg O vs
  by_cases r:f.k=2
  ·rw[BE r];have l:=aeS (aK f.k vs).dV;rw[y,cm]at l;refine i _ 0 (by rw[y,l];omega) (λ_=>by rw[y];exact l) λq=>absurd r q
  by_cases n:f.k=14
  · rw[BH n];have Z:=G.right.1.2.2.1 n;have l:(mh f.w.toNat (aK f.k vs).texts).length=vs.length*f.w.toNat:=by
      rw[Kz,N,cm];intro t M;rw[N]at M;obtain⟨u,R,rfl⟩:=lU.1 M;have x:=I.fit u R;cases B:u.au with
      |true=>rw[eL]at x;rw[(kz x B).1];exact .inl rfl
      |false=>exact .inr (((DH ⟨D,m,ag,ag,c,e,o⟩ x B).2.1 ag).2.2 n)
    refine i _ f.w.toNat ?_ (λq=>ag) λ_=>⟨by unfold nI;omega,l⟩
    rw[l];have:vs.length*f.w.toNat<=4096*16:=tN Q ag;omega
  rw[zP ag];obtain⟨e1,A,_⟩:=CP (k:=f.k) ag;have l:=Ga (aK f.k vs).dV (wB f.k);rw[y,cm]at l;refine i _ (wB f.k) ?_ (λq=>absurd q r) λ_=>⟨by unfold nI;omega,by rw[y];exact l⟩
  rw[y,l];rcases A with q|q|q|q <;> rw[q] <;> omega
abbrev ayY(c:aq):Prop:=∀us,c.can us->c.arr (c.dn (c.st us))
theorem akG(c:bC f){vs:aP}(d:f.can vs):AM f.val (f.dn (f.st vs))=vs.map aB.bq:=by
 unfold AM;rw[xZ]
 show(List.range vs.length).map _=_
 refine JI aA λi x a=>?_;grind[Option.map_eq_some_iff,BX,abu]
theorem ax2(b:bC f){vs:aP}(d:f.can vs)(o:(f.dn (f.st vs)).cs.length=sr f.k f.cs)(n:(f.dn (f.st vs)).ds.length=uO f.k)
  (r:∀(j:Nat)(c:bD),(f.dn (f.st vs)).cs[j]? =some c->(f.k=16->(vs.length:Int)*f.w<=c.len)/\(f.k=17->(vs.length:Int)<=c.len)) (h:VM f.k f.ix (f.dn (f.st vs)))
  (m:∀(j:Nat)(c:bD),(xA (f.dn (f.st vs)))[j]? =some c->∃g,(rX f.k f.cs)[j]? =some g/\g.arr c) (p:f.k=20->ajC (f.dn (f.st vs))):f.arr (f.dn (f.st vs)):=by
 have e:=(gk f vs).1 d;have u:=e.n4;obtain⟨t,b2,s⟩:=anx b d;have q:((f.dn (f.st vs)).off+(f.dn (f.st vs)).len).toNat=vs.length:=by rw[zO,xZ];omega
 rw[aq.Ut];refine⟨⟨b.ty,t,o,n,by rw[xZ];omega,by rw[zO];omega,by rw[TA];omega,?_,by rw[xZ];omega,by rw[zO];omega,ag,b2,λj a=>dM,λj c a=>?_,aqo b d⟩,h,λj c a=>?_,p,?_⟩
 ·rw[TA,xZ];grind
 ·rw[zO,xZ];grind
 ·obtain⟨g,i,l⟩:=m j c a;simp[*]
 ·have:=akG b d;rw[wG]at this;rw[this,RS];exact e.wt
theorem aoB(h:¬(k=12\/k=13\/k=15\/k=18\/k=19)):VM k ix d:=⟨λq=>absurd q ag,λq=>absurd q ag,λq=>absurd q ag⟩
theorem JR{g:aB->Nat}{vs:aP}(b:d.off=0)(e:dD d.aX 1=laidB (kj g vs) 4)(a:(vs.map g).sum<2^31){i:Nat}(c:i<=vs.length):uB d i=((vs.take i).map g).sum:=by
 simp_all[uB,cz,Zt]
theorem aqb{g:aB->Nat}{vs:aP}(b:d.off=0)(hl:d.len=vs.length)(h:dD d.aX 1=laidB (kj g vs) 4)(f:(vs.map g).sum<2^31)(p:Qm k d=(vs.map g).sum)
  (o:k=12->∀(i:Nat)v,vs[i]? =some v->jC k d.aX i=false->iD (((dD d.aX 2).drop (((vs.take i).map g).sum)).take (g v))=true):afZ k d:=by
 refine⟨λi m=>?_,λe i m n=>?_⟩
 ·have a:i<=vs.length:=by rw[hl]at m;omega
  rw[JR b h f a,p];refine⟨ag,by have:=Jk g vs i;omega,λj q=>?_⟩
  subst q;rw[JR b h f ag];have c:=bx (l:=vs) (i:=j) ag;rw[Fi g c];omega
 ·have a:i<vs.length:=by rw[hl]at m;omega
  have c:=bx a;rw[b]at n;have:=o e i _ c (by simpa using n)
  rw[JR b h f ag,JR b h f ag,Fi g c];have e1:((((vs.take i).map g).sum+g vs[i]:Nat):Int).toNat-((((vs.take i).map g).sum:Nat):Int).toNat=g vs[i]:=ag;rw[e1];exact this
theorem ax3(s:bC f)(C:f.k≠15/\f.k≠16/\f.k≠17/\f.k≠18/\f.k≠19/\f.k≠20):ayY f:=by
 intro vs y;have A:=(gk f vs).1 y;obtain⟨l,p,o,h,d,b⟩:=C;have ks:=s.ks;have r:=jv.1 (s.right.1.2.2.2.2.2.2.2.2.2.2 ⟨l,p,d,b,o,h⟩);have n:(f.dn (f.st vs)).cs=[]/\(f.dn (f.st vs)).ds=[]:=by
  by_cases B:f.k=1
  ·rw[GU B];exact⟨rfl,rfl⟩
  by_cases a:f.k=12\/f.k=13
  ·rw[wq a];exact⟨rfl,rfl⟩
  by_cases E:f.k=2
  ·rw[BE E];exact⟨rfl,rfl⟩
  by_cases w:f.k=14
  ·rw[BH w];exact⟨rfl,rfl⟩
  rw[zP ag];exact⟨rfl,rfl⟩
 refine ax2 s y ?_ ?_ (λj c m=>ag) ?_ (λj c m=>by unfold xA at m;grind) (λq=>absurd q b)
 ·rw[n.1,r];unfold sr;simp[*]
 ·rw[n.2];unfold uO;simp[*]
 ·by_cases a:f.k=12\/f.k=13
  ·have u:=A.tx a;have D:(aK f.k vs).ends=kj (λv=>v.text.length) vs:=by simp[aK,a]
   have z:(aK f.k vs).all=vs.flatMap aB.text:=by simp[aK,a]
   refine⟨λ_=>?_,λq=>absurd q ag,λq=>absurd q ag⟩;refine aqb (zO f _) (xZ f vs) (by rw[wq a,D];rfl) (by rw[B2]at u;omega) ?_ λe i v t x=>?_
   ·unfold Qm;rw[aC l,wq a,z]
    show((vs.flatMap aB.text).length:Int)=_
    simp
   ·rw[aba s t,sW ag h b]at x;rw[wq a,z]
    show iD (((vs.flatMap aB.text).drop _).take v.text.length)=true
    rw[Ky aB.text t];exact((DH ⟨ag,l,p,o,h,d,b⟩ (A.fit v (bL t)) x).2.1 ag).2.1 e
  ·exact aoB ag
def bW(f:aq)(sf sn sb:Sl)(rows ck bB:Nat)(ex:bg):List Value:=
 .string f.name::.bool f.au::ah f.k::ah f.w::ah f.id::ah f.ix::Sl.v sf::ah rows::ah ck::Sl.v sb::ah bB::
 .bool f.bZ.au::ah f.bZ.num::.string (bs f.bZ.text)::Sl.v sn::.bool f.small::ex
structure mJ(T:aQ)(h:Hp)(b:Nat)(ty:TypeId)(f:aq)(sf sn sb:Sl)(r:Rb)(ex:bg):Prop where
 k:aN h b (bW f sf sn sb r.rows r.ck r.bB ex).toArray ty
 o:Os T h sb (bv r.bits) Y8
 nT:¬T b
 len:r.bits.length=(r.rows+7)/8
 nl:r.ck<=r.rows
 rl:r.rows<=4096
section
variable {S:aQ} {h':Hp} {sf sn sb:Sl} {r:Rb} {ex:bg}
theorem mJ.lt(B:mJ T h b ty f sf sn sb r ex):b<h.size:=B.k.lt
theorem mJ.fr(B:mJ T h b ty f sf sn sb r ex)(t:Tn S h h')(G:¬S b)(z:∀c,T c->c<h.size->¬S c):mJ T h' b ty f sf sn sb r ex:=
 ⟨t.aZ B.k G,B.o.fr t z,B.nT,B.len,B.nl,B.rl⟩
theorem Un(x y:Nat)(c:x<2^8)(a:y<2^8):gH .or .u8 (x:Int) (y:Int)=((x|||y:Nat):Int):=by
 have e:(BitVec.ofInt 8 (x:Int)|||BitVec.ofInt 8 (y:Int)).toNat=x|||y:=by
  rw[BitVec.toNat_or,Ed,Ed,wL,wL,uY c,uY a]
 show IntKind.u8.wrap ((BitVec.ofInt 8 (x:Int)|||BitVec.ofInt 8 (y:Int)).toNat:Int)=_
 rw[e];simp only[IntKind.wrap,IntKind.signed,IntKind.bits];simp;omega
end
section
variable {sf sn sb qH:Sl} {n u w m:Nat} {ex:bg} {K:HP}
theorem BV.st7(k:aN h b (bW f sf sn sb n u w ex).toArray ty)(c:∀h',eD b h h'->aN h' b (bW f sf sn sb m u w ex).toArray ty->K h'):St h ⟨b,7,none⟩ (ah (m:Int)) K:=
 dc k (by simp[bW]) rfl λh' o a=>c h' o (by simpa[bW]using a)
theorem BV.st8(k:aN h b (bW f sf sn sb n u w ex).toArray ty)(c:∀h',eD b h h'->aN h' b (bW f sf sn sb n m w ex).toArray ty->K h'):St h ⟨b,8,none⟩ (ah (m:Int)) K:=
 dc k (by simp[bW]) rfl λh' o a=>c h' o (by simpa[bW]using a)
theorem BV.st9(k:aN h b (bW f sf sn sb n u w ex).toArray ty)(c:∀h',eD b h h'->aN h' b (bW f sf sn qH n u w ex).toArray ty->K h'):St h ⟨b,9,none⟩ (Sl.v qH) K:=
 dc k (by simp[bW]) rfl λh' o a=>c h' o (by simpa[bW]using a)
theorem BV.am1(k:aN h b (bW f sf sn sb n u w ex).toArray ty)(c:∀h',eD b h h'->aN h' b (bW f sf sn sb n u m ex).toArray ty->K h'):St h ⟨b,10,none⟩ (ah (m:Int)) K:=
 dc k (by simp[bW]) rfl λh' o a=>c h' o (by simpa[bW]using a)
theorem BV.ld7{K:Int->Prop}(k:aN h b (bW f sf sn sb n u w ex).toArray ty)(a:K (n:Int)):Ld h ⟨b,7,none⟩ mI K:=aj k (by simp[bW]) a
abbrev wF:=@BV.ld7
theorem BV.R3{K:Int->Prop}(k:aN h b (bW f sf sn sb n u w ex).toArray ty)(a:K (u:Int)):Ld h ⟨b,8,none⟩ mI K:=aj k (by simp[bW]) a
theorem BV.ld9{K:Sl->Prop}(k:aN h b (bW f sf sn sb n u w ex).toArray ty)(a:K sb):Ld h ⟨b,9,none⟩ Sl.v K:=aj k (by simp[bW]) a
abbrev yA:=@BV.ld9
theorem BV.R5{K:Int->Prop}(k:aN h b (bW f sf sn sb n u w ex).toArray ty)(a:K (w:Int)):Ld h ⟨b,10,none⟩ mI K:=aj k (by simp[bW]) a
end
section
variable {S:aQ} {h':Hp} {sf sn sb:Sl} {r:Rb} {ex:bg}
theorem aad{n u w:Nat}{K:cJ}(k:aN h b (bW f sf sn sb n u w ex).toArray ty)(c:n<4096)(a:∀h',eD b h h'->aN h' b (bW f sf sn sb (n+1) u w ex).toArray ty->K 0 h'):Mu K Kp (bz b) h:=by
 apply aA3;refine bK ?_;exact wF k (aW ag ag (BV.st7 k a))
theorem aae{n u w:Nat}{bits:dB}{K:cJ}(k:aN h b (bW f sf sn sb n u w ex).toArray ty)(o:Os T h sb (bv bits) Y8)(nT:¬T b)(hl:bits.length=n/8+1)(hn:n<4096)(hu:u<=n)
  (hk:∀h',Tn (λc=>c=b\/T c) h h'->aN h' b (bW f sf sn sb (n+1) (if au then u+1 else u) w ex).toArray ty->Os T h' sb (bv (if au then bits else oW bits n)) Y8->
   (∀{s0:Sl}{l0:bg},Old T h sb s0 l0 Y8->Old T h' sb s0 l0 Y8)->K 0 h'):Mv K Kp (bz b) au h:=by
 refine aA4 (aE (λc=>?_) λc=>?_)
 ·subst c;refine bK ?_;refine BV.R3 k (aW ag ag (BV.st8 k λh1 o1 k1=>aad k1 hn λh2 o2 k2=>?_));have t:=o1.fr.trans o2.fr;exact hk h2 (t.mono λd hd _=>.inl hd) k2 (o.fr t λc q _ e=>nT (e▸q)) λq=>q.fr t λc q _ e=>nT (e▸q)
 ·subst c;refine bK ?_;have e1:Int.tdiv (n:Int) 8=((n/8:Nat):Int):=rfl;have e2:Int.tmod (n:Int) 8=((n%8:Nat):Int):=rfl;have Pf:sb.n=n/8+1:=by rw[o.n,fM,hl]
  obtain⟨bb,tb,ow⟩:∃bb,T bb/\gU h sb bb (bv bits) Y8:=by
   rcases o with⟨rfl,_⟩|q
   ·simp[Sl.nil]at Pf
   ·exact q
  have hb:=(bits.getD (n/8) 0).toNat_lt;have hp:2^(n%8)<2^8:=LZ aY (yM _ aY);have hg:bits[n/8]? =some (bits.getD (n/8) 0):=by rw[gL];simp[hl]
  refine yA k (wF k (oP aY ?_));rw[e1];refine aW ag ag (ow.vY ag ag (ow.ld (x:=((bits.getD (n/8) 0).toNat:Int)) ag (by grind[bv]) ?_))
  refine wF k (oP aY ?_);rw[e2];refine yS (js ag ?_);have em:min (Int.toNat ((n%8:Nat):Int)) (IntKind.bits .u8)=n%8:=by
   rw[fR];have:=yM n (show 8>0 by decide);show min _ 8=_;omega
  rw[em];have es:(1:Int)*2^(n%8)=((2^(n%8):Nat):Int):=by rw[Int.one_mul];norm_cast
  rw[es];refine pQ rfl hp (yS ?_);rw[Un _ _ hb hp];apply ow.vY ag ag;have ei:(((n/8:Nat):Int)).toNat=n/8:=ag;have eW:=HJ hb hp;refine Os.Jy (.inr ⟨bb,tb,ow⟩) ag ⟨bb,ow.1,by rw[ei,Pf];simp⟩ rfl λh1 t1 o1 q1=>aad (t1.aZ k nT) hn λh2 o2 k2=>?_
  have t2:=o2.fr;refine hk h2 ((t1.mono λd hd _=>.inr hd).trans (t2.mono λd hd _=>.inl hd)) k2 ?_ λq=>(q1 q).fr t2 λc q _ e=>nT (e▸q);have e3:(bv bits).set (sb.n-1) (.int .u8 (((bits.getD (n/8) 0).toNat|||2^(n%8):Nat):Int))=bv (oW bits n):=by
   rw[Pf,Nat.add_sub_cancel];simp only[bv,oW,List.map_set];rw[tM,uY eW]
  rw[e3]at o1;exact o1.fr t2 λc q _ e=>nT (e▸q)
theorem aoE{K:cJ}(B:mJ T h b ty f sf sn sb r ex)(hT:∀c,T c->c<h.size)(p:4096<=r.rows->K 3 h)
  (H:r.rows<4096->∀qH h',Tn (λc=>c=b\/T c) h h'->mJ (Or T h) h' b ty f sf sn qH (Rb.row au r) ex->(∀{F:Sl}{G:bg},Old T h sb F G Y8->Old (Or T h) h' qH F G Y8)->K 0 h'):oO (bz b) au h K Kp:=by
 have bl:=B.lt;have hl:=B.len;have nl:=B.nl;apply aEh;refine bK ?_;refine wF B.k (aE (λc=>p ?_) λc=>?_)
 ·have c:=aM c;omega
 ·have c:=aM c;have s:r.rows<4096:=ag;refine wF B.k (oP aY ?_);rw[show Int.tmod _ 8=((r.rows%8:Nat):Int)from rfl];refine yS (aE (λl=>?_) λl=>?_)
  ·have l:=aM l;have j:r.rows%8=0:=ag;have U:sb.n=r.rows/8:=by rw[B.o.n,fM,hl];omega
   refine yA B.k (aG λW J e1 a Q _=>(B.o.gr a).ap rfl rfl (iM Q rfl) ag ag λE R D O L=>?_);have g:¬Or T J b:=λq=>q.elim B.nT λq=>by have:=a.1;omega
   refine BV.st9 (D.aZ (B.k.ai a) B.nT) λI N P=>?_;have v:=N.fr;have C:Os (Or T J) I E (bv (r.bits++[0])) Y8:=by
    rw[uT];exact O.fr v λc q _ e=>g (e▸q)
   refine aae P C g (by simp[hl];omega) s nl λA t z y x=>H s E A ?_ ⟨?_,?_,?_,?_,?_,?_⟩ λq=>?_
   ·refine((bh a).trans (D.mono λd i _=>.inr i)).trans' ((v.mono λd i _=>.inl i).trans t) λd i V=>?_;rcases i with q|q|q
    ·exact .inl q
    ·exact .inr q
    ·have:=a.1;omega
   ·simp only[Rb.row];exact z
   ·simp only[Rb.row,aI j];exact y.mono λc q=>q.imp id λq=>by have:=a.1;omega
   ·exact λq=>q.elim B.nT λq=>ag
   ·simp only[Rb.row,aI j];grind[C2]
   ·simp only[Rb.row];split <;> omega
   ·show r.rows+1<=4096;omega
   ·have M:=L (q.fr (bh a) λ_ _ _=>id);exact(x (M.fr v λc q _ e=>g (e▸q))).mono λc q=>q.imp id λq=>by have:=a.1;omega
  ·have l:=aM l;have j:¬r.rows%8=0:=ag;refine aae B.k B.o B.nT ag s nl λA t z y x=>H s sb A t ⟨?_,?_,?_,?_,?_,?_⟩ λq=>(x q).mono λc q=>.inl q
   ·simp only[Rb.row];exact z
   ·simp only[Rb.row,aC j];exact y.mono λc q=>.inl q
   ·exact λq=>q.elim B.nT λq=>ag
   ·simp only[Rb.row,aC j];grind[C2]
   ·simp only[Rb.row];split <;> omega
   ·show r.rows+1<=4096;omega
theorem akT{x:Int}{n:Nat}{K:cJ}(B:mJ T h b ty f sf sn sb r ex)(i:x=n)(a:r.bB+n<2^62)
  (j:∀h',eD b h h'->mJ T h' b ty f sf sn sb {r with bB:=r.bB+n} ex->K (if 4194304<r.bB+n then 3 else 0) h'):nC (bz b) x h K Kp:=by
 subst i;apply aEg;refine bK ?_;refine BV.R5 B.k (aW ag ag (BV.am1 B.k λa d g=>BV.R5 g ?_));have l:mJ T a b ty f sf sn sb {r with bB:=r.bB+n} ex:=⟨g,B.o.fr d.fr λc q _ e=>B.nT (e▸q),B.nT,B.len,B.nl,B.rl⟩
 have:=j a d l;refine cL (λc=>?_) λc=>?_
 ·grind
 ·grind
theorem axG{K:cJ}(B:mJ T h b ty f sf sn sb r ex)(a:K (r.rows:Int) h):ajo (bz b) h K Kp:=by
 apply aEp;refine bK ?_;exact wF B.k a
theorem axq{K:cJ}(B:mJ T h b ty f sf sn sb r ex)(a:K (r.bB:Int) h):ajl (bz b) h K Kp:=by
 apply aEl;refine bK ?_;exact BV.R5 B.k a
end
section
variable {sf sn sb qH:Sl} {n u w n' u' w':Nat} {ex:bg}
theorem BV.all{K:ByteArray->Bool->Int->Int->Int->Int->Sl->Int->Int->Sl->Int->Bool->Int->ByteArray->Sl->Bool->Prop}(k:aN h b (bW f sf sn sb n u w ex).toArray ty)
  (a:K f.name f.au f.k f.w f.id f.ix sf n u sb w f.bZ.au f.bZ.num (bs f.bZ.text) sn f.small):oc h (aJ b) K:=by
 unfold oc;simp only[bw,cz];refine aj k (by simp[bW]) (aj k (by simp[bW]) (aj k (by simp[bW]) (aj k (by simp[bW]) (aj k (by simp[bW]) (aj k (by simp[bW]) (aj k (by simp[bW]) (aj k (by simp[bW]) (aj k (by simp[bW]) (aj k (by simp[bW]) (aj k (by simp[bW]) (aj k (by simp[bW]) (aj k (by simp[bW]) (aj k (by simp[bW]) (aj k (by simp[bW]) (aj k (by simp[bW]) a)))))))))))))))
theorem BV.put{K:HP}(k:aN h b (bW f sf sn sb n u w ex).toArray ty)(g:∀h',eD b h h'->aN h' b (bW f sf sn qH n' u' w' ex).toArray ty->K h'):rC h (aJ b) f.name f.au f.k f.w f.id f.ix sf n' u' qH w' f.bZ.au f.bZ.num (bs f.bZ.text) sn f.small K:=by
 refine rC.l (wW _ k (by simp[bW]) (by simp[one,Sl.v]) λh' cs d c m a=>g h' d ?_)
 have:cs=(bW f sf sn qH n' u' w' ex).toArray:=by
  apply Al;intro i;rw[a i,qZ,qZ];have e:∀n u w sb,bW f sf sn sb n u w ex=bW f sf sn sb n u w []++ex:=λ_ _ _ _=>rfl;rw[e,e n' u' w' qH];have l:∀n u w sb,(bW f sf sn sb n u w []).length=16:=λ_ _ _ _=>rfl
  by_cases j:i<16
  ·rw[aI cj,iQ dM]
   simp[bW]
  ·simp_all[aC,cj,gm]
 grind
end
structure qD(M:aQ)(h:Hp)(b:Nat)(F:Value)(f:aq)(sf sn rO:Sl)(r0:Rb):Prop where
 m:∃b3 b1 b4 x,M b3/\M b1/\M b4/\F=.func (.func 188) #[] #[bI b3,bI b1,bI b4]/\
  aN h b3 (bW f sf sn rO r0.rows r0.ck r0.bB []).toArray Mf/\aN h b1 #[bI b] afm/\aN h b4 #[.int .u8 x] Y8/\(0<rO.n->(bv r0.bits)[rO.n-1]? =some (.int .u8 x))
section
variable {M S:aQ} {h':Hp} {sf sn sb rO:Sl} {r r0:Rb} {ex:bg} {F:Value}
theorem qD.fr(m:qD M h b F f sf sn rO r0)(t:Tn S h h')(z:∀c,M c->c<h.size->¬S c):qD M h' b F f sf sn rO r0:=by
 obtain⟨p,q,o,x,d,g,a,e,j,k,i,l⟩:=m;exact⟨p,q,o,x,d,g,a,e,t.aZ j (z _ d j.lt),t.aZ k (z _ g k.lt),t.aZ i (z _ a i.lt),l⟩
theorem qD.mono(m:qD M h b F f sf sn rO r0)(j:∀c,M c->D c):qD D h b F f sf sn rO r0:=by
 obtain⟨k,l,i,x,d,g,a,e⟩:=m;exact⟨k,l,i,x,j _ d,j _ g,j _ a,e⟩
theorem aqU{K:de}(B:mJ T h b ty f sf sn sb r ex)(I:∀F h',az h h'->one F=true->qD (Nw h) h' b F f sf sn sb r->K F h'):uj (bz b) h K Kp:=by
 refine aEi (aG λj X e1 C z _=>aj z rfl ?_);have hl:=B.len;have rl:=B.rl;have Z:sb.n=r.bits.length:=by rw[B.o.n,fM]
 refine bK ?_;have Y:=B.fr (bh C) id λ_ _ _=>id;refine BV.all Y.k (aG λi h2 e2 O p _=>rC.b p rfl λJ Q p=>aG λg h4 e4 L U _=>dc U aA rfl λs P H=>?_);have a':=p.lt;have N:=bE O Q ag;have A:=bE L P ag;have G:=ak (ak C N) A;have a:=(z.ai N).ai A;have l:=p.ai A;have t:=B.fr (bh G) id λ_ _ _=>id;apply aj a rfl;refine bK ?_;have d:one (.func (.func 188) #[] #[(bI i),(bI j),(bI g)])=true:=rfl;refine yA t.k (aE (λc=>?_) λc=>?_)
 ·have c:=aM c;apply aj a rfl;refine bK ?_;refine yA t.k (aj a rfl ?_);refine bK ?_;refine yA t.k (aW ag ag ?_);obtain⟨D,tb,E⟩:∃D,T D/\gU s sb D _ Y8:=by
   rcases t.o with⟨e,_⟩|q
   ·rw[e]at c;simp[Sl.nil]at c
   ·exact q
  obtain⟨y,V⟩:∃y,r.bits[sb.n-1]? =some y:=⟨_,bx ag⟩;have m:(bv r.bits)[sb.n-1]? =some (.int .u8 (y.toNat:Int)):=by unfold bv;rw[fh,V];rfl
  refine E.vY ag ag (E.ld ag (by rw[<-m];simp) (dc H aA rfl λW v R=>I _ W (bE G v ag) d ⟨i,j,g,(y.toNat:Int),?_,?_,?_,rfl,v.aZ l ag,v.aZ a ag,by simpa using R,λ_=>m⟩))
  all_goals omega
 ·have c:=aM c;refine I _ s G d ⟨i,j,g,0,?_,?_,?_,rfl,l,a,by simpa using H,λq=>ag⟩
  all_goals omega
theorem axc{p:Addr}{K:HP}(H:ajk c0 p q h K Kp):cX aD (.func (.func 188) #[] #[dw c0,dw p,dw q]) [] h (λr a=>r=.tuple #[]/\K a) Kp:=by
 unfold cX;exact cast aV H
theorem axT{K:HP}(m:qD M h b F f sf sn rO r0)(k:aN h b (bW f sf sn sb r.rows r.ck r.bB ex).toArray ty)(o:Old T h sb rO (bv r0.bits) Y8)(s:¬T b)(B:∀c,M c->¬T c/\c≠b)
  (G:r0.bits.length=(r0.rows+7)/8) (V:r0.ck<=r0.rows) (U:r0.rows<=4096)
  (D:∀h',Tn (λc=>c=b\/T c) h h'->mJ T h' b ty f sf sn rO r0 ex->K h'):cX aD F [] h (λr G=>r=.tuple #[]/\K G) Kp:=by
 obtain⟨X,Y,W,x,R,J,I,rfl,N,C,L,O⟩:=m;refine axc (aEf (aj C rfl (uV N ?_)));refine bK ?_;have Q:rO.n=r0.bits.length:=by
  rcases o.fG with⟨e,P⟩|⟨_,_,_,_,e,_⟩
  ·have:=tP List.length P;rw[fM]at this;rw[e,this];rfl
  ·rw[e,fM]
 refine BV.put k λi y j=>?_;have t:=y.fr;have g:=y.aZ C (B _ J).2;have v:=o.fr t λc q _ e=>s (e▸q);apply aj g rfl;refine bK ?_;refine yA j (aE (λc=>?_) λc=>?_)
 ·have c:=aM c;apply aj g rfl;refine bK ?_;refine yA j (aj g rfl ?_);refine bK ?_;refine yA j (aW ag ag (aj (y.aZ L (B _ I).2) rfl ?_));obtain⟨p,E⟩:∃p,rO.a=some (aJ p):=by
   rcases v.fG with⟨e,_⟩|⟨p,_,_,e,_⟩
   all_goals grind
  unfold Ix;rw[E];refine⟨ag,ag,?_⟩
  rw[bw];refine v.back ag (O ag) ⟨p,E,?_⟩ rfl λz A H=>D z ((t.mono λd l _=>.inl l).trans (A.mono λd l _=>.inr l)) ⟨A.aZ j s,H,s,ag,ag,ag⟩
  simp
 ·have c:=aM c;exact D i (t.mono λd l _=>.inl l) ⟨j,v.axU ag,s,ag,ag,ag⟩
end
section
variable {h0:Hp} {sf sn sb:Sl} {r:Rb} {ex:bg}
theorem qo{s:Sl}{K:Int->Int->Int->Sl->Sl->Sl->HP}(B:mJ T h b ty f sf sn sb r ex)(j:∀a,az h a->K r.rows 0 r.ck s Sl.nil Sl.nil a):iB (bz b) s h K Kp:=by
 refine aEj (aG λm l e1 c g _=>?_);refine bK ?_;have k:=B.k.ai c;refine wF k (BV.R3 k (jI g rfl λi d e=>gl e (j i (bE c d ag))))
theorem LL{s:Sl}{l:dB}{K:Sl->HP}(o:Os T h s (bv l) Y8)(hl:l.length<=70000)(i:∀u g,az h g->dX (Nw h) g u (bv l)->K u g):EL s h K Kp:=by
 refine aDo (aE (λc=>?_) λc=>?_)
 ·rcases o with⟨rfl,e⟩|⟨b,_,o⟩
  ·rw[e]at i;exact i Sl.nil h (cK h) ⟨yF h,λq=>absurd rfl q⟩
  ·rw[o.1]at c;cases c
 ·refine aG λy x e1 p k _=>?_;have v:=(o.gr p).sv;have m:=v.1;rw[fM]at m;refine(eT.start k (bP y)).ap ag rfl (by simp[fM,m]) (aaX _) (axr l) (by rw[RT];exact v.A7 v.na) cj cj λt g f _ w=>i t g ?_ (by subst e1;exact eT.lp w)
  exact((bh p:Tn No h x).trans' f λd j z=>by
   obtain⟨a,n,j⟩:=j;grind).ai
theorem wD{K:Sl->HP}(B:mJ T h b ty f sf sn sb r ex)(a:∀u d,az h d->dX (Nw h) d u (bv (dF r))->K u d):uh (bz b) h K Kp:=by
 have hl:=B.len;have g:=B.rl;apply aEb;refine bK ?_;refine BV.R3 B.k (aE (λc=>?_) λc=>?_)
 ·have c:=aM c;have e:dF r=[]:=by unfold dF;rw[dR]
  rw[e]at a;exact a Sl.nil h (cK h) ⟨yF h,λq=>absurd rfl q⟩
 ·have c:=aM c;have e:dF r=r.bits:=by unfold dF;rw[ay]
  rw[e]at a;exact yA B.k (LL B.o ag a)
structure Gb(h0 h:Hp)(t:Sl)(out:dB):Prop where
 g:az h0 h
 o:eT h0.size 1 h t ((bv out).map λv=>[v]) Y8
theorem Gb.n{out:dB}(x:Gb h0 h t out):t.n=out.length:=by rw[x.o.n];simp[bv]
theorem Gb.yy{out:dB}{y:UInt8}{v:Int}{K:Sl->HP}(x:Gb h0 h t out)(q:v=y.toNat)(hl:out.length<=1000000)(s:∀e k,Gb h0 k e (out++[y])->K e k):aH h #[.int .u8 v] Y8 λa j=>Ap j Y8 #[(.int .u8 0)] 1 1 t 1 (rd j (some a) (1*1)) λe w=>K e w:=by
 subst q;have A:=x.n;have B:=x.g.1;refine aG λC j e1 i p _=>(x.o.ai i).ap ag rfl (new:=[[.int .u8 (y.toNat:Int)]]) rfl (λr c=>bU) (λr c=>by simp at c;subst c;simp[one]) (iM p rfl) ag ag λl k f _ m=>s l k ⟨?_,by simpa[bv]using m⟩
 exact((bh (ak x.g i):Tn No h0 j).trans' f λd u z=>by have:=((x.o.ai i).at u).1;omega).ai
theorem aeG{x:Nat}{X:Int->Prop}(hi:i<8)(hk:X ((UInt8.ofNat (x/2^(8*i))).toNat:Int)):aO ((8:Int)*(i:Int)) λt27=>Nn t27<|Lt (Int.fdiv (x:Int) (2^(min (Int.toNat t27) (IntKind.bits .u64)))) λt28=>Wr .u8 t28 X:=by
 refine aW ag ag (js ag (yS ?_));have e1:min (Int.toNat ((8:Int)*(i:Int))) (IntKind.bits .u64)=8*i:=by
  have:Int.toNat ((8:Int)*(i:Int))=8*i:=ag;rw[this];show min _ 64=_;omega
 rw[e1];have e2:Int.fdiv (x:Int) (2^(8*i))=((x/2^(8*i):Nat):Int):=by
  rw[Ec _ (HK (Ea aY))];norm_cast
 grind[Ch,IntKind.wrap_u8,UInt8.toNat_ofNat']
theorem abH(x n:Nat):iU x (n+1)=iU x n++[UInt8.ofNat (x/2^(8*n))]:=by simp[iU,uX]
end
section
variable {h0:Hp}
theorem Gb.start{c:Int}{K:Sl->HP}(h0:0<=c)(f:c<=1000000)(d:∀t a,Gb h a t []->K t a):dO h Y8 #[(.int .u8 0)] 1 1 0 c K:=by
 refine⟨Ej _,h0,ag,ag,d _ _ ⟨qW h _,λr b=>by simp[bv]at b,by simp[bv],.inr ⟨h.size,bP _,aA,rfl,by simp[bv],zs #[.int .u8 0] (c.toNat*1),by simp[aN],aA,by simp[zs],λi e=>by simp at e⟩⟩⟩
theorem Gb.lp{out:dB}(x:Gb h0 h t out):dX (Nw h0) h t (bv out):=eT.lp x.o
theorem abM{l:cG}{m n:Nat}(a:l[i]? =some m):laidB (l.take (i+1)) n=laidB (l.take i) n++iU m n:=by
 simp[laidB,L3,a]
theorem abN(l:cG)(n:Nat):(laidB l n).length=l.length*n:=by
 induction l with
 |nil=>simp[laidB]
 |cons x b a=>simp only[laidB,List.flatMap_cons,ij,iq]at a ⊢;rw[a,Bi,rf];omega
theorem xJ{s:Sl}{l:cG}{w:Nat}{K:Sl->HP}(o:Os D h s (l.map λx:Nat=>ah (x:Int)) Y6)(hl:l.length<=70000)(A:w<=8)(C:∀x∈l,x<2^63)
  (G:∀t m,Gb h m t (laidB l w)->K t m):qC s (w:Int) h K Kp:=by
 have E:=o.n;rw[cm]at E;have F:(w:Int)*(s.n:Int)=((w*s.n:Nat):Int):=by norm_cast
 have I:w*s.n<=8*70000:=tN A ag;apply aEa;rw[F];refine aW ag ag (Gb.start ag ag λM P a=>azs (λt x f=>∃i:Nat,x=i/\i<=l.length/\Gb h f t (laidB (l.take i) w)) (λ_ x _=>l.length-x.toNat) ⟨0,rfl,ag,by simpa[laidB]using a⟩ ?_)
 rintro t x f ⟨i,rfl,O,a⟩ R hN;refine cL (λc=>?_) λc=>?_
 ·have d:i<l.length:=ag;have j:=bx d;have r:=C _ (kE d);generalize l[i]=y at j r;obtain⟨p,L,z⟩:∃p,D p/\gU f s p (l.map λx:Nat=>ah (x:Int)) Y6:=by
   rcases o.gr a.g with⟨e,_⟩|q
   all_goals simp_all
  refine z.vY ag ag (z.ld ag (x:=(y:Int)) (by simp[j]) ?_)
  have H:(laidB (l.take i) w).length<=8*70000:=by rw[abN,kP];exact iY (tN (Nat.min_le_left _ _) A) ag
  apply azr (λt x B=>∃k:Nat,x=k/\k<=w/\Gb h B t (laidB (l.take i) w++iU y k)) (λ_ x _=>w-x.toNat) ⟨0,rfl,ag,by simpa[iU]using a⟩
  rintro t x B ⟨k,rfl,J,a⟩ Q u;refine cL (λb=>?_) λb=>?_
  ·refine pQ rfl (by show y<2^64;omega) (aeG ag (a.yy rfl (by rw[ij,Bi];omega) λN m v=>aW ag ag (u _ _ _ ⟨k+1,ag,ag,by grind[abH,List.append_assoc]⟩ ag)))
  ·obtain rfl:k=w:=ag;exact aW ag ag (hN _ _ _ ⟨i+1,ag,ag,by rw[abM j];exact a⟩ ag)
 ·obtain rfl:i=l.length:=ag;rw[mz]at a;exact G t f a
theorem arN{s:Sl}{l:cG}{w:Nat}{K:Sl->HP}(o:Os D h s (l.map λx:Nat=>.int .u64 (x:Int)) pP)(hl:l.length<=70000)(A:w<=8)(C:∀x∈l,x<2^64)
  (G:∀t m,Gb h m t (laidB l w)->K t m):Xj s (w:Int) h K Kp:=by
 have E:=o.n;rw[cm]at E;have F:(w:Int)*(s.n:Int)=((w*s.n:Nat):Int):=by norm_cast
 have I:w*s.n<=8*70000:=tN A ag;apply aDt;rw[F];refine aW ag ag (Gb.start ag ag λM P a=>ay8 (λt x f=>∃i:Nat,x=i/\i<=l.length/\Gb h f t (laidB (l.take i) w)) (λ_ x _=>l.length-x.toNat) ⟨0,rfl,ag,by simpa[laidB]using a⟩ ?_)
 rintro t x f ⟨i,rfl,O,a⟩ R hN;refine cL (λc=>?_) λc=>?_
 ·have d:i<l.length:=ag;have j:=bx d;have r:=C _ (kE d);generalize l[i]=y at j r;obtain⟨p,L,z⟩:∃p,D p/\gU f s p (l.map λx:Nat=>.int .u64 (x:Int)) pP:=by
   rcases o.gr a.g with⟨e,_⟩|q
   all_goals simp_all
  refine z.vY ag ag (z.ld ag (x:=(y:Int)) (by simp[j]) ?_)
  have H:(laidB (l.take i) w).length<=8*70000:=by rw[abN,kP];exact iY (tN (Nat.min_le_left _ _) A) ag
  apply ay7 (λt x B=>∃k:Nat,x=k/\k<=w/\Gb h B t (laidB (l.take i) w++iU y k)) (λ_ x _=>w-x.toNat) ⟨0,rfl,ag,by simpa[iU]using a⟩
  rintro t x B ⟨k,rfl,J,a⟩ Q u;refine cL (λb=>?_) λb=>?_
  ·refine aeG ag (a.yy rfl (by rw[ij,Bi];omega) λN m v=>aW ag ag (u _ _ _ ⟨k+1,ag,ag,by grind[abH,List.append_assoc]⟩ ag))
  ·obtain rfl:k=w:=ag;exact aW ag ag (hN _ _ _ ⟨i+1,ag,ag,by rw[abM j];exact a⟩ ag)
 ·obtain rfl:i=l.length:=ag;rw[mz]at a;exact G t f a
end
abbrev mY(v:Value)(x0:Bool)(x1:Int)(x2:ff)(x3:Sl)(h:Hp)(K:cJ)(Kp:PK):Prop:=
  fE aD v "colonnade/build.take" [.agg #[.bool x0,ah x1,.string x2,Sl.v x3]] h (λr h'=>∃t:Int,r=ah t/\K t h') Kp
abbrev mG(v:Value)(h:Hp)(K:cJ)(Kp:PK):Prop:=fE aD v "colonnade/build.zero" [] h (λr h'=>∃t:Int,r=ah t/\K t h') Kp
abbrev kV(v:Value)(h:Hp)(K:de)(Kp:PK):Prop:=fE aD v "colonnade/build.mark" [] h (λr h'=>∃t:Value,r=t/\K t h') Kp
abbrev ajI(v:Value)(h:Hp)(K:cJ)(Kp:PK):Prop:=fE aD v "colonnade/build.count" [] h (λr h'=>∃t:Int,r=ah t/\K t h') Kp
abbrev ajH(v:Value)(h:Hp)(K:cJ)(Kp:PK):Prop:=fE aD v "colonnade/build.weight" [] h (λr h'=>∃t:Int,r=ah t/\K t h') Kp
abbrev mH(v:Value)(h:Hp)(K:Int->Int->Int->Sl->Sl->Sl->HP)(Kp:PK):Prop:=
  fE aD v "colonnade/build.done" [] h (λr h'=>∃t0:Int,∃t1:Int,∃t2:Int,∃t3:Sl,∃t4:Sl,∃t5:Sl,r=.agg #[ah t0,ah t1,ah t2,Sl.v t3,Sl.v t4,Sl.v t5]/\K t0 t1 t2 t3 t4 t5 h') Kp
theorem gX{g:FuncId}{name:String}{v:Value}{K:de}(d:sX aD e name=some (g,true))(c:(C6 aD e true&&jV aD g)=true)
  (a:dP aD g (v::C) h K Kp):fE aD (.iface e v) name C h K Kp:=by
 unfold fE;grind
theorem adW{g:FuncId}{name:String}{K:de}(f:sX aD e name=none)(d:Dq aD e name=some (g,0))(c:jV aD g=true)
  (a:dP aD g (bI b::C) h K Kp):fE aD (.iface e (bI b)) name C h K Kp:=by
 unfold fE;simp only[f,d,c];exact a
section
theorem avI{x:Int}{s:Sl}{K:cJ}(H:Od (bz b) B x a s h K Kp):mY (.iface pO (bI b)) B x a s h K Kp:=gX aV aV H
theorem avz{K:cJ}(H:Xs (bz b) h K Kp):mG (.iface pO (bI b)) h K Kp:=gX aV aV H
theorem avR{K:de}(H:ajm (bz b) h K Kp):kV (.iface pO (bI b)) h K Kp:=gX aV aV H
theorem av0{K:Int->Int->Int->Sl->Sl->Sl->HP}(H:ajn (bz b) h K Kp):mH (.iface pO (bI b)) h K Kp:=gX aV aV H
theorem avD{x:Int}{s:Sl}{K:cJ}(H:Ob (bz b) B x a s h K Kp):mY (.iface pN (bI b)) B x a s h K Kp:=gX aV aV H
theorem avu{K:cJ}(H:Xr (bz b) h K Kp):mG (.iface pN (bI b)) h K Kp:=gX aV aV H
theorem avM{K:de}(H:Oc (bz b) h K Kp):kV (.iface pN (bI b)) h K Kp:=gX aV aV H
theorem avV{K:Int->Int->Int->Sl->Sl->Sl->HP}(H:ajj (bz b) h K Kp):mH (.iface pN (bI b)) h K Kp:=gX aV aV H
theorem avJ{x:Int}{s:Sl}{K:cJ}(H:N9 (bz b) B x a s h K Kp):mY (.iface pM (bI b)) B x a s h K Kp:=gX aV aV H
theorem avA{K:cJ}(H:Xq (bz b) h K Kp):mG (.iface pM (bI b)) h K Kp:=gX aV aV H
theorem avS{K:de}(H:Oa (bz b) h K Kp):kV (.iface pM (bI b)) h K Kp:=gX aV aV H
theorem av1{K:Int->Int->Int->Sl->Sl->Sl->HP}(H:ajh (bz b) h K Kp):mH (.iface pM (bI b)) h K Kp:=gX aV aV H
theorem avF{x:Int}{s:Sl}{K:cJ}(H:N7 (bz b) B x a s h K Kp):mY (.iface oK (bI b)) B x a s h K Kp:=gX aV aV H
theorem avw{K:cJ}(H:Xp (bz b) h K Kp):mG (.iface oK (bI b)) h K Kp:=gX aV aV H
theorem avO{K:de}(H:N8 (bz b) h K Kp):kV (.iface oK (bI b)) h K Kp:=gX aV aV H
theorem avX{K:Int->Int->Int->Sl->Sl->Sl->HP}(H:ajf (bz b) h K Kp):mH (.iface oK (bI b)) h K Kp:=gX aV aV H
theorem avE{x:Int}{s:Sl}{K:cJ}(H:N5 (bz b) B x a s h K Kp):mY (.iface oJ (bI b)) B x a s h K Kp:=gX aV aV H
theorem avv{K:cJ}(H:Xo (bz b) h K Kp):mG (.iface oJ (bI b)) h K Kp:=gX aV aV H
theorem avN{K:de}(H:N6 (bz b) h K Kp):kV (.iface oJ (bI b)) h K Kp:=gX aV aV H
theorem avW{K:Int->Int->Int->Sl->Sl->Sl->HP}(H:ajd (bz b) h K Kp):mH (.iface oJ (bI b)) h K Kp:=gX aV aV H
theorem avL{x:Int}{s:Sl}{K:cJ}(H:NY (bz b) B x a s h K Kp):mY (.iface qw (bI b)) B x a s h K Kp:=gX aV aV H
theorem avC{K:cJ}(H:Xn (bz b) h K Kp):mG (.iface qw (bI b)) h K Kp:=gX aV aV H
theorem avU{K:de}(H:NZ (bz b) h K Kp):kV (.iface qw (bI b)) h K Kp:=gX aV aV H
theorem av3{K:Int->Int->Int->Sl->Sl->Sl->HP}(H:aja (bz b) h K Kp):mH (.iface qw (bI b)) h K Kp:=gX aV aV H
theorem avK{x:Int}{s:Sl}{K:cJ}(H:NV (bz b) B x a s h K Kp):mY (.iface qv (bI b)) B x a s h K Kp:=gX aV aV H
theorem avB{K:cJ}(H:Xm (bz b) h K Kp):mG (.iface qv (bI b)) h K Kp:=gX aV aV H
theorem avT{K:de}(H:NW (bz b) h K Kp):kV (.iface qv (bI b)) h K Kp:=gX aV aV H
theorem av2{K:Int->Int->Int->Sl->Sl->Sl->HP}(H:ai7 (bz b) h K Kp):mH (.iface qv (bI b)) h K Kp:=gX aV aV H
theorem avG{x:Int}{s:Sl}{K:cJ}(H:NR (bz b) B x a s h K Kp):mY (.iface pL (bI b)) B x a s h K Kp:=gX aV aV H
theorem avx{K:cJ}(H:Xk (bz b) h K Kp):mG (.iface pL (bI b)) h K Kp:=gX aV aV H
theorem avP{K:de}(H:NS (bz b) h K Kp):kV (.iface pL (bI b)) h K Kp:=gX aV aV H
theorem avY{K:Int->Int->Int->Sl->Sl->Sl->HP}(H:ai4 (bz b) h K Kp):mH (.iface pL (bI b)) h K Kp:=gX aV aV H
theorem avH{x:Int}{s:Sl}{K:cJ}(H:NP (bz b) B x a s h K Kp):mY (.iface pK (bI b)) B x a s h K Kp:=gX aV aV H
theorem avy{K:cJ}(H:ai1 (bz b) h K Kp):mG (.iface pK (bI b)) h K Kp:=gX aV aV H
theorem avQ{K:de}(H:NQ (bz b) h K Kp):kV (.iface pK (bI b)) h K Kp:=gX aV aV H
theorem avZ{K:Int->Int->Int->Sl->Sl->Sl->HP}(H:ai2 (bz b) h K Kp):mH (.iface pK (bI b)) h K Kp:=gX aV aV H
end
abbrev Tr(T:aQ)(h h':Hp):Nat->Prop:=λc=>T c\/(h.size<=c/\c<h'.size)
structure iR(T:aQ)(h:Hp)(b:Nat)(Ls:List (Nat->Prop)):Prop where
 tb:T b
 lt:∀c,T c->c<h.size
 sub:∀L∈Ls,∀c,L c->T c/\c≠b
 ap:Ls.Pairwise λA B=>∀c,A c->¬B c
section
variable {L:aQ} {h':Hp} {Ls:List (Nat->Prop)}
theorem iR.step(t:iR T h b Ls)(i:Nat)(u:h.size<=h'.size):iR (Tr T h h') h' b (Ls.modify i λA=>Tr A h h'):=by
 refine⟨.inl t.tb,λc g=>?_,λA s c g=>?_,?_⟩
 ·rcases g with q|q
  ·have:=t.lt c q;omega
  omega
 ·obtain⟨j,m,rfl⟩:=List.getElem_of_mem s;rw[UK]at g;have a:j<Ls.length:=by simpa using m
  split at g
  ·rcases g with q|q
   ·have:=t.sub _ (kE a) c q;exact⟨.inl this.1,this.2⟩
   ·exact⟨.inr q,λe=>by have:=t.lt b t.tb;omega⟩
  ·have:=t.sub _ (kE a) c g;exact⟨.inl this.1,this.2⟩
 ·rw[uZ];intro j k m r n c;have a:j<Ls.length:=by simpa using m
  have l:k<Ls.length:=by simpa using r
  have d:=uZ.1 t.ap j k a l n c;have o:=λq=>t.lt c (t.sub _ (kE a) c q).1;have lk:=λq=>t.lt c (t.sub _ (kE l) c q).1;rw[UK,UK];split
  ·rw[ay];rintro(q|q) p
   ·exact d q p
   ·have:=lk p;omega
  ·split
   ·rintro q (p|p)
    ·exact d q p
    ·have:=o q;omega
   ·exact d
theorem iR.nb(t:iR T h b Ls){A:aQ}(d:A∈Ls){c:Nat}(a:A c):c≠b:=(t.sub A d c a).2
theorem iR.l(t:iR T h b Ls){A:aQ}(z:A∈Ls){c:Nat}(e:A c):c<h.size:=t.lt c (t.sub A z c e).1
theorem Os.tr{s:Sl}{vs:bg}(o:Os (Or L h) h' s vs el):Os (Tr L h h') h' s vs el:=
 o.imp id λ⟨b,t,o⟩=>⟨b,t.imp id λq=>⟨q,o.lt⟩,o⟩
theorem Old.tr{s s0:Sl}(o:Old (Or L h) h' s s0 C el):Old (Tr L h h') h' s s0 C el:=
 ⟨o.le,o.fG.imp id λ⟨b,cs,t,e,d,a,c⟩=>⟨b,cs,t.imp id λq=>⟨q,a.lt⟩,e,d,a,c⟩⟩
theorem Tr.tr{g:Hp}(a:h.size<=g.size)(e:g.size<=H.size){c:Nat}(q:Tr (Tr L h g) g H c):Tr L h H c:=by
 grind
end
inductive Mem
 |mk (F:Value) (r:Raw) (s:Sl) (ks:List Mem) (sp:bg)
abbrev fQ:=Option Mem
def Mem.F:Mem->Value|.mk F _ _ _ _=>F
def Mem.r:Mem->Raw|.mk _ r _ _ _=>r
def Mem.s:Mem->Sl|.mk _ _ s _ _=>s
def Mem.ks:Mem->List Mem|.mk _ _ _ k _=>k
def Mem.sp:Mem->List Value|.mk _ _ _ _ l=>l
def l9(l:cG):List Value:=l.map λx:Nat=>.int .u64 (x:Int)
def ints(l:cG):List Value:=l.map λx:Nat=>ah (x:Int)
def strs(l:ig):List Value:=l.map λt=>.string (bs t)
structure I0(R T0:aQ)(h:Hp)(b:Nat)(f:aq)(sf sn sb:Sl)(F0:Value)(s0:Sl)(r0:Rb):Prop where
 bm:qD R h b F0 f sf sn s0 r0
 o:Old T0 h sb s0 (bv r0.bits) Y8
 len:r0.bits.length=(r0.rows+7)/8
 nl:r0.ck<=r0.rows
 rl:r0.rows<=4096
section
variable {R R' T0 T0' S:aQ} {h':Hp} {sf sn sb s0:Sl} {F0:Value} {r0:Rb}
theorem I0.fr(m:I0 R T0 h b f sf sn sb F0 s0 r0)(t:Tn S h h')(B:∀c,R c->c<h.size->¬S c)(z:∀c,T0 c->c<h.size->¬S c):I0 R T0 h' b f sf sn sb F0 s0 r0:=
 ⟨m.bm.fr t B,m.o.fr t z,m.len,m.nl,m.rl⟩
end
theorem alo(x:Int):IntKind.u64.wrap x=(((x%2^64).toNat:Nat):Int):=by
 simp only[IntKind.wrap,IntKind.signed,IntKind.bits];simp;omega
section
variable {T':aQ} {h':Hp} {Ls:List (Nat->Prop)}
theorem iR.grow(t:iR T h b Ls)(a:h.size<=h'.size):iR T h' b Ls:=⟨t.tb,λc q=>kZ (t.lt c q) a,t.sub,t.ap⟩
theorem iR.mono(t:iR T h b Ls)(hT:∀c,T c->T' c)(hl:∀c,T' c->c<h.size):iR T' h b Ls:=⟨hT b t.tb,hl,λA a c q=>⟨hT c (t.sub A a c q).1,(t.sub A a c q).2⟩,t.ap⟩
theorem iR.ne(t:iR T h b Ls){i j:Nat}{A B:aQ}(o:Ls[i]? =some A)(l:Ls[j]? =some B)(e:i≠j)(c:Nat)(g:A c):¬B c:=by
 obtain⟨d,rfl⟩:=cU.1 o;obtain⟨a,rfl⟩:=cU.1 l;rcases Nat.lt_or_gt_of_ne e with q|q
 ·exact uZ.1 t.ap i j d a q c g
 ·exact λk=>uZ.1 t.ap j i a d q c k g
theorem iR.kX(t:iR T h b Ls){i:Nat}{A:aQ}(a:Ls[i]? =some A):¬A b:=λq=>t.nb (bL a) q rfl
end
section
variable {sf sn sb x y z:Sl} {n u w:Nat} {K:HP}
end
theorem iV(l:dB):(bs l).size=l.length:=by simp[bs,ByteArray.size]
def aps(x:aB)(r:Rb):Rb:={Rb.row x.au r with bB:=r.bB+(16+x.text.length),dV:=r.dV++[(x.num%2^64).toNat],texts:=r.texts++[x.text]}
def P5(r:Raw)(x:aB):Int×Raw:=if 4096<=r.b.rows then(3,r)else(if 4194304<r.b.bB+(16+x.text.length)then 3 else 0,r.up (aps x))
section
variable {s:Sl} {vs:bg}
theorem Os.cut{n:Nat}{x:Int}{K:Sl->Prop}(o:Os T h s vs el)(d:n<=s.n)(e:x=n)(g:∀s',s'.n=n->Os T h s' (vs.take n) el->K s'):jA s 1 none (some x) none K:=by
 subst e;have c:s.n<=s.c:=by
  rcases o with⟨rfl,_⟩|⟨b,_,o⟩
  ·exact bP _
  ·obtain⟨_,_,_,_,q,_⟩:=o;exact q
 refine⟨Ej _,aA,by simp;omega,aA,?_⟩
 simp only[oI];rcases o with⟨rfl,rfl⟩|⟨b,t,a,u,cs,l,p,k,j⟩
 ·have:n=0:=by simpa[Sl.nil]using d
  subst this;exact g _ rfl (.inl ⟨by simp[me,Sl.nil],aA⟩)
 ·refine g _ rfl (.inr ⟨b,t,?_,?_,cs,l,?_,?_,λi x=>?_⟩)
  ·simp only[me];grind[bw]
  all_goals grind
end
section
variable {r:Raw} {m:fQ} {v:Value}
theorem aw2{p:Addr}{K:HP}(H:ai0 c0 p q h K Kp):cX aD (.func (.func 248) #[] #[dw c0,dw p,dw q]) [] h (λr a=>r=.tuple #[]/\K a) Kp:=by
 unfold cX;exact cast aV H
theorem BV.uR{S c:Sl}{n w:Nat}(k:aN h b (bW f t S c n j w C).toArray ty):Cs h ⟨b,11,none⟩ [.bool f.bZ.au,ah f.bZ.num,.string (bs f.bZ.text),Sl.v S]:=by
 intro i v a;rw[bw,gW k];rcases i with _|_|_|_|i
 ·simpa[bW]using a
 ·simpa[bW]using a
 ·simpa[bW]using a
 ·simpa[bW]using a
 ·simp at a
end
section
variable {h0:Hp}
theorem axp{K:cJ}(hk:K (wB k:Int) h):CC k h K Kp:=by
 have e:=hk;unfold wB at e;apply ai6
 repeat' refine aE (λc=>?_) (λc=>?_)
 all_goals
  simp only[nv,Vf]at*
  simp_all
theorem oC{s:Sl}{n m:dB}{K:Addr->HP}(p:dX D h s (bv n))(o:dX D h t (bv m))(z:D h.size)(q:∀a f,az h f->fc D D f ⟨some a,2,2⟩ [n,m]->K a f):aH h #[Sl.v s,Sl.v t] fN K:=by
 refine aG λb w e1 g k _=>q _ w g ⟨[s,t],rfl,?_,λj u l c d=>?_⟩
 ·refine⟨⟨rfl,bP _,λx y=>⟨_,rfl,λi v e=>?_⟩⟩,λ_ a r=>by cases r;exact e1▸z⟩
  rw[bw,gW k];grind
 ·rcases j with _|_|j
  ·simp at c d;subst c d;exact p.gr g
  ·simp at c d;subst c d;exact o.gr g
  ·simp at c
theorem dX.mo{D':aQ}{s:Sl}{vs:bg}(v:dX D h s vs)(a:∀c,D c->D' c):dX D' h s vs:=v.fr (iX _ _) (λ_ _ _=>id) a
theorem BV.K5{s S:Sl}{n m w:Nat}(k:aN h b (bW f s t S n m w C).toArray ty):Cs h ⟨b,2,none⟩ [ah f.k,ah f.w,ah f.id,ah f.ix,Sl.v s]:=by
 intro i v a;rw[bw,gW k];rcases i with _|_|_|_|_|i
 ·simpa[bW]using a
 ·simpa[bW]using a
 ·simpa[bW]using a
 ·simpa[bW]using a
 ·simpa[bW]using a
 ·simp at a
end
def VW(cs:cC):Prop:=∀{n:ff}{au:Bool}{k w id ix:Int}{h:Hp}{s:Sl}{K:ByteArray->Bool->Int->Int->Int->Int->Sl->HP}{Kp:PK},cH h s cs->cs.length<=70000->jE cs->
 (∀t h',az h h'->bY (Nw h) h' t cs->K n au k w id ix t h')->Ok n au k w id ix s h K Kp
theorem aqe(IH:∀f∈cs,VW f.cs):VW cs:=by
  intro n au k w k' ix U s K Kp O hl d' hk;have hn:=O.n;refine aEZ (aG λa1 hy e1 gy k1 _=>aG λa2 h e2 X k2 _=>?_);have G0:=ak gy X;have C:=k1.ai X;simp only[bw,cz];apply aj C rfl;refine azS (λB x m=>∃(i:Nat)(G:List Sl),x=i/\i<=cs.length/\G.length=i/\az h m/\eT h.size 7 m B (List.zipWith aq.row (cs.take i) G) iz/\
      ∀(j:Nat)(f:aq)(u:Sl),cs[j]? =some f->G[j]? =some u->bY (λb=>h.size<=b/\¬B.at b) m u f.cs)
    (λB x _=>cs.length-x.toNat) ⟨0,[],rfl,ag,rfl,cK _,qY _ _ _ _,aA⟩ ?_
  rintro B x m ⟨i,G,rfl,hi,z,y,A,hu⟩ N1 hN;have Z:=A.n;rw[oG,kP]at Z;refine cL (λc=>?_) λc=>?_
  · have V:cs[i]? =some cs[i]:=aA;have N:cs.take (i+1)=cs.take i++[cs[i]]:=aA;have p:cs[i]∈cs:=aA;generalize cs[i]=f at V N p;refine(O.gr G0).ix rfl V λa ha=>?_;obtain⟨u,c,f'⟩:=ha.row;refine gK (c.ai y) (aG λb5 hx eb gx kx _=>oD kx rfl λT J k5=>dZ k5 ?_);have M:=bE gx J ag;have P:=(d'.get f p).cs;refine IH f p ((f'.gr y).gr M) P.1 P.2 λt h3 g3 ht=>aG λn' R e5 g5 a' _=>?_;have I:=ak (ak M g3) g5;have c':=wH ht g5;refine(A.ai I).ap (by have:=y.1;have:=I.1;omega) rfl (new:=[f.row t]) rfl (λr L=>by simp at L;subst L;rfl) (λr L=>by simp at L;subst L;exact row_one f t) (by simpa[aq.row,oq]using iM a' rfl) ag ag λs' h6 Y Q o6=>aW ag ag (hN _ _ _ ⟨i+1,G++[t],aA,ag,by simp[z],?_,?_,?_⟩ ag)
    ·exact(((bh (ak y I):Tn No h R)).trans' Y λd hd l'=>by have:=((A.ai I).at hd).1;omega).ai
    ·rw[N,HO cj];exact o6
    · intro j g v W H;have h':=I.1
      by_cases e:j<i
      · rw[iQ ag]at H;refine bY.fr Y (λb l=>l.1.2) (λb l=>⟨l.1.1,λq=>?_⟩) _ (wH (bY.lt _ (hu j g v W H)) I);rcases Q b q with q|q
        ·exact l.1.2 q
        omega
      · have e':=(cU.1 H).1;simp only[ij,jw]at e';have:j=i:=ag;subst this;rw[gm ag,z]at H;simp only[wM,B9,mC]at H;subst H;rw[V]at W;cases W;refine bY.fr Y (λb l q=>by have:=(A.at q).2;have:=M.1;omega) (λb l=>⟨by have:=y.1;have:=M.1;omega,λq=>?_⟩) _ (bY.lt _ c')
        rcases Q b q with q|q
        ·have:=(A.at q).2;have:=M.1;omega
        omega
  · have:i=cs.length:=ag;subst this;rw[mz]at A;have fin:bY (λb=>h.size<=b/\b<m.size) m B cs:=by
      apply bY.lt _;rcases A.cases with⟨rfl,e⟩|⟨b,l,o⟩
      · have:cs=[]:=by
          cases cs with
          |nil=>rfl
          | cons f fs=>cases G with
            |nil=>simp at z
            |cons=>simp at e
        subst this;unfold bY;grind
      ·exact bY.sub (bY.of o z l λj f u hf b'=>bY.fr (iX _ _) (λ_ _=>id) (λb l=>l.1) _ (hu j f u hf b')) rfl rfl A.cap
    simp only[bw,cz,Nat.reduceAdd];refine dc (C.ai y) aA rfl λT J k3=>dZ k3 (oD (J.aZ (k2.ai y) ag) rfl λh3 o3 k4=>dZ k4 (hk B h3 ?_ ?_))
    ·exact bE (bE (ak G0 y) J ag) o3 ag
    · have f2:=bY.fr J.fr (λb l e=>ag) (λ_ q=>q) _ fin
      exact bY.fr o3.fr (λb l e=>ag) (λb l=>ag) _ f2
theorem aa5:∀f:aq,VW f.cs
 |.mk _ _ _ _ _ _ cs=>aqe (cs:=cs) λf _=>aa5 f
open Classical in
theorem ard{L:HP}{mk:Fr}{T:(Fr->HP)->HP}(aow:V0 L mk T)(P:Nat->HP){h:Hp}(h0:∃n,P n h)(step:∀n h,P n h->∀N:Fr->HP,(∀m h',m<n->P m h'->N mk h')->T N h):L h:=by
 let μ:Hp->Nat:=λh=>if hh:∃n,P n h then Classical.choose (least (λn=>P n h) hh)else 0
 have sp:∀h,(∃n,P n h)->P (μ h) h/\∀m,m<μ h->¬P m h:=by
  intro h hh
  have:μ h=Classical.choose (least (λn=>P n h) hh):=by simp only[μ];rw[dif_pos hh]
  rw[this];exact Classical.choose_spec (least (λn=>P n h) hh)
 refine aow (λh=>∃n,P n h) μ h0 λh hI N hN=>step (μ h) h (sp h hI).1 N λm h' hm hP=>hN h' ⟨m,hP⟩ ?_
 have:=(sp h' ⟨m,hP⟩).2 m
 grind
theorem avm(e:f.cs[0]? =some c):c.dep<f.dep:=by
 obtain⟨b,au,k,w,id,ix,cs⟩:=f;cases cs with
 |nil=>simp[aq.cs]at e
 |cons x a=>simp[aq.cs]at e;subst e;simp[aq.dep,TC];omega
theorem R0:∀cs:List aq,(vV cs).length=cs.length
 |[]=>rfl
 |x::a=>by simp[vV,R0 a]
theorem F6{s:Sl}{K:fJ}{v:PK}(F:cH h s f.cs)(r:∀d,az h d->K f.lets d):II f.name f.au f.k f.w f.id f.ix s h K v:=by
  refine aEy (aG λa P Q t C _=>ard azA (λn d=>∃(g:aq)(u:Sl),g.dep=n/\az h d/\aN d a (g.row u).toArray iz/\cH h u g.cs/\g.lets=f.lets) ⟨f.dep,f,s,rfl,t,C,F,rfl⟩ ?_);rintro n j ⟨g,u,rfl,G,k,o,el⟩ N hN;have j1:¬(g.k=20/\g.cs.length=1)->MH K v (aJ a) j:=by
    intro q;have e:g.lets=(g.au&&decide (g.k≠18)):=by
      obtain⟨A,au,B,w,id,ix,cs⟩:=g;simp only[aq.lets,m9]at q ⊢;rw[aC (by rw[R0];exact q)]
      congr
    apply aBd;simp only[bw,cz];refine aj k rfl (aE (λc=>aj k rfl ?_) λc=>?_)
    ·have:=r j G;grind
    ·have:=r j G;grind
  simp only[bw,cz];have L:=o.n;refine aj k rfl (aE (λc=>?_) λc=>j1 ?_)
  · simp only[sm,reduceCtorEq]at c;refine aj k rfl (aE (λl=>?_) λl=>j1 ?_)
    · simp only[sm,reduceCtorEq]at l;have hl:g.cs.length=1:=ag;have e:g.cs[0]? =some g.cs[0]:=aA;generalize g.cs[0]=c0 at e;refine aj k rfl (o.ix rfl e λp E=>?_);obtain⟨y,J,m⟩:=E.row;refine gK (J.ai G) (oD k rfl λH z D=>hN c0.dep H (avm e) ⟨c0,y,rfl,bE G z ag,D,m,?_⟩);rw[<-el];obtain⟨A,au,B,w,id,ix,cs⟩:=g;simp only[aq.cs]at c hl e;cases cs with
      |nil=>simp at e
      | cons x M=>
        simp at e;subst e;simp only[aq.lets,m9];rw[aI ⟨c,by rw[R0];exact hl⟩]
        simp[vV]
    grind
  grind
theorem aoM{c:ff}{w id:Int}{s:Sl}{K:fJ}{t:PK}(j:lZ h)(g:(aq.mk c au k w id ix cs).gh)(l:cH h s cs)
  (m:∀b i,az h i->(b=true↔bC (.mk c au k w id ix cs))->K b i):IN c au k w id ix s h K t:=by
 refine aE5 (aG λa u v d f _=>dZ f (La (j.ai d) g (l.gr d) λe p n q r o=>m _ q (ak d r) ?_));simp[*]
theorem aqT{c:ff}{w id:Int}{s:Sl}{K:fJ}{t:PK}(j:lZ h)(g:(aq.mk c au k w id ix cs).gh)(l:cH h s cs)
  (m:∀b i,az h i->(b=true↔bC (.mk c au k w id ix cs))->K b i):IK c au k w id ix s h K t:=by
 refine aEO (aG λa u v d f _=>dZ f (La (j.ai d) g (l.gr d) λe p n q r o=>m _ q (ak d r) ?_));simp[*]
theorem zw(h:fH k=true):k≠1/\k≠12/\k≠13/\k≠15/\k≠16/\k≠17/\k≠18/\k≠19/\k≠20:=by
 simp[fH]at h;omega
theorem alI(i:fH f.k=true)(r:Raw)(x:aB):f.tk r x=P5 r x:=by
 obtain⟨h,l,j,g,e,d,c,b,a⟩:=zw i;rw[kD];unfold iE P5;rw[aC h,ay,aC g,aC e,aC d,aC c,aC b,aC a];unfold eO;split
 ·simp[cR]
 ·simp only[gu,fB]
  congr 1
theorem YS(x:aB):16+x.text.length<=x.bq:=by rw[gV];omega
theorem qD.lt{M:aQ}{F:Value}{s u:Sl}{r0:Rb}(m:qD M h b F f s t u r0):qD (λc=>M c/\c<h.size) h b F f s t u r0:=by
 obtain⟨o,p,n,x,j,k,i,e,d,g,a,l⟩:=m;exact⟨o,p,n,x,⟨j,d.lt⟩,⟨k,g.lt⟩,⟨i,a.lt⟩,e,d,g,a,l⟩
theorem qD.cells{F:Value}{s u:Sl}{r0:Rb}(m:qD D h b F f s t u r0):F.cells=#[F]:=by
 obtain⟨i,j,g,x,c,d,a,e,_⟩:=m;rw[e];rfl
theorem abd(b:bC f):f.bZ.text.length<=4194304:=by
 by_cases a:f.small=true
 ·grind[sP,gV]
 ·have:f.bZ=AP:=by unfold aq.bZ;simp_all[aC,CZ]
  rw[this];exact dN _
def jl(f:aq):Prop:=∀v,f.fit v=true->dU f (λr=>f.tk r v) v
theorem abo{s:Sl}{K:fJ}{i:PK}(d:lZ h)(a:f.gh)(e:cH h s f.cs)(g:∀b c,az h c->(b=true↔bC f)->K b c):IK f.name f.au f.k f.w f.id f.ix s h K i:=by
 obtain⟨j,au,k,w,id,ix,cs⟩:=f;exact aqT d a e g
theorem aah{s:Sl}{K:fJ}{i:PK}(d:lZ h)(a:f.gh)(e:cH h s f.cs)(g:∀b c,az h c->(b=true↔bC f)->K b c):IN f.name f.au f.k f.w f.id f.ix s h K i:=by
 obtain⟨j,au,k,w,id,ix,cs⟩:=f;exact aoM d a e g
def Cg(f:aq):Prop:=∀{h:Hp}{s:Sl}{K:cJ}{Kp:PK},cH h s f.cs->(∀h',az h h'->K (f.wz:Int) h')->yZ f.name f.au f.k f.w f.id f.ix s h K Kp
def Cf(f:aq):Prop:=∀{h:Hp}{s:Sl}{K:Bool->Int->ByteArray->Sl->HP}{Kp:PK},cH h s f.cs->(∀t h',az h h'->aR (Nw h) h' t f.zv.items->K f.zv.au f.zv.num (bs f.zv.text) t h')->
 yY f.name f.au f.k f.w f.id f.ix s h K Kp
theorem E0(hl:f.lets=true):f.wz=16:=by rw[Aa,hl];rfl
theorem I3(hl:f.lets=true):f.zv=v0:=by rw[aq.I5,hl];rfl
theorem akK(hl:f.lets=true):Cg f:=by
 intro h s K l d e;refine ajr (aG λk j e1 a c _=>dZ c (F6 (d.gr a) λg i=>bO hl ?_));have:=e g (ak a i)
 rwa [E0 hl]at this
theorem ajU(hl:f.lets=true):Cf f:=by
 intro h s K v k l;refine ajq (aG λu q e1 c j _=>aG λt p r a i _=>dZ (j.ai a) (F6 ((k.gr c).gr a) λo d=>bO hl (lT (i.ai d) rfl λm e g=>eY g ?_)));have:=l bT m (bE (ak c (ak a d)) e ag) (by rw[I3 hl];exact qt _)
 rwa [I3 hl]at this
theorem ayp(J:Cg f)(I:Cf f)(v:bC f)(u:f.gh){h:Hp}{s:Sl}{K:Bool->Int->ByteArray->Sl->Int->HP}{O:PK}(L:lZ h)(n:cH h s f.cs)
  (y:∀t p,az h p->aR (Nw h) p t f.bZ.items->K f.bZ.au f.bZ.num (bs f.bZ.text) t (if f.small then 0 else 3) p):XD f.name f.au f.k f.w f.id f.ix s h K O:=by
 refine aEJ (aG λX V e1 B m _=>aG λW U i g l _=>dZ (m.ai g) ?_);have r:=ak B g;refine abo (L.ai r) u (n.gr r) λb T a M=>?_;obtain rfl:b=true:=M.2 v;have C:=ak r a;refine bu rfl (dZ ((m.ai g).ai a) (J (n.gr C) λo d=>?_));have j:=ak C d;refine aE (λc=>?_) λc=>?_
 ·have c:=aM c;refine lT ((l.ai a).ai d) rfl λz F H=>eY H ?_;have e1:f.bZ=AP:=by unfold aq.bZ;rw[ay]
  have i:f.small=false:=by unfold aq.small;simp;omega
  have:=y bT z (bE j F ag) (by rw[e1];exact qt _)
  rw[e1,i]at this;exact this
 ·have c:=aM c;refine dZ (((m.ai g).ai a).ai d) (I (n.gr j) λt z A E=>lT (((l.ai a).ai d).ai A) rfl λN x G=>eY G ?_);have e1:f.bZ=f.zv:=by unfold aq.bZ;rw[dR]
  have i:f.small=true:=by unfold aq.small;simp;omega
  have R:=a.1;have Q:=d.1;have:=y t N (bE (ak j A) x ag) (by
   rw[e1];exact aR.fr x.fr (λc(q:o.size<=c)_ e=>ag) (λc(q:o.size<=c)=>ag) _ E)
  grind
theorem axJ(C:Cg f)(B:Cf f)(n:bC f)(m:f.gh){h:Hp}{s:Sl}{K:ByteArray->Bool->Int->Int->Int->Int->Sl->Int->Int->Sl->Int->Bool->Int->ByteArray->Sl->Bool->HP}{M:PK}(E:lZ h)(F:cH h s f.cs)
  (G:∀t l,az h l->aR (Nw h) l t f.bZ.items->K f.name f.au f.k f.w f.id f.ix s 0 0 bT 0 f.bZ.au f.bZ.num (bs f.bZ.text) t f.small l):XF f.name f.au f.k f.w f.id f.ix s h K M:=by
 refine aEP (aG λY T e1 u r _=>aG λX j V g p _=>dZ (r.ai g) ?_);have i:=ak u g;refine ayp C B n m (E.ai i) (F.gr i) λt J d v=>aG λW S U L A _=>lT A rfl λI x z=>?_;have a:=bE L x ag;refine dZ (((r.ai g).ai d).ai a) (eY z (rC.b ((p.ai d).ai a) rfl λH o y=>uV y ?_));have:=G t H (bE (ak i (ak d a)) o ag) (aR.fr o.fr (λc(q:j.size<=c)_ e=>ag) (λc(q:j.size<=c)=>ag) _ (eR v a))
 have e:((if f.small=true then(0:Int)else 3)==0)=f.small:=by cases f.small <;> rfl
 grind
mutual
def aB.nM:aB->Prop
 |.mk _ n _ xs=>(-9223372036854775808<=n/\n<=9223372036854775807)/\mL xs
def mL:List aB->Prop
 |[]=>True
 |x::xs=>x.nM/\mL xs
end
theorem aB.nM.num{v:aB}(h:v.nM): -9223372036854775808<=v.num/\v.num<=9223372036854775807:=by
 obtain⟨_,n,_,a⟩:=v;exact h.1
theorem akR{K:fJ}(a:K (decide (3<=k/\k<=10)) h):Xv k h K Kp:=by
 refine aEw (cL (λc=>?_) λc=>?_)
 ·grind
 ·grind
theorem ao1{n:Int}{K:fJ}(d:3<=k/\k<=10)(g: -9223372036854775808<=n/\n<=9223372036854775807)(a:K (kW k n) h):Xu k n h K Kp:=by
 have e:k=3\/k=4\/k=5\/k=6\/k=7\/k=8\/k=9\/k=10:=ag;have fin:∀b,b=kW k n->K b h:=λb e=>e▸a;rcases e with rfl|rfl|rfl|rfl|rfl|rfl|rfl|rfl
 ·refine AE (AD (bO rfl (bO rfl (aW aY aY (js aY (aW aY aY (bu rfl (bO rfl (aW aY aY (js aY (aW aY aY (show aS (n>= -128) _ _ from aE (λc=>(aW aY aY (js aY (fin (decide (n<128)) ?_)))) λc=>fin _ ?_))))))))))))
  all_goals(simp only[sm,reduceCtorEq]at c;unfold kW;rw[ke];simp[dL];omega)
 ·refine AE (AD (bO rfl (bO rfl (aW aY aY (js aY (aW aY aY (bu rfl (bO rfl (aW aY aY (js aY (aW aY aY (show aS (n>= -32768) _ _ from aE (λc=>(aW aY aY (js aY (fin (decide (n<32768)) ?_)))) λc=>fin _ ?_))))))))))))
  all_goals(simp only[sm,reduceCtorEq]at c;unfold kW;rw[ke];simp[dL];omega)
 ·refine AE (AD (bO rfl (bO rfl (aW aY aY (js aY (aW aY aY (bu rfl (bO rfl (aW aY aY (js aY (aW aY aY (show aS (n>= -2147483648) _ _ from aE (λc=>(aW aY aY (js aY (fin (decide (n<2147483648)) ?_)))) λc=>fin _ ?_))))))))))))
  all_goals(simp only[sm,reduceCtorEq]at c;unfold kW;rw[ke];simp[dL];omega)
 ·refine AE (AD (bO rfl (bO rfl (aW aY aY (js aY (aW aY aY (bO rfl (fin _ ?_))))))));unfold kW;simp;omega
 ·refine AE (AD (bO rfl (bu rfl (aW aY aY (js aY (aW aY aY (bu rfl (bu rfl (aE (λc=>(js aY (aW aY aY (fin (decide (n<256)) ?_)))) λc=>fin _ ?_)))))))))
  all_goals(simp only[sm,reduceCtorEq]at c;unfold kW;rw[ke];simp[dL];omega)
 ·refine AE (AD (bO rfl (bu rfl (aW aY aY (js aY (aW aY aY (bu rfl (bu rfl (aE (λc=>(js aY (aW aY aY (fin (decide (n<65536)) ?_)))) λc=>fin _ ?_)))))))))
  all_goals(simp only[sm,reduceCtorEq]at c;unfold kW;rw[ke];simp[dL];omega)
 ·refine AE (AD (bO rfl (bu rfl (aW aY aY (js aY (aW aY aY (bu rfl (bu rfl (aE (λc=>(js aY (aW aY aY (fin (decide (n<4294967296)) ?_)))) λc=>fin _ ?_)))))))))
  all_goals(simp only[sm,reduceCtorEq]at c;unfold kW;rw[ke];simp[dL];omega)
 ·refine AE (AD (bO rfl (bu rfl (aW aY aY (js aY (aW aY aY (bO rfl (fin _ ?_))))))));unfold kW;simp;omega
def mX(f:aq):Prop:=∀{D:aQ}{h:Hp}{x left:Nat}{v:aB}{s t:Sl}{K:fJ}{Kp:PK},jz h->aN h x #[ah (left:Int)] ru->left<=4194304->bY D h s f.cs->aR D h t v.items->¬D x->v.nM->
 (∀b h',Tn (·=x) h h'->(b=true↔v.bq<=left/\f.fit v=true)->(b=true->aN h' x #[ah ((left-v.bq:Nat):Int)] ru)->K b h')->AF (bz x) f.name f.au f.k f.w f.id f.ix s v.au v.num (bs v.text) t h K Kp
theorem BU(l m:dB):((bs l).toList==(bs m).toList)=decide (l=m):=by
 rw[ke,BT,dQ];constructor
 ·intro h;have:=tP tx h;simpa only[Jh]using this
 grind
theorem LF(l:dB):((bs l).toList==(bs []).toList)=decide (l.length=0):=by
 rw[BU,ke];simp
section
variable {x left:Nat} {v:aB} {s:Sl} {K:fJ}
theorem acZ(k:aN h x #[ah (left:Int)] ru)(hl:left<=4194304)(Y:bY D h s f.cs)(U:¬D x)(X:aR D h t v.items)
  (a:∀i,Tn (·=x) h i->¬(v.bq<=left/\f.fit v=true)->K false i)
  (gP:∀i,Tn (·=x) h i->aN i x #[ah ((left-v.bq:Nat):Int)] ru->v.bq<=left->f.fit v=true->K true i)
  (r:∀i u z,Tn (·=x) h i->aN i x #[ah ((left-16-v.text.length:Nat):Int)] ru->16+v.text.length<=left->v.items.length<=4096->v.au=false->aN i u (f.row s).toArray iz->
   aN i z #[.bool v.au,ah v.num,.string (bs v.text),Sl.v t] dh->h.size<=u->h.size<=z->Wj K Kp (bz x) (aJ u) (aJ z) i):AF (bz x) f.name f.au f.k f.w f.id f.ix s v.au v.num (bs v.text) t h K Kp:=by
 refine aEI (aG λu h1 e1 M m _=>aG λz h2 e2 I g _=>?_);have hn:=X.n;have xl:=k.lt;have W:=gV v;have d:=(k.ai M).ai I;have m:=m.ai I;refine bK ?_;refine aj d rfl (aW ag ag (dc d aA rfl λh3 G d=>aj d rfl ?_));have C:=((bh (ak M I)).trans G.fr);have m:=G.aZ m ag;have g:=G.aZ g ag;have A:f.fit v=true->v.items.length<=4096:=λq=>by rw[eL]at q;exact DG q
 refine aE (λc=>a _ C ?_) λc=>?_
 ·grind
 refine aj g rfl (aj d rfl (aE (λp=>a _ C ?_) λp=>?_))
 ·have p:=aM p;rw[iV]at p;omega
 have p:=aM p;rw[iV]at p;refine aj g rfl (aE (λy=>a _ C ?_) λy=>?_)
 ·grind
 have y:=aM y;apply aBu;refine bK ?_;refine aj d rfl (aj g rfl (aW bU ag (dc d aA rfl λH F d=>aBt ?_)))
 have B:=C.trans F.fr;have m:=F.aZ m ag;have g:=F.aZ g ag;rw[iV]at d;have ex:(left:Int)-16-(v.text.length:Int)=((left-16-v.text.length:Nat):Int):=ag;have d:aN H x #[ah ((left-16-v.text.length:Nat):Int)] ru:=by simpa[ex]using d
 simp only[bw,cz];refine aj g rfl (aE (λO=>?_) λO=>r H u z B d ag ag O m g ag ag);have N:f.fit v=(decide (v.items.length<=4096)&&(decide (v.num=0)&&decide (v.text.length=0)&&decide (v.items.length=0)&&f.lets)):=by
  rw[eL];unfold fD;simp[*]
 have l:∀b,(b=true->v.num=0/\v.text.length=0/\v.items.length=0)->(b=false->¬(v.num=0/\v.text.length=0/\v.items.length=0))->MM K Kp (aJ u) b H:=by
  intro b Q P;refine aBv (aE (λj=>?_) λj=>a _ B ?_)
  ·obtain⟨T,L,J⟩:=Q j;refine dZ m (F6 (bY.h _ (bY.fr B (λb q e=>U (e▸q)) (λ_ q=>q) _ Y)) λZ S=>?_)
   ·have d:=d.ai S;have R:=B.trans (bh S);have V:v.bq=16:=by
     have:v.items=[]:=jv.1 J;rw[W,this,L];rfl
    cases hl:f.lets with
    |true=>exact gP _ R (by rw[V];simpa[L]using d) ag (by rw[N];simp[T,L,J,hl])
    |false=>exact a _ R λq=>by rw[N,hl]at q;simp at q
  ·simp_all
 refine aj g rfl (cL (λj=>?_) λj=>?_)
 ·apply aj g rfl;rw[LF];refine ah5 (aE (λo=>?_) λo=>?_)
  ·have o:=aM o;simp only[bw,cz];refine aj g rfl (l _ (λq=>?_) λq=>?_)
   all_goals simp_all
  ·simp_all
 ·exact ah5 (bu rfl (l _ (λq=>by cases q) λ_ q=>j q.1))
theorem ac6(hf:1<=f.k/\f.k<=11):mX f:=by
 intro D h x left v s t K Kp hu k hl R g O E A;have r:=gV v;refine acZ k hl R O g (λB y q=>A false B y (by simpa using q) (λe=>by cases e)) (λB y P M L=>A true B y (by simp[M,L]) λ_=>P) λF U a5 J z b1 b2 gP C l l4 l5=>ah3 ?_
 have d:f.fit v=(decide (v.text.length=0)&&(decide (v.items.length=0)&&(if f.k=2 then decide (v.num=0\/v.num=1)else decide (3<=f.k/\f.k<=11)&&kW f.k v.num))):=by
  rw[eL];unfold fD;rw[aC (by simp[gP]),ay,ay,ay,ay,ay,ay]
  simp[b2]
 have T:Cs F ⟨U,2,none⟩ [ah f.k,ah f.w,ah f.id,ah f.ix,Sl.v s]:=by
  intro i v g;rw[bw,gW C];rcases i with _|_|_|_|_|i
  ·simpa[aq.row,oq]using g
  ·simpa[aq.row,oq]using g
  ·simpa[aq.row,oq]using g
  ·simpa[aq.row,oq]using g
  ·simpa[aq.row,oq]using g
  ·simp at g
 simp only[bw,cz];refine nk T (aG λa7 h4 e7 H j _=>pE j rfl λu N j=>aj j rfl ?_);have G:=bE H N ag;have l:=l.ai G;have z:=z.ai G;have I:=J.trans (bh G);refine bu cj (Ip (bu cj (bu cj (bu cj (bu cj (Wi (bu cj (bu cj (bu cj (ah6 (bu cj (aBs ?_))))))))))));simp only[bw,cz];have fin:∀b,b=f.fit v->K b u:=λb e=>A b u I ⟨λq=>?_,λq=>by rw[e];exact q.2⟩ λq=>?_
 rotate_left
 ·have q:=e▸q;rw[d]at q;simp only[dm,dQ]at q;have:v.items=[]:=jv.1 q.2.1;rw[this]at r;exact⟨by rw[r];simp[bH];omega,by rw[<-e];assumption⟩
 ·have q:=e▸q;rw[d]at q;simp only[dm,dQ]at q;have:v.items=[]:=jv.1 q.2.1;rw[this]at r;have S:left-v.bq=left-16-v.text.length:=by rw[r];simp[bH];omega
  rw[S];exact z
 apply aj l rfl;rw[LF];refine aE (λc=>fin _ ?_) λc=>?_
 ·have c:=aM c;rw[d];simp[c]
 have c:=aM c;refine aj l rfl (aE (λp=>fin _ ?_) λp=>aBr ?_)
 ·have p:=aM p;have:=g.n;rw[d];simp;intro _ q;rw[q]at this;simp at this;omega
 have p:=aM p;have Q:v.items.length=0:=by have:=g.n;omega
 have d:f.fit v=(if f.k=2 then decide (v.num=0\/v.num=1)else decide (3<=f.k/\f.k<=11)&&kW f.k v.num):=by
  rw[d];simp[c,Q]
 simp only[bw,cz];refine aj j rfl (cL (λm=>?_) λm=>?_)
 ·rw[aI m]at d;refine aj l rfl (aE (λa=>fin _ ?_) λa=>aj l rfl (fin _ ?_))
  ·have a:=aM a;rw[d];simp[a]
  ·have a:=aM a;rw[d,ke];simp[a]
 ·rw[aC m]at d;refine aj j rfl (aE (λa=>fin _ ?_) λa=>aBq ?_)
  ·have a:=aM a;rw[d,a];have:=E.num;simp[kW];omega
  have a:=aM a;refine aj j rfl (akR (aE (λo=>?_) λo=>fin _ ?_))
  ·have o:=aM o;simp only[bw,cz];refine aj j rfl (aj l rfl (ao1 o E.num (fin _ ?_)));simp_all
  ·have o:=aM o;rw[d];have:decide (3<=f.k/\f.k<=11)=false:=by simp;omega
   rw[this];simp
end
theorem atS(y:mX f){D E:aQ}{h:Hp}{v:aB}{s t:Sl}{K:fJ}{Kp:PK}(o:jz h)(p:bY D h s f.cs)(n:aR E h t v.items)(r:v.nM)
  (u:∀b e,az h e->(b=true↔v.bq<=4194304/\f.fit v=true)->K b e):XE f.name f.au f.k f.w f.id f.ix s v.au v.num (bs v.text) t h K Kp:=by
 refine aEN (aG λQ L e1 g m _=>aG λP J N d l _=>aG λO B M a j _=>dZ ((m.ai d).ai a) (eY (l.ai a) ?_));have G:=ak g (ak d a);refine y (D:=λc=>(D c\/E c)/\c<h.size) (o.ai G) j (bP _) ?_ ?_ (λq=>ag) r λb A i z _=>u b A (((bh G:Tn No h B)).trans' i λc q C=>ag).ai z
 ·exact bY.fr (bh G) (λ_ _=>id) (λc q=>⟨.inl q.1,q.2⟩) _ (bY.lt _ p)
 ·exact aR.fr (bh G) (λ_ _ _=>id) (λc q=>⟨.inr q.1,q.2⟩) _ (aR.lt _ n)
theorem aGv(A:mX f)(j:bC f)(i:f.gh){D E:aQ}{h:Hp}{v:aB}{s t:Sl}{K:cJ}{Kp:PK}(u:lZ h)(r:jz h)(m:bY D h s f.cs)(p:aR E h t v.items)(y:v.nM)
  (z:∀n,az h n->K (if v.bq<=4194304/\f.fit v=true then 0 else 7) n):XI f.name f.au f.k f.w f.id f.ix s v.au v.num (bs v.text) t h K Kp:=by
 refine aEX (aG λN J e1 F l _=>aG λM I L g o _=>dZ (l.ai g) ?_);have G:=ak F g;refine abo (u.ai G) i ((bY.h _ m).gr G) λb H e a=>?_;obtain rfl:b=true:=a.2 j;refine bu rfl (dZ ((l.ai g).ai e) (eY (o.ai e) ?_));have d:=ak G e;refine atS A (r.ai d) (wH m d) (eR p d) y λb B C a=>?_;have:=z B (ak d C);refine aE (λc=>?_) λc=>?_
 ·have c:=aM c;grind
 ·grind
def BL:Code:=Tryz.f27.body.getD .skip
def awE:Code:=Tryz.f53.body.getD .skip
def aaQ:wX:=[]
def YM:List Value:=[ah 0]
def abQ(K:cJ):Value->HP:=λv h=>rI v λr0=>K r0 h
theorem aGy{c1:Addr}{K:HP}(H:Ld h c0 mI λi=>If (i !=0) (Ld h c1 id λf=>cX aD f [] h (λr b=>r=(.tuple #[])/\(K b)) (λ_ _=>False)) (K h)):∀w,aT w=h->oe aD 53 [dw c0,dw c1] .returning w λu2 a=>u2=.returning/\cE w a/\K (aT a):=by
 intro w j;have:=avo (bS:=[]) (D:=kU aD []) (zN _) (c:=awE) (caps:=[.pointer (some c0),.pointer (some c1)]) (zs:=[]) (Kv:=λ_ h=>K h)
  Tryz.func53 aV aV (cast aV H) w j
 apply this.mono;rintro e u2 a ⟨k,b,l,v,d⟩;refine⟨k,b,l,?_⟩;simp only[gO,AR]at d;exact d.2
def agJ(b:Option Addr)(a3 a4 a5:Addr)(K:cJ)(h:Hp):Prop:=
  NN b λp13=>
  Ld h (p13.add 7) id λt15=>
  bJ h a3 λamy amx amw amv=>
  fE aD t15 "colonnade/build.take" [(.agg #[(.bool amy),(ah amx),(.string amw),(Sl.v amv)])] h (λr h1=>∃t17:Int,r=(ah t17)/\(
    St h1 a4 (.int .i64 t17) λh2=>
    ∀w,aT w=h2->oe aD 53 [dw a4,dw a5] .returning w λu' w'=>u'=.returning/\cE w w'/\Ld (aT w') a4 mI λr0=>K r0 (aT w'))) (λ_ _=>False)
abbrev Tl(b:Option Addr)(Fb:Bool)(Fa:Int)(E8:ff)(E7:Sl)(a3 a4 a5 p7:Addr)(t9 t10:Value):Fr:=
 [some (.pointer b),some (.agg #[(.bool Fb),(.int .i64 Fa),(.string E8),(Sl.v E7)]),none,some (.pointer (some a3)),some (.pointer (some a4)),some (.pointer (some a5)),some (.pointer b),some (.pointer (some p7)),some (.pointer (some (p7.add 7))),some t9,some t10,none,none,none,none,none,none,none]
abbrev OE(b:Option Addr)(Fb:Bool)(Fa:Int)(E8:ff)(E7:Sl)(a3 a4 a5 p7:Addr)(t9 t10:Value)(K:cJ)(h:Hp):Prop:=
 ∃(caps:bg),Nat.blt 11 (Tl b Fb Fa E8 E7 a3 a4 a5 p7 t9 t10).length=true/\iH (ev (Tl b Fb Fa E8 E7 a3 a4 a5 p7 t9 t10)) [.tmp 4,.tmp 5]=some caps/\
  fV aD [] (kU aD aaQ) none (sub [1,1,1] BL) (GV aD 53 caps Tryz.f27.results.toList YM (abQ K)) (λ_ _=>False) ((Tl b Fb Fa E8 E7 a3 a4 a5 p7 t9 t10).set 11 (some (.func (.func 53) #[] caps.toArray))) h
theorem OE.of{b:Option Addr}{x:Int}{I:ff}{s:Sl}{p z J:Addr}{v V:Value}{K:cJ}(H:agJ b p q z K h):OE b B x I s p q z J v V K h:=
 ⟨[dw q,dw z],by kernel_rfl,by kernel_rfl,cast aV H⟩
theorem aEW{b:Option Addr}{x:Int}{q:ff}{s:Sl}{K:cJ}(H:iK h B x q s λa3 h1=>
    aH h1 #[(ah 0)] HX λZ R=>
    NN b λM=>
    Ld R (M.add 7) id λL=>
    fE aD L "colonnade/build.mark" [] R (λr Y=>∃z:Value,r=z/\(
      aH Y #[(.nilFunc)] Y4 λT W=>
      NA z <|
      St W T z λU=>
      OE b B x q s a3 Z T M L z K U)) (λ_ _=>False)):XH b B x q s h K Kp:=by
  have:=auc (bS:=[]) (D:=kU aD aaQ) (zN _) (g:=53) (pre:=[sub [0] BL,sub [1,0] BL]) (c2:=sub [1,1,1] BL) (id:=2) (o1:=zA (sub [1,1] BL) 0) (o2:=zA (sub [1,1] BL) 1) (tc:=11) (GY:=#[.tmp 4,.tmp 5]) (call:=TV (zA (sub [1,1] BL) 1))
    (zs:=YM) (args:=[(.pointer b),(.agg #[(.bool B),(.int .i64 x),(.string q),(Sl.v s)])]) (h:=h) (Kv:=abQ K) (Kp:=Kp) Tryz.func27 aV aV aV aV aV aV aV aV aV aV aV aV (cast aV H)
  exact cast aV this
def hB(x c:Int):Int:=IntKind.u64.wrap (gH .xor .u64 x (IntKind.u64.wrap c)*1099511628211)
def hN:Nat->Int->Int->Int
 |0,x,_=>x
 |k+1,x,n=>hN k (hB x (IntKind.u8.wrap n)) (Int.fdiv n (2^8))
def hT(x:Int)(l:dB):Int:=l.foldl (λx b=>hB x (b.toNat:Int)) x
mutual
def aB.nh:aB->Int->Int
 |.mk au num text items,x=>uL items (hN 8 (hT (hN 8 (hN 8 (hB x (if au then 1 else 0)) (IntKind.u64.wrap num)) (IntKind.u64.wrap (text.length:Int))) text) (IntKind.u64.wrap (items.length:Int)))
def uL:List aB->Int->Int
 |[],x=>x
 |v::vs,x=>uL vs (v.nh x)
end
def aB.hash(v:aB):Int:=v.nh 14695981039346656037
def hl(aF:aP)(n:Nat)(u:Int):List Nat:=(List.range n).filter λi=>decide ((aF.getD i v0).hash=u)
structure nE(es:List MapEntry)(P:Int->Prop)(S:Int->Sl):Prop where
 a:∀e∈es,∃u:Int,e.key=.int .u64 u/\e.val=Sl.v (S u)/\P u
 b:∀u,P u->∃e∈es,e.key=.int .u64 u
 c:es.Pairwise λx y=>x.key≠y.key
theorem PE{m:Nat}{g:Hp}{s:Sl}{rows:List (List Value)}(o:eT m i h s rows el)(f:Tn D h g)(k:∀c,s.at c->¬D c):eT m i g s rows el:=by
 rcases o.cases with⟨j,e⟩|⟨b,l,r⟩
 ·rw[j,e];exact qY _ _ _ _
 ·have d:=r.fr f (k b ⟨_,r.a,rfl⟩);exact⟨d.len,d.n,.inr ⟨b,l,d.lt,d.own⟩⟩
structure ga(X:aQ)(h:Hp)(sv:Sl)(mr:Nat)(aF:aP)(n:Nat):Prop where
 ex:∃(Xi:aQ)(ts:List Sl)(S:Int->Sl)(bk:Int->Nat),((∀c,Xi c->X c/\¬sv.at c/\c≠mr/\∀u,hl aF n u≠[]->c≠bk u)/\(∀c,sv.at c->X c/\c≠mr/\∀u,hl aF n u≠[]->c≠bk u)/\X mr/\
  (∀u,hl aF n u≠[]->X (bk u)/\bk u≠mr/\gU h (S u) (bk u) (ints (hl aF n u)) Y6)/\∀u v,hl aF n u≠[]->hl aF n v≠[]->u≠v->bk u≠bk v)/\
  (ts.length=aF.length/\eT 0 4 h sv (List.zipWith aB.row aF ts) dh/\∀(j:Nat)(v:aB)(t:Sl),aF[j]? =some v->ts[j]? =some t->aR Xi h t v.items)/\∃es c,h[mr]? =some (.map es c)/\nE es.toList (λu=>hl aF n u≠[]) S
theorem ga.fr{X S:aQ}{h':Hp}{sv:Sl}{m n:Nat}{aF:aP}(d:ga X h sv m aF n)(t:Tn S h h')(z:∀c,X c->c<h.size->¬S c):ga X h' sv m aF n:=by
 obtain⟨J,s,K,r,⟨l,i,g,A,y⟩,⟨C,o,B⟩,H,c,e1,I⟩:=d;have p:=(kS.1 e1).1;refine⟨J,s,K,r,⟨l,i,g,λu D=>?_,y⟩,⟨C,?_,λj v w G F=>aR.fr t (λc b hl=>z c (l c b).1 hl) (λ_ q=>q) _ (B j v w G F)⟩,H,c,(t.2 m p (z m g p)).trans e1,I⟩
 ·obtain⟨f,x,e⟩:=A u D;have:r u<h.size:=by obtain⟨_,_,cs,k,_⟩:=e;exact k.lt
  exact⟨f,x,e.fr t (z _ f this)⟩
 ·exact PE o t λc b=>z c (i c b).1 (by obtain⟨a,E,rfl⟩:=b;exact(o.at ⟨a,E,rfl⟩).2)
theorem ga.mono{sv:Sl}{m n:Nat}{j:aP}(d:ga D h sv m j n)(k:∀c,D c->E c):ga E h sv m j n:=by
 obtain⟨s,l,t,r,⟨g,f,q,b,o⟩,p,e⟩:=d;exact⟨s,l,t,r,⟨λc a=>⟨k c (g c a).1,(g c a).2⟩,λc a=>⟨k c (f c a).1,(f c a).2⟩,k _ q,λu i=>⟨k _ (b u i).1,(b u i).2⟩,o⟩,p,e⟩
def bG(k:Int):TypeId:=if k=1 then pO else if k=12\/k=13 then pN else if k=15 then pM else if k=16 then oK else if k=17 then oJ else if k=18 then qw else if k=19 then qv else if k=20 then pL else pK
def iP(k:Int):TypeId:=if k=1 then Vt else if k=12\/k=13 then Vs else if k=15 then Vr else if k=16 then Vq else if k=17 then Vp else if k=18 then Vo else if k=19 then Vn else if k=20 then Vm else Vl
def cy(k:Int)(r:Rb):List (List Value×TypeId):=
 if k=12\/k=13 then[(ints r.ends,Y6),(bv r.all,Y8)]else if k=15\/k=19\/k=20 then[(ints r.ends,Y6)]else if k=18 then[(bv r.all,Y8),(ints r.ends,Y6)]else if k=1\/k=16\/k=17 then[]else[(l9 r.dV,pP),(strs r.texts,rz)]
def nL(k:Int)(kv:bg)(ks:Sl)(sp:bg):List Value:=if k=15\/k=16\/k=19\/k=20 then kv++sp else if k=17\/k=18 then Sl.v ks::sp else sp
abbrev iG(k:Int)(SS:List Sl)(kv:bg)(ks:Sl)(sp:bg):List Value:=SS.map Sl.v++nL k kv ks sp
structure dO where
 b:Nat
 sf:Sl
 sn:Sl
 sb:Sl
 ks:Sl
 SS:List Sl
 ST:List (Nat->Prop)
 KT:List (Nat->Prop)
 kv:List Value
 sp:List Value
 T0:Nat->Prop
 R:Nat->Prop
 X:Nat->Prop
variable {g:dO}
def dO.Ls(g:dO):List (Nat->Prop):=g.T0::g.R::g.X::(g.ST++g.KT)
abbrev cN:=(Nat->Prop)->Hp->Value->Raw->Option Mem->Prop
def lD(r:Rb):aB:=r.aF.getLast?.getD AP
def iJ(k:Int)(X:aQ)(h:Hp)(sp:bg)(r:Rb):Prop:=
 if k=19 then∃sv mr,sp=[Sl.v sv,.map (some mr)]/\ga X h sv mr r.aF r.aF.length else if k=20 then∃t,sp=[.bool (lD r).au,ah (lD r).num,.string (bs (lD r).text),Sl.v t]/\aR X h t (lD r).items else sp=[]
def Au(R:aQ)(h:Hp)(caps:bg)(cs:List (Array Value)):Prop:=
 caps.length=cs.length/\∀(i:Nat)c,cs[i]? =some c->∃a t,caps[i]? =some (bI a)/\R a/\aN h a c t
def Ct(R:aQ)(h:Hp)(KF:Value)(Fs:bg):Prop:=
 ∃a t s,KF=.func (.func 215) #[] #[bI a]/\R a/\aN h a #[Sl.v s] t/\dX R h s Fs
def pI(n:Nat):Array Value:=#[ah (n:Int)]
def jr(k:Int)(b:Nat)(F0 KF:Value)(mm:Mem):List (Array Value):=
 let m:Array Value:=#[bI b]
 if k=12\/k=13 then[#[F0],m,pI mm.r.b.ends.length,pI mm.r.b.all.length]
 else if k=15 then[#[F0],#[KF],m,pI mm.r.b.ends.length]
 else if k=16\/k=17 then[#[F0],#[KF]]
 else if k=18 then[#[F0],#[KF],m,pI mm.r.b.all.length]
 else if k=19 then[#[F0],#[KF],m,pI mm.r.b.ends.length,pI mm.r.b.aF.length]
 else if k=20 then[#[F0],#[KF],m,pI mm.r.b.ends.length,mm.sp.toArray,pI (mm.r.b.ends.getLastD 0)]
 else[#[F0],m,pI mm.r.b.dV.length]
def eM(k:Int)(r m:Rb):Prop:=
 if k=12\/k=13 then m.ends <+: r.ends/\m.all <+: r.all else if k=15 then m.ends <+: r.ends else if k=19 then m.ends <+: r.ends/\m.aF <+: r.aF/\r.aF.length<=5000/\∀v∈r.aF,v.bq<=4194304
 else if k=18 then m.ends <+: r.ends/\m.all <+: r.all/\m.ends.length=m.all.length
 else if k=1\/k=16\/k=17 then True else if k=20 then m.ends.length<=r.ends.length/\m.ends.dropLast <+: r.ends/\m.ends.length<=4096 else m.dV <+: r.dV/\m.texts <+: r.texts/\m.dV.length=m.texts.length
structure Ij(f:aq)(bk:FuncId)(h:Hp)(r:Raw)(mm:Mem)(g:dO):Prop where
 c:∃F0 KF,I0 g.R g.T0 h g.b f g.sf g.sn g.sb F0 mm.s mm.r.b/\(f.k=15\/f.k=16\/f.k=19\/f.k=20->∃m0,mm.ks=[m0]/\KF=m0.F)/\(f.k=17\/f.k=18->Ct g.R h KF (mm.ks.map Mem.F))/\
  (f.k=1->mm.F=F0)/\(f.k≠1->∃caps:List Value,mm.F=.func (.func bk) #[] caps.toArray/\Au g.R h caps (jr f.k g.b F0 KF mm))
 pr:eM f.k r.b mm.r.b
 ks:mm.r.kids=mm.ks.map Mem.r/\mm.ks.length=f.cs.length
 sp:f.k=20->iJ 20 g.X h mm.sp mm.r.b
def gJ(k:Int):FuncId:=if k=12\/k=13 then 196 else if k=15 then 201 else if k=16 then 206 else if k=17 then 213 else if k=18 then 220 else if k=19 then 228 else if k=20 then 242 else 248
structure bR(f:aq)(KM:List cN)(T:aQ)(h:Hp)(r:Raw)(m:fQ)(g:dO):Prop where
 t:iR T h g.b g.Ls
 B:mJ g.T0 h g.b (iP f.k) f g.sf g.sn g.sb r.b (iG f.k g.SS g.kv g.ks g.sp)
 ls:g.SS.length=(cy f.k r.b).length/\g.ST.length=(cy f.k r.b).length
 sl:∀(i:Nat)s A x,g.SS[i]? =some s->g.ST[i]? =some A->(cy f.k r.b)[i]? =some x->Os A h s x.1 x.2
 lk:g.kv.length=KM.length/\g.KT.length=KM.length/\r.kids.length=KM.length
 aL:∀(j:Nat)(M:cN)A w,KM[j]? =some M->g.KT[j]? =some A->g.kv[j]? =some w->M A h w (r.aL j) (m.bind λmm=>mm.ks[j]?)
 no:aR g.R h g.sn f.bZ.items
 kl:f.k=17\/f.k=18->dX g.R h g.ks g.kv
 sp:iJ f.k g.X h g.sp r.b
 mm:∀mm,m=some mm->Ij f (gJ f.k) h r mm g
def cQ(f:aq)(KM:List cN):cN:=λT h v r m=>∃g:dO,v=.iface (bG f.k) (bI g.b)/\bR f KM T h r m g
def gB(M:cN):Prop:=∀{T S:aQ}{h h':Hp}{v:Value}{r:Raw}{m:fQ},M T h v r m->Tn S h h'->(∀c,T c->c<h.size->¬S c)->M T h' v r m
section
variable {KM:List cN} {R X S:aQ} {h':Hp} {r:Raw} {m:fQ}
theorem iJ.fr{sp:bg}{B:Rb}(s:iJ k X h sp B)(t:Tn S h h')(G:∀c,X c->c<h.size->¬S c):iJ k X h' sp B:=by
 unfold iJ at s ⊢;split
 ·rename_i q
  rw[aI q]at s;obtain⟨u,w,e,v⟩:=s;exact⟨u,w,e,v.fr t G⟩
 ·rename_i q
  rw[aC q]at s;split
  ·rename_i a
   rw[aI a]at s;obtain⟨u,e,v⟩:=s;exact⟨u,e,aR.fr t G (λ_ z=>z) _ v⟩
  grind
theorem iJ.eq{sp:bg}{r a:Rb}(s:iJ k X h sp r)(e:a.aF=r.aF):iJ k X h sp a:=by
 unfold iJ lD at *;simp[*]
theorem iJ.mono{sp:bg}{r:Rb}(s:iJ k X h sp r)(j:∀c,X c->D c):iJ k D h sp r:=by
 unfold iJ at s ⊢;split
 ·rename_i q
  rw[aI q]at s;obtain⟨u,w,e,v⟩:=s;exact⟨u,w,e,v.mono j⟩
 ·rename_i q
  rw[aC q]at s;split
  ·rename_i a
   rw[aI a]at s;grind[aR.mo]
  grind
theorem Au.fr{caps:bg}{cs:List (Array Value)}(c:Au R h caps cs)(t:Tn S h h')(z:∀c,R c->c<h.size->¬S c):Au R h' caps cs:=
 ⟨c.1,λi x d=>by obtain⟨a,y,e,b,k⟩:=c.2 i x d;exact⟨a,y,e,b,t.aZ k (z a b k.lt)⟩⟩
theorem Ct.fr{KF:Value}(c:Ct R h KF C)(t:Tn S h h')(B:∀c,R c->c<h.size->¬S c):Ct R h' KF C:=by
 obtain⟨a,y,s,e,b,k,v⟩:=c;exact⟨a,y,s,e,b,t.aZ k (B a b k.lt),v.fr t B λ_ z=>z⟩
theorem dO.gw(g:dO):g.Ls[0]? =some g.T0:=rfl
theorem dO.fI(g:dO):g.Ls[1]? =some g.R:=rfl
theorem dO.iN(g:dO):g.Ls[2]? =some g.X:=rfl
theorem dO.ic(g:dO){i:Nat}{A:aQ}(b:g.ST[i]? =some A):g.Ls[3+i]? =some A:=by
 unfold dO.Ls;grind
theorem dO.fC(g:dO){j:Nat}{A:aQ}(a:g.KT[j]? =some A):g.Ls[3+g.ST.length+j]? =some A:=by
 unfold dO.Ls;grind
theorem Ij.fr{B:FuncId}{mm:Mem}(M:Ij f B h r mm g)(t:Tn S h h')(z:∀c,g.R c->c<h.size->¬S c)(H:∀c,g.T0 c->c<h.size->¬S c)(G:∀c,g.X c->c<h.size->¬S c):Ij f B h' r mm g:=by
 obtain⟨⟨n,KF,l,k,j,i,d⟩,b,ks,sp⟩:=M;exact⟨⟨n,KF,l.fr t z H,k,λq=>(j q).fr t z,i,λq=>by obtain⟨a,e,mc⟩:=d q;exact⟨a,e,mc.fr t z⟩⟩,b,ks,λq=>(sp q).fr t G⟩
theorem bR.fr(G:bR f KM T h r m g)(KF:∀(j:Nat)M,KM[j]? =some M->gB M)(t:Tn S h h')(H:∀c,T c->c<h.size->¬S c):bR f KM T h' r m g:=by
 have q:∀{A:aQ}(i:Nat),g.Ls[i]? =some A->∀c,A c->c<h.size->¬S c:=λi o c k hl=>H c (G.t.sub _ (bL o) c k).1 hl;exact⟨G.t.grow t.1,G.B.fr t (H g.b G.t.tb (G.t.lt _ G.t.tb)) (q 0 g.gw),G.ls,λi s A x d a l=>(G.sl i s A x d a l).fr t (q _ (g.ic a)),G.lk,
  λj M A w d a l=>KF j M d (G.aL j M A w d a l) t λc k hl=>q _ (g.fC a) c k hl,aR.fr t (q 1 g.fI) (λ_ z=>z) _ G.no,λz=>(G.kl z).fr t (q 1 g.fI) λ_ z=>z,G.sp.fr t (q 2 g.iN),λn e=>(G.mm n e).fr t (q 1 g.fI) (q 0 g.gw) (q 2 g.iN)⟩
theorem cQ.fr{v:Value}(KF:∀(j:Nat)M,KM[j]? =some M->gB M):gB (cQ f KM):=by
 rintro T S h h' v r m ⟨g,e,G⟩ t a;exact⟨g,e,G.fr KF t a⟩
theorem bR.mono(G:bR f KM T h r m g)(hT:∀c,T c->D c)(hl:∀c,D c->c<h.size):bR f KM D h r m g:=
 ⟨G.t.mono hT hl,G.B,G.ls,G.sl,G.lk,G.aL,G.no,G.kl,G.sp,G.mm⟩
end
theorem abi{α:Type}{l:List α}{a:α}{F:α->α}(h:l[i]? =some a):l.modify i F=l.set i (F a):=by
 apply sE;grind
theorem dO.ZW(g:dO){i:Nat}{B:aQ}(a:i<g.ST.length):g.Ls.set (3+i) B={g with ST:=g.ST.set i B}.Ls:=by
 have e:3+i=i+1+1+1:=ag;unfold dO.Ls;simp[*]
theorem dO.ZX(g:dO){j:Nat}{B:aQ}:g.Ls.set (3+g.ST.length+j) B={g with KT:=g.KT.set j B}.Ls:=by
 have e:3+g.ST.length+j=g.ST.length+j+1+1+1:=ag;unfold dO.Ls;simp[*]
section
variable {KM:List cN} {S:aQ} {h':Hp} {r:Raw} {m:fQ}
theorem bR.av(G:bR f KM T h r m g){i j:Nat}{A B:aQ}(l:g.Ls[i]? =some A)(o:∀c,S c->c<h.size->c=g.b\/A c)(a:g.Ls[j]? =some B)(ne:i≠j):∀c,B c->c<h.size->¬S c:=
 λc d hl k=>(o c k hl).elim (λe=>G.t.kX a (e▸d)) λn=>G.t.ne l a ne c n d
theorem bR.ku(G:bR f KM T h r m g){i:Nat}{A:aQ}(a:g.Ls[i]? =some A){c:Nat}(b:A c):T c:=(G.t.sub _ (bL a) c b).1
theorem bR.bl(G:bR f KM T h r m g):g.b<h.size:=G.t.lt _ G.t.tb
theorem aoD{K:cJ}(G:bR f KM T h r m g)(KF:∀(j:Nat)M,KM[j]? =some M->gB M)(v:4096<=r.b.rows->K 3 h)
  (J:r.b.rows<4096->∀a h',Tn (λc=>c=g.b\/g.T0 c) h h'->bR f KM (Tr T h h') h' (r.up (Rb.row au)) m {g with sb:=a,T0:=Tr g.T0 h h'}->K 0 h'):oO (bz g.b) au h K Kp:=by
 refine aoE G.B (λc q=>G.t.l (by simp[dO.Ls]) q) v λu a h' t p q=>?_
 have N:∀c,(c=g.b\/g.T0 c)->c<h.size->c=g.b\/g.T0 c:=λc q _=>q;have av:∀{j:Nat}{B:aQ},g.Ls[j]? =some B->0≠j->∀c,B c->c<h.size->¬(c=g.b\/g.T0 c):=λL ne=>G.av g.gw N L ne;refine J u a h' t ⟨G.t.step 0 t.1,⟨p.k,p.o.tr,λq=>?_,p.len,p.nl,p.rl⟩,G.ls,λi s A x C d D=>(G.sl i s A x C d D).fr t (av (g.ic d) ag),G.lk,
  λj M A w C d D=>KF j M C (G.aL j M A w C d D) t (av (g.fC d) ag),aR.fr t (av g.fI ag) (λ_ z=>z) _ G.no,λz=>(G.kl z).fr t (av g.fI ag) λ_ z=>z,G.sp.fr t (av g.iN ag),λI e=>?_⟩
 ·rcases q with q|q
  ·exact G.t.kX g.gw q
  ·have q:h.size<=g.b/\g.b<h'.size:=q;have:=G.bl;omega
 ·obtain⟨⟨U,F,n,R,Q,P,O⟩,H,ks,sp⟩:=G.mm I e;have E:=av g.fI ag;exact⟨⟨U,F,⟨n.bm.fr t E,(q n.o).tr,n.len,n.nl,n.rl⟩,R,λz=>(Q z).fr t E,P,λz=>by obtain⟨y,e,mc⟩:=O z;exact⟨y,e,mc.fr t E⟩⟩,H,ks,λz=>(sp z).fr t (av g.iN ag)⟩
theorem bR.base{a:Rb}(G:bR f KM T h r m g)(KF:∀(j:Nat)M,KM[j]? =some M->gB M)(o:eD g.b h h')(C:mJ g.T0 h' g.b (iP f.k) f g.sf g.sn g.sb a (iG f.k g.SS g.kv g.ks g.sp))
  (e1:cy f.k a=cy f.k r.b) (B:a.aF=r.b.aF) (y:∀x,eM f.k r.b x->eM f.k a x):bR f KM T h' (.mk a r.kids) m g:=by
 have q:∀{A:aQ}(i:Nat),g.Ls[i]? =some A->∀c,A c->c<h.size->¬c=g.b:=λi u c v hl e=>G.t.kX u (e▸v);have t:=o.fr;refine⟨G.t.grow (Ei o.1.symm),C,by rw[show(Raw.mk a r.kids).b=a from rfl,e1];exact G.ls,λi s A x n d l=>?_,G.lk,λj M A w n d l=>KF j M n (G.aL j M A w n d l) t (q _ (g.fC d)),
  aR.fr t (q 1 g.fI) (λ_ z=>z) _ G.no,λz=>(G.kl z).fr t (q 1 g.fI) λ_ z=>z,?_,λp e=>?_⟩
 ·rw[show(Raw.mk a r.kids).b=a from rfl,e1]at l;exact(G.sl i s A x n d l).fr t (q _ (g.ic d))
 ·exact(G.sp.fr t (q 2 g.iN)).eq B
 ·have M:=(G.mm p e).fr t (q 1 g.fI) (q 0 g.gw) (q 2 g.iN);exact⟨M.c,y _ M.pr,M.ks,M.sp⟩
theorem akV{x:Int}{n:Nat}{K:cJ}(G:bR f KM T h r m g)(KF:∀(j:Nat)M,KM[j]? =some M->gB M)(a:x=n)(d:r.b.bB+n<2^62)
  (c:∀h',eD g.b h h'->bR f KM T h' (fB n r).2 m g->K (fB n r).1 h'):nC (bz g.b) x h K Kp:=by
 exact akT G.B a d λh' o e=>c h' o (G.base KF o e rfl rfl λ_ z=>z)
theorem bR.slot{u:Sl}{R:Raw}(G:bR f KM T h r m g)(KF:∀(j:Nat)M,KM[j]? =some M->gB M)(E:g.ST[i]? =some A)(t:Tn A h H)(os:Os (Tr A h H) H u x'.1 x'.2)
  (o:eD g.b H h') (F:aN h' g.b (bW f g.sf g.sn g.sb r.b.rows r.b.ck r.b.bB (iG f.k (g.SS.set i u) g.kv g.ks g.sp)).toArray (iP f.k))
  (l:R.b.rows=r.b.rows/\R.b.ck=r.b.ck/\R.b.bits=r.b.bits/\R.b.bB=r.b.bB) (e1:cy f.k R.b=(cy f.k r.b).set i x') (e0:R.kids=r.kids) (K:R.b.aF=r.b.aF) (J:∀v,m=some v->eM f.k r.b v.r.b->eM f.k R.b v.r.b):bR f KM (Tr T h H) h' R m {g with SS:=g.SS.set i u,ST:=g.ST.set i (Tr A h H)}/\Tn (λc=>A c\/c=g.b) h h':=by
 have y:=(cU.1 E).1;have C:=g.ic E;have nb:¬A g.b:=G.t.kX C;have bl:=G.bl;have n:Tn (λc=>A c\/c=g.b) h h':=(t.mono λc q _=>.inl q).trans (o.fr.mono λc q _=>.inr q);have D:∀c,(A c\/c=g.b)->c<h.size->c=g.b\/A c:=λc q _=>q.symm;have av:∀{j:Nat}{B:aQ},g.Ls[j]? =some B->3+i≠j->∀c,B c->c<h.size->¬(A c\/c=g.b):=λI ne=>G.av C D I ne;refine⟨⟨?_,?_,?_,λj s B x d a p=>?_,by rw[e0];exact G.lk,λj M B w d a p=>?_,aR.fr n (av g.fI ag) (λ_ z=>z) _ G.no,λz=>(G.kl z).fr n (av g.fI ag) λ_ z=>z,?_,λv e=>?_⟩,n⟩
 ·have:=(G.t.step (3+i) t.1).grow (Ei o.1.symm);rw[abi C,g.ZW y]at this;exact this
 ·refine⟨dM,by rw[l.2.2.1];exact G.B.o.fr n (av g.gw ag),G.B.nT,by rw[l.2.2.1,l.1];exact G.B.len,by rw[l.2.1,l.1];exact G.B.nl,by rw[l.1];exact G.B.rl⟩
 ·simp only[Ca,e1];exact G.ls
 ·dsimp only at d a;rw[e1]at p;rw[yK]at d a p
  by_cases e:i=j
  ·subst e;have N:=G.ls.1;have L:=G.ls.2;rw[aI rfl,dR]at d p;rw[aI rfl,aI y]at a;cases d;cases a;cases p;refine os.fr o.fr λc q _ e=>?_;grind
  ·rw[aC e]at d a p;exact(G.sl j s B x d a p).fr n (av (g.ic a) ag)
 ·have:=KF j M d (G.aL j M B w d a p) n (av (g.fC a) ag)
  unfold Raw.aL at this ⊢;grind
 ·exact(G.sp.fr n (av g.iN ag)).eq K
 ·have M:=(G.mm v e).fr n (av g.fI ag) (av g.gw ag) (av g.iN ag);exact⟨M.c,J v e M.pr,M.ks,M.sp⟩
theorem bR.arW{R:Raw}(G:bR f KM T h r m g)(KF:∀(j:Nat)M,KM[j]? =some M->gB M)(p:g.KT[j]? =some A)(t:Tn A h h')
  (y:∀M w,KM[j]? =some M->g.kv[j]? =some w->M (Tr A h h') h' w R (m.bind λl=>l.ks[j]?)):bR f KM (Tr T h h') h' (r.fk j R) m {g with KT:=g.KT.set j (Tr A h h')}:=by
 have o:=(cU.1 p).1;have v:∀c,A c->c<h.size->c=g.b\/A c:=λc q _=>.inr q;have n:=g.fC p;have nb:=G.t.kX n;have av:∀{i:Nat}{B:aQ},g.Ls[i]? =some B->3+g.ST.length+j≠i->∀c,B c->c<h.size->¬A c:=λu ne=>G.av n v u ne;have lk:=G.lk;refine⟨?_,G.B.fr t nb (av g.gw ag),G.ls,λi s B x d a k=>(G.sl i s B x d a k).fr t (av (g.ic a) bU),⟨lk.1,dM,by rw[vJ];omega⟩,λi M B w d a k=>?_,
  aR.fr t (av g.fI ag) (λ_ z=>z) _ G.no,λz=>(G.kl z).fr t (av g.fI ag) λ_ z=>z,G.sp.fr t (av g.iN ag),λl e=>(G.mm l e).fr t (av g.fI ag) (av g.gw ag) (av g.iN ag) |> λM=>⟨M.c,M.pr,M.ks,M.sp⟩⟩
 ·have:=G.t.step (3+g.ST.length+j) t.1;rw[abi n,g.ZX]at this;omega
 ·dsimp only at a;rw[yK]at a
  by_cases e:j=i
  ·subst e;rw[aI rfl,aI o]at a;cases a;rw[lz ag];exact y M w d k
  ·rw[aC e]at a;rw[AU e];exact KF i M d (G.aL i M B w d a k) t (av (g.fC a) ag)
def Out(g:dO)(c:Nat):Prop:=c≠g.b/\∀(i:Nat)A,g.Ls[i]? =some A->i≠1->¬A c
theorem bR.out(G:bR f KM T h r m g){c:Nat}(a:¬T c):Out g c:=⟨λe=>a (e▸G.t.tb),λi A b _ q=>a (G.ku b q)⟩
theorem bR.Di(G:bR f KM T h r m g){c:Nat}(a:g.R c):Out g c:=⟨λe=>G.t.kX g.fI (e▸a),λi A b ne q=>G.t.ne b g.fI ne c q a⟩
theorem Out.not{c:Nat}(G:bR f KM T h r m g)(a:¬Out g c):T c:=by
 by_cases q:T c
 ·exact q
 ·exact absurd (G.out q) a
theorem Out.set{a:dO}{c:Nat}(o:Out g c)(t:a.b=g.b)(u:a.Ls=g.Ls.set i (Tr A h h'))(p:g.Ls[i]? =some A)(y:c<h.size):Out a c:=by
 refine⟨by rw[t];exact o.1,λj B hB ne q=>?_⟩
 rw[u,yK]at hB;have d:=(cU.1 p).1
 by_cases e:i=j
 ·subst e;rw[aI rfl,aI d]at hB;cases hB;rcases q with q|q
  ·exact o.2 i A p ne q
  ·omega
 ·rw[aC e]at hB;exact o.2 j B hB ne q
end
section
variable {s:Sl} {vs:bg}
theorem Os.BY{bytes n:Nat}{news:bg}{e:List Value->Prop}{z:Array Value}{K:Sl->HP}(o:Os T h s vs el)(P:z.size=1)(Q:∀x∈news,one x=true)(hl:news.length=n)(w:e news)
  (F:(s.n+n+(s.n+n)/4+192)*bytes<=2^48) (R:s.n+n<2^63)
  (y:∀G h',Tn T h h'->Os (Or T h) h' G (vs++news) el->K G h'):Ap h el z 1 bytes s n e K:=by
 have j:∀fG:List Value,rd h s.a (s.n*1) fG->fG=vs->s.c<s.n+n->Ap h el z 1 bytes s n e K:=by
  intro fG A q p;subst q;have k:=o.n;refine⟨news,w,.inr ⟨p,?_,R,fG,A,?_⟩⟩
  ·have:=nextslicecap_le_wide p;have Y:=pG bytes this;omega
  ·intro u B X;refine y _ _ (bh (qW h _)) (.inr ⟨h.size,.inr (bP _),rfl,?_,_,by simp only[aN,L7];rfl,B,?_,λi l=>?_⟩)
   ·simp[k,hl]
   ·simp[Builtin.zeroCells,k,P];omega
   grind
 rcases o with⟨rfl,rfl⟩|⟨b,t,J,W,cs,I,Z,V,H⟩
 ·by_cases h0:n=0
  ·subst h0;have:news=[]:=bU;subst this;exact⟨[],w,.inl ⟨bP _,y Sl.nil h (iX _ _) (.inl ⟨rfl,rfl⟩)⟩⟩
  ·exact j [] rfl rfl (by simp only[Sl.nil];omega)
 ·by_cases p:s.n+n<=s.c
  ·refine⟨news,w,.inl ⟨p,?_⟩⟩;rw[J]
   show ji h _ 0 news _
   rw[bw];refine wW news I ag Q λh' D O N M L=>y _ h' (O.fr.mono λd U _=>U▸t) (.inr ⟨b,.inl t,rfl,by simp[W,hl],D,N,p,by rw[M,V],λi l=>?_⟩)
   grind
  ·refine j vs ?_ rfl ag;rw[J];refine⟨ag,λi v l=>?_⟩
   have:i<vs.length:=bU;rw[bw,cz,gW I,H i ag];exact l
end
structure eZ(f:aq)(KM:List cN)(T:aQ)(h0 h:Hp)(r:Raw)(m:fQ)(g:dO)(E:aQ):Prop where
 t:Tn T h0 h
 G:bR f KM (Tr T h0 h) h r m g
 e:∀c,E c->c<h.size/\Out g c
section
variable {KM:List cN} {S:aQ} {h0 h':Hp} {r r':Raw} {m:fQ} {g':dO}
theorem eZ.of(G:bR f KM T h r m g)(z:∀c,E c->c<h.size/\Out g c):eZ f KM T h h r m g E:=
 ⟨iX _ _,G.mono (λc q=>.inl q) λc q=>q.elim (λq=>G.t.lt c q) λq=>ag,z⟩
theorem eZ.next(s:eZ f KM T h0 h r m g E)(G:bR f KM (Tr (Tr T h0 h) h h') h' r' m g')(t:Tn S h h')(d:∀c,S c->c<h.size->¬Out g c)(j:∀c,c<h.size->Out g c->Out g' c):eZ f KM T h0 h' r' m g' E/\Tn (λc=>¬E c) h h':=by
 have i:=s.t.1;have b:=t.1;refine⟨⟨s.t.trans' t λc q a=>(Out.not s.G (d c q ag)).elim id λq=>ag,G.mono (λc q=>Tr.tr i b q) λc q=>?_,λc q=>?_⟩,t.mono λc q a z=>d c q a (s.e c z).2⟩
 ·rcases q with q|q
  ·have:=s.G.t.lt c (.inl q);omega
  omega
 ·have:=s.e c q;grind
theorem eZ.ai(KF:∀(j:Nat)M,KM[j]? =some M->gB M)(s:eZ f KM T h0 h r m g E)(gr:az h h'):eZ f KM T h0 h' r m g (λc=>E c\/(h.size<=c/\c<h'.size)):=by
 have b:=gr.1;have a:=s.G.fr KF (bh gr) λ_ _ _=>id;refine⟨s.t.trans (bh gr),a.mono (λc q=>q.imp id λq=>⟨q.1,ag⟩) λc q=>?_,λc q=>?_⟩
 ·rcases q with q|q
  ·have:=s.G.t.lt c (.inl q);omega
  omega
 ·rcases q with q|q
  ·have:=s.e c q;grind
  ·exact⟨q.2,s.G.out λz=>by have:=s.G.t.lt c z;omega⟩
theorem eZ.only(s:eZ f KM T h0 h r m g E)(o:eD g.b h h')(G:bR f KM (Tr T h0 h) h' r' m g):eZ f KM T h0 h' r' m g E/\Tn (λc=>¬E c) h h':=
 s.next (G.mono (λc q=>.inl q) λc q=>q.elim (λq=>G.t.lt c q) λq=>q.2) o.fr (λc q _ z=>z.1 q) λc _ o=>o
theorem eZ.vX{a:Nat}{cs:Array Value}(t:Tn (λc=>¬E c) h h')(k:aN h a cs ty)(b:E a):aN h' a cs ty:=t.aZ k λq=>q b
abbrev lI:=@eZ.vX
theorem rW{n:Bool}{F:Raw->Int×Raw}(h:4096<=r.b.rows):cR (eO n r) F=(3,r):=by
 unfold eO;rw[aI h];rfl
theorem rV{n:Bool}{F:Raw->Int×Raw}(h:r.b.rows<4096):cR (eO n r) F=F (r.up (Rb.row n)):=by
 unfold eO;rw[ay];rfl
theorem bR.dG{s:Sl}{K:Sl->Prop}(G:bR f KM T h r m g)(l:g.b=b)(a:g.SS[i]? =some s)(d:K s):Ld h ⟨b,16+i,none⟩ Sl.v K:=by
 subst l;refine aj G.B.k ?_ d;rw[qZ];have e:∀c,bW f g.sf g.sn g.sb r.b.rows r.b.ck r.b.bB c=bW f g.sf g.sn g.sb r.b.rows r.b.ck r.b.bB []++c:=λ_=>rfl;rw[e,gm (by show 16<=_;omega)]
 show _[16+i-16]? =_
 grind
theorem bR.vH{s s':Sl}{K:HP}(G:bR f KM T h r m g)(j:g.SS[i]? =some s)(k:aN H g.b (bW f g.sf g.sn g.sb r.b.rows r.b.ck r.b.bB (iG f.k g.SS g.kv g.ks g.sp)).toArray (iP f.k))
  (l:∀h',eD g.b H h'->aN h' g.b (bW f g.sf g.sn g.sb r.b.rows r.b.ck r.b.bB (iG f.k (g.SS.set i s') g.kv g.ks g.sp)).toArray (iP f.k)->K h'):St H ⟨g.b,16+i,none⟩ (Sl.v s') K:=by
 have e:∀d,bW f g.sf g.sn g.sb r.b.rows r.b.ck r.b.bB d=bW f g.sf g.sn g.sb r.b.rows r.b.ck r.b.bB []++d:=λ_=>rfl;have a:(bW f g.sf g.sn g.sb r.b.rows r.b.ck r.b.bB []).length=16:=rfl;refine dc k ?_ rfl λh' o c=>l h' o ?_
 all_goals grind[List.set_append_right,List.set_append_left,List.map_set]
theorem eZ.app{n bytes:Nat}{s:Sl}{x:List Value×TypeId}{news:bg}{a:List Value->Prop}{z:Array Value}{K:HP}(KF:∀(j:Nat)M,KM[j]? =some M->gB M)(S:eZ f KM T h0 h r m g E)(W:g.b=b)(C:g.SS[i]? =some s)(L:(cy f.k r.b)[i]? =some x)
  (J:z.size=1) (O:∀v∈news,one v=true) (hl:news.length=n) (N:a news) (d:(s.n+n+(s.n+n)/4+192)*bytes<=2^48) (P:s.n+n<2^63) (V:x'=(x.1++news,x.2))
  (U:r'.b.rows=r.b.rows/\r'.b.ck=r.b.ck/\r'.b.bits=r.b.bits/\r'.b.bB=r.b.bB) (e1:cy f.k r'.b=(cy f.k r.b).set i x') (e0:r'.kids=r.kids) (Y:r'.b.aF=r.b.aF) (X:∀y,m=some y->eM f.k r.b y.r.b->eM f.k r'.b y.r.b)
  (Q:∀e A' h',Tn (λc=>¬E c) h h'->eZ f KM T h0 h' r' m {g with SS:=g.SS.set i e,ST:=g.ST.set i A'} E->K h'):Ap h x.2 z 1 bytes s n a λe p=>St p ⟨b,16+i,none⟩ (Sl.v e) K:=by
 subst W;have ls:=S.G.ls;have hi:=(cU.1 C).1;have l:g.ST[i]? =some g.ST[i]:=aA;generalize g.ST[i]=A at l;refine(S.G.sl i s A x C l L).BY J O hl N d P λe p t os=>?_;have nb:=S.G.t.kX (g.ic l);refine S.G.vH C (t.aZ S.G.B.k nb) λh' o H=>?_;have w:Os (Tr A h p) p e x'.1 x'.2:=by rw[V];exact os.tr
 obtain⟨G',F⟩:=S.G.slot KF l t w o H U e1 e0 Y X;have so:=o.1;have u:=g.ic l;have I:i<g.ST.length:=ag;obtain⟨Z,D⟩:=S.next (G'.mono (λc q=>q.imp id λq=>⟨q.1,ag⟩) λc q=>by rcases q with q|q;(have:=S.G.t.lt c q;have:=t.1;omega);exact q.2) F (λc q _ z=>q.elim (z.2 _ A u ag) z.1) λc R z=>z.set rfl (g.ZW I).symm u R
 grind
theorem eZ.row{K:cJ}(KF:∀(j:Nat)M,KM[j]? =some M->gB M)(S:eZ f KM T h0 h r m g E)(p:g.b=b)(e:4096<=r.b.rows->K 3 h)
  (o:r.b.rows<4096->∀d A' h',Tn (λc=>¬E c) h h'->eZ f KM T h0 h' (r.up (Rb.row au)) m {g with sb:=d,T0:=A'} E->K 0 h'):oO (bz b) au h K Kp:=by
 subst p;refine aoD S.G KF e λc d h' k t=>?_;obtain⟨n,a⟩:=S.next t k (λc q _ z=>q.elim z.1 (z.2 0 _ g.gw aY)) λc l z=>z.set rfl rfl g.gw l;exact o c d _ h' a n
theorem eZ.pY{x:Int}{n:Nat}{K:cJ}(KF:∀(j:Nat)M,KM[j]? =some M->gB M)(S:eZ f KM T h0 h r m g E)(l:g.b=b)(d:x=n)(k:r.b.bB+n<2^62)
  (e:∀h',Tn (λc=>¬E c) h h'->eZ f KM T h0 h' (fB n r).2 m g E->K (fB n r).1 h'):nC (bz b) x h K Kp:=by
 subst l;refine akV S.G KF d k λh' o p=>?_;obtain⟨i,a⟩:=S.only o p;exact e h' a i
theorem eZ.aL{rj:Raw}(KF:∀(j:Nat)M,KM[j]? =some M->gB M)(S:eZ f KM T h0 h r m g E)(u:g.KT[j]? =some A)(t:Tn A h h')
  (B:∀M w,KM[j]? =some M->g.kv[j]? =some w->M (Tr A h h') h' w rj (m.bind λy=>y.ks[j]?)):eZ f KM T h0 h' (r.fk j rj) m {g with KT:=g.KT.set j (Tr A h h')} E/\Tn (λc=>¬E c) h h':=by
 have a:=g.fC u;exact S.next (S.G.arW KF u t B) t (λc q _ z=>z.2 _ A a ag q) λc b z=>z.set rfl g.ZX.symm a b
theorem bR.lP{w:Value}{K:Value->Prop}(G:bR f KM T h r m g)(l:g.b=b)(a:f.k=15\/f.k=16\/f.k=19\/f.k=20)(hl:g.SS.length=i)(c:g.kv[0]? =some w)(j:K w):Ld h ⟨b,16+i,none⟩ id K:=by
 subst l;refine aj G.B.k ?_ j;rw[qZ];have e:∀d,bW f g.sf g.sn g.sb r.b.rows r.b.ck r.b.bB d=bW f g.sf g.sn g.sb r.b.rows r.b.ck r.b.bB []++d:=λ_=>rfl;rw[e,gm (by show 16<=_;omega)]
 show _[16+i-16]? =_
 rw[gm cj,cm,show 16+i-16-g.SS.length=0 by omega]
 unfold nL;grind
end
structure MC(f:aq)(M:cN):Prop where
 fr:gB M
 lt:∀{T:aQ}{h:Hp}{v:Value}{r:Raw}{m:fQ},M T h v r m->∀c,T c->c<h.size
 na:∀{T:aQ}{h:Hp}{v:Value}{r:Raw}{m:fQ},M T h v r m->∃k b,v=.iface (bG k) (bI b)
 mono:∀{T T':aQ}{h:Hp}{v:Value}{r:Raw}{m:fQ},M T h v r m->(∀c,T c->T' c)->(∀c,T' c->c<h.size)->M T' h v r m
 drop:∀{T:aQ}{h:Hp}{v:Value}{r:Raw}{m:fQ},M T h v r m->M T h v r none
 take:∀{T D:aQ}{h:Hp}{v:Value}{vs:aP}{m:fQ}{x:aB}{s:Sl}{K:cJ}{Kp:PK},f.can vs->f.fit x=true->x.bq<=4194304->M T h v (f.st vs) m->aR D h s x.items->(∀c,D c->¬T c)->
  (∀h',Tn T h h'->M (Tr T h h') h' v (f.tk (f.st vs) x).2 m->K (f.tk (f.st vs) x).1 h')->mY v x.au x.num (bs x.text) s h K Kp
 zero:∀{T:aQ}{h:Hp}{v:Value}{vs:aP}{m:fQ}{K:cJ}{Kp:PK},f.can vs->M T h v (f.st vs) m->
  (∀h',Tn T h h'->M (Tr T h h') h' v (f.zk (f.st vs)).2 m->K (f.zk (f.st vs)).1 h')->mG v h K Kp
 mark:∀{T:aQ}{h:Hp}{v:Value}{vs:aP}{K:de}{Kp:PK},f.can vs->M T h v (f.st vs) none->
  (∀mm h',az h h'->one mm.F=true->mm.F.cells=#[mm.F]->mm.r=f.st vs->M (Tr T h h') h' v (f.st vs) (some mm)->K mm.F h')->kV v h K Kp
 back:∀{T:aQ}{h:Hp}{v:Value}{r:Raw}{mm:Mem}{K:HP}{Kp:PK},M T h v r (some mm)->
  (∀h',Tn T h h'->M T h' v mm.r (some mm)->K h')->cX aD mm.F [] h (λr h1=>r=.tuple #[]/\K h1) Kp
 done:∀{T:aQ}{h:Hp}{v:Value}{vs:aP}{m:fQ}{K:Int->Int->Int->Sl->Sl->Sl->HP}{Kp:PK},f.can vs->M T h v (f.st vs) m->
  (∀p h',az h h'->eU (Nw h) (Nw h) h' p (f.dn (f.st vs))->K (f.dn (f.st vs)).len (f.dn (f.st vs)).off (f.dn (f.st vs)).au p.1 p.2.1 p.2.2 h')->mH v h K Kp
 count:∀{T:aQ}{h:Hp}{v:Value}{r:Raw}{m:fQ}{K:cJ}{Kp:PK},M T h v r m->K (r.b.rows:Int) h->ajI v h K Kp
 weight:∀{T:aQ}{h:Hp}{v:Value}{r:Raw}{m:fQ}{K:cJ}{Kp:PK},M T h v r m->K (r.b.bB:Int) h->ajH v h K Kp
section
variable {KM:List cN} {v:Value} {r:Raw} {m:fQ} {x:aB} {s:Sl} {K:cJ}
theorem bR.oy{s:Sl}{x:List Value×TypeId}(G:bR f KM T h r m g)(a:g.SS[i]? =some s)(c:(cy f.k r.b)[i]? =some x):s.n=x.1.length:=by
 have d:=G.ls;have e:=(cU.1 a).1;exact(G.sl i s _ x a (bx ag) c).n
theorem alJ(a:f.k=1)(r:Raw)(x:aB):f.tk r x=cR (eO true r) (fB 16):=by
 rw[kD];unfold iE;simp[*]
theorem Zn(e:f.k=1)(KF:∀(j:Nat)M,KM[j]? =some M->gB M)(G:bR f KM T h r m g)(I:r.b.bB<=2^50)(d:∀i,Tn T h i->cQ f KM (Tr T h i) i (.iface (bG f.k) (bI g.b)) (f.tk r x).2 m->K (f.tk r x).1 i):Od (bz g.b) x.au x.num (bs x.text) s h K Kp:=by
 have l:bG f.k=pO:=by unfold bG;simp[*]
 rw[l]at d;rw[alJ e]at d;refine aEm (aG λa u H w C _=>?_);simp only[ob];have n:=(eZ.of (E:=λ_=>False) G λ_ q=>q.elim).ai KF w;refine n.row KF rfl (λc=>bO rfl ?_) λc z J F B y=>bu rfl ?_
 ·rw[rW c]at d;exact d u n.t ⟨g,by rw[l],n.G⟩
 ·rw[rV c]at d;refine y.pY KF rfl rfl (by show r.b.bB+16<2^62;omega) λp A o=>d p o.t ⟨_,by rw[l],o.G⟩
theorem alD(c:f.k=12\/f.k=13)(r:Raw)(x:aB):f.tk r x=cR (eO x.au r) λa=>if 65536<a.b.all.length+x.text.length then(4,a)else fB (16+x.text.length) (a.up λb=>{b with all:=b.all++x.text,ends:=b.ends++[b.all.length+x.text.length]}):=by
 rw[kD];unfold iE;grind
theorem Zi(A:f.k=12\/f.k=13)(KF:∀(j:Nat)M,KM[j]? =some M->gB M)(G:bR f KM T h r m g)(b1:r.b.ends.length<=70000)(b2:r.b.all.length<=2^40)(b3:r.b.bB<=2^50)(b4:x.text.length<=2^40)
  (o:∀J,Tn T h J->cQ f KM (Tr T h J) J (.iface (bG f.k) (bI g.b)) (f.tk r x).2 m->K (f.tk r x).1 J):Ob (bz g.b) x.au x.num (bs x.text) s h K Kp:=by
 have L:bG f.k=pN:=by unfold bG;grind
 rw[L]at o;rw[alD A]at o;have l:∀I:Rb,cy f.k I=[(ints I.ends,Y6),(bv I.all,Y8)]:=λI=>by unfold cy;simp[*]
 have U:∀a b:Rb,eM f.k a b↔b.ends <+: a.ends/\b.all <+: a.all:=λa b=>by unfold eM;simp[*]
 obtain⟨C,p,d⟩:∃C p,g.SS=[C,p]:=by
  have:=G.ls.1;rw[l]at this
  match hg:g.SS,this with
  |[a,b],_=>simp
 refine aEd (aG λa S ea g1 e _=>?_);refine bK ?_;have O:=(eZ.of (E:=λ_=>False) G λ_ q=>q.elim).ai KF g1;have P:(λc=>False\/(h.size<=c/\c<S.size)) a:=ag
 refine aj e rfl (O.row KF rfl (λc=>bO rfl ?_) λc a' A' h2 Y w=>bu rfl ?_)
 ·rw[rW c]at o;exact o S O.t ⟨g,by rw[L],O.G⟩
 ·rw[rV c]at o;have e:=lI Y e P;have n1:p.n=r.b.all.length:=by have:=w.G.oy (i:=1) (s:=p) (by simp[d]) (by rw[l];rfl);rw[this,fM];rfl
  have n0:C.n=r.b.ends.length:=by have:=w.G.oy (i:=0) (s:=C) (by simp[d]) (by rw[l];rfl);rw[this,ints,cm];rfl
  refine w.G.dG (i:=1) (s:=p) rfl (by simp[d]) (aj e rfl (aW ag (by rw[iV];omega) (aE (λu=>?_) λu=>?_)))
  ·have u:=aM u;rw[iV]at u;rw[aI (by show 65536<r.b.all.length+_;omega)]at o
   exact o h2 w.t ⟨_,by rw[L],w.G⟩
  ·have u:=aM u;rw[iV]at u;rw[aC (by show¬65536<r.b.all.length+_;omega)]at o
   refine w.G.dG (i:=1) (s:=p) rfl (by simp[d]) (aj e rfl ?_)
   refine w.app (i:=1) (x:=(bv r.b.all,Y8)) (x':=(bv (r.b.all++x.text),Y8)) (r':=(r.up (Rb.row x.au)).up λb=>{b with all:=b.all++x.text}) KF rfl (by simp[d]) (by rw[l];rfl) rfl ?_ (by rw[fM,iV]) ?_ bU bU (by rw[uT])
    ⟨rfl,rfl,rfl,rfl⟩ (by rw[l,l];rfl) rfl rfl (λZ _ q=>?_) λz A1 h3 X H=>?_
   ·intro v F;simp only[bv,lU]at F;obtain⟨y,_,rfl⟩:=F;rfl
   ·rfl
   ·rw[U]at q ⊢;exact⟨q.1,q.2.trans (tL _ _)⟩
   have e:=lI X e P;have Q:z.n=r.b.all.length+x.text.length:=by have:=H.G.oy (i:=1) (s:=z) (by simp[d]) (by rw[l];rfl);rw[this,fM];exact ij
   refine H.G.dG (i:=0) (s:=C) rfl (by simp[d]) (H.G.dG (i:=1) (s:=z) rfl (by simp[d]) (aG λa5 h4 e5 N R _=>bM H.G.B.k N ?_))
   rw[Q]at R;refine(H.ai KF N).app (i:=0) (s:=C) (x:=(ints r.b.ends,Y6)) (x':=(ints (r.b.ends++[r.b.all.length+x.text.length]),Y6)) (r':=(r.up (Rb.row x.au)).up λb=>{b with all:=b.all++x.text,ends:=b.ends++[b.all.length+x.text.length]}) (news:=[ah ((r.b.all.length+x.text.length:Nat):Int)]) KF rfl (by simp[d]) (by rw[l];rfl) rfl ?_ rfl (iM R rfl) ag ag (by simp[ints])
    ⟨rfl,rfl,rfl,rfl⟩ (by rw[l,l];rfl) rfl rfl (λZ _ q=>?_) λb' A0 h5 W S5=>aA2 ?_
   ·intro v F;simp only[mA]at F;subst F;rfl
   ·rw[U]at q ⊢;exact⟨q.1.trans (tL _ _),q.2⟩
   have e:=lI W (e.ai N) (.inl P);refine bK ?_;refine aj e rfl (aW ag bU (S5.pY KF rfl (n:=16+x.text.length) (by rw[iV];omega) (by show r.b.bB+_<2^62;omega) λh6 t6 V=>o h6 V.t ⟨_,by rw[L],V.G⟩))
end
theorem Fq{g:Raw->Int×Raw}{a:List (Raw->Int×Raw)}{r:Raw}{F:Raw->Int×Raw}(h:(g r).1≠0):cR (fm (g::a) r) F=g r:=by
 show cR (cR (g r) (fm a)) F=g r
 unfold cR;simp[*]
theorem Fo{g:Raw->Int×Raw}{a:List (Raw->Int×Raw)}{r:Raw}{F:Raw->Int×Raw}(h:(g r).1=0):cR (fm (g::a) r) F=cR (fm a (g r).2) F:=by
 show cR (cR (g r) (fm a)) F=_
 unfold cR;simp[*]
theorem Fp{r:Raw}{F:Raw->Int×Raw}:cR (fm [] r) F=F r:=by
 unfold cR fm;simp
theorem oh{Y:aB}:∀{l:aP},Y∈l->Y.bq<=bH l
  |[],h=>by simp at h
  | z::l,h=>by
    rcases mB.1 h with rfl|h
    ·simp[bH]
    ·have:=oh h;simp[bH];omega
theorem iI{X:aP}(h:c.can X):(c.st X).b.bB<=4194304/\(c.st X).b.bB=bH X:=by
 rw[fF];exact⟨((gk c X).1 h).wt,rfl⟩
theorem KG(e:f.cs=[c])(d:f.k=15\/f.k=16){x:aB}(a:f.fit x=true):∀y∈x.items,c.fit y=true:=by
 rw[eL]at a;unfold fD at a;have b:(f.cs.map aq.fit).getD 0 uD=c.fit:=by rw[e];rfl
 rw[b]at a;grind
section
variable {M:cN} {v:Value} {vs:aP} {m:fQ} {x:aB} {s:Sl} {K:cJ}
theorem ni(C:MC c M):∀(j:Nat)b,[M][j]? =some b->gB b:=by
 intro j b a;rcases j with _|j
 ·simp at a;subst a;exact C.fr
 ·simp at a
theorem alK(d:f.k=15)(e:f.cs=[c])(r:Raw)(x:aB):f.tk r x=cR (eO x.au r) λg=>cR (fm (x.items.map λy=>di 0 λq=>c.tk q y) g) λa=>fB (16+(eJ a 0-eJ g 0)) (a.up λb=>{b with ends:=b.ends++[(a.aL 0).b.rows]}):=by
 rw[kD];unfold iE;simp[*]
theorem Zo(o:f.k=15)(f':f.cs=[c])(C:MC c M)(PC:jl c)(hc:f.can vs)(P:f.fit x=true)(hw:x.bq<=4194304)(G:bR f [M] T h (f.st vs) m g)(hv:aR D h s x.items)(hD:∀c,D c->c<h.size->Out g c)
  (R:∀h',Tn T h h'->cQ f [M] (Tr T h h') h' (.iface (bG f.k) (bI g.b)) (f.tk (f.st vs) x).2 m->K (f.tk (f.st vs) x).1 h'):N9 (bz g.b) x.au x.num (bs x.text) s h K Kp:=by
 have KF:=ni C;have ed:bG f.k=pM:=by unfold bG;rw[ay,ay,aI o]
 rw[ed]at R;rw[alK o f']at R;have es:∀rb:Rb,cy f.k rb=[(ints rb.ends,Y6)]:=λrb=>by simp_all[cy,aC]
 have ep:∀a b:Rb,eM f.k a b↔b.ends <+: a.ends:=λa b=>by unfold eM;rw[ay,aI o]
 obtain⟨s0,F⟩:∃s0,g.SS=[s0]:=by
  have:=G.ls.1;rw[es]at this
  match hg:g.SS,this with
  |[a],_=>exact⟨a,rfl⟩
 obtain⟨w,l⟩:∃w,g.kv=[w]:=by
  have:=G.lk.1
  match hg:g.kv,this with
  |[a],_=>exact⟨a,rfl⟩
 have s':f.cs[0]? =some c:=by rw[f'];rfl
 have b':=mW s' vs;have e':=fy s' hc;generalize dJ f.k f.w _ 0 vs=d at b' e';have p':=KG f' (.inl o) P;have hxw:=gV x;have hil:x.items.length<=4096:=by rw[eL]at P;exact DG P
 have hn:=hv.n;refine aD7 (aG λa h1 ea g1 ka _=>?_);refine bK ?_;have S1:=(eZ.of (E:=λc=>D c/\c<h.size) G λc q=>⟨q.2,hD c q.1 q.2⟩).ai KF g1;generalize hE:(λc=>(D c/\c<h.size)\/(h.size<=c/\c<h1.size))=E at S1;have E1:E a:=by rw[<-hE];exact .inr ⟨ag,ka.lt⟩
 have i':∀c,D c/\c<h.size->E c:=λc q=>by rw[<-hE];exact .inl q
 have xP:=eR (aR.lt _ hv) g1;have wo:(f.st vs).b.ends.length<=5000:=by
  have:=((gk f vs).1 hc).n4;rw[fF];simp only[aK];rw[ay,aI o,CW];omega
 refine aj ka rfl (S1.row KF rfl (λq=>bO rfl ?_) λq qH A' h2 t2 S2=>bu rfl ?_)
 ·rw[rW q]at R;exact R h1 S1.t ⟨g,by rw[ed],S1.G⟩
 rw[rV q]at R;have ka:=lI t2 ka E1;have z':=aR.fr t2 (λc q _ z=>z (i' c q)) (λ_ z=>z) _ xP;generalize l':(f.st vs).up _=Q at R S2;have k1:Q.aL 0=c.st d:=by rw[<-l',iT];exact b'
 have b1:Q.b.ends=(f.st vs).b.ends/\Q.b.bB=(f.st vs).b.bB:=by rw[<-l'];exact⟨rfl,rfl⟩
 have u':=S2.G.aL 0 M _ w rfl (bx (by have:=G.lk.2.1;simp_all)) (by simp[l])
 refine S2.G.lP (i:=1) rfl (.inl o) (by simp[F]) (by simp[l]) (C.weight u' (aj ka rfl ?_))
 rw[k1];have n':=iI e';refine azq (λy h'=>∃(i:Nat)(L:dO)(r':Raw),y=i/\i<=x.items.length/\eZ f [M] T h h' r' m L E/\L.b=g.b/\L.SS=g.SS/\L.kv=g.kv/\r'.b=Q.b/\r'.aL 0=c.st (d++x.items.take i)/\c.can (d++x.items.take i)/\
   aR _ h' s x.items/\(cR (fm (x.items.map λy=>di 0 λq=>c.tk q y) Q) λr2=>fB (16+(eJ r2 0-eJ Q 0)) (r2.up λb=>{b with ends:=b.ends++[(r2.aL 0).b.rows]}))=
    cR (fm ((x.items.drop i).map λy=>di 0 λq=>c.tk q y) r') λr2=>fB (16+(eJ r2 0-eJ Q 0)) (r2.up λb=>{b with ends:=b.ends++[(r2.aL 0).b.rows]}))
  (λy _=>x.items.length-y.toNat) ⟨0,_,Q,rfl,dN _,S2,rfl,rfl,rfl,rfl,by simpa using k1,by simpa using e',z',rfl⟩ ?_
 rintro y h3 ⟨i,L,r',rfl,hi,S3,j,I,r,d',H,U,k',O⟩ N hN;have SJ:0<L.KT.length:=by have:=S3.G.lk.2.1;simp only[jw]at this;omega
 have hA:=bx SJ;generalize L.KT[0]=A at hA;refine aE (λX=>?_) λX=>?_
 ·have X:=aM X;have V:i<x.items.length:=ag;have hx:=bx V;have c':=kg V;have q':=yI V;have J:=kE V;generalize x.items[i]=z at hx c' q' J;rw[q',rm]at O;refine k'.ix rfl hx λp u cx hz=>gZ cx (aG λa8 h4 e4 g4 k8 _=>lT k8 rfl λh5 o5 k8=>?_);refine bK ?_;have g5:=bE g4 o5 ag;have S:=S3.ai KF g5;have Dt:=S.G.aL 0 M A w rfl hA (by rw[r,l];rfl)
  rw[H]at Dt;refine S.G.lP (i:=1) j (.inl o) (by rw[I,F];rfl) (by rw[r,l];rfl) (eY k8 (C.take U (p' z J) (by have:=oh J;omega) Dt (eR hz g5) (λX q z=>(S.e X (.inl (i' X q))).2.2 _ A (L.fC hA) ag z) λh6 t6 M6=>?_))
  obtain⟨Z,v'⟩:=S.aL KF hA t6 λM' w' q1 q2=>by
   simp at q1;subst q1;rw[r,l]at q2;simp at q2;subst q2;exact M6
  have hE6:=(bh g5).trans (v'.mono λc q _ z=>q (.inl z));have W:(di 0 (λq=>c.tk q z) r')=((c.tk (c.st (d++x.items.take i)) z).1,r'.fk 0 (c.tk (c.st (d++x.items.take i)) z).2):=by unfold di;rw[H]
  refine cL (λY=>?_) λY=>?_
  ·rw[O,Fq (by rw[W];exact Y),W]at R
   exact R h6 Z.t ⟨_,by rw[ed];simp only[j],Z.G⟩
  ·have m':=PC z (p' z J) _ U Y;rw[Fo (by rw[W];exact Y),W]at O
   refine aW ag ag (hN _ _ ⟨i+1,_,_,aA,ag,⟨Z.t,Z.G,λc q=>Z.e c (.inl q)⟩,j,I,r,by rw[m5];exact d',?_,?_,aR.fr hE6 (λc q _ z=>z (i' c q)) (λ_ z=>z) _ k',O⟩ ag)
   ·rw[lz (by have:=S.G.lk.2.2;simp only[jw]at this;omega),m'.2,c',q9]
   ·rw[c',<-q9];exact m'.1
 ·have X:=aM X;have:i=x.items.length:=ag;subst this;rw[wJ,Cb,Fp]at O;rw[mz]at H U;rw[O]at R;apply aA0;refine bK ?_;have a':=S3.G.aL 0 M A w rfl hA (by rw[r,l];rfl)
  rw[H]at a';have n0:s0.n=r'.b.ends.length:=by have:=S3.G.oy (i:=0) (s:=s0) (by rw[I,F];rfl) (by rw[es];rfl);rw[this,ints,cm]
  have n0':s0.n<=5000:=by rw[n0,d',b1.1];exact wo
  have j':aN h3 g.b _ _:=j▸S3.G.B.k;refine S3.G.dG (i:=0) (s:=s0) j (by rw[I,F];rfl) (S3.G.lP (i:=1) (w:=w) j (.inl o) (by rw[I,F];rfl) (by rw[r,l];rfl) (C.count a' (bM j' (cK _) (aG λa5 h4 e4 g4 k5 _=>bM j' g4 ?_))))
  refine(S3.ai KF g4).app (i:=0) (s:=s0) (x:=(ints r'.b.ends,Y6)) (x':=(ints (r'.b.ends++[(c.st (d++x.items)).b.rows]),Y6)) (r':=r'.up λb=>{b with ends:=b.ends++[(r'.aL 0).b.rows]}) (news:=[ah ((c.st (d++x.items)).b.rows:Int)]) KF j (by rw[I,F];rfl) (by rw[es];rfl) rfl ?_ rfl (iM k5 rfl) ag ag (by simp[ints])
   ⟨rfl,rfl,rfl,rfl⟩ (by rw[es,es,gq,H];rfl) (jS) rfl (λmm _ q=>?_) λy' A0 h5 t5 S=>aAZ ?_
  ·intro v hv;simp only[mA]at hv;subst hv;rfl
  ·rw[ep]at q ⊢;exact q.trans (tL _ _)
  refine bK ?_;have Dt:=S.G.aL 0 M A w rfl hA (by show L.kv[0]? =_;rw[r,l];rfl)
  rw[iT,H]at Dt;have o':=iI U;have t':=oT d x.items;have SQ:eJ Q 0=bH d:=by unfold eJ;rw[k1];exact n'.2
  have SP:eJ r' 0=bH d+bH x.items:=by unfold eJ;rw[H,o'.2,t']
  have hvh:r'.b.bB<=4194304:=by rw[d',b1.2];exact(iI hc).1
  refine S.G.lP (i:=1) (w:=w) j (.inl o) (by show(L.SS.set 0 y').length=1;rw[Ca,I,F];rfl) (by show L.kv[0]? =_;rw[r,l];rfl) (C.weight Dt (aW ag ag (aW ag ag (S.pY KF j (n:=16+(eJ r' 0-eJ Q 0)) (by rw[SQ,SP,o'.2,t',n'.2];omega) (by show r'.b.bB+_<2^62;omega) λh6 t6 Z=>R h6 Z.t ⟨_,by rw[ed];simp only[j],Z.G⟩))))
end
theorem aqr{K:Value->Prop}(a:K (.iface e (bI b))):sJ aD (.iface e (bI b)) K:=by
 unfold sJ yP;exact a
def w8(t:TypeId):Prop:=match sX aD t "colonnade/build.take" with|some (_,true)=>True|_=>False
theorem aqL:w8 pO:=cast aV trivial
theorem aqK:w8 pN:=cast aV trivial
theorem aqJ:w8 pM:=cast aV trivial
theorem aqI:w8 oK:=cast aV trivial
theorem aqH:w8 oJ:=cast aV trivial
theorem aqG:w8 qw:=cast aV trivial
theorem aqF:w8 qv:=cast aV trivial
theorem aqE:w8 pL:=cast aV trivial
theorem aqD:w8 pK:=cast aV trivial
theorem aqC(k:Int):w8 (bG k):=by
 unfold bG
 by_cases zT:k=1
 ·rw[aI zT];exact aqL
 rw[aC zT]
 by_cases ym:k=12\/k=13
 ·rw[aI ym];exact aqK
 rw[aC ym]
 by_cases BO:k=15
 ·rw[aI BO];exact aqJ
 rw[aC BO]
 by_cases a:k=16
 ·rw[aI a];exact aqI
 rw[aC a]
 by_cases yj:k=17
 ·rw[aI yj];exact aqH
 rw[aC yj]
 by_cases zS:k=18
 ·rw[aI zS];exact aqG
 rw[aC zS]
 by_cases yh:k=19
 ·rw[aI yh];exact aqF
 rw[aC yh]
 by_cases Lj:k=20
 all_goals simp_all[aqE,aqD]
theorem abh{X:Prop}(e:X):Cq aD (.iface (bG k) (bI b)) "colonnade/build.take" X:=⟨aqC k,e⟩
section
variable {M:cN} {v:Value} {vs:aP} {m:fQ} {x:aB} {s:Sl} {K:cJ}
def mZ(f c:aq)(x:aB):List aB:=if x.au then List.replicate f.w.toNat c.bZ else x.items
def ql(f c:aq)(x:aB):List (Raw->Int×Raw):=if x.au then List.replicate f.w.toNat (di 0 c.zk)else x.items.map λy=>di 0 λq=>c.tk q y
theorem alF(a:f.k=16)(b:f.cs=[c])(r:Raw)(x:aB):f.tk r x=cR (eO x.au r) λe=>cR (fm (ql f c x) e) λd=>fB (if x.au then 16 else 16+(eJ d 0-eJ e 0)) d:=by
 rw[kD];unfold iE;rw[ay,ay,ay,aI a,b];rfl
theorem am6(f c:aq)(x:aB):(mZ f c x).length=(ql f c x).length:=by
 unfold mZ ql;split <;> simp
theorem am4(b:f.k=16)(e:f.cs=[c])(a:f.fit x=true):(ql f c x).length=f.w.toNat:=by
 unfold ql;split
 ·simp
 ·rename_i d
  rw[eL]at a;unfold fD at a;grind
theorem am3{x:aB}(n:jl c)(l:dU c c.zk c.bZ)(e:x.au=false->∀y∈x.items,c.fit y=true){i:Nat}{g:Raw->Int×Raw}{y:aB}(b:(ql f c x)[i]? =some g)(a:(mZ f c x)[i]? =some y):∃G:Raw->Int×Raw,g=di 0 G/\dU c G y/\(x.au=true->G=c.zk)/\(x.au=false->x.items[i]? =some y/\G=λq=>c.tk q y):=by
  unfold ql at b;unfold mZ at a;cases d:x.au with
  | true=>
    grind
  | false=>
    rw[d]at b a;simp only[mD,lJ]at b a;rw[fh,a]at b;simp only[pH,mC]at b;subst b;exact⟨_,rfl,n y (e d y (bL a)),λq=>(by cases q),λ_=>⟨a,rfl⟩⟩
theorem Zk(fu:bC f)(l:f.k=16)(Z:f.cs=[c])(C:MC c M)(PC:jl c)(PZ:dU c c.zk c.bZ)(hc:f.can vs)(c':f.fit x=true)(hw:x.bq<=4194304)(G:bR f [M] T h (f.st vs) m g)(hv:aR D h s x.items)(hD:∀c,D c->c<h.size->Out g c)
  (r:∀h',Tn T h h'->cQ f [M] (Tr T h h') h' (.iface (bG f.k) (bI g.b)) (f.tk (f.st vs) x).2 m->K (f.tk (f.st vs) x).1 h'):N7 (bz g.b) x.au x.num (bs x.text) s h K Kp:=by
 have KF:=ni C;have ed:bG f.k=oK:=by unfold bG;simp_all
 rw[ed]at r;rw[alF l Z]at r;have J8:=fu.right.1.2.2.2.1 l;have es:∀rb:Rb,cy f.k rb=[]:=λrb=>by simp_all[cy,aC]
 have V:g.SS=[]:=by
  have:=G.ls.1;rw[es]at this;exact jv.1 this
 obtain⟨w,I⟩:∃w,g.kv=[w]:=by
  have:=G.lk.1
  match hg:g.kv,this with
  |[a],_=>exact⟨a,rfl⟩
 have x':f.cs[0]? =some c:=by rw[Z];rfl
 have b':=mW x' vs;have f':=fy x' hc;generalize dJ f.k f.w _ 0 vs=d at b' f';have u':=KG Z (.inr l) c';have hlen:=am4 l Z c';have hYG:=am6 f c x;have hxw:=gV x;refine aD3 (aG λa h1 ea g1 ka _=>?_);refine bK ?_;have kal:=ka.lt;have S1:=(eZ.of (E:=λc=>D c/\c<h.size) G λc q=>⟨q.2,hD c q.1 q.2⟩).ai KF g1;generalize hE:(λc=>(D c/\c<h.size)\/(h.size<=c/\c<h1.size))=E at S1;have E1:E a:=by rw[<-hE];exact .inr ⟨ag,kal⟩
 have i':∀c,D c/\c<h.size->E c:=λc q=>by rw[<-hE];exact .inl q
 have xP:=eR (aR.lt _ hv) g1;refine aj ka rfl (S1.row KF rfl (λq=>bO rfl ?_) λq qH A' h2 t2 S2=>bu rfl ?_)
 ·rw[rW q]at r;exact r h1 S1.t ⟨g,by rw[ed],S1.G⟩
 rw[rV q]at r;have ka:=lI t2 ka E1;have Sw:=aR.fr t2 (λc q _ z=>z (i' c q)) (λ_ z=>z) _ xP;generalize o':(f.st vs).up _=r1 at r S2;have k1:r1.aL 0=c.st d:=by rw[<-o',iT];exact b'
 have b1:r1.b.bB=(f.st vs).b.bB:=by rw[<-o'];rfl
 have z':=S2.G.aL 0 M _ w rfl (bx (by have:=G.lk.2.1;simp_all)) (by simp[I])
 have kb2:=S2.G.B.k;refine S2.G.lP (i:=0) rfl (.inr (.inl l)) (by simp[V]) (by simp[I]) (C.weight z' (aj kb2 (by simp[bW];rfl) ?_))
 rw[k1];have q':=iI f';generalize hF:(λr2:Raw=>fB _ r2)=F at r
 refine azp (λy h'=>∃(i:Nat)(Q:dO)(P:Raw),y=i/\i<=f.w.toNat/\eZ f [M] T h h' P m Q E/\Q.b=g.b/\Q.SS=g.SS/\Q.kv=g.kv/\P.b=r1.b/\P.aL 0=c.st (d++(mZ f c x).take i)/\c.can (d++(mZ f c x).take i)/\
   aR _ h' s x.items/\aN h' a #[.bool x.au,ah x.num,.string _,Sl.v s] dh/\cR (fm (ql f c x) r1) F=cR (fm ((ql f c x).drop i) P) F)
  (λy _=>f.w.toNat-y.toNat) ⟨0,_,r1,rfl,dN _,S2,rfl,rfl,rfl,rfl,by simpa using k1,by simpa using f',Sw,ka,rfl⟩ ?_
 rintro y h3 ⟨i,Q,P,rfl,hi,R,o,X,J,e',W,O,n',U,L⟩ N hN;have SJ:0<Q.KT.length:=by have:=R.G.lk.2.1;simp only[jw]at this;omega
 have hA:=bx SJ;generalize Q.KT[0]=A at hA;have j:=R.G.aL 0 M A w rfl hA (by rw[J,I];rfl)
 rw[W]at j;refine cL (λcc=>?_) λcc=>?_
 ·have t':(ql f c x)[i]? =some (ql f c x)[i]:=bx ag;have l':(mZ f c x)[i]? =some (mZ f c x)[i]:=bx ag;have d':(mZ f c x).take (i+1)=(mZ f c x).take i++[(mZ f c x)[i]]:=kg ag;have v':(ql f c x).drop i=(ql f c x)[i]::(ql f c x).drop (i+1):=yI ag;generalize(ql f c x)[i]=gi at t' v';generalize(mZ f c x)[i]=yi at l' d';rw[v']at L;obtain⟨Gi,rfl,j',hz,hnz⟩:=am3 PC PZ (λ_=>u') t' l';have Y:di 0 Gi P=((Gi (c.st (d++(mZ f c x).take i))).1,P.fk 0 (Gi (c.st (d++(mZ f c x).take i))).2):=by unfold di;rw[W]
  -- behind the kid's call
  have fin:∀H,Tn A h3 H->M (Tr A h3 H) H w (Gi (c.st (d++(mZ f c x).take i))).2 (m.bind λmm=>mm.ks[0]?)->
    If ((Gi (c.st (d++(mZ f c x).take i))).1 !=0) (K (Gi (c.st (d++(mZ f c x).take i))).1 H) (aO ((i:Int)+1) λt55=>N (FY (bz g.b) (aJ a) ((c.st d).b.bB:Int) f.w t55) H):=by
   intro H t6 M6;obtain⟨S,k'⟩:=R.aL KF hA t6 λM' w' q1 q2=>by
    simp at q1;subst q1;rw[J,I]at q2;simp at q2;subst q2;exact M6
   refine cL (λc2=>?_) λc2=>?_
   ·rw[L,Fq (by rw[Y];exact c2),Y]at r
    exact r H S.t ⟨_,by rw[ed];simp only[o],S.G⟩
   ·have p':=j' _ O c2;rw[Fo (by rw[Y];exact c2),Y]at L
    refine aW ag ag (hN _ _ ⟨i+1,_,_,aA,ag,S,o,X,J,by rw[m5];exact e',?_,?_,aR.fr k' (λc q _ z=>z (i' c q)) (λ_ z=>z) _ n',lI k' U E1,L⟩ ag)
    ·rw[lz (by have:=R.G.lk.2.2;simp only[jw]at this;omega),p'.2,d',q9]
    ·rw[d',<-q9];exact p'.1
  refine aj U rfl (aE (λcn=>?_) λcn=>?_)
  ·refine bK ?_;have:=hz cn;subst this;exact R.G.lP (i:=0) o (.inr (.inl l)) (by rw[X,V];rfl) (by rw[J,I];rfl) (C.zero O j λH t6 M6=>fin H t6 M6)
  ·refine bK ?_;obtain⟨m',rfl⟩:=hnz cn;have a':=bL m';obtain⟨kk,bb,rfl⟩:=C.na j;refine R.G.lP (i:=0) o (.inr (.inl l)) (by rw[X,V];rfl) (by rw[J,I];rfl) (aj U rfl (n'.ix rfl m' λp u cx Gk=>gZ cx (aqr (C.take (D:=λc=>D c/\c<h.size) O (u' yi a') (by have:=oh a';omega) j Gk (λcc q z=>(R.e cc (i' cc q)).2.2 _ A (Q.fC hA) ag z) λH t6 M6=>fin H t6 M6))))
 ·have:i=f.w.toNat:=ag;subst this;rw[<-hlen,wJ,Fp]at L;rw[qu ag]at W O j;rw[L,<-hF]at r;refine aAX (aj U rfl (aE (λcn=>?_) λcn=>?_))
  ·simp only[ob];dsimp only at r;rw[cn]at r;simp only[gu]at r;refine R.pY KF o (n:=16) rfl (by rw[e',b1];have:=(iI hc).1;omega) λH t6 S=>r H S.t ⟨_,by rw[ed];simp only[o],S.G⟩
  ·refine bK ?_;dsimp only at r;rw[cn]at r;simp only[mD,lJ]at r;have s':=iI O;have y':=oT d (mZ f c x);have SQ:eJ r1 0=bH d:=by unfold eJ;rw[k1];exact q'.2
   have SP:eJ P 0=bH d+bH (mZ f c x):=by unfold eJ;rw[W,s'.2,y']
   have hvh:P.b.bB<=4194304:=by rw[e',b1];exact(iI hc).1
   refine R.G.lP (i:=0) (w:=w) o (.inr (.inl l)) (by rw[X,V];rfl) (by rw[J,I];rfl) (C.weight j (aW ag ag (aW ag ag (R.pY KF o (n:=16+(eJ P 0-eJ r1 0)) (by rw[SQ,SP,s'.2,y',q'.2];omega) ag λH t6 S=>r H S.t ⟨_,by rw[ed];simp only[o],S.G⟩))))
end
def kH(cs:cC)(KM:List cN):Prop:=KM.length=cs.length/\∀(j:Nat)c M,cs[j]? =some c->KM[j]? =some M->MC c M
theorem kH.qQ{KM:List cN}(C:kH cs KM):∀(j:Nat)M,KM[j]? =some M->gB M:=by
 intro j M a;have d:=(cU.1 a).1;have b:j<cs.length:=by have:=C.1;omega
 have q:=C.2 j _ M (bx b) a;intro T S h e v r m;exact q.fr
section
variable {KM:List cN} {v:Value} {vs:aP} {r:Raw} {m:fQ} {x:aB} {s:Sl} {K:cJ}
def uv(r:Raw)(i:Nat):Nat:=((List.range i).map λj=>(r.aL j).b.bB).sum
theorem CX(r:Raw)(i:Nat):uv r (i+1)=uv r i+(r.aL i).b.bB:=by
 grind[uv,List.range_succ]
theorem CY{r:Raw}{n:Nat}(a:∀j,(r.aL j).b.bB<=n):∀i,uv r i<=i*n
 |0=>by simp[uv]
 |i+1=>by rw[CX];have:=CY a i;grind
theorem Ji(G:bR f KM T h r m g)(C:kH f.cs KM)(p:f.k=17\/f.k=18)(u:∀j,(r.aL j).b.bB<=2^40)(M:KM.length<=4096)(E:K (total r:Int) h):EM g.ks h K Kp:=by
 have q:=G.kl p;have lk:=G.lk;have L:g.ks.n=KM.length:=by rw[q.1.1,lk.1]
 have B:total r=uv r KM.length:=by rw[pZ,lk.2.2];rfl
 refine aDU (azj (λy z A=>A=h/\∃i:Nat,z=i/\i<=KM.length/\y=(uv r i:Int)) (λ_ z _=>KM.length-z.toNat) ⟨rfl,0,rfl,dN _,rfl⟩ ?_);rintro y z A ⟨rfl,i,rfl,O,rfl⟩ N hN;refine aE (λd=>?_) λd=>?_
 ·have d:=aM d;have e:i<f.cs.length:=by have:=C.1;omega
  have w:KM[i]? =some KM[i]:=aA;have t:g.kv[i]? =some g.kv[i]:=aA;have F:g.KT[i]? =some g.KT[i]:=aA;have o:f.cs[i]? =some f.cs[i]:=aA;have I:=CY u i;have J:=u i;have:i*2^40<=4096*2^40:=ag;refine q.1.ix ag ag aA λa H=>⟨_,H,(C.2 i _ _ o w).weight (G.aL i _ _ _ w F t) (aW ag ag (aW ag ag (hN _ _ _ ⟨rfl,i+1,aA,ag,?_⟩ ag)))⟩
  rw[CX];simp
 ·grind
theorem bR.uE{K:Sl->Prop}(G:bR f KM T h r m g)(l:g.b=b)(a:f.k=17\/f.k=18)(hl:g.SS.length=i)(j:K g.ks):Ld h ⟨b,16+i,none⟩ Sl.v K:=by
 subst l;refine aj G.B.k ?_ j;rw[qZ];have e:∀d,bW f g.sf g.sn g.sb r.b.rows r.b.ck r.b.bB d=bW f g.sf g.sn g.sb r.b.rows r.b.ck r.b.bB []++d:=λ_=>rfl;rw[e,gm (by show 16<=_;omega)]
 show _[16+i-16]? =_
 rw[gm cj,cm,show 16+i-16-g.SS.length=0 by omega]
 unfold nL;grind
def Jt(x:aB)(j:Nat)(c:aq):aB:=if x.au then c.bZ else x.items.getD j v0
def qi(x:aB)(j:Nat)(c:aq):Raw->Int×Raw:=if x.au then c.zk else λq=>c.tk q (x.items.getD j v0)
def vF(f:aq)(x:aB):List (Raw->Int×Raw):=(List.range f.cs.length).map λi=>di i (if x.au then(f.cs.map aq.zk).getD i og else λc=>((f.cs.map aq.tk).getD i ou) c (x.items.getD i v0))
theorem amI(a:f.cs[j]? =some c):(vF f x)[j]? =some (di j (qi x j c)):=by
 have b:=(cU.1 a).1;simp_all[vF,qi]
theorem Zy:(vF f x).length=f.cs.length:=by simp[vF]
theorem alE(a:f.k=17)(r:Raw)(x:aB):f.tk r x=cR (eO x.au r) λd=>cR (fm (vF f x) d) λb=>fB (if x.au then 16 else 16+(total b-total d)) b:=by
 simp_all[kD,iE,vF]
theorem Zj(fu:bC f)(S:f.k=17)(C:kH f.cs KM)(PC:∀c∈f.cs,jl c/\dU c c.zk c.bZ)(hc:f.can vs)(i':f.fit x=true)(hw:x.bq<=4194304)(G:bR f KM T h (f.st vs) m g)(hv:aR D h s x.items)(hD:∀c,D c->c<h.size->Out g c)
    (I:∀h',Tn T h h'->cQ f KM (Tr T h h') h' (.iface (bG f.k) (bI g.b)) (f.tk (f.st vs) x).2 m->K (f.tk (f.st vs) x).1 h'):N5 (bz g.b) x.au x.num (bs x.text) s h K Kp:=by
  have KF:=C.qQ;have CL:=C.1;have W:f.k=17\/f.k=18:=.inl S;have ed:bG f.k=oJ:=by unfold bG;simp_all
  rw[ed]at I;rw[alE S]at I;have z':=fu.right.1.2.2.2.2.2.2.2.2.1 S;have es:∀rb:Rb,cy f.k rb=[]:=λrb=>by simp_all[cy,aC]
  have j':g.SS=[]:=by
    have:=G.ls.1;rw[es]at this;exact jv.1 this
  have Z:=λj(c:aq)(d:f.cs[j]? =some c)=>mW d vs;have X:=λj(c:aq)(d:f.cs[j]? =some c)=>fy d hc;generalize f':(λj=>dJ f.k f.w _ j vs)=l;have Z:∀(j:Nat)(c:aq),f.cs[j]? =some c->(f.st vs).aL j=c.st (l j):=λj c d=>by rw[<-f'];exact Z j c d
  have X:∀(j:Nat)(c:aq),f.cs[j]? =some c->c.can (l j):=λj c d=>by rw[<-f'];exact X j c d
  have hfy:∀(j:Nat)(c:aq),f.cs[j]? =some c->dU c (qi x j c) (Jt x j c)/\(x.au=false->c.fit (x.items.getD j v0)=true):=by
    intro j c d;have hm:=bL d;unfold qi Jt;cases hn:x.au with
    |true=>simp_all
    |false=>have q:=(DF S i' hn).2.2 j c d;exact⟨(PC c hm).1 _ q,λ_=>q⟩
  have hlen:x.au=false->x.items.length=f.cs.length:=λhn=>(DF S i' hn).2.1;have hxw:=gV x;have hn:=hv.n;have out:∀(B:Raw),B.kids.length=f.cs.length->(∀(j:Nat)(c:aq),f.cs[j]? =some c->∃us,B.aL j=c.st us/\c.can us)->∀j,(B.aL j).b.bB<=2^40:=by
    intro B hl hr j
    by_cases d:j<f.cs.length
    ·obtain⟨us,e,hu⟩:=hr j _ (bx d);rw[e];have:=(iI hu).1;omega
    ·unfold Raw.aL;rw[gL,HV ag];exact dN _
  refine aDZ (aG λa h1 ea g1 ka _=>?_);refine bK ?_;have S1:=(eZ.of (E:=λc=>D c/\c<h.size) G λc q=>⟨q.2,hD c q.1 q.2⟩).ai KF g1;generalize hE:(λc=>(D c/\c<h.size)\/(h.size<=c/\c<h1.size))=E at S1;have E1:E a:=by rw[<-hE];exact .inr ⟨ag,ka.lt⟩
  have k':∀c,D c/\c<h.size->E c:=λc q=>by rw[<-hE];exact .inl q
  have xP:=eR (aR.lt _ hv) g1;refine aj ka rfl (S1.row KF rfl (λq=>bO rfl ?_) λq qH A' h2 t2 S2=>bu rfl ?_)
  ·rw[rW q]at I;exact I h1 S1.t ⟨g,by rw[ed],S1.G⟩
  rw[rV q]at I;have ka:=lI t2 ka E1;have Sw:=aR.fr t2 (λc q _ z=>z (k' c q)) (λ_ z=>z) _ xP;generalize u':(f.st vs).up (Rb.row x.au)=P at I S2;have k1:∀(j:Nat)(c:aq),f.cs[j]? =some c->P.aL j=c.st (l j):=by grind[iT]
  have b1:P.b.bB=(f.st vs).b.bB:=by rw[<-u'];rfl
  have l1:P.kids.length=f.cs.length:=by rw[S2.G.lk.2.2];exact CL
  have o1:=out P l1 λj c d=>⟨l j,k1 j c d,X j c d⟩;refine S2.G.uE (i:=0) rfl W (by simp[j']) (Ji S2.G C W o1 ag (S2.G.uE (i:=0) rfl W (by simp[j']) ?_))
  generalize hF:(λr2:Raw=>fB (if x.au then 16 else 16+(total r2-total P)) r2)=F at I
  refine azn (λy h'=>∃(i:Nat)(Q:dO)(B:Raw),y=i/\i<=f.cs.length/\eZ f KM T h h' B m Q E/\Q.b=g.b/\Q.SS=g.SS/\Q.kv=g.kv/\Q.ks=g.ks/\B.b=P.b/\
      (∀(j:Nat)(c:aq),f.cs[j]? =some c->B.aL j=c.st (l j++if j<i then[Jt x j c]else[])/\c.can (l j++if j<i then[Jt x j c]else[]))/\
      aR (λc=>D c/\c<h.size) h' s x.items/\aN h' a #[.bool x.au,ah x.num,.string (bs x.text),Sl.v s] dh/\cR (fm (vF f x) P) F=cR (fm ((vF f x).drop i) B) F)
    (λy _=>f.cs.length-y.toNat) ⟨0,_,P,rfl,dN _,S2,rfl,rfl,rfl,rfl,rfl,λj c d=>by simpa using⟨k1 j c d,X j c d⟩,Sw,ka,rfl⟩ ?_
  rintro y h3 ⟨i,Q,B,rfl,hi,S3,L,y',hgk,o,t',R,s',a',U⟩ N hN;have n':=S3.G.lk;have o':=S3.G.kl W;have ns:g.ks.n=f.cs.length:=by rw[<-o,o'.1.1,n'.1,CL]
  refine cL (λcc=>?_) λcc=>?_
  · have x':i<f.cs.length:=ag;have V:=bx x';have d':KM[i]? =some KM[i]:=bx ag;have e':Q.KT[i]? =some Q.KT[i]:=bx ag;have b':Q.kv[i]? =some Q.kv[i]:=bx ag;generalize f.cs[i]=H at V;generalize KM[i]=Mi at d';generalize Q.KT[i]=A at e';generalize Q.kv[i]=w at b';have Ci:=C.2 i H Mi V d';have M:=S3.G.aL i Mi A w d' e' b';obtain⟨Y,O⟩:=R i H V;rw[ay,oH]at Y O;rw[Y]at M;have hdr:(vF f x).drop i=di i (qi x i H)::(vF f x).drop (i+1):=by
      rw[yI (by rw[Zy];exact x')]
      congr 1
      have:=cU.1 (amI (x:=x) V);exact this.2
    rw[hdr]at U;obtain⟨l',hfi⟩:=hfy i H V;have c':di i (qi x i H) B=((qi x i H (H.st (l i))).1,B.fk i (qi x i H (H.st (l i))).2):=by unfold di;rw[Y]
    have fin:∀J,Tn A h3 J->Mi (Tr A h3 J) J w (qi x i H (H.st (l i))).2 (m.bind λmm=>mm.ks[i]?)->
        If ((qi x i H (H.st (l i))).1 !=0) (K (qi x i H (H.st (l i))).1 J) (aO ((i:Int)+1) λt51=>N (FX (bz g.b) (aJ a) (total P:Int) g.ks (g.ks.n:Int) t51) J):=by
      intro J t6 M6;obtain⟨S6,m'⟩:=S3.aL KF e' t6 λM' w' q1 q2=>by
        rw[d']at q1;cases q1;rw[b']at q2;cases q2;exact M6
      refine cL (λc2=>?_) λc2=>?_
      · rw[U,Fq (by rw[c'];exact c2),c']at I
        exact I J S6.t ⟨_,by rw[ed];simp only[L],S6.G⟩
      · have v':=l' _ O c2;rw[Fo (by rw[c'];exact c2),c']at U
        refine aW ag ag (hN _ _ ⟨i+1,_,_,aA,ag,S6,L,y',hgk,o,by rw[m5];exact t',λj c d=>?_,aR.fr m' (λc q _ z=>z (k' c q)) (λ_ z=>z) _ s',lI m' a' E1,U⟩ ag)
        by_cases e:i=j
        ·subst e;rw[V]at d;cases d;rw[lz ag,dR];exact⟨v'.2,v'.1⟩
        · rw[AU e];have:=R j c d
          by_cases q:j<i
          ·rw[aI q]at this;rw[dR];exact this
          ·rw[aC q]at this;rw[ay];exact this
    rw[<-o];refine o'.1.ix ag (by rw[o];omega) (by rw[fR];exact b') λp cp=>⟨_,cp,aj a' rfl (aE (λcn=>?_) λcn=>?_)⟩
    · rw[o];have eg:qi x i H=H.zk:=by unfold qi;rw[cn];rfl
      rw[eg]at fin;exact Ci.zero O M λJ t6 M6=>fin J t6 M6
    · rw[o];have eg:qi x i H=λq=>H.tk q (x.items.getD i v0):=by unfold qi;rw[cn];rfl
      rw[eg]at fin;have hl:=hlen cn;have q':x.items[i]? =some (x.items.getD i v0):=by rw[gL,bx ag];rfl
      obtain⟨kk,bb,rfl⟩:=Ci.na M;simp only[bw,cz];refine aj a' rfl (s'.ix rfl q' λp' u cx Gk=>gZ cx (abh (Ci.take (D:=λc=>D c/\c<h.size) O (hfi cn) (by have:=oh (bL q');omega) M Gk (λcc q z=>(S3.e cc (k' cc q)).2.2 _ A (Q.fC e') ag z) λJ t6 M6=>fin J t6 M6)))
  · have:i=f.cs.length:=ag;subst this;rw[<-Zy (f:=f) (x:=x),wJ,Fp]at U;rw[U,<-hF]at I;have hvh:B.b.bB<=4194304:=by rw[t',b1];exact(iI hc).1
    refine aAU (aj a' rfl (aE (λcn=>?_) λcn=>?_))
    ·simp only[ob];dsimp only at I;rw[cn]at I;simp only[gu]at I;refine S3.pY KF L (n:=16) rfl ag λJ t6 S6=>I J S6.t ⟨_,by rw[ed];simp only[L],S6.G⟩
    · refine bK ?_;dsimp only at I;rw[cn]at I;simp only[mD,lJ]at I;have l3:B.kids.length=f.cs.length:=by rw[n'.2.2];exact CL
      have o3:=out B l3 λj c d=>⟨_,(R j c d).1,(R j c d).2⟩;have hle:total P<=total B:=by
        rw[pZ,pZ,l1,l3];have:∀n,n<=f.cs.length->uv P n<=uv B n:=by
          intro n
          induction n with
          |zero=>intro _;exact bP _
          | succ n ih=>
            intro hn;have d:f.cs[n]? =some f.cs[n]:=bx ag;have q1:=(iI (R n _ d).2).2;have q2:=(iI (X n _ d)).2;rw[CX,CX,k1 n _ d,(R n _ d).1,q1,q2,oT];have:=ih ag;omega
        exact this _ (bP _)
      have Gp:total P<=32*2^40:=by rw[pZ,l1];exact iY (CY o1 _) (pG _ z')
      have Kc:total B<=32*2^40:=by rw[pZ,l3];exact iY (CY o3 _) (pG _ z')
      refine S3.G.uE (i:=0) L W (by rw[y',j'];rfl) (Ji S3.G C W o3 ag (aW ag ag (aW ag ag (S3.pY KF L (n:=16+(total B-total P)) ag ag λJ t6 S6=>I J S6.t ⟨_,by rw[ed];simp only[L],S6.G⟩))))
end
theorem aw5{k:Value}{p:Addr}{K:cJ}(H:ai8 k p h K Kp):cX aD (.func (.func 222) #[] #[dw p]) [k] h (λr a=>∃t:Int,r=ah t/\K t a) Kp:=by
 unfold cX;exact cast aV H
theorem aw0{k:Value}{K:cJ}(H:mG k h K Kp):cX aD (.func (.methodOf HY "colonnade/build.zero") #[] #[]) [k] h (λr d=>∃t:Int,r=ah t/\K t d) Kp:=by
  unfold cX;exact cast aV H
section
variable {KM:List cN} {h0:Hp} {v:Value} {vs:aP} {m:fQ} {x:aB} {s:Sl} {K:cJ}
theorem abJ{V:Value}{F:Raw->Int×Raw}(H:f.k=18)(C:kH f.cs KM)(hc:f.can vs)(hj:f.cs[j]? =some c)(p':j<32)(S:eZ f KM T h0 h (f.st vs) m g E)(y:g.b=b)
  (hF:∀I,c.can I->(F (c.st I)).1=0->(F (c.st I)).2.b.bB<=4194304/\(c.st I).b.bB<=(F (c.st I)).2.b.bB)
  (HT:∀{Q:Hp}{A:aQ}{M:cN}{w:Value}{mo:fQ}{I:aP}{K':cJ},KM[j]? =some M->c.can I->M A Q w (c.st I) mo->Tn (λc=>¬E c) h Q->(∀c,E c->¬A c)->
   (∀P,Tn A Q P->M (Tr A Q P) P w (F (c.st I)).2 mo->K' (F (c.st I)).1 P)->cX aD V [w] Q (λr h1=>∃t:Int,r=ah t/\K' t h1) Kp)
  (o:∀Q g',g'.b=b->eZ f KM T h0 Q (tg j F (f.st vs)).2 m g' E->K (tg j F (f.st vs)).1 Q):NX (bz b) (j:Int) V h K Kp:=by
 have KF:=C.qQ;have CL:=C.1;have j':f.k=17\/f.k=18:=.inr H;have L:∀rb:Rb,cy f.k rb=[(bv rb.all,Y8),(ints rb.ends,Y6)]:=λrb=>by unfold cy;rw[ay,ay,aI H]
 have ep:∀a b:Rb,eM f.k a b↔b.ends <+: a.ends/\b.all <+: a.all/\b.ends.length=b.all.length:=λa b=>by unfold eM;rw[ay,ay,ay,aI H]
 obtain⟨s0,s1,l⟩:∃s0 s1,g.SS=[s0,s1]:=by
  have:=S.G.ls.1;rw[L]at this
  match hg:g.SS,this with
  |[a,b],_=>exact⟨a,b,rfl⟩
 have y':=(cU.1 hj).1;have Y:=mW hj vs;have O:=fy hj hc;generalize dJ f.k f.w _ j vs=u at Y O;have n4:=((gk f vs).1 hc).n4;have al:(f.st vs).b.all.length<=4096:=by rw[fF];simp only[aK];rw[ay,aI H,cm];exact n4
 have el:(f.st vs).b.ends.length<=4096:=by rw[fF];simp only[aK];rw[ay,ay,aI H,cm,Hy];exact n4
 apply aDO;refine bK ?_;unfold tg at o;refine S.row KF y (λq=>bO rfl ?_) λq s' A' h2 t2 N=>bu rfl ?_
 ·rw[rW q]at o;exact o h g y S
 rw[rV q]at o;generalize e':(f.st vs).up _=d at o N;have k1:d.aL j=c.st u:=by rw[<-e',iT];exact Y
 have a1:d.b.all=(f.st vs).b.all/\d.b.ends=(f.st vs).b.ends/\d.b.bB=(f.st vs).b.bB:=by rw[<-e'];exact⟨rfl,rfl,rfl⟩
 have b':=N.G.kl j';have a':=N.G.lk;have m':j<g.kv.length:=by have:g.kv.length=KM.length:=a'.1;omega
 have n':j<g.KT.length:=by have:g.KT.length=KM.length:=a'.2.1;omega
 have Z:KM[j]? =some KM[j]:=bx ag;have hw:=bx m';have hA:=bx n';generalize KM[j]=M at Z;generalize g.kv[j]=w at hw;generalize g.KT[j]=A at hA;have Cj:=C.2 j c M hj Z;have ns:g.ks.n=KM.length:=by have:=b'.1.1;rw[a'.1]at this;exact this
 have X:=N.G.aL j M A w Z hA hw;rw[k1]at X;refine N.G.uE (i:=2) y j' (by simp[l]) (b'.1.ix ag (by show(j:Int)<g.ks.n;omega) (by rw[fR];exact hw) λp cp=>⟨_,cp,Cj.weight X ?_⟩)
 have n0:s0.n=(f.st vs).b.all.length:=by have:=N.G.oy (i:=0) (s:=s0) (by simp[l]) (by rw[L];rfl);rw[this,fM,a1.1]
 have n1:s1.n=(f.st vs).b.ends.length:=by have:=N.G.oy (i:=1) (s:=s1) (by simp[l]) (by rw[L];rfl);rw[this,ints,cm,a1.2.1]
 refine N.G.dG (i:=0) (s:=s0) y (by simp[l]) (pQ rfl (by omega:j<2^8) (aG λa3 h3 e3 g3 k3 _=>?_))
 have k':(UInt8.ofNat j).toNat=j:=by rw[tM];omega
 refine(N.ai KF g3).app (i:=0) (x:=(bv d.b.all,Y8)) (x':=(bv (d.b.all++[UInt8.ofNat j]),Y8)) (r':=d.up λb=>{b with all:=b.all++[UInt8.ofNat j]}) (news:=[.int .u8 (j:Int)]) KF y (by simp[l]) (by rw[L];rfl) rfl ?_ rfl (iM k3 rfl) ag ag (by rw[uT];simp[bv,k'])
  ⟨rfl,rfl,rfl,rfl⟩ (by rw[L,L];rfl) rfl rfl (λmm _ q=>?_) λu' A0 h4 t4 S4=>?_
 ·intro v hv;simp only[mA]at hv;subst hv;rfl
 ·rw[ep]at q ⊢;exact⟨q.1,q.2.1.trans (tL _ _),q.2.2⟩
 have W:=S4.G.aL j M A w Z hA hw;rw[iT,k1]at W;have c':aN h4 b _ _:=y▸S4.G.B.k;refine S4.G.dG (i:=1) (s:=s1) y (by simp[l]) (Cj.count W (bM c' (cK _) (aG λa5 h5 e5 g5 k5 _=>bM c' g5 ?_)))
 refine(S4.ai KF g5).app (i:=1) (s:=s1) (x:=(ints d.b.ends,Y6)) (x':=(ints (d.b.ends++[(c.st u).b.rows]),Y6)) (r':=d.up λb=>{b with all:=b.all++[UInt8.ofNat j],ends:=b.ends++[(d.aL j).b.rows]}) (news:=[ah ((c.st u).b.rows:Int)]) KF y (by simp[l]) (by rw[L];rfl) rfl ?_ rfl (iM k5 rfl) ag ag (by simp[ints])
  ⟨rfl,rfl,rfl,rfl⟩ (by rw[L,L,gq,k1];rfl) rfl rfl (λmm _ q=>?_) λt' A1 h6 t6 S6=>?_
 ·intro v hv;simp only[mA]at hv;subst hv;rfl
 ·rw[ep]at q ⊢;exact⟨q.1.trans (tL _ _),q.2.1,q.2.2⟩
 have U:=S6.G.aL j M A w Z hA hw;rw[iT,k1]at U;have tE:Tn (λc=>¬E c) h h6:=(((t2.trans (bh g3)).trans (t4.mono λc q _ z=>q (.inl z))).trans (bh g5)).trans (t6.mono λc q _ z=>q (.inl (.inl z)));generalize d':(d.up λb=>{b with all:=b.all++[UInt8.ofNat j],ends:=b.ends++[(d.aL j).b.rows]})=J at o S6
 have k2:J.aL j=c.st u:=by rw[<-d',iT];exact k1
 have b2:J.b.bB=(f.st vs).b.bB:=by rw[<-d'];exact a1.2.2
 have o':di j F J=((F (c.st u)).1,J.fk j (F (c.st u)).2):=by unfold di;rw[k2]
 rw[o']at o;refine HT Z O U tE (λcc q z=>(S6.e cc (.inl (.inl q))).2.2 _ A (dO.fC _ hA) ag z) λh7 t7 M7=>?_;obtain⟨S7,q'⟩:=S6.aL KF hA t7 λM' w' q1 q2=>by
  rw[Z]at q1;cases q1;have q2:g.kv[j]? =some w':=q2;rw[hw]at q2;cases q2;exact M7
 have S7:eZ f KM T h0 h7 (J.fk j (F (c.st u)).2) m _ E:=⟨S7.t,S7.G,λc q=>S7.e c (.inl (.inl q))⟩;refine cL (λR=>?_) λR=>?_
 ·unfold cR at o;rw[aC R]at o;exact o h7 _ (by exact y) S7
 ·unfold cR at o;rw[aI R]at o;obtain⟨q1,q2⟩:=hF u O R;have l':j<J.kids.length:=by have:J.kids.length=KM.length:=S6.G.lk.2.2;omega
  have i':eJ d j=(c.st u).b.bB:=by unfold eJ;rw[k1]
  have f':eJ (J.fk j (F (c.st u)).2) j=(F (c.st u)).2.b.bB:=by unfold eJ;rw[lz l']
  refine Cj.weight M7 (aW ag ag (aW ag ag (S7.pY KF y (n:=16+(eJ (J.fk j (F (c.st u)).2) j-eJ d j)) (by rw[i',f'];omega) ?_ λh8 t8 S8=>o h8 _ (by exact y) S8)))
  rw[m5,b2,i',f'];have:=(iI hc).1;omega
end
section
variable {KM:List cN} {M:cN} {h0:Hp} {v:Value} {vs:aP} {r:Raw} {m:fQ} {x:aB} {s:Sl} {K:cJ}
theorem aun(b:f.k=18)(a:f.fit x=true):x.au=false/\0<=x.num/\x.num<f.cs.length/\x.items.length=1/\∀c,f.cs[x.num.toNat]? =some c->c.fit (x.items.getD 0 v0)=true:=by
  rw[eL]at a;have hl:f.lets=false:=by rw[yB];unfold m9;rw[ay];simp[b]
  rw[hl]at a;unfold fD at a;simp only[dm]at a;obtain⟨_,a⟩:=a;cases d:x.au with
  |true=>grind
  | false=>
    rw[d,aC aA,ay,aI b]at a;simp only[dm,dQ]at a;obtain⟨_,n,l,j,e⟩:=a;simp_all
theorem alN(a:f.k=18)(b:f.cs[x.num.toNat]? =some c)(r:Raw):f.tk r x=tg x.num.toNat (λq=>c.tk q (x.items.getD 0 v0)) r:=by
 rw[kD];unfold iE;simp[*]
theorem Zq(S:bC f)(e:f.k=18)(C:kH f.cs KM)(PC:∀c∈f.cs,jl c)(hc:f.can vs)(J:f.fit x=true)(hw:x.bq<=4194304)(G:bR f KM T h (f.st vs) m g)(hv:aR D h s x.items)(hD:∀c,D c->c<h.size->Out g c)
  (O:∀l,Tn T h l->cQ f KM (Tr T h l) l (.iface (bG f.k) (bI g.b)) (f.tk (f.st vs) x).2 m->K (f.tk (f.st vs) x).1 l):NY (bz g.b) x.au x.num (bs x.text) s h K Kp:=by
 obtain⟨_,h1,h2,h3,h4⟩:=aun e J;have b':=(S.right.1.2.2.2.2.2.2.2.2.2.1 e).2;have o:f.cs[x.num.toNat]? =some f.cs[x.num.toNat]:=bx ag;generalize f.cs[x.num.toNat]=c at o;have n:=h4 c o;have B:=PC c (bL o) _ n;have j:x.items[0]? =some (x.items.getD 0 v0):=by rw[gL,bx ag];rfl
 have a':=gV x;have i:=bL j;rw[alN e o]at O;generalize x.items.getD 0 v0=y at j O n B i;refine aDR (aG λa I ea P N _=>?_);refine bK ?_;have Z:=(eZ.of (E:=λc=>D c/\c<h.size) G λc q=>⟨q.2,hD c q.1 q.2⟩).ai C.qQ P;generalize X:(λc=>(D c/\c<h.size)\/(h.size<=c/\c<I.size))=E at Z;have E1:E a:=by rw[<-X];exact .inr ⟨ag,N.lt⟩
 have H:∀c,D c/\c<h.size->E c:=λc q=>by rw[<-X];exact .inl q
 have R:=eR (aR.lt _ hv) P;have en:x.num=(x.num.toNat:Int):=ag;apply aj N rfl;rw[en];refine abJ e C hc o ag Z rfl (λL d hz=>?_) (λ{l A M w mo L K'}hM d W t V U=>?_) λl g' eg S'=>O l S'.t ⟨g',by rw[eg],S'.G⟩
 ·obtain⟨q1,q2⟩:=B L d hz;rw[q2];have:=iI q1;have:=iI d;have:=oT L [y];exact⟨ag,ag⟩
 ·have Cj:=C.2 _ c M o hM;obtain⟨kk,bb,rfl⟩:=Cj.na W;refine aw5 (aDN ?_);simp only[bw,cz];refine aj (lI t N E1) rfl ((aR.fr t (λc q _ z=>z (H c q)) (λ_ z=>z) _ R).ix rfl j λp u cx Q=>gZ cx (abh (Cj.take d n (by have:=oh i;omega) W Q (λY q z=>V Y (H Y q) z) U)))
end
section
variable {KM:List cN} {M:cN} {v:Value} {vs:aP} {r:Raw} {m:fQ} {K:cJ}
theorem vA(a:f.small=true\/¬(16<=f.k/\f.k<=20))(r:Raw):f.zk r=f.tk r f.bZ:=by
 simp_all[sy,nH]
theorem bR.uR(G:bR f KM T h r m g):Cs h ⟨g.b,11,none⟩ [.bool f.bZ.au,ah f.bZ.num,.string (bs f.bZ.text),Sl.v g.sn]:=BV.uR G.B.k
theorem aj8(d:f.k=1)(KF:∀(j:Nat)M,KM[j]? =some M->gB M)(G:bR f KM T h r m g)(i:r.b.bB<=2^50)(e:∀a,Tn T h a->cQ f KM (Tr T h a) a (.iface (bG f.k) (bI g.b)) (f.zk r).2 m->K (f.zk r).1 a):Xs (bz g.b) h K Kp:=by
 rw[vA (.inr ag)]at e;apply aEk;refine bK ?_;exact gZ G.uR (Zn d KF G i e)
theorem aj3(d:bC f)(e:f.k=12\/f.k=13)(KF:∀(j:Nat)M,KM[j]? =some M->gB M)(G:bR f KM T h r m g)(n:r.b.ends.length<=70000)(b2:r.b.all.length<=2^40)(l:r.b.bB<=2^50)
  (i:∀a,Tn T h a->cQ f KM (Tr T h a) a (.iface (bG f.k) (bI g.b)) (f.zk r).2 m->K (f.zk r).1 a):Xr (bz g.b) h K Kp:=by
 rw[vA (.inr ag)]at i;have:=abd d;apply aEc;refine bK ?_;exact gZ G.uR (Zi e KF G n b2 l ag i)
theorem aj9(a:bC f)(e:f.k=15)(i:f.cs=[c])(C:MC c M)(o:jl c)(l:f.can vs)(G:bR f [M] T h (f.st vs) m g)
  (j:∀d,Tn T h d->cQ f [M] (Tr T h d) d (.iface (bG f.k) (bI g.b)) (f.zk (f.st vs)).2 m->K (f.zk (f.st vs)).1 d):Xq (bz g.b) h K Kp:=by
 rw[vA (.inr ag)]at j;obtain⟨_,n,s,p⟩:=sP a (Pg a ag);apply aD6;refine bK ?_;exact gZ G.uR (Zo e i C o l n ag G G.no (λc q _=>G.Di q) j)
end
section
variable {KM:List cN} {M:cN} {v:Value} {vs:aP} {r:Raw} {m:fQ} {K:cJ}
theorem ajW(i:¬f.small=true)(a:f.k=16)(b:f.cs=[c])(r:Raw):f.zk r=cR (eO false r) λe=>cR (fm (List.replicate f.w.toNat (di 0 c.zk)) e) λd=>fB (16+(eJ d 0-eJ e 0)) d:=by
 rw[sy];unfold nH;simp[*]
theorem aj6(S:bC f)(j:f.k=16)(W:f.cs=[c])(C:MC c M)(PC:jl c)(PZ:dU c c.zk c.bZ)(hc:f.can vs)(G:bR f [M] T h (f.st vs) m g)
  (e:∀X,Tn T h X->cQ f [M] (Tr T h X) X (.iface (bG f.k) (bI g.b)) (f.zk (f.st vs)).2 m->K (f.zk (f.st vs)).1 X):Xp (bz g.b) h K Kp:=by
 apply aD2;refine bK ?_;refine aj G.B.k (by simp[bW];rfl) ?_
 by_cases hs:f.small=true
 ·rw[vA (.inl hs)]at e;obtain⟨_,h2,h3,h4⟩:=sP S hs;exact bO hs (gZ G.uR (Zk S j W C PC PZ hc h2 ag G G.no (λc q _=>G.Di q) e))
 rw[ajW hs j W]at e;apply bu (by simpa using hs)
 have KF:=ni C;have ed:bG f.k=oK:=by unfold bG;simp_all
 rw[ed]at e;have v':=S.right.1.2.2.2.1 j;have es:∀rb:Rb,cy f.k rb=[]:=λrb=>by simp_all[cy,aC]
 have P:g.SS=[]:=by
  have:=G.ls.1;rw[es]at this;exact jv.1 this
 obtain⟨w,l⟩:∃w,g.kv=[w]:=by
  have:=G.lk.1
  match hg:g.kv,this with
  |[a],_=>exact⟨a,rfl⟩
 have i':f.cs[0]? =some c:=by rw[W];rfl
 have J:=mW i' vs;have U:=fy i' hc;generalize dJ f.k f.w _ 0 vs=d at J U;have S1:=eZ.of (E:=λ_=>False) G λ_ q=>q.elim;refine S1.row KF rfl (λq=>bO rfl ?_) λq u' A' h2 t2 S2=>bu rfl ?_
 ·rw[rW q]at e;exact e h S1.t ⟨g,by rw[ed],S1.G⟩
 rw[rV q]at e;generalize b':(f.st vs).up _=H at e S2;have k1:H.aL 0=c.st d:=by rw[<-b',iT];exact J
 have b1:H.b.bB=(f.st vs).b.bB:=by rw[<-b'];rfl
 have k':=S2.G.aL 0 M _ w rfl (bx (by have:=G.lk.2.1;simp_all)) (by simp[l])
 have l':=S2.G.B.k;refine S2.G.lP (i:=0) rfl (.inr (.inl j)) (by simp[P]) (by simp[l]) (C.weight k' (aj l' (by simp[bW];rfl) ?_))
 rw[k1];have d':=iI U;generalize hF:(λr2:Raw=>fB _ r2)=F at e;generalize f':List.replicate f.w.toNat _=Y at e;have q':Y.length=f.w.toNat:=by rw[<-f'];simp
 refine azo (λy X=>∃(i:Nat)(z:dO)(x:Raw),y=i/\i<=f.w.toNat/\eZ f [M] T h X x m z _/\z.b=g.b/\z.SS=g.SS/\z.kv=g.kv/\x.b=H.b/\x.aL 0=c.st (d++List.replicate i c.bZ)/\c.can (d++List.replicate i c.bZ)/\
   cR (fm Y H) F=cR (fm (Y.drop i) x) F)
  (λy _=>f.w.toNat-y.toNat) ⟨0,_,H,rfl,dN _,S2,rfl,rfl,rfl,rfl,by simpa using k1,by simpa using U,rfl⟩ ?_
 rintro y h3 ⟨i,z,x,rfl,hi,O,o,V,s,a',Q,R,p⟩ N hN;have m':0<z.KT.length:=by have:=O.G.lk.2.1;simp only[jw]at this;omega
 have hA:=bx m';generalize z.KT[0]=A at hA;have u:=O.G.aL 0 M A w rfl hA (by rw[s,l];rfl)
 rw[Q]at u;refine cL (λcc=>?_) λcc=>?_
 ·refine bK ?_;have n':i<Y.length:=ag;have s':Y.drop i=di 0 c.zk::Y.drop (i+1):=by
   rw[yI n']
   congr 1
   simp[<-f']
  rw[s']at p;have D:di 0 c.zk x=((c.zk (c.st (d++List.replicate i c.bZ))).1,x.fk 0 (c.zk (c.st (d++List.replicate i c.bZ))).2):=by unfold di;rw[Q]
  refine O.G.lP (i:=0) o (.inr (.inl j)) (by rw[V,P];rfl) (by rw[s,l];rfl) (C.zero R u λh6 t6 M6=>?_)
  obtain⟨Z,t'⟩:=O.aL KF hA t6 λM' w' q1 q2=>by
   simp at q1;subst q1;rw[s,l]at q2;simp at q2;subst q2;exact M6
  refine cL (λI=>?_) λI=>?_
  ·rw[p,Fq (by rw[D];exact I),D]at e
   exact e h6 Z.t ⟨_,by rw[ed];simp only[o],Z.G⟩
  ·have c':=PZ _ R I;rw[Fo (by rw[D];exact I),D]at p
   have L:List.replicate (i+1) c.bZ=List.replicate i c.bZ++[c.bZ]:=D7;refine aW ag ag (hN _ _ ⟨i+1,_,_,aA,ag,Z,o,V,s,by rw[m5];exact a',?_,?_,p⟩ ag)
   ·rw[lz (by have:=O.G.lk.2.2;simp only[jw]at this;omega),c'.2,L,q9]
   ·rw[L,<-q9];exact c'.1
 ·have:i=f.w.toNat:=ag;subst this;rw[<-q',wJ,Fp]at p;rw[p,<-hF]at e;apply aAW;refine bK ?_;dsimp only at e;have e':=iI R;have j':=oT d (List.replicate f.w.toNat c.bZ);have p':eJ H 0=bH d:=by unfold eJ;rw[k1];exact d'.2
  have o':eJ x 0=bH d+bH (List.replicate f.w.toNat c.bZ):=by unfold eJ;rw[Q,e'.2,j']
  have x':x.b.bB<=4194304:=by rw[a',b1];exact(iI hc).1
  refine O.G.lP (i:=0) o (.inr (.inl j)) (by rw[V,P];rfl) (by rw[s,l];rfl) (C.weight u (aW ag ag (aW ag ag (O.pY KF o (by rw[p',o',e'.2,j',d'.2];omega) ag λh6 t6 Z=>e h6 Z.t ⟨_,by rw[ed];simp only[o],Z.G⟩))))
end
section
variable {KM:List cN} {M:cN} {v:Value} {vs:aP} {r:Raw} {m:fQ} {K:cJ}
def vB(f:aq):List (Raw->Int×Raw):=(List.range (f.cs.map aq.zk).length).map λi=>di i ((f.cs.map aq.zk).getD i og)
theorem akc(a:f.cs[j]? =some c):(vB f)[j]? =some (di j c.zk):=by
 grind[List.getElem?_eq_some_iff,vB]
theorem YL:(vB f).length=f.cs.length:=by simp[vB]
theorem ajV(e:¬f.small=true)(a:f.k=17)(r:Raw):f.zk r=cR (eO false r) λd=>cR (fm (vB f) d) λb=>fB (16+(total b-total d)) b:=by
 simp_all[sy,nH,vB]
theorem aj4(b':bC f)(L:f.k=17)(C:kH f.cs KM)(PC:∀c∈f.cs,jl c/\dU c c.zk c.bZ)(hc:f.can vs)(G:bR f KM T h (f.st vs) m g)
    (s:∀h',Tn T h h'->cQ f KM (Tr T h h') h' (.iface (bG f.k) (bI g.b)) (f.zk (f.st vs)).2 m->K (f.zk (f.st vs)).1 h'):Xo (bz g.b) h K Kp:=by
  apply aDY;refine bK ?_;refine aj G.B.k (by simp[bW];rfl) ?_
  by_cases hs:f.small=true
  ·rw[vA (.inl hs)]at s;obtain⟨_,h2,h3,h4⟩:=sP b' hs;exact bO hs (gZ G.uR (Zj b' L C PC hc h2 ag G G.no (λc q _=>G.Di q) s))
  rw[ajV hs L]at s;apply bu (by simpa using hs)
  have KF:=C.qQ;have CL:=C.1;have D:f.k=17\/f.k=18:=.inl L;have ed:bG f.k=oJ:=by unfold bG;simp_all
  rw[ed]at s;have m':=b'.right.1.2.2.2.2.2.2.2.2.1 L;have es:∀rb:Rb,cy f.k rb=[]:=λrb=>by simp_all[cy,aC]
  have a':g.SS=[]:=by
    have:=G.ls.1;rw[es]at this;exact jv.1 this
  have R:=λj(c:aq)(a:f.cs[j]? =some c)=>mW a vs;have J:=λj(c:aq)(a:f.cs[j]? =some c)=>fy a hc;generalize Z:(λj=>dJ f.k f.w _ j vs)=l;have R:∀(j:Nat)(c:aq),f.cs[j]? =some c->(f.st vs).aL j=c.st (l j):=λj c a=>by rw[<-Z];exact R j c a
  have J:∀(j:Nat)(c:aq),f.cs[j]? =some c->c.can (l j):=λj c a=>by rw[<-Z];exact J j c a
  have out:∀(d:Raw),d.kids.length=f.cs.length->(∀(j:Nat)(c:aq),f.cs[j]? =some c->∃us,d.aL j=c.st us/\c.can us)->∀j,(d.aL j).b.bB<=2^40:=by
    intro d hl hr j
    by_cases a:j<f.cs.length
    ·obtain⟨us,e,hu⟩:=hr j _ (bx a);rw[e];have:=(iI hu).1;omega
    ·unfold Raw.aL;rw[gL,HV ag];exact dN _
  have S1:=eZ.of (E:=λ_=>False) G λ_ q=>q.elim;refine S1.row KF rfl (λq=>bO rfl ?_) λq q' A' h2 t2 S2=>bu rfl ?_
  ·rw[rW q]at s;exact s h S1.t ⟨g,by rw[ed],S1.G⟩
  rw[rV q]at s;generalize i':(f.st vs).up _=H at s S2;have k1:∀(j:Nat)(c:aq),f.cs[j]? =some c->H.aL j=c.st (l j):=by grind[iT]
  have b1:H.b.bB=(f.st vs).b.bB:=by rw[<-i'];rfl
  have l1:H.kids.length=f.cs.length:=by rw[S2.G.lk.2.2];exact CL
  have o1:=out H l1 λj c a=>⟨l j,k1 j c a,J j c a⟩;refine S2.G.uE (i:=0) rfl D (by simp[a']) (Ji S2.G C D o1 ag (S2.G.uE (i:=0) rfl D (by simp[a']) ?_))
  generalize hF:(λr2:Raw=>fB (16+(total r2-total H)) r2)=F at s;refine azm (λy h'=>∃(i:Nat)(I:dO)(d:Raw),y=i/\i<=f.cs.length/\eZ f KM T h h' d m I (λ_=>False)/\I.b=g.b/\I.SS=g.SS/\I.kv=g.kv/\I.ks=g.ks/\d.b=H.b/\
      (∀(j:Nat)(c:aq),f.cs[j]? =some c->d.aL j=c.st (l j++if j<i then[c.bZ]else[])/\c.can (l j++if j<i then[c.bZ]else[]))/\cR (fm (vB f) H) F=cR (fm ((vB f).drop i) d) F)
    (λy _=>f.cs.length-y.toNat) ⟨0,_,H,rfl,dN _,S2,rfl,rfl,rfl,rfl,rfl,λj c a=>by simpa using⟨k1 j c a,J j c a⟩,rfl⟩ ?_
  rintro y h3 ⟨i,I,d,rfl,hi,S3,O,l',n',o,f',u,x⟩ N hN;have d':=S3.G.lk;have e':=S3.G.kl D;have ns:g.ks.n=f.cs.length:=by rw[<-o,e'.1.1,d'.1,CL]
  refine cL (λcc=>?_) λcc=>?_
  · have k':i<f.cs.length:=ag;have z:=bx k';have W:KM[i]? =some KM[i]:=bx ag;have c':I.KT[i]? =some I.KT[i]:=bx ag;have U:I.kv[i]? =some I.kv[i]:=bx ag;generalize f.cs[i]=S at z;generalize KM[i]=Mi at W;generalize I.KT[i]=A at c';generalize I.kv[i]=w at U;have Y:=S3.G.aL i Mi A w W c' U;obtain⟨P,Q⟩:=u i S z;rw[ay,oH]at P Q;rw[P]at Y;have o':(vB f).drop i=di i S.zk::(vB f).drop (i+1):=by
      rw[yI (by rw[YL];exact k')]
      congr 1
      exact(cU.1 (akc z)).2
    rw[o']at x;have V:di i S.zk d=((S.zk (S.st (l i))).1,d.fk i (S.zk (S.st (l i))).2):=by unfold di;rw[P]
    rw[<-o];refine e'.1.ix ag (by rw[o];omega) (by rw[fR];exact U) λp cp=>⟨_,cp,(C.2 i S Mi z W).zero Q Y λh6 t6 M6=>?_⟩
    rw[o];obtain⟨S6,p'⟩:=S3.aL KF c' t6 λM' w' q1 q2=>by
      rw[W]at q1;cases q1;rw[U]at q2;cases q2;exact M6
    refine cL (λX=>?_) λX=>?_
    · rw[x,Fq (by rw[V];exact X),V]at s
      exact s h6 S6.t ⟨_,by rw[ed];simp only[O],S6.G⟩
    · have j':=((PC S (bL z)).2) _ Q X;rw[Fo (by rw[V];exact X),V]at x
      refine aW ag ag (hN _ _ ⟨i+1,_,_,aA,ag,S6,O,l',n',o,by rw[m5];exact f',λj c a=>?_,x⟩ ag)
      by_cases e:i=j
      ·subst e;rw[z]at a;cases a;rw[lz ag,dR];exact⟨j'.2,j'.1⟩
      · rw[AU e];have:=u j c a
        by_cases q:j<i
        ·rw[aI q]at this;rw[dR];exact this
        ·rw[aC q]at this;rw[ay];exact this
  · have:i=f.cs.length:=ag;subst this;rw[<-YL,wJ,Fp]at x;rw[x,<-hF]at s;have s':d.b.bB<=4194304:=by rw[f',b1];exact(iI hc).1
    apply aAT;refine bK ?_;dsimp only at s;have l3:d.kids.length=f.cs.length:=by rw[d'.2.2];exact CL
    have o3:=out d l3 λj c a=>⟨_,(u j c a).1,(u j c a).2⟩;have v':total H<=total d:=by
      rw[pZ,pZ,l1,l3];have:∀n,n<=f.cs.length->uv H n<=uv d n:=by
        intro n
        induction n with
        |zero=>intro _;exact bP _
        | succ n ih=>
          intro hn;have a:f.cs[n]? =some f.cs[n]:=bx ag;have q1:=(iI (u n _ a).2).2;have q2:=(iI (J n _ a)).2;rw[CX,CX,k1 n _ a,(u n _ a).1,q1,q2,oT];have:=ih ag;omega
      exact this _ (bP _)
    have u':total H<=32*2^40:=by rw[pZ,l1];exact iY (CY o1 _) (pG _ m')
    have t':total d<=32*2^40:=by rw[pZ,l3];exact iY (CY o3 _) (pG _ m')
    refine S3.G.uE (i:=0) O D (by rw[l',a'];rfl) (Ji S3.G C D o3 ag (aW ag ag (aW ag ag (S3.pY KF O (n:=16+(total d-total H)) ag ag λh6 t6 S6=>s h6 S6.t ⟨_,by rw[ed];simp only[O],S6.G⟩))))
theorem aj2(b:¬f.small=true)(a:f.k=18)(d:f.cs[0]? =some c)(r:Raw):f.zk r=tg 0 c.zk r:=by
 rw[sy];unfold nH;simp[*]
theorem akb(i:bC f)(d:f.k=18)(C:kH f.cs KM)(y:∀c∈f.cs,jl c/\dU c c.zk c.bZ)(p:f.can vs)(G:bR f KM T h (f.st vs) m g)
  (o:∀e,Tn T h e->cQ f KM (Tr T h e) e (.iface (bG f.k) (bI g.b)) (f.zk (f.st vs)).2 m->K (f.zk (f.st vs)).1 e):Xn (bz g.b) h K Kp:=by
 apply aDQ;refine bK ?_;refine aj G.B.k (by simp[bW];rfl) ?_
 by_cases l:f.small=true
 ·rw[vA (.inl l)]at o;obtain⟨_,L,S,R⟩:=sP i l;exact bO l (gZ G.uR (Zq i d C (λc p=>(y c p).1) p L ag G G.no (λc q _=>G.Di q) o))
 have U:=(i.right.1.2.2.2.2.2.2.2.2.2.1 d).1;have n:f.cs[0]? =some f.cs[0]:=aA;generalize f.cs[0]=c at n;rw[aj2 l d n]at o;apply bu dM
 have P:=eZ.of (E:=λ_=>False) G λ_ q=>q.elim;refine abJ (j:=0) d C p n ag P rfl (λs a H=>?_) (λ{e A M w mo s V}I a J t Q u=>aw0 ((C.2 0 c M n I).zero a J u)) λe N O x=>o e x.t ⟨N,by rw[O],x.G⟩
 obtain⟨D,z⟩:=(y c (bL n)).2 s a H;grind[iI,oT]
end
section
variable {KM:List cN} {r:Raw} {m:fQ} {x:aB} {s:Sl} {K:cJ}
theorem alH(p:fH f.k=true)(r:Raw)(x:aB):f.tk r x=cR (eO x.au r) λn=>fB (16+x.text.length) (n.up λb=>{b with dV:=b.dV++[(x.num%2^64).toNat],texts:=b.texts++[x.text]}):=by
 simp_all[zw,kD,iE]
theorem Zm(P:fH f.k=true)(KF:∀(j:Nat)M,KM[j]? =some M->gB M)(G:bR f KM T h r m g)(b1:r.b.dV.length<=70000)(b2:r.b.texts.length<=70000)(b3:r.b.bB<=2^50)(b4:x.text.length<=2^50)
  (w:∀C,Tn T h C->cQ f KM (Tr T h C) C (.iface (bG f.k) (bI g.b)) (f.tk r x).2 m->K (f.tk r x).1 C):NP (bz g.b) x.au x.num (bs x.text) s h K Kp:=by
 obtain⟨k1,g',f',O,e',d',z,N,L⟩:=zw P;rw[alH P]at w;have l:∀A:Rb,cy f.k A=[(l9 A.dV,pP),(strs A.texts,rz)]:=λA=>by unfold cy;simp[*]
 have S:∀a b:Rb,eM f.k a b↔b.dV <+: a.dV/\b.texts <+: a.texts/\b.dV.length=b.texts.length:=λa b=>by unfold eM;simp[*]
 obtain⟨p,o,d⟩:∃p o,g.SS=[p,o]:=by
  have:=G.ls.1;rw[l]at this
  match hg:g.SS,this with
  |[a,b],_=>simp
 refine aDv (aG λa Q ea R e _=>?_);refine bK ?_;have I:=(eZ.of (E:=λ_=>False) G λ_ q=>q.elim).ai KF R;have J:(λc=>False\/(h.size<=c/\c<Q.size)) a:=ag
 refine aj e rfl (I.row KF rfl (λc=>bO rfl ?_) λc a' A' h2 Y y=>bu rfl ?_)
 ·rw[rW c]at w;exact w Q I.t ⟨g,rfl,I.G⟩
 rw[rV c]at w;have e:=lI Y e J;have n0:p.n=r.b.dV.length:=by have:=y.G.oy (i:=0) (s:=p) (by simp[d]) (by rw[l];rfl);rw[this,l9,cm];rfl
 have n1:o.n=r.b.texts.length:=by have:=y.G.oy (i:=1) (s:=o) (by simp[d]) (by rw[l];rfl);rw[this,strs,cm];rfl
 refine y.G.dG (i:=0) (s:=p) rfl (by simp[d]) (aj e rfl (Ch ?_))
 rw[alo];refine aG λi' h3 e3 F k3 _=>bM y.G.B.k F ?_;refine(y.ai KF F).app (i:=0) (x:=(l9 r.b.dV,pP)) (x':=(l9 (r.b.dV++[(x.num%2^64).toNat]),pP)) (r':=(r.up (Rb.row x.au)).up λb=>{b with dV:=b.dV++[(x.num%2^64).toNat]}) KF rfl (by simp[d]) (by rw[l];rfl) rfl ?_ rfl (iM k3 rfl) ag ag (by simp[l9])
  ⟨rfl,rfl,rfl,rfl⟩ (by rw[l,l];rfl) rfl rfl (λZ _ q=>?_) λc' A0 h4 X H=>aAD ?_
 ·intro v u;simp only[mA]at u;subst u;rfl
 ·rw[S]at q ⊢;exact⟨q.1.trans (tL _ _),q.2⟩
 have e:=lI X (e.ai F) (.inl J);refine bK ?_;refine H.G.dG (i:=1) (s:=o) rfl (by simp[d]) (aj e rfl (aG λb6 h5 e5 D k5 _=>bM H.G.B.k D ?_))
 refine(H.ai KF D).app (i:=1) (s:=o) (x:=(strs r.b.texts,rz)) (x':=(strs (r.b.texts++[x.text]),rz)) (r':=(r.up (Rb.row x.au)).up λb=>{b with dV:=b.dV++[(x.num%2^64).toNat],texts:=b.texts++[x.text]}) (news:=[.string (bs x.text)]) KF rfl (by simp[d]) (by rw[l];rfl) rfl ?_ rfl (iM k5 rfl) ag ag (by simp[strs])
  ⟨rfl,rfl,rfl,rfl⟩ (by rw[l,l];rfl) rfl rfl (λZ _ q=>?_) λV A1 h6 W S6=>aAC ?_
 ·intro v u;simp only[mA]at u;subst u;rfl
 ·rw[S]at q ⊢;exact⟨q.1,q.2.1.trans (tL _ _),q.2.2⟩
 have e:=lI W (e.ai D) (.inl (.inl J));refine bK ?_;exact aj e rfl (aW ag (by rw[iV];omega) (S6.pY KF rfl (n:=16+x.text.length) (by rw[iV];omega) (by show r.b.bB+_<2^62;omega) λh7 t7 U=>w h7 U.t ⟨_,by rfl,U.G⟩))
end
section
variable {KM:List cN} {M:cN} {S:aQ} {h':Hp} {r r':Raw} {m:fQ} {mm:Mem} {K:HP}
theorem bR.Ge{rj:Raw}(G:bR f KM T h r m g)(KF:∀(j:Nat)M,KM[j]? =some M->gB M)(l:g.KT[j]? =some A)(t:Tn A h h')
  (u:∀M w,KM[j]? =some M->g.kv[j]? =some w->M A h' w rj (m.bind λmm=>mm.ks[j]?)):bR f KM T h' (r.fk j rj) m g:=by
 have v:=(cU.1 l).1;have p:∀c,A c->c<h.size->c=g.b\/A c:=λc q _=>.inr q;have n:=g.fC l;have nb:=G.t.kX n;have av:∀{i:Nat}{B:aQ},g.Ls[i]? =some B->3+g.ST.length+j≠i->∀c,B c->c<h.size->¬A c:=λo ne=>G.av n p o ne;have lk:=G.lk;refine⟨G.t.grow t.1,G.B.fr t nb (av g.gw ag),G.ls,λi s B x d a k=>(G.sl i s B x d a k).fr t (av (g.ic a) bU),⟨lk.1,lk.2.1,by rw[vJ];omega⟩,λi M B w d a k=>?_,
  aR.fr t (av g.fI ag) (λ_ z=>z) _ G.no,λz=>(G.kl z).fr t (av g.fI ag) λ_ z=>z,G.sp.fr t (av g.iN ag),λmm e=>(G.mm mm e).fr t (av g.fI ag) (av g.gw ag) (av g.iN ag) |> λM=>⟨M.c,M.pr,M.ks,M.sp⟩⟩
 by_cases e:j=i
 ·subst e;rw[l]at a;cases a;rw[lz ag];exact u M w d k
 ·rw[AU e];exact KF i M d (G.aL i M B w d a k) t (av (g.fC a) ag)
theorem bR.xw{s':Sl}(G:bR f KM T h r m g)(KF:∀(j:Nat)M,KM[j]? =some M->gB M)(p:g.ST[i]? =some A)(os:Os A h s' x'.1 x'.2)
  (o:eD g.b h h') (u:aN h' g.b (bW f g.sf g.sn g.sb r.b.rows r.b.ck r.b.bB (iG f.k (g.SS.set i s') g.kv g.ks g.sp)).toArray (iP f.k))
  (d:r'.b.rows=r.b.rows/\r'.b.ck=r.b.ck/\r'.b.bits=r.b.bits/\r'.b.bB=r.b.bB) (e1:cy f.k r'.b=(cy f.k r.b).set i x') (e0:r'.kids=r.kids) (D:r'.b.aF=r.b.aF) (C:∀mm,m=some mm->eM f.k r.b mm.r.b->eM f.k r'.b mm.r.b):bR f KM T h' r' m {g with SS:=g.SS.set i s'}:=by
 have E:=(cU.1 p).1;have q:∀{A:aQ}(i:Nat),g.Ls[i]? =some A->∀c,A c->c<h.size->¬c=g.b:=λi v c y hl e=>G.t.kX v (e▸y);have t:=o.fr;refine⟨G.t.grow (Ei o.1.symm),⟨dM,by rw[d.2.2.1];exact G.B.o.fr t (q 0 g.gw),G.B.nT,by rw[d.2.2.1,d.1];exact G.B.len,by rw[d.2.1,d.1];exact G.B.nl,by rw[d.1];exact G.B.rl⟩,?_,λj s B x a n l=>?_,by rw[e0];exact G.lk,λj M B w a n l=>?_,
  aR.fr t (q 1 g.fI) (λ_ z=>z) _ G.no,λz=>(G.kl z).fr t (q 1 g.fI) λ_ z=>z,?_,λmm e=>?_⟩
 ·simp only[Ca,e1];exact G.ls
 ·dsimp only at a n;rw[e1]at l;rw[yK]at a l
  by_cases e:i=j
  ·subst e;have H:=G.ls.1;have F:=G.ls.2;rw[aI rfl,dR]at a l;rw[p]at n;cases a;cases n;cases l;exact os.fr t (q _ (g.ic p))
  ·rw[aC e]at a l;exact(G.sl j s B x a n l).fr t (q _ (g.ic n))
 ·have:=KF j M a (G.aL j M B w a n l) t (q _ (g.fC n));unfold Raw.aL at this ⊢;grind
 ·exact(G.sp.fr t (q 2 g.iN)).eq D
 ·have M:=(G.mm mm e).fr t (q 1 g.fI) (q 0 g.gw) (q 2 g.iN);exact⟨M.c,C mm e M.pr,M.ks,M.sp⟩
theorem bR.conv(G:bR f KM T h r m g)(a:r'.b.rows=r.b.rows/\r'.b.ck=r.b.ck/\r'.b.bits=r.b.bits/\r'.b.bB=r.b.bB)(e1:cy f.k r'.b=cy f.k r.b)(e0:r'.kids=r.kids)(u:f.k=19\/f.k=20->r'.b.aF=r.b.aF)(p:∀mm,m=some mm->eM f.k r.b mm.r.b->eM f.k r'.b mm.r.b):bR f KM T h r' m g:=by
 refine⟨G.t,⟨by rw[a.1,a.2.1,a.2.2.2];exact G.B.k,by rw[a.2.2.1];exact G.B.o,G.B.nT,by rw[a.2.2.1,a.1];exact G.B.len,by rw[a.2.1,a.1];exact G.B.nl,by rw[a.1];exact G.B.rl⟩,by rw[e1];exact G.ls,λi s A x n l d=>G.sl i s A x n l (e1▸d),by rw[e0];exact G.lk,λj M A w n l d=>?_,G.no,G.kl,?_,λmm e=>?_⟩
 ·have:=G.aL j M A w n l d;unfold Raw.aL at this ⊢;grind
 ·by_cases q:f.k=19\/f.k=20
  ·exact G.sp.eq (u q)
  ·have:=G.sp;unfold iJ at this ⊢;grind
 ·have M:=G.mm mm e;exact⟨M.c,p mm e M.pr,M.ks,M.sp⟩
def Raw.qF(r m:Raw):Raw:=.mk {r.b with rows:=m.b.rows,ck:=m.b.ck,bits:=m.b.bits,bB:=m.b.bB} r.kids
theorem yx{v:Value}(G:bR f KM T h r (some mm) g)(KF:∀(j:Nat)M,KM[j]? =some M->gB M)(d:I0 g.R g.T0 h g.b f g.sf g.sn g.sb v mm.s mm.r.b)
  (I:∀h',Tn (λc=>c=g.b\/g.T0 c) h h'->bR f KM T h' (r.qF mm.r) (some mm) {g with sb:=mm.s}->K h'):cX aD v [] h (λr D=>r=.tuple #[]/\K D) Kp:=by
 refine axT d.bm G.B.k d.o G.B.nT (λc q=>⟨G.t.ne g.fI g.gw aY c q,λe=>G.t.kX g.fI (e▸q)⟩) d.len d.nl d.rl λD a l=>?_;have L:∀c,(c=g.b\/g.T0 c)->c<h.size->c=g.b\/g.T0 c:=λc q _=>q;have av:∀{j:Nat}{B:aQ},g.Ls[j]? =some B->0≠j->∀c,B c->c<h.size->¬(c=g.b\/g.T0 c):=λJ ne=>G.av g.gw L J ne;have p:=av g.fI ag;refine I D a ⟨G.t.grow a.1,⟨l.k,l.o,l.nT,l.len,l.nl,l.rl⟩,G.ls,λi s A x y n C=>(G.sl i s A x y n C).fr a (av (g.ic n) ag),G.lk,λj M A w y n C=>KF j M y (G.aL j M A w y n C) a (av (g.fC n) ag),
  aR.fr a p (λ_ z=>z) _ G.no,λz=>(G.kl z).fr a p λ_ z=>z,G.sp.fr a (av g.iN ag),λV e=>?_⟩
 cases e;obtain⟨⟨U,F,E,Q,P,O,N⟩,H,ks,sp⟩:=G.mm mm rfl;exact⟨⟨U,F,⟨E.bm.fr a p,Old.of l.o,d.len,d.nl,d.rl⟩,Q,λz=>(P z).fr a p,O,λz=>by obtain⟨u,e,mc⟩:=N z;exact⟨u,e,mc.fr a p⟩⟩,H,ks,λz=>(sp z).fr a (av g.iN ag)⟩
end
theorem axb{p a:Addr}{K:HP}(H:aji c0 p q a h K Kp):cX aD (.func (.func 196) #[] #[dw c0,dw p,dw q,dw a]) [] h (λr b=>r=.tuple #[]/\K b) Kp:=by
 unfold cX;exact cast aV H
theorem aw9{p:Addr}{K:HP}(H:aje c0 p h K Kp):cX aD (.func (.func 206) #[] #[dw c0,dw p]) [] h (λr a=>r=.tuple #[]/\K a) Kp:=by
 unfold cX;exact cast aV H
theorem axa{p a:Addr}{K:HP}(H:ajg c0 p q a h K Kp):cX aD (.func (.func 201) #[] #[dw c0,dw p,dw q,dw a]) [] h (λr b=>r=.tuple #[]/\K b) Kp:=by
 unfold cX;exact cast aV H
section
variable {R:aQ} {caps:bg}
theorem abn{d:Array Value}(mc:Au R h caps [Z,d]):∃b a i e,caps=[bI b,bI a]/\(R b/\aN h b Z i)/\(R a/\aN h a d e):=by
  obtain⟨b,i,e0,k⟩:=mc.2 0 Z rfl;obtain⟨a,e,e1,j⟩:=mc.2 1 d rfl
  match caps,mc.1 with
  | [u,v],_=>
    grind
theorem RN{k j i:Array Value}(mc:Au R h caps [Z,k,j,i]):∃e d b a o n m l,caps=[bI e,bI d,bI b,bI a]/\
    (R e/\aN h e Z o)/\(R d/\aN h d k n)/\(R b/\aN h b j m)/\(R a/\aN h a i l):=by
  obtain⟨e,o,e0,y⟩:=mc.2 0 Z rfl;obtain⟨d,n,e1,x⟩:=mc.2 1 k rfl;obtain⟨b,m,q,t⟩:=mc.2 2 j rfl;obtain⟨a,l,p,s⟩:=mc.2 3 i rfl
  match caps,mc.1 with
  | [u,v,w,z],_=>
    grind
end
section
variable {KM:List cN} {M:cN} {r:Raw} {mm:Mem} {K:HP}
theorem axM(v:f.k=16)(b':f.cs=[c])(C:MC c M)(G:bR f [M] T h r (some mm) g)(W:∀u,Tn T h u->cQ f [M] T u (.iface (bG f.k) (bI g.b)) mm.r (some mm)->K u):cX aD mm.F [] h (λr p=>r=.tuple #[]/\K p) Kp:=by
 have KF:=ni C;obtain⟨⟨O,c',bm,c1,c2,c3,c4⟩,pr,ks⟩:=G.mm mm rfl;obtain⟨caps,eF,mc⟩:=c4 ag;obtain⟨d,L,rfl⟩:=c1 ag;have x:jr f.k g.b O d.F mm=[#[O],#[d.F]]:=by unfold jr;simp only;rw[ay,ay,dR]
 rw[x]at mc;obtain⟨a0,a1,t0,t1,ec,⟨r0,V⟩,⟨Q,I⟩⟩:=abn mc;have z:gJ f.k=206:=by unfold gJ;rw[ay,ay,aI v]
 have J:∀E:Rb,cy f.k E=[]:=λE=>by unfold cy;rw[ay,ay,ay,dR]
 have ep:∀a b:Rb,eM f.k a b:=λa b=>by unfold eM;rw[ay,ay,ay,ay,dR];trivial
 rw[eF,ec,z];have Y:∀c,(c=g.b\/g.T0 c)->c<h.size->c=g.b\/g.T0 c:=λc q _=>q;have av:∀{j:Nat}{B:aQ},g.Ls[j]? =some B->0≠j->∀c,B c->c<h.size->¬(c=g.b\/g.T0 c):=λX ne=>G.av g.gw Y X ne;refine aw9 (aD1 (aj V rfl (yx G KF bm λp D N=>aj (D.aZ I (av g.fI ag _ Q I.lt)) rfl ?_)));have lk:=G.lk;have U:0<g.KT.length:=by have:=lk.2.1;simp only[jw]at this;omega
 have S:0<g.kv.length:=by have:=lk.1;simp only[jw]at this;omega
 have m:=bx U;have n:=bx S;generalize g.KT[0]=A at m;generalize g.kv[0]=w at n;have i:=N.aL 0 M A w rfl m n;have e0:((some mm).bind λmm=>mm.ks[0]?)=some d:=by show mm.ks[0]? =some d;rw[L];rfl
 rw[e0]at i
 show cX aD d.F [] p _ _
 refine C.back i λZ u2 M2=>W Z ?_ ⟨{g with sb:=mm.s},rfl,(N.Ge (rj:=d.r) KF m u2 λM' P H l=>?_).conv ⟨rfl,rfl,rfl,rfl⟩ (by rw[J,J]) ?_ (λq=>ag) λa' _ _=>ep _ _⟩
 ·exact(D.mono λc q _=>q.elim (λe=>e▸G.t.tb) λq=>G.ku g.gw q).trans (u2.mono λc q _=>G.ku (g.fC m) q)
 ·simp at H;subst H;have l:=l;rw[n]at l;cases l;rw[e0];exact M2
 ·have hl:=lk.2.2;have e1:mm.r.kids=[d.r]:=by rw[ks.1,L];rfl
  rw[e1]
  show[d.r]=((r.qF mm.r).fk 0 d.r).kids
  have:r.kids.length=1:=hl
  match o:r.kids,this with
  |[y],_=>simp[Raw.fk,Raw.qF,Raw.kids] <;> (unfold Raw.kids at o;simp[o])
end
theorem Sq{a b:cG}(p:a <+: b):(ints b).take a.length=ints a:=by
 grind[ints,List.map_take,List.prefix_iff_eq_take]
theorem aeM{a b:dB}(p:a <+: b):(bv b).take a.length=bv a:=by
 grind[bv,List.map_take,List.prefix_iff_eq_take]
section
variable {KM:List cN} {M:cN} {r:Raw} {mm:Mem} {K:HP}
theorem axK(J:f.k=12\/f.k=13)(Z:f.cs=[])(G:bR f [] T h r (some mm) g)(hk:∀U,Tn T h U->cQ f [] T U (.iface (bG f.k) (bI g.b)) mm.r (some mm)->K U):cX aD mm.F [] h (λr h1=>r=.tuple #[]/\K h1) Kp:=by
 have KF:∀(j:Nat)(M:cN),([]:List cN)[j]? =some M->gB M:=λj M q=>by simp at q
 obtain⟨⟨W,c',bm,c1,c2,c3,c4⟩,C,ks⟩:=G.mm mm rfl;obtain⟨d',eF,mc⟩:=c4 ag;have a':jr f.k g.b W c' mm=[#[W],#[bI g.b],pI mm.r.b.ends.length,pI mm.r.b.all.length]:=by unfold jr;simp only;rw[dR]
 rw[a']at mc;obtain⟨a0,a1,a2,a3,t0,t1,t2,t3,ec,⟨r0,k0⟩,⟨r1,o⟩,⟨r2,O⟩,⟨r3,w⟩⟩:=RN mc;have b':gJ f.k=196:=by unfold gJ;rw[aI J]
 have m:∀N:Rb,cy f.k N=[(ints N.ends,Y6),(bv N.all,Y8)]:=λN=>by unfold cy;rw[aI J]
 have P:∀a b:Rb,eM f.k a b↔b.ends <+: a.ends/\b.all <+: a.all:=λa b=>by unfold eM;rw[dR]
 rw[P]at C;obtain⟨z,y,d⟩:∃z y,g.SS=[z,y]:=by
  have:=G.ls.1;rw[m]at this
  match hg:g.SS,this with
  |[a,b],_=>exact⟨a,b,rfl⟩
 obtain⟨S,Q,l⟩:∃S Q,g.ST=[S,Q]:=by
  have:=G.ls.2;rw[m]at this
  match hg:g.ST,this with
  |[a,b],_=>exact⟨a,b,rfl⟩
 rw[eF,ec,b'];have hS:∀c,(c=g.b\/g.T0 c)->c<h.size->c=g.b\/g.T0 c:=λc q _=>q;have v:=G.av g.gw hS g.fI ag;have nR:∀{c:Nat},g.R c->c≠g.b:=λq e=>G.t.kX g.fI (e▸q);refine axb (aD9 (aj k0 rfl ?_))
 show cX aD W [] h _ _
 refine yx G KF bm λh1 L u=>?_;have o:=L.aZ o (v _ r1 o.lt);have O:=L.aZ O (v _ r2 O.lt);have w:=L.aZ w (v _ r3 w.lt);have o0:=u.sl 0 z S (ints r.b.ends,Y6) (by simp[d]) (by simp[l]) (by rw[m];rfl)
 have o1:=u.sl 1 y Q (bv r.b.all,Y8) (by simp[d]) (by simp[l]) (by rw[m];rfl)
 have n0:=o0.n;have n1:=o1.n;have p0:=C.1.length_le;have p1:=C.2.length_le;simp only[ints,cm]at n0;rw[fM]at n1;refine aj o rfl (aj o rfl (aj o rfl ?_));refine bK ?_;refine u.dG (i:=0) rfl (by simp[d]) (aj O rfl (o0.cut ag rfl λE e0 I=>aj o rfl ?_))
 refine bK ?_;refine u.dG (i:=1) rfl (by simp[d]) (aj w rfl (o1.cut ag rfl λD e1 H=>?_))
 rw[Sq C.1]at I;rw[aeM C.2]at H;refine u.vH (i:=0) (s:=z) (by simp[d]) u.B.k λh2 x Y=>?_
 have V:=u.xw (x':=(ints mm.r.b.ends,Y6)) (r':=(r.qF mm.r).up λb=>{b with ends:=mm.r.b.ends}) KF (by simp[l]) I x Y ⟨rfl,rfl,rfl,rfl⟩ (by rw[m,m];rfl) rfl rfl λp _ q=>by rw[P]at q ⊢;cases‹some mm=some p›;exact⟨jJ _,q.2⟩
 refine mF w (x.aZ w (nR r3)) (mF o (x.aZ o (nR r1)) (V.vH (i:=1) (s:=y) (by simp[d]) V.B.k λh3 w3 X=>?_))
 have G3:=V.xw (i:=1) (s':=D) (A:=Q) (x':=(bv mm.r.b.all,Y8)) (r':=(r.qF mm.r).up λb=>{b with ends:=mm.r.b.ends,all:=mm.r.b.all}) KF (by simp[l]) (H.fr x.fr λc q _ e=>G.t.kX (g.ic (i:=1) (by simp[l])) (e▸q)) w3 X ⟨rfl,rfl,rfl,rfl⟩ (by rw[m,m];rfl) rfl rfl λp _ q=>by rw[P]at q ⊢;cases‹some mm=some p›;exact⟨q.1,jJ _⟩
 refine hk h3 ?_ ⟨_,by rfl,G3.conv (r':=mm.r) ⟨rfl,rfl,rfl,rfl⟩ (by rw[m,m];rfl) ?_ (λq=>ag) λp e q=>?_⟩
 ·exact((L.mono λc q _=>q.elim (λe=>e▸G.t.tb) λq=>G.ku g.gw q).trans (x.fr.mono λc q _=>q▸G.t.tb)).trans (w3.fr.mono λc q _=>q▸G.t.tb)
 ·have e1:mm.r.kids=[]:=by
   rw[ks.1];have:=ks.2;rw[Z]at this;rw[jv.1 this];rfl
  have e2:r.kids=[]:=jv.1 G.lk.2.2;rw[e1];exact e2.symm
 ·cases e;rw[P];exact⟨jJ _,jJ _⟩
end
section
variable {KM:List cN} {M:cN} {r:Raw} {mm:Mem} {K:HP}
theorem ap5{r m:Raw}{k:Raw}(hl:r.kids.length=1):((r.qF m).fk 0 k).kids=[k]:=by
 obtain⟨b,ks⟩:=r
 match ks,hl with
 |[y],_=>rfl
theorem axQ(u:f.k=15)(d':f.cs=[c])(C:MC c M)(G:bR f [M] T h r (some mm) g)(hk:∀V,Tn T h V->cQ f [M] T V (.iface (bG f.k) (bI g.b)) mm.r (some mm)->K V):cX aD mm.F [] h (λr U=>r=.tuple #[]/\K U) Kp:=by
 have KF:=ni C;obtain⟨⟨X,f',bm,c1,c2,c3,c4⟩,Q,ks⟩:=G.mm mm rfl;obtain⟨c',eF,mc⟩:=c4 ag;obtain⟨j,em,rfl⟩:=c1 ag;have a':jr f.k g.b X j.F mm=[#[X],#[j.F],#[bI g.b],pI mm.r.b.ends.length]:=by unfold jr;simp only;rw[ay,aI u]
 rw[a']at mc;obtain⟨a0,a1,a2,a3,t0,t1,t2,t3,ec,⟨r0,k0⟩,⟨r1,N⟩,⟨r2,l⟩,⟨r3,x⟩⟩:=RN mc;have b':gJ f.k=201:=by unfold gJ;rw[ay,aI u]
 have o:∀P:Rb,cy f.k P=[(ints P.ends,Y6)]:=λP=>by unfold cy;rw[ay,dR]
 have W:∀a b:Rb,eM f.k a b↔b.ends <+: a.ends:=λa b=>by unfold eM;rw[ay,aI u]
 rw[W]at Q;obtain⟨y,p⟩:∃y,g.SS=[y]:=by
  have:=G.ls.1;rw[o]at this
  match hg:g.SS,this with
  |[a],_=>exact⟨a,rfl⟩
 obtain⟨O,I⟩:∃O,g.ST=[O]:=by
  have:=G.ls.2;rw[o]at this
  match hg:g.ST,this with
  |[a],_=>exact⟨a,rfl⟩
 have lk:=G.lk;have l1:0<g.KT.length:=by have:=lk.2.1;simp only[jw]at this;omega
 have l2:0<g.kv.length:=by have:=lk.1;simp only[jw]at this;omega
 have z:=bx l1;have S:=bx l2;generalize g.KT[0]=A at z;generalize g.kv[0]=w at S;rw[eF,ec,b'];have hS:∀c,(c=g.b\/g.T0 c)->c<h.size->c=g.b\/g.T0 c:=λc q _=>q;have v:=G.av g.gw hS g.fI ag;have nA:∀c,g.R c->¬A c:=λc q=>G.t.ne g.fI (g.fC z) ag c q;refine axa (aD5 (aj k0 rfl ?_))
 show cX aD X [] h _ _
 refine yx G KF bm λU J G1=>?_;have N:=J.aZ N (v _ r1 N.lt);have l:=J.aZ l (v _ r2 l.lt);have x:=J.aZ x (v _ r3 x.lt);have d:=G1.aL 0 M A w rfl z S;have e0:((some mm).bind λmm=>mm.ks[0]?)=some j:=by show mm.ks[0]? =some j;rw[em];rfl
 rw[e0]at d;apply aj N rfl
 show cX aD j.F [] U _ _
 refine C.back d λh2 u2 M2=>?_;have D:=G1.Ge KF z u2 λM' w' q1 L=>by
  simp at q1;subst q1;have L:=L;rw[S]at L;cases L;rw[e0];exact M2
 have l:=u2.aZ l (nA _ r2);have x:=u2.aZ x (nA _ r3);have o0:=D.sl 0 y O (ints r.b.ends,Y6) (by simp[p]) (by simp[I]) (by rw[o];rfl)
 have n0:=o0.n;have p0:=Q.length_le;simp only[ints,cm]at n0;refine aj l rfl (aj l rfl ?_);refine bK ?_;refine D.dG (i:=0) rfl (by simp[p]) (aj x rfl (o0.cut ag rfl λE e' H=>?_))
 rw[Sq Q]at H;refine D.vH (i:=0) (s:=y) (by simp[p]) D.B.k λh3 w3 Z=>?_
 have G3:=D.xw (x':=(ints mm.r.b.ends,Y6)) (r':=((r.qF mm.r).fk 0 j.r).up λb=>{b with ends:=mm.r.b.ends}) KF (by simp[I]) H w3 Z ⟨rfl,rfl,rfl,rfl⟩ (by rw[o,o];rfl) rfl rfl λY e _=>by rw[W];cases e;exact jJ _
 refine hk h3 ?_ ⟨_,by rfl,G3.conv ⟨rfl,rfl,rfl,rfl⟩ (by rw[o,o];rfl) ?_ (λq=>ag) λY e _=>by cases e;rw[W];exact jJ _⟩
 ·exact((J.mono λc q _=>q.elim (λe=>e▸G.t.tb) λq=>G.ku g.gw q).trans (u2.mono λc q _=>G.ku (g.fC z) q)).trans (w3.fr.mono λc q _=>q▸G.t.tb)
 ·rw[ks.1,em];exact(ap5 lk.2.2).symm
end
theorem aw7{K:HP}(H:ajb c0 h K Kp):cX aD (.func (.func 215) #[] #[dw c0]) [] h (λr a=>r=.tuple #[]/\K a) Kp:=by
 unfold cX;exact cast aV H
theorem aw8{p:Addr}{K:HP}(H:ajc c0 p h K Kp):cX aD (.func (.func 213) #[] #[dw c0,dw p]) [] h (λr a=>r=.tuple #[]/\K a) Kp:=by
 unfold cX;exact cast aV H
section
variable {KM:List cN} {r:Raw} {mm:Mem} {K:HP}
def Mp(g:dO):Nat->Prop:=λc=>∃(j:Nat)(A:aQ),g.KT[j]? =some A/\A c
theorem aeZ{v:Value}(C:kH f.cs KM)(G:bR f KM T h r (some mm) g)(kf:Ct g.R h v (mm.ks.map Mem.F))(hl:mm.ks.length=f.cs.length)(a':f.cs.length<=32)
  (hk:∀r' d,Tn (Mp g) h d->bR f KM T d r' (some mm) g->r'.b=r.b->r'.kids=mm.ks.map Mem.r->K d):cX aD v [] h (λr h1=>r=.tuple #[]/\K h1) Kp:=by
 have CL:=C.1;obtain⟨a,t,s,rfl,ra,ka,sv⟩:=kf;have nR:∀c,g.R c->¬Mp g c:=λc q z=>by
  obtain⟨j,A,m,z⟩:=z;exact G.t.ne g.fI (g.fC m) ag c q z
 have hn:s.n=mm.ks.length:=by have:=sv.1.1;rw[cm]at this;exact this
 refine aw7 (aDT (aj ka rfl ?_));refine azi (λy d=>∃(i:Nat)(r':Raw),y=i/\i<=mm.ks.length/\Tn (Mp g) h d/\bR f KM T d r' (some mm) g/\r'.b=r.b/\∀j B,j<i->mm.ks[j]? =some B->r'.aL j=B.r) (λy _=>mm.ks.length-y.toNat)
  ⟨0,r,rfl,dN _,iX _ _,G,rfl,λj _ D=>ag⟩ ?_
 rintro y d ⟨i,r',rfl,hi,I,H,Z,Y⟩ N hN;have lk:=H.lk;refine cL (λo=>?_) λo=>?_
 ·have V:i<mm.ks.length:=ag;have S:i<g.KT.length:=ag;have P:i<g.kv.length:=ag;have Q:i<KM.length:=ag;have U:i<f.cs.length:=ag;have k:=bx V;have m:=bx S;have L:=bx P;have E:=bx Q;have x:=bx U;generalize mm.ks[i]=J at k;generalize g.KT[i]=A at m;generalize g.kv[i]=w at L;generalize KM[i]=M at E;generalize f.cs[i]=ci at x;have aL:=H.aL i M A w E m L;have e0:((some mm).bind λmm=>mm.ks[i]?)=some J:=k;rw[e0]at aL;have O:=sv.fr I (λc q _=>nR c q) λ_ z=>z;refine O.1.ix ag ag (by rw[fR,fh,k];rfl) λp cp=>⟨_,cp,?_⟩
  show cX aD J.F [] d _ _
  refine(C.2 i ci M x E).back aL λh2 u2 M2=>aW ag ag (hN _ _ ⟨i+1,_,aA,ag,I.trans (u2.mono λc q _=>⟨i,A,m,q⟩),H.Ge (rj:=J.r) C.qQ m u2 λM' w' X W=>?_,by rw[m5];exact Z,λj B D l=>?_⟩ ag)
  ·rw[E]at X;cases X;rw[L]at W;cases W;rw[e0];exact M2
  ·by_cases e:i=j
   ·subst e;rw[k]at l;cases l;rw[lz ag]
   ·rw[AU e];exact Y j B ag l
 ·have:i=mm.ks.length:=ag;subst this;refine hk r' d I H Z (sE λj=>?_)
  by_cases D:j<mm.ks.length
  ·grind[Raw.aL,List.getElem?_eq_getElem]
  simp_all
theorem axL(u:bC f)(d:f.k=17)(C:kH f.cs KM)(G:bR f KM T h r (some mm) g)(I:∀p,Tn T h p->cQ f KM T p (.iface (bG f.k) (bI g.b)) mm.r (some mm)->K p):cX aD mm.F [] h (λr o=>r=.tuple #[]/\K o) Kp:=by
 obtain⟨⟨s,i,U,c1,S,c3,Q⟩,pr,ks⟩:=G.mm mm rfl;obtain⟨D,P,mc⟩:=Q ag;have w:jr f.k g.b s i mm=[#[s],#[i]]:=by unfold jr;simp only;simp[*]
 rw[w]at mc;obtain⟨a0,a1,Z,Y,O,⟨r0,H⟩,⟨E,z⟩⟩:=abn mc;have x:gJ f.k=213:=by unfold gJ;grind
 have B:∀y:Rb,cy f.k y=[]:=λy=>by unfold cy;simp[*]
 have N:∀a b:Rb,eM f.k a b:=λa b=>by unfold eM;grind
 rw[P,O,x];have J:∀c,(c=g.b\/g.T0 c)->c<h.size->c=g.b\/g.T0 c:=λc q _=>q;have l:=G.av g.gw J g.fI ag;refine aw8 (aDV (aj H rfl ?_))
 show cX aD s [] h _ _
 refine yx G C.qQ U λo n W=>aj (n.aZ z (l _ E z.lt)) rfl ?_
 show cX aD i [] o _ _
 refine aeZ C W ((S (.inl d)).fr n l) ks.2 (u.right.1.2.2.2.2.2.2.2.2.1 d) λr' M u2 V m v=>I M ?_ ⟨_,by rfl,V.conv ⟨by rw[m];rfl,by rw[m];rfl,by rw[m];rfl,by rw[m];rfl⟩ (by rw[B,B]) bU (λq=>ag) λX _ _=>N _ _⟩
 exact(n.mono λc q _=>q.elim (λe=>e▸G.t.tb) λq=>G.ku g.gw q).trans (u2.mono λc q _=>by obtain⟨j,A,L,q⟩:=q;exact G.ku (g.fC L) q)
end
theorem aw6{p a:Addr}{K:HP}(H:ai9 c0 p q a h K Kp):cX aD (.func (.func 220) #[] #[dw c0,dw p,dw q,dw a]) [] h (λr b=>r=.tuple #[]/\K b) Kp:=by
 unfold cX;exact cast aV H
section
variable {KM:List cN} {r:Raw} {mm:Mem} {K:HP}
theorem axS(c':bC f)(l:f.k=18)(C:kH f.cs KM)(G:bR f KM T h r (some mm) g)(hk:∀h',Tn T h h'->cQ f KM T h' (.iface (bG f.k) (bI g.b)) mm.r (some mm)->K h'):cX aD mm.F [] h (λr h1=>r=.tuple #[]/\K h1) Kp:=by
 have KF:=C.qQ;obtain⟨⟨F0,x,bm,c1,c2,c3,c4⟩,pr,ks⟩:=G.mm mm rfl;obtain⟨g',eF,mc⟩:=c4 ag;have e':jr f.k g.b F0 x mm=[#[F0],#[x],#[bI g.b],pI mm.r.b.all.length]:=by unfold jr;simp only;simp[*]
 rw[e']at mc;obtain⟨a0,a1,a2,a3,t0,t1,t2,t3,ec,⟨r0,k0⟩,⟨r1,k1⟩,⟨Z,p⟩,⟨Y,v⟩⟩:=RN mc;have f':gJ f.k=220:=by unfold gJ;grind
 have o:∀U:Rb,cy f.k U=[(bv U.all,Y8),(ints U.ends,Y6)]:=λU=>by unfold cy;grind
 have V:∀a b:Rb,eM f.k a b↔b.ends <+: a.ends/\b.all <+: a.all/\b.ends.length=b.all.length:=λa b=>by unfold eM;grind
 rw[V]at pr;obtain⟨O,N,M⟩:=pr;obtain⟨H,E,d⟩:∃H E,g.SS=[H,E]:=by
  have:=G.ls.1;rw[o]at this
  match hg:g.SS,this with
  |[a,b],_=>simp
 obtain⟨X,W,m⟩:∃X W,g.ST=[X,W]:=by
  have:=G.ls.2;rw[o]at this
  match hg:g.ST,this with
  |[a,b],_=>simp
 rw[eF,ec,f'];have hS:∀c,(c=g.b\/g.T0 c)->c<h.size->c=g.b\/g.T0 c:=λc q _=>q;have u:=G.av g.gw hS g.fI ag;have nR:∀{c:Nat},g.R c->c≠g.b:=λq e=>G.t.kX g.fI (e▸q);have nK:∀c,g.R c->¬Mp g c:=λc q z=>by
  obtain⟨j,A,hA,z⟩:=z;exact G.t.ne g.fI (g.fC hA) ag c q z
 refine aw6 (aDP (aj k0 rfl ?_))
 show cX aD F0 [] h _ _
 refine yx G KF bm λh1 D G1=>aj (D.aZ k1 (u _ r1 k1.lt)) rfl ?_
 show cX aD x [] h1 _ _
 refine aeZ C G1 ((c2 (.inr l)).fr D u) ks.2 ((c'.right.1.2.2.2.2.2.2.2.2.2.1 l).2) λr' h2 u2 w I d'=>?_;have p:=u2.aZ (D.aZ p (u _ Z p.lt)) (nK _ Z);have v:=u2.aZ (D.aZ v (u _ Y v.lt)) (nK _ Y);have ea:r'.b.all=r.b.all/\r'.b.ends=r.b.ends:=by rw[I];exact⟨rfl,rfl⟩
 have o0:=w.sl 0 H X _ (by simp[d]) (by simp[m]) (by rw[o,ea.1];rfl)
 have o1:=w.sl 1 E W _ (by simp[d]) (by simp[m]) (by rw[o,ea.2];rfl)
 have n0:=o0.n;have n1:=o1.n;have p0:=O.length_le;have p1:=N.length_le;simp only[ints,cm]at n1;rw[fM]at n0;refine aj p rfl (aj p rfl (aj p rfl ?_));refine bK ?_;refine w.dG (i:=0) rfl (by simp[d]) (aj v rfl (o0.cut ag rfl λL e0 Q=>aj p rfl ?_))
 refine bK ?_;refine w.dG (i:=1) rfl (by simp[d]) (aj v rfl (o1.cut ag rfl λJ e1 P=>?_))
 rw[aeM N]at Q;rw[<-M,Sq O]at P;refine w.vH (i:=0) (s:=H) (by simp[d]) w.B.k λh3 y b'=>?_
 have G3:=w.xw (x':=(bv mm.r.b.all,Y8)) (r':=r'.up λb=>{b with all:=mm.r.b.all}) KF (by simp[m]) Q y b' ⟨rfl,rfl,rfl,rfl⟩ (by rw[o,o];rfl) rfl rfl λS e q=>by rw[V]at q ⊢;cases e;exact⟨q.1,jJ _,q.2.2⟩
 refine mF v (y.aZ v (nR Y)) (mF p (y.aZ p (nR Z)) (G3.vH (i:=1) (s:=E) (s':=J) (by simp[d]) G3.B.k λh4 w4 a'=>?_))
 have G4:=G3.xw (i:=1) (s':=J) (A:=W) (x':=(ints mm.r.b.ends,Y6)) (r':=r'.up λb=>{b with all:=mm.r.b.all,ends:=mm.r.b.ends}) KF (by simp[m]) (P.fr y.fr λc q _ e=>G.t.kX (g.ic (i:=1) (by simp[m])) (e▸q)) w4 a' ⟨rfl,rfl,rfl,rfl⟩ (by rw[o,o];rfl) rfl rfl λS e q=>by rw[V]at q ⊢;cases e;exact⟨jJ _,q.2.1,q.2.2⟩
 refine hk h4 ?_ ⟨_,by rfl,G4.conv (r':=mm.r) ⟨by show _=r'.b.rows;rw[I];rfl,by show _=r'.b.ck;rw[I];rfl,by show _=r'.b.bits;rw[I];rfl,by show _=r'.b.bB;rw[I];rfl⟩ (by rw[o,o];rfl) (by rw[jS,d'];exact ks.1) (λq=>ag) λS e q=>by cases e;rw[V];exact⟨jJ _,jJ _,M⟩⟩
 exact(((D.mono λc q _=>q.elim (λe=>e▸G.t.tb) λq=>G.ku g.gw q).trans (u2.mono λc q _=>by obtain⟨j,A,hA,q⟩:=q;exact G.ku (g.fC hA) q)).trans (y.fr.mono λc q _=>q▸G.t.tb)).trans (w4.fr.mono λc q _=>q▸G.t.tb)
end
section
variable {KM:List cN} {r:Raw} {m:fQ} {mm:Mem} {v:Value}
theorem axP{K:HP}(l:f.k=1)(n:f.cs=[])(G:bR f [] T h r (some mm) g)(u:∀i,Tn T h i->cQ f [] T i (.iface (bG f.k) (bI g.b)) mm.r (some mm)->K i):cX aD mm.F [] h (λr d=>r=.tuple #[]/\K d) Kp:=by
 have KF:∀(j:Nat)(M:cN),([]:List cN)[j]? =some M->gB M:=aA
 obtain⟨⟨J,C,z,I,H,y,E⟩,D,ks⟩:=G.mm mm rfl;have p:∀o:Rb,cy f.k o=[]:=λo=>by unfold cy;simp[*]
 have w:∀a b:Rb,eM f.k a b:=λa b=>by unfold eM;simp[*]
 rw[y l];refine yx G KF z λd s A=>u d (s.mono λc q _=>q.elim (λe=>e▸G.t.tb) λq=>G.ku g.gw q) ⟨_,by rfl,A.conv ⟨rfl,rfl,rfl,rfl⟩ (by rw[p,p]) ?_ (λq=>ag) λB _ _=>w _ _⟩
 have e1:mm.r.kids=[]:=by
  rw[ks.1];have:=ks.2;rw[n]at this;rw[jv.1 this];rfl
 have x:=jv.1 G.lk.2.2;rw[e1];exact x.symm
theorem cQ.drop(k:∀(j:Nat)M,KM[j]? =some M->∀{T:aQ}{h:Hp}{v:Value}{r:Raw}{m:fQ},M T h v r m->M T h v r none)(H:cQ f KM T h v r m):cQ f KM T h v r none:=by
 obtain⟨g,e,G⟩:=H;exact⟨g,e,G.t,G.B,G.ls,G.sl,G.lk,λj M A w a d b=>k j M a (G.aL j M A w a d b),G.no,G.kl,G.sp,λ_ q=>by cases q⟩
theorem cQ.lt(H:cQ f KM T h v r m):∀c,T c->c<h.size:=by
 obtain⟨g,e,G⟩:=H;exact G.t.lt
theorem cQ.na(H:cQ f KM T h v r m):∃k b,v=.iface (bG k) (bI b):=by
 obtain⟨g,e,G⟩:=H;grind
theorem cQ.mono(H:cQ f KM T h v r m)(hT:∀c,T c->D c)(hl:∀c,D c->c<h.size):cQ f KM D h v r m:=by
 obtain⟨g,e,G⟩:=H;exact⟨g,e,G.mono hT hl⟩
def xh(t:TypeId):Prop:=(sX aD t "colonnade/build.count"=none/\Dq aD t "colonnade/build.count"=some (178,0))/\sX aD t "colonnade/build.weight"=none/\Dq aD t "colonnade/build.weight"=some (182,0)
theorem awP:xh pO:=⟨⟨by kernel_rfl,by kernel_rfl⟩,by kernel_rfl,by kernel_rfl⟩
theorem awO:xh pN:=⟨⟨by kernel_rfl,by kernel_rfl⟩,by kernel_rfl,by kernel_rfl⟩
theorem awN:xh pM:=⟨⟨by kernel_rfl,by kernel_rfl⟩,by kernel_rfl,by kernel_rfl⟩
theorem awM:xh oK:=⟨⟨by kernel_rfl,by kernel_rfl⟩,by kernel_rfl,by kernel_rfl⟩
theorem awL:xh oJ:=⟨⟨by kernel_rfl,by kernel_rfl⟩,by kernel_rfl,by kernel_rfl⟩
theorem awK:xh qw:=⟨⟨by kernel_rfl,by kernel_rfl⟩,by kernel_rfl,by kernel_rfl⟩
theorem awJ:xh qv:=⟨⟨by kernel_rfl,by kernel_rfl⟩,by kernel_rfl,by kernel_rfl⟩
theorem awI:xh pL:=⟨⟨by kernel_rfl,by kernel_rfl⟩,by kernel_rfl,by kernel_rfl⟩
theorem awH:xh pK:=⟨⟨by kernel_rfl,by kernel_rfl⟩,by kernel_rfl,by kernel_rfl⟩
theorem adN(k:Int):xh (bG k):=by
 unfold bG
 by_cases zT:k=1
 ·rw[aI zT];exact awP
 rw[aC zT]
 by_cases ym:k=12\/k=13
 ·rw[aI ym];exact awO
 rw[aC ym]
 by_cases BO:k=15
 ·rw[aI BO];exact awN
 rw[aC BO]
 by_cases a:k=16
 ·rw[aI a];exact awM
 rw[aC a]
 by_cases yj:k=17
 ·rw[aI yj];exact awL
 rw[aC yj]
 by_cases zS:k=18
 ·rw[aI zS];exact awK
 rw[aC zS]
 by_cases yh:k=19
 ·rw[aI yh];exact awJ
 rw[aC yh]
 by_cases Lj:k=20
 all_goals simp_all[awI,awH]
theorem cQ.count{K:cJ}(H:cQ f KM T h v r m)(a:K (r.b.rows:Int) h):ajI v h K Kp:=by
 obtain⟨g,rfl,G⟩:=H;have q:=adN f.k;exact adW q.1.1 q.1.2 aV (axG G.B a)
theorem cQ.weight{K:cJ}(H:cQ f KM T h v r m)(a:K (r.b.bB:Int) h):ajH v h K Kp:=by
 obtain⟨g,rfl,G⟩:=H;have q:=adN f.k;exact adW q.2.1 q.2.2 aV (axq G.B a)
end
def wU(f:aq)(M:cN):Prop:=∀{T D:aQ}{h:Hp}{v:Value}{vs:aP}{m:fQ}{x:aB}{s:Sl}{K:cJ}{Kp:PK},f.can vs->f.fit x=true->x.bq<=4194304->M T h v (f.st vs) m->aR D h s x.items->(∀c,D c->¬T c)->
  (∀h',Tn T h h'->M (Tr T h h') h' v (f.tk (f.st vs) x).2 m->K (f.tk (f.st vs) x).1 h')->mY v x.au x.num (bs x.text) s h K Kp
def wR(f:aq)(M:cN):Prop:=∀{T:aQ}{h:Hp}{v:Value}{vs:aP}{m:fQ}{K:cJ}{Kp:PK},f.can vs->M T h v (f.st vs) m->
  (∀h',Tn T h h'->M (Tr T h h') h' v (f.zk (f.st vs)).2 m->K (f.zk (f.st vs)).1 h')->mG v h K Kp
section
variable {KM:List cN} {M:cN}
theorem qB:∀(j:Nat)(M:cN),([]:List cN)[j]? =some M->gB M:=λj M q=>by simp at q
theorem Fh(a:f.k=12\/f.k=13){vs:aP}(d:f.can vs):(f.st vs).b.ends.length<=70000/\(f.st vs).b.all.length<=2^40:=by
 have c:=(gk f vs).1 d;have g:=c.n4;have e:=c.tx a;rw[fF];simp only[aK];rw[aI a,aI a,CW];omega
theorem al7(a:f.k=1):wU f (cQ f []):=by
 intro T D h v vs m x s K l i d n H o p e;obtain⟨g,rfl,G⟩:=H;have j:bG f.k=pO:=by unfold bG;simp[*]
 have q:mY _ x.au x.num _ s h K l:=avI (Zn a qB G (by have:=(iI i).1;omega) e)
 grind
theorem aki(a:f.k=1):wR f (cQ f []):=by
 intro T h v vs m K j e H d;obtain⟨g,rfl,G⟩:=H;have i:bG f.k=pO:=by unfold bG;simp[*]
 have q:mG _ h K j:=avz (aj8 a qB G (by have:=(iI e).1;omega) d)
 grind
theorem al2(n:bC f)(a:f.k=12\/f.k=13):wU f (cQ f []):=by
 intro T D h v vs m x s K l d e o H p r i;obtain⟨g,rfl,G⟩:=H;have j:bG f.k=pN:=by unfold bG;grind
 have q:mY _ x.au x.num _ s h K l:=avD (Zi a qB G (Fh a d).1 (Fh a d).2 (by have:=(iI d).1;omega) (by have:=YS x;omega) i)
 simp[*]
theorem akd(e:bC f)(a:f.k=12\/f.k=13):wR f (cQ f []):=by
 intro T h v vs m K l d H i;obtain⟨g,rfl,G⟩:=H;have j:bG f.k=pN:=by unfold bG;grind
 have q:mG _ h K l:=avu (aj3 e a qB G (Fh a d).1 (Fh a d).2 (by have:=(iI d).1;omega) i)
 simp[*]
theorem al8(u:bC f)(a:f.k=15)(e:f.cs=[c])(C:MC c M)(r:jl c):wU f (cQ f [M]):=by
 intro T D h v vs m x s K t n d i H j o l;obtain⟨g,rfl,G⟩:=H;have p:bG f.k=pM:=by unfold bG;simp[*]
 have q:mY _ x.au x.num _ s h K t:=avJ (Zo a e C r n d i G j (λc q _=>G.out (o c q)) l);grind
theorem akj(d:bC f)(a:f.k=15)(e:f.cs=[c])(C:MC c M)(n:jl c):wR f (cQ f [M]):=by
 intro T h v vs m K o j H i;obtain⟨g,rfl,G⟩:=H;have l:bG f.k=pM:=by unfold bG;simp[*]
 have q:mG _ h K o:=avA (aj9 d a e C n j G i);grind
theorem al4(e:bC f)(a:f.k=16)(i:f.cs=[c])(C:MC c M)(u:jl c)(t:dU c c.zk c.bZ):wU f (cQ f [M]):=by
 intro T D h v vs m x s K w o d j H l p n;obtain⟨g,rfl,G⟩:=H;have r:bG f.k=oK:=by unfold bG;simp[*]
 have q:mY _ x.au x.num _ s h K w:=avF (Zk e a i C u t o d j G l (λc q _=>G.out (p c q)) n);grind
theorem akf(d:bC f)(a:f.k=16)(e:f.cs=[c])(C:MC c M)(o:jl c)(n:dU c c.zk c.bZ):wR f (cQ f [M]):=by
 intro T h v vs m K p j H i;obtain⟨g,rfl,G⟩:=H;have l:bG f.k=oK:=by unfold bG;simp[*]
 have q:mG _ h K p:=avw (aj6 d a e C o n j G i);grind
theorem al3(e:bC f)(a:f.k=17)(C:kH f.cs KM)(r:∀c∈f.cs,jl c/\dU c c.zk c.bZ):wU f (cQ f KM):=by
 intro T D h v vs m x s K t n d i H j o l;obtain⟨g,rfl,G⟩:=H;have p:bG f.k=oJ:=by unfold bG;simp[*]
 have q:mY _ x.au x.num _ s h K t:=avE (Zj e a C r n d i G j (λc q _=>G.out (o c q)) l);grind
theorem ake(d:bC f)(a:f.k=17)(C:kH f.cs KM)(l:∀c∈f.cs,jl c/\dU c c.zk c.bZ):wR f (cQ f KM):=by
 intro T h v vs m K n i H e;obtain⟨g,rfl,G⟩:=H;have j:bG f.k=oJ:=by unfold bG;simp[*]
 have q:mG _ h K n:=avv (aj4 d a C l i G e);grind
theorem ama(i:bC f)(a:f.k=18)(C:kH f.cs KM)(r:∀c∈f.cs,jl c/\dU c c.zk c.bZ):wU f (cQ f KM):=by
 intro T D h v vs m x s K t e d j H l o n;obtain⟨g,rfl,G⟩:=H;have p:bG f.k=qw:=by unfold bG;simp[*]
 have q:mY _ x.au x.num _ s h K t:=avL (Zq i a C (λc e=>(r c e).1) e d j G l (λc q _=>G.out (o c q)) n);grind
theorem akl(d:bC f)(a:f.k=18)(C:kH f.cs KM)(l:∀c∈f.cs,jl c/\dU c c.zk c.bZ):wR f (cQ f KM):=by
 intro T h v vs m K n i H e;obtain⟨g,rfl,G⟩:=H;have j:bG f.k=qw:=by unfold bG;simp[*]
 have q:mG _ h K n:=avC (akb d a C l i G e);grind
end
def xg(f:aq)(M:cN):Prop:=∀{T:aQ}{h:Hp}{v:Value}{vs:aP}{m:fQ}{K:Int->Int->Int->Sl->Sl->Sl->HP}{Kp:PK},f.can vs->M T h v (f.st vs) m->
  (∀p h',az h h'->eU (Nw h) (Nw h) h' p (f.dn (f.st vs))->K (f.dn (f.st vs)).len (f.dn (f.st vs)).off (f.dn (f.st vs)).au p.1 p.2.1 p.2.2 h')->mH v h K Kp
section
variable {KM:List cN} {M:cN}
theorem fc.none:fc D E h Sl.nil []:=⟨[],rfl,⟨yF h,λq=>absurd rfl q⟩,λj t l a b=>by simp at a⟩
theorem aeP{s u:Sl}{p o n:dB}{K:Addr->HP}(z:dX D h s (bv p))(r:dX D h t (bv o))(q:dX D h u (bv n))(C:D h.size)(A:∀a m,az h m->fc D D m ⟨some a,3,3⟩ [p,o,n]->K a m):aH h #[Sl.v s,Sl.v t,Sl.v u] fN K:=by
 refine aG λb F e1 k y _=>A _ F k ⟨[s,t,u],rfl,?_,λj w l d e=>?_⟩
 ·refine⟨⟨rfl,bP _,λx G=>⟨_,rfl,λi v g=>?_⟩⟩,λ_ a B=>by cases B;exact e1▸C⟩
  rw[bw,gW y];grind
 ·rcases j with _|_|_|j
  ·simp at d e;subst d e;exact z.gr k
  ·simp at d e;subst d e;exact r.gr k
  ·simp at d e;subst d e;exact q.gr k
  ·simp at d
theorem avc(a:f.k=1):xg f (cQ f []):=by
 intro T h v vs m K s w H e;obtain⟨g,rfl,G⟩:=H;have r:bG f.k=pO:=by unfold bG;simp[*]
 have q:mH (.iface pO (bI g.b)) h K s:=by
  refine av0 (aEo (aG λz y e1 d n _=>?_));simp only[ob];have t:=G.B.fr (bh d) id λ_ _ _=>id;refine qo t λx i=>jI (n.ai i) rfl λo j l=>gl l ?_;have p:f.dn (f.st vs)=.mk (f.st vs).b.rows 0 (f.st vs).b.ck [] [] []:=by rw[GU a,fF];rfl
  rw[p]at e;exact e (Sl.nil,Sl.nil,Sl.nil) o (bE (ak d i) j ag) ⟨fc.none,jH _,jH _⟩
 grind
theorem au7(d:f.k=12\/f.k=13):xg f (cQ f []):=by
 intro T h v vs m K Kp X H W;obtain⟨g,rfl,G⟩:=H;have ed:bG f.k=pN:=by unfold bG;grind
 have F:∀A:Rb,cy f.k A=[(ints A.ends,Y6),(bv A.all,Y8)]:=λA=>by unfold cy;simp[*]
 obtain⟨z,y,l⟩:∃z y,g.SS=[z,y]:=by
  have:=G.ls.1;rw[F]at this
  match hg:g.SS,this with
  |[a,b],_=>simp
 obtain⟨Q,P,r⟩:∃Q P,g.ST=[Q,P]:=by
  have:=G.ls.2;rw[F]at this
  match hg:g.ST,this with
  |[a,b],_=>simp
 have bd:=Fh d X;have R:=((gk f vs).1 X).tx d;have Y:(f.st vs).b.all.length<=65536:=by rw[fF];simp only[aK];rw[aI d];exact R
 have o:∀x∈(f.st vs).b.ends,x<2^63:=by
  rw[fF];simp only[aK];rw[aI d];intro x I;unfold kj at I;simp only[lU,wO]at I;obtain⟨i,_,rfl⟩:=I;have:=Jk (λv:aB=>v.text.length) vs i;have e:(vs.map λv:aB=>v.text.length).sum=(vs.flatMap aB.text).length:=by rw[B2]
  omega
 have q:mH (.iface pN (bI g.b)) h K Kp:=by
  refine avV (aEe (aG λN h1 e1 L V _=>?_));refine bK ?_;have j:=G.fr qB (bh L) λ_ _ _=>id;have o0:=j.sl 0 z Q _ (by simp[l]) (by simp[r]) (by rw[F];rfl)
  have o1:=j.sl 1 y P _ (by simp[l]) (by simp[r]) (by rw[F];rfl)
  refine j.dG (i:=0) (s:=z) rfl (by simp[l]) (j.dG (i:=1) (s:=y) rfl (by simp[l]) (wD j.B λu h2 n v2=>bM j.B.k n (bM j.B.k n ?_)))
  have z2:=n.1;refine xJ (w:=4) (o0.gr n) bd.1 ag o λt h3 p=>bM (j.B.k.ai n) p.g ?_;have z3:=p.g.1;refine LL ((o1.gr n).gr p.g) ag λw h4 C Z=>?_;have z4:=C.1;refine aeP ((v2.mo λc(q:h1.size<=c)=>(⟨ag,ag⟩:h.size<=c/\c≠N)).gr p.g |>.gr C) ((p.lp.mo λc(q:h2.size<=c)=>(⟨ag,ag⟩:h.size<=c/\c≠N)).gr C) (Z.mo λc(q:h3.size<=c)=>⟨ag,ag⟩) ⟨ag,ag⟩ λb' h5 g5 bf=>?_
  have O:=ak (ak n p.g) (ak C g5);have B5:=j.B.fr (bh O) id λ_ _ _=>id;refine qo B5 λh6 J=>jI ((V.ai O).ai J) rfl λh7 U k7=>gl k7 ?_;have ef:f.dn (f.st vs)=.mk (f.st vs).b.rows 0 (f.st vs).b.ck [dF (f.st vs).b,laidB (f.st vs).b.ends 4,(f.st vs).b.all] [] []:=by rw[wq d,fF];rfl
  rw[ef]at W;exact W (_,Sl.nil,Sl.nil) h7 (bE (ak (ak L O) J) U ag) ⟨(bf.gr J).fr U.fr (λc q _ e=>q.2 e) (λc q _ e=>q.2 e) (λc q=>q.1) λc q=>q.1,jH _,jH _⟩
 simp[*]
end
section
variable {KM:List cN} {M:cN} {h0:Hp} {vs:aP} {m:fQ} {K:Int->Int->Int->Sl->Sl->Sl->HP}
theorem dz.one{a:Nat}{p:Sl×Sl×Sl}(k:aN h a #[ah d.len,ah d.off,ah d.au,Sl.v p.1,Sl.v p.2.1,Sl.v p.2.2] el)(l:D a)(v:eU D E h p d):dz D E h ⟨some (aJ a),1,1⟩ [d]:=by
 obtain⟨n,o,u,aX,cs,ds⟩:=d;have j:iC D E h (aJ a) (.mk n o u aX cs ds):=by
  unfold iC;refine⟨p.1,p.2.1,p.2.2,λi w e=>?_,v.b,v.c,v.x⟩;rw[bw,gW k];rcases i with _|_|_|_|_|_|i
  all_goals first|(simp[xk]at e;done)|(simpa[xk,bD.len,bD.off,bD.au]using e)
 unfold dz;exact⟨rfl,bP _,_,rfl,l,j,by unfold ju;trivial⟩
theorem am2{n:Nat}{b:Sl}{X:TypeId}{c2:Array Value}(r:f.k=16)(s:f.cs=[c])(C:MC c M)(hc:f.can vs)(G:bR f [M] T h (f.st vs) m g)(P:aN h n c2 X)(e2:c2.size=6)
  (O:aN h j #[ah ((f.st vs).b.rows:Int),ah 0,ah ((f.st vs).b.ck:Int),Sl.v b,Sl.v Sl.nil,Sl.v Sl.nil] bX) (bf:fc (λc=>h0.size<=c/\c≠n/\c≠j) (λc=>h0.size<=c/\c≠n/\c≠j) h b [dF (f.st vs).b]) (V:az h0 h) (l2:h0.size<=n) (l3:h0.size<=j) (ne:n≠j)
  (Q:∀p F,az h0 F->eU (Nw h0) (Nw h0) F p (f.dn (f.st vs))->K (f.dn (f.st vs)).len (f.dn (f.st vs)).off (f.dn (f.st vs)).au p.1 p.2.1 p.2.2 F):Cz K Kp (bz g.b) (aJ n) (aJ j) h:=by
 have es:∀N:Rb,cy f.k N=[]:=λN=>by unfold cy;rw[ay,ay,ay,dR]
 have L:g.SS=[]:=by
  have:=G.ls.1;rw[es]at this;exact jv.1 this
 have lk:=G.lk;have Z:0<g.KT.length:=by have:=lk.2.1;simp only[jw]at this;omega
 have Y:0<g.kv.length:=by have:=lk.1;simp only[jw]at this;omega
 have R:=bx Z;have E:=bx Y;generalize g.KT[0]=A at R;generalize g.kv[0]=w at E;have aL:=G.aL 0 M A w rfl R E;have d:f.cs[0]? =some c:=by rw[s];rfl
 rw[mW d vs]at aL;have ef:f.dn (f.st vs)=.mk (f.st vs).b.rows 0 (f.st vs).b.ck [dF (f.st vs).b] [c.dn (c.st (dJ f.k f.w (dI f.cs) 0 vs))] []:=by
  have ek:ie f vs=[c.dn (c.st (dJ f.k f.w (dI f.cs) 0 vs))]:=by
   have x:=uG (vs:=vs) d;have l:=Ds f vs;rw[s]at l
   match hq:ie f vs,l with
   |[y],_=>rw[hq]at x;simp at x;rw[x]
  rw[BG (.inl r),ek,fF];rfl
 rw[ef]at Q;apply aAY;refine bK ?_;have b':=P.lt;have a':=O.lt;refine G.lP (i:=0) rfl (.inr (.inl r)) (by simp[L]) E (C.done (fy d hc) aL λp x U D1=>aG λa l c' H o _=>?_)
 have z1:=U.1;have B:=ak U H;refine dc (O.ai B) aA rfl λh3 u J=>?_;have t:aN h3 j #[ah ((f.st vs).b.rows:Int),ah 0,ah ((f.st vs).b.ck:Int),Sl.v b,Sl.v ⟨some (aJ a),1,1⟩,Sl.v Sl.nil] bX:=by simpa[Sl.v]using J
 refine gl t (jI (u.aZ (P.ai B) ne) e2 λS D k4=>gl k4 (Q (b,⟨some (aJ a),1,1⟩,Sl.nil) S (bE (bE (ak V B) u l3) D l2) ⟨?_,?_,jH _⟩))
 ·exact((bf.gr B).fr u.fr (λc q _ e=>q.2.2 e) (λc q _ e=>q.2.2 e) (λc q=>q) λc q=>q).fr D.fr (λc q _ e=>q.2.1 e) (λc q _ e=>q.2.1 e) (λc q=>q.1) λc q=>q.1
 ·have I:Tn (λc=>c=j\/c=n) l S:=(u.fr.mono λc q _=>.inl q).trans (D.fr.mono λc q _=>.inr q);have d2:dz (λc=>h.size<=c) (λc=>h.size<=c) l ⟨some (aJ a),1,1⟩ [c.dn (c.st (dJ f.k f.w (dI f.cs) 0 vs))]:=dz.one o (by show h.size<=a;omega) (D1.gr H)
  exact dz.fr I (λc(q:h.size<=c)_ z=>ag) (λc(q:h.size<=c)_ z=>ag) (λc(q:h.size<=c)=>by show h0.size<=c;omega) (λc(q:h.size<=c)=>by show h0.size<=c;omega) _ d2
end
section
variable {M:cN} {D' E':aQ}
theorem fc.mo{s:Sl}{aX:ig}(v:fc D E h s aX)(e:∀b,D b->D' b)(a:∀b,E b->E' b):fc D' E' h s aX:=v.fr (iX _ _) (λ_ _ _=>id) (λ_ _ _=>id) e a
theorem D2{s:Sl}{k:dB}{K:Addr->HP}(o:dX D h s (bv k))(t:D h.size)(q:∀b g,az h g->b=h.size->fc D D g ⟨some (aJ b),1,1⟩ [k]->K (aJ b) g):aH h #[Sl.v s] fN K:=by
 refine aG λb u e1 n p _=>q _ u n e1 ⟨[s],rfl,?_,λj w l d e=>?_⟩
 ·refine⟨⟨rfl,bP _,λx y=>⟨_,rfl,λi v m=>?_⟩⟩,λ_ a r=>by cases r;exact e1▸t⟩
  rw[bw,gW p];grind
 ·rcases j with _|j
  ·simp at d e;subst d e;exact o.gr n
  ·simp at d
theorem au9(w:f.k=16)(O:f.cs=[c])(C:MC c M):xg f (cQ f [M]):=by
 intro T h v vs m K X hc H hk;obtain⟨g,rfl,G⟩:=H;have ed:bG f.k=oK:=by unfold bG;simp[*]
 have q:mH (.iface oK (bI g.b)) h K X:=by
  refine avX (aD4 (aG λa2 p e1 y R _=>?_));simp only[ob];have fin:∀{r:Hp}{j l:Nat}{L:Array Value},az p r->aN r j L bX->L.size=6->p.size<=j->fc (λc=>p.size<=c/\c≠j) (λc=>p.size<=c/\c≠j) r ⟨some (aJ l),1,1⟩ [dF (f.st vs).b]->
    cV r (aJ j) ((f.st vs).b.rows:Int) 0 ((f.st vs).b.ck:Int) ⟨some (aJ l),1,1⟩ Sl.nil Sl.nil λz=>Cz K X (bz g.b) (aJ a2) (aJ j) z:=by
   intro r j l L I n W l3 s;refine jI n W λz Q N=>?_;have J:=bE I Q l3;exact am2 w O C hc (G.fr (ni C) (bh (ak y J)) λ_ _ _=>id) (R.ai J) rfl N (s.fr Q.fr (λc q _ e=>q.2 e) (λc q _ e=>q.2 e) (λc q=>⟨ag,ag,q.2⟩) λc q=>⟨ag,ag,q.2⟩) (ak y J) ag ag ag hk
  have Bx:∀{r:Hp},az p r->mJ g.T0 r g.b _ f g.sf g.sn g.sb (f.st vs).b _:=λI=>G.B.fr (bh (ak y I)) id λ_ _ _=>id;refine⟨wD (Bx (cK _)) λu V i P=>⟨D2 (P.mo λc q=>q) i.1 λl U o x s=>⟨?_,?_⟩,?_⟩,?_⟩
  ·have t:=ak i o;refine qo (Bx t) λF a=>aG λj A e5 d n _=>?_;have Z:=t.1;have Y:=a.1;refine fin (ak (ak t a) d) n rfl ag (((s.lt.gr a).gr d).mo (λc q=>⟨q.1,ag⟩) λc q=>⟨q.1,ag⟩)
  ·have t:=ak i o;refine aG λj F e4 a n _=>qo (Bx (ak t a)) λA d=>?_;have Z:=t.1;refine fin (ak (ak t a) d) (n.ai d) rfl ag (((s.lt.gr a).gr d).mo (λc q=>⟨q.1,ag⟩) λc q=>⟨q.1,ag⟩)
  ·refine aG λj U W o n _=>D2 (D:=λc=>p.size<=c/\c≠j) ((P.lt.gr o).mo λc q=>⟨q.1,ag⟩) (by have:=i.1;omega) λl F a x s=>qo (Bx (ak (ak i o) a)) λA d=>?_
   have z2:=i.1;exact fin (ak (ak (ak i o) a) d) ((n.ai a).ai d) rfl ag (s.gr d)
  ·exact aG λj V e2 i n _=>wD (Bx i) λu U o v3=>D2 (v3.mo λc(q:V.size<=c)=>ag) (by have:=i.1;have:=o.1;omega) λl F a x s=>qo (Bx (ak (ak i o) a)) λA d=>fin (ak (ak (ak i o) a) d) (((n.ai o).ai a).ai d) rfl ag (s.gr d)
 grind
end
structure aGD(f:aq)(M:cN)(T:aQ)(h:Hp)(p:Nat)(vs:aP)(en:Bool)(sf:Sl)(v:Value)(Tm R:aQ):Prop where
 tp:T p
 lt:∀c,T c->c<h.size
 tm:∀c,Tm c->T c/\c≠p/\¬R c
 tr:∀c,R c->T c/\c≠p
 k:aN h p #[.string f.name,.bool f.au,ah f.k,ah f.w,ah f.id,ah f.ix,Sl.v sf,v,.bool en] afn
 c:bY R h sf f.cs
 m:M Tm h v (f.st vs) none
def pW(f:aq)(M:cN)(T:aQ)(h:Hp)(p:Nat)(vs:aP)(en:Bool):Prop:=∃sf v Tm R,aGD f M T h p vs en sf v Tm R
section
variable {M:cN} {S:aQ} {h':Hp} {p:Nat} {vs:aP} {en:Bool} {x:aB} {s:Sl}
theorem pW.fr(C:MC f M)(B:pW f M T h p vs en)(t:Tn S h h')(z:∀c,T c->¬S c):pW f M T h' p vs en:=by
 have⟨a,v,b,R,B⟩:=B;exact⟨a,v,b,R,B.tp,λc q=>kZ (B.lt c q) t.1,B.tm,B.tr,t.aZ B.k (z p B.tp),bY.fr t (λc q=>z c (B.tr c q).1) (λ_ q=>q) _ B.c,C.fr B.m t λc q _=>z c (B.tm c q).1⟩
theorem pW.lt(B:pW f M T h p vs en):∀c,T c->c<h.size:=by
 have⟨a,v,b,R,B⟩:=B;exact B.lt
theorem arJ{K:cJ}(C:MC f M)(B:pW f M T h p vs en)(V:f.can vs)(O:f.fit x=true)(hP:dU f (λr=>f.tk r x) x)(hw:x.bq<=4194304)(hv:aR D h s x.items)(hD:∀c,D c->¬T c)
  (hk:∀h',Tn T h h'->pW f M (Tr T h h') h' p (if(f.tk (f.st vs) x).1=0 then vs++[x]else vs) en->K (f.tk (f.st vs) x).1 h'):XH (bz p) x.au x.num (bs x.text) s h K Kp:=by
 have⟨sf,v,A,R,B⟩:=B;refine aEW (aG λa3 h1 e3 g1 Q _=>aG λw u e4 W i _=>?_);have pl:=B.k.lt;have G2:=ak g1 W;have a':=λc q=>B.lt c (B.tm c q).1;refine bK ?_;refine aj (B.k.ai G2) rfl (C.mark V (C.fr (S:=No) B.m (bh G2) λ_ _ _=>id) λmm t g3 o3 c3 X M3=>aG λY h4 e5 g4 o _=>⟨c3,dc o aA o3 λl o5 o=>OE.of ?_⟩);have s3:=g3.1;have G5:=bE g4 o5 ag;have s5:=G5.1;have Gs:=ak g3 G5;have G:=ak G2 Gs;have Q:=(Q.ai W).ai Gs;have i:=i.ai Gs;have y:=B.k.ai G;have o:aN l Y #[mm.F] Y4:=by simpa using o
 have M5:=C.fr M3 (bh G5) λ_ _ _=>id;unfold agJ;refine bK ?_;have g:∀c,Tr A u t c->(A c/\c<h.size)\/(u.size<=c/\c<t.size):=λc q=>q.imp (λq=>⟨q,a' c q⟩) id;refine aj y rfl (eY Q (C.take V O hw M5 (eR (aR.lt _ hv) G) (λc q z=>?_) λL I M6=>?_))
 ·rcases g c z with n|n
  ·exact hD c q.1 (B.tm c n.1).1
  ·have:=q.2;omega
 have s6:=I.1;have i:=I.aZ i λq=>by rcases g w q with q|q <;> omega
 have o:=I.aZ o λq=>by rcases g Y q with q|q <;> omega
 have y:=I.aZ y λq=>by
  rcases g p q with q|q
  ·exact(B.tm p q.1).2.1 rfl
  ·omega
 refine dc i aA rfl λH J i=>?_;have s7:=J.1;have o:=J.aZ o ag;have y:=J.aZ y ag;have i:aN H w #[.int .i64 (f.tk (f.st vs) x).1] HX:=by simpa using i
 have d:∀c,Tr (Tr A u t) l L c->(A c/\c<h.size)\/(u.size<=c/\c<t.size)\/(l.size<=c/\c<L.size):=λc q=>by
  rcases q with q|q
  ·exact(g c q).imp id .inl
  ·exact .inr (.inr q)
 have M7:=C.fr (S:=(·=w)) M6 J.fr λc q _ e=>by rcases d c q with q|q|q <;> omega
 have N:Tn (λc=>Tr A u t c\/c=w) l H:=(I.mono λc q _=>.inl q).trans (J.fr.mono λc q _=>.inr q);have c':bY R H sf f.cs:=by
  refine bY.fr (D:=λc=>R c/\c<h.size) N (λc q z=>?_) (λc q=>q.1) _ (wH (bY.lt _ B.c) G);rcases z with z|z
  ·rcases g c z with n|n
   ·exact(B.tm c n.1).2.2 q.1
   ·have:=q.2;omega
  ·have:=q.2;omega
 -- e' end,from a heap j d' P H
 have fin:∀j U,Tn (Tr (Tr A u t) l L) H j->M (Tr (Tr A u t) l L) j v U none->U=f.st (if(f.tk (f.st vs) x).1=0 then vs++[x]else vs)->aN j w #[.int .i64 (f.tk (f.st vs) x).1] HX->Ld j ⟨w,0,none⟩ mI λr0=>K r0 j:=by
  intro j U E Z X i;subst X;have s8:=E.1;have y:=E.aZ y λq=>by
   rcases d p q with q|q|q
   ·exact(B.tm p q.1).2.1 rfl
   ·omega
   ·omega
  refine aj i rfl (hk j ?_ ⟨sf,v,Tr (Tr A u t) l L,R,.inl B.tp,λc q=>?_,λc q=>?_,λc q=>⟨.inl (B.tr c q).1,(B.tr c q).2⟩,y,?_,Z⟩)
  ·refine((bh G).trans' N λc q b'=>?_).trans' E λc q b'=>?_
   ·rcases q with q|q
    ·rcases g c q with q|q
     ·exact(B.tm c q.1).1
     ·omega
    ·omega
   ·rcases d c q with q|q|q
    ·exact(B.tm c q.1).1
    ·omega
    ·omega
  ·rcases q with q|q
   ·have:=B.lt c q;omega
   ·exact q.2
  ·rcases d c q with q|q|q
   ·exact⟨.inl (B.tm c q.1).1,(B.tm c q.1).2⟩
   ·exact⟨.inr ag,by omega,λz=>by have:=B.lt c (B.tr c z).1;omega⟩
   ·exact⟨.inr ag,by omega,λz=>by have:=B.lt c (B.tr c z).1;omega⟩
  ·refine bY.fr (D:=λc=>R c/\c<h.size) E (λc q z=>?_) (λc q=>q.1) _ (bY.fr (S:=No) (iX _ _) (λ_ _=>id) (λc q=>⟨q.1,B.lt c (B.tr c q.1).1⟩) _ (bY.lt _ c'));rcases d c z with n|n|n
   ·exact(B.tm c n.1).2.2 q.1
   ·have:=q.2;omega
   ·have:=q.2;omega
 refine aGy (c0:=⟨w,0,none⟩) (c1:=⟨Y,0,none⟩) (h:=H) (K:=λh'=>Ld h' ⟨w,0,none⟩ mI λr0=>K r0 h') (aj i rfl (aE (λc=>?_) λc=>?_))
 ·have c:=aM c;refine aj o rfl (C.back M7 λj E Z=>fin j _ E (C.drop Z) ?_ (E.aZ i λq=>by rcases d w q with q|q|q <;> omega))
  rw[X,aC c]
 ·have c:=aM c;exact fin H _ (iX _ _) (C.drop M7) (by rw[aI c];exact(hP vs V c).2) i
def jy(f:aq)(vs:aP)(x:aB):Int:=if x.bq<=4194304/\f.fit x=true then(f.tk (f.st vs) x).1 else 7
theorem Vg(PF:jl f){vs:aP}{x:aB}(b:f.can vs)(h:jy f vs x=0):f.can (vs++[x])/\f.fit x=true:=by
 unfold jy at h;split at h
 ·rename_i q;exact⟨((PF x q.2) vs b h).1,q.2⟩
 ·cases h
theorem ajP{K:cJ}(C:MC f M)(PF:jl f)(V:mX f)(y:bC f)(u:f.gh)(N:lZ h)(L:jz h)(B:pW f M T h p vs false)(P:f.can vs)(O:x.nM)(F:aR D h s x.items)(Q:∀c,D c->¬T c)
  (n:∀h',Tn T h h'->pW f M (Tr T h h') h' p (if jy f vs x=0 then vs++[x]else vs) false->K (jy f vs x) h'):Oq (bz p) x.au x.num (bs x.text) s h K Kp:=by
 have J:=B;have⟨j,v,r,R,B⟩:=B;refine aFb (aG λa3 h1 e3 d A _=>?_);refine bK ?_;refine aj (B.k.ai d) rfl (bu rfl (gK ?_ (eY A (aGv V y u (N.ai d) (L.ai d) (wH B.c d) (eR F d) O λo t=>?_))))
 ·intro i w E;rw[bw,gW (B.k.ai d)];rcases i with _|_|_|_|_|_|_|i
  all_goals first|(simp at E;done)|(simpa using E)
 have G:=ak d t;have X:=t.1;have I:=J.fr C (bh G) λ_ _=>id;have up:∀{h':Hp}{g:aP},o.size<=h'.size->pW f M (Tr T o h') h' p g false->pW f M (Tr T h h') h' p g false:=by
  rintro h' g Z ⟨j,v,r,R,B⟩;exact⟨j,v,r,R,.inl J.choose_spec.choose_spec.choose_spec.choose_spec.tp,λc q=>by rcases q with q|q;exact B.lt c (.inl q);exact q.2,λc q=>⟨(B.tm c q).1.imp id λq=>⟨by omega,q.2⟩,(B.tm c q).2⟩,λc q=>⟨(B.tr c q).1.imp id λq=>⟨by omega,q.2⟩,(B.tr c q).2⟩,B.k,B.c,B.m⟩
 refine aE (λc=>?_) λc=>eY (A.ai t) ?_
 ·have c:=aM c;have H:¬(x.bq<=4194304/\f.fit x=true):=λq=>by rw[aI q]at c;exact c rfl
  have e:jy f vs x=7:=by unfold jy;rw[aC H]
  rw[aC H];rw[e]at n;exact n o (bh G) (up (bP _) (by
   have⟨j,v,r,R,B⟩:=I;exact⟨j,v,r,R,.inl B.tp,λc q=>by rcases q with q|q;exact B.lt c q;exact q.2,λc q=>⟨.inl (B.tm c q).1,(B.tm c q).2⟩,λc q=>⟨.inl (B.tr c q).1,(B.tr c q).2⟩,B.k,B.c,B.m⟩))
 ·have c:=aM c;have l:x.bq<=4194304/\f.fit x=true:=by
   by_cases q:x.bq<=4194304/\f.fit x=true
   ·exact q
   ·rw[aC q]at c;cases c
  have e:jy f vs x=(f.tk (f.st vs) x).1:=by unfold jy;rw[aI l]
  rw[e]at n;exact arJ C I P l.2 (PF x l.2) l.1 (eR F G) Q λU z W=>n U ((bh G:Tn T h o).trans z) (up z.1 W)
theorem ajD{K:Int->Int->Int->Sl->Sl->Sl->Int->HP}(C:MC f M)(B:pW f M T h p vs false)(A:f.can vs)
  (z:∀q h',Tn (·=p) h h'->pW f M T h' p vs true->eU (Nw h) (Nw h) h' q (f.dn (f.st vs))->K (f.dn (f.st vs)).len (f.dn (f.st vs)).off (f.dn (f.st vs)).au q.1 q.2.1 q.2.2 0 h'):Oo (bz p) h K Kp:=by
 have⟨w,v,G,R,B⟩:=B;refine aFa (aG λF U V g o _=>?_);have Q:=B.k.lt;refine bK ?_;refine aj (B.k.ai g) rfl (bu rfl (dc (B.k.ai g) aA rfl λj i n=>?_));have O:=i.1;have t:=C.fr (C.fr (S:=No) B.m (bh g) λ_ _ _=>id) i.fr λc q _ e=>(B.tm c q).2.1 e;refine aj n rfl (C.done A t λq E d H=>?_);refine jI ((i.aZ o ag).ai d) rfl λr a y=>gl y ?_;have u:=((bh g).trans i.fr).trans (bh d);have l:=u.trans' a.fr λc q J=>by omega
 refine z q r l ⟨w,v,G,R,B.tp,λc q=>kZ (B.lt c q) l.1,B.tm,B.tr,?_,bY.fr l (λc q=>(B.tr c q).2) (λ_ q=>q) _ B.c,?_⟩ ?_
 ·have:=a.aZ (n.ai d) ag
  simpa using this
 ·exact C.fr (S:=(·=F)) (C.fr (S:=No) t (bh d) λ_ _ _=>id) a.fr λc q _ e=>by have:=B.lt c (B.tm c q).1;omega
 ·exact H.fr a.fr (λc(q:j.size<=c)_ e=>by omega) (λc(q:j.size<=c)_ e=>by omega) (λc(q:j.size<=c)=>by show h.size<=c;omega) λc(q:j.size<=c)=>by show h.size<=c;omega
end
theorem iR.ext{h':Hp}{Ls n:List (Nat->Prop)}(t:iR T h b Ls)(N:Nat->Nat->Prop)(y:h.size<=h'.size)(hl:∀(i:Nat)B,n[i]? =some B->∃A,Ls[i]? =some A/\∀c,B c->A c\/N i c)
  (hN:∀i c,N i c->h.size<=c/\c<h'.size) (v:∀i j c,i≠j->N i c->¬N j c):iR (Tr T h h') h' b n:=by
 refine⟨.inl t.tb,λc k=>?_,λB hB c k=>?_,?_⟩
 ·rcases k with q|q
  ·have:=t.lt c q;omega
  omega
 ·obtain⟨i,hi⟩:=List.getElem?_of_mem hB;obtain⟨A,o,d⟩:=hl i B hi;rcases d c k with q|q
  ·have:=t.sub A (bL o) c q;grind
  ·have:=hN i c q;exact⟨.inr this,λe=>by have:=t.lt b t.tb;omega⟩
 ·rw[uZ];intro i j hi u x c k l;obtain⟨A,o,d⟩:=hl i _ (bx hi);obtain⟨w,m,a⟩:=hl j _ (bx u);have lA:=λq=>t.lt c (t.sub A (bL o) c q).1;have s:=λq=>t.lt c (t.sub w (bL m) c q).1;rcases d c k with q|q
  ·rcases a c l with p|p
   ·exact t.ne o m ag c q p
   grind
  grind
def dO.mk'(g:dO)(n:Nat)(h h':Hp)(lo hi:Nat->Nat):dO:=
 {g with R:=λc=>g.R c\/(h.size<=c/\c<h'.size/\∀j,j<n->¬(lo j<=c/\c<hi j)),KT:=(List.range n).map λj=>λc=>(g.KT.getD j λ_=>False) c\/(lo j<=c/\c<hi j)}
section
variable {KM:List cN} {M:cN} {h':Hp} {r:Raw} {mm:Mem} {lo hi:Nat->Nat}
theorem bR.marked(G:bR f KM T h r none g)(KF:∀(j:Nat)M,KM[j]? =some M->gB M)(gr:az h h')(I:∀j,j<KM.length->h.size<=lo j/\hi j<=h'.size)(L:∀i j,i<KM.length->j<KM.length->i≠j->hi i<=lo j\/hi j<=lo i)
  (K:∀(j:Nat)M A w,KM[j]? =some M->g.KT[j]? =some A->g.kv[j]? =some w->M (λc=>A c\/(lo j<=c/\c<hi j)) h' w (r.aL j) mm.ks[j]?) (J:Ij f (gJ f.k) h' r mm (g.mk' KM.length h h' lo hi)):bR f KM (Tr T h h') h' r (some mm) (g.mk' KM.length h h' lo hi):=by
 have lk:=G.lk;have d:=G.fr KF (bh gr) λ_ _ _=>id;have C:∀{j:Nat}{A:aQ},(g.mk' KM.length h h' lo hi).KT[j]? =some A->j<KM.length/\∃B,g.KT[j]? =some B/\A=λc=>B c\/(lo j<=c/\c<hi j):=by
  intro j A l;have D:j<KM.length:=by have:=(cU.1 l).1;simpa[dO.mk']using this
  refine⟨D,g.KT[j],bx ag,?_⟩;simp only[dO.mk']at l;rw[fh,Eh D]at l;simp only[pH,mC]at l;rw[<-l,gL,bx ag];rfl
 refine⟨?_,d.B,d.ls,d.sl,⟨lk.1,by simp[dO.mk'],lk.2.2⟩,λj M A w a b o=>?_,aR.fr (iX _ _) (λ_ _ _=>id) (λc q=>.inl q) _ d.no,λz=>(d.kl z).fr (iX _ _) (λ_ _ _=>id) λc q=>.inl q,d.sp,λP e=>bU⟩
 ·refine G.t.ext (λi c=>(i=1/\h.size<=c/\c<h'.size/\∀j,j<KM.length->¬(lo j<=c/\c<hi j))\/∃j,i=3+g.ST.length+j/\j<KM.length/\lo j<=c/\c<hi j) gr.1 (λi B hB=>?_) (λi c q=>?_) λi j c ne q p=>?_
  ·rcases i with _|_|_|i
   ·exact⟨g.T0,rfl,λc q=>.inl (by cases hB;exact q)⟩
   ·refine⟨g.R,rfl,λc q=>?_⟩;cases hB;rcases q with q|q
    all_goals grind
   ·exact⟨g.X,rfl,λc q=>.inl (by cases hB;exact q)⟩
   ·by_cases u:i<g.ST.length
    ·have E:=bx u;have N:=(g.mk' KM.length h h' lo hi).ic E;have n:=g.ic E;rw[show i+1+1+1=3+i by omega]at hB⊢
     rw[N]at hB;grind
    ·have v:(g.mk' KM.length h h' lo hi).KT[i-g.ST.length]? =some B:=by
      have:(g.mk' KM.length h h' lo hi).Ls[i+1+1+1]? =some B:=hB;unfold dO.Ls at this;rw[Af,Af,Af,gm (show(g.mk' KM.length h h' lo hi).ST.length<=i from by show g.ST.length<=i;omega)]at this
      exact this
     obtain⟨a,O,b,rfl⟩:=C v;have n:=g.fC b;grind
  all_goals grind
 ·obtain⟨_,B,F,rfl⟩:=C b;exact K j M B w a F o
end
abbrev lV:=Value->Nat->Nat->HP
variable {V2:lV}
structure ua(h h':Hp)(caps:cG)(cs:List (Array Value))(VB V2:lV)(F0 KF:Value)(l0 u0 l2 u2:Nat):Prop where
 g:az h h'
 n:caps.length=cs.length
 c:∀(i:Nat)a,caps[i]? =some a->h.size<=a/\¬(l2<=a/\a<u2)/\∃c t,cs[i]? =some c/\aN h' a c t
 b:VB F0 l0 u0 h'/\h.size<=l0/\u0<=h'.size
 k:V2 KF l2 u2 h'/\h.size<=l2/\u2<=h'.size
 d:u0<=l2\/u2<=l0
abbrev pA(a:Nat):Value:=bI a
abbrev vc(n:Nat)(v:Value):Cl:=.vl n (pU v)
abbrev vb(n b:Nat):Cl:=.vl n (pU (pA b))
abbrev Bg(c:Code)(K:de)(Kp:PK):Fr->HP:=zq aD (oY (sub [1,0] c)) (λfr h=>fV aD [] (ET aD []) none (.seq (.region 2 #[Dj (sub [1,1,0] c) 0,Dj (sub [1,1,0] c) 1] false) .ret) (mM aD [.tmp 2] [.nilFunc] K) Kp fr h) Kp (oY (sub [1,0] c)).size (List.range (oY (sub [1,0] c)).size)
theorem jX{a:Nat}{p:Option Addr}{K:Option Value->HP}(k:aN h a #[.pointer p] e)(c:K (some (.pointer p)) h):Ld h (aJ a) Value.pointer λp=>K (some (.pointer p)) h:=aj k rfl c
theorem zB(n:Int):One (pU (ah n)):=.cst rfl rfl
def Ig:lV:=λ_ _ _ _=>True
def axm:Code:=Tryz.f190.body.getD .skip
def ajN(VB V2:lV)(b a1:Nat)(eN:Sl)(AX:Sl):List Cl:=[vb 6 b,vb 7 b,vc 8 (.pointer (some ⟨b,0,none⟩)),.vl 9 VB,vb 10 b,vb 11 b,vc 12 (.pointer (some ⟨b,16,none⟩)),vc 13 (Sl.v eN),vc 14 (.int .i64 (eN.n:Int)),vb 15 b,vb 16 b,vc 17 (.pointer (some ⟨b,17,none⟩)),vc 18 (Sl.v AX),vc 19 (.int .i64 (AX.n:Int)),.al 3 #[.nilFunc] 1 17 3,.al 4 #[ah 0] 3 18 8,.al 5 #[ah 0] 3 19 13,.st 14 3,.st 15 8,.st 16 13]
abbrev aIx(b a1:Nat):Fr:=([some (pA b),some (pA a1),some .nilFunc]++nn 18)
theorem Oc.mk{K:de}{AX:Sl}{B:lV}(G:∀{r:Hp}{X:Sl->Prop},az h r->X eN->Ld r ⟨b,16,none⟩ Sl.v X)(E:∀{r:Hp}{X:Sl->Prop},az h r->X AX->Ld r ⟨b,17,none⟩ Sl.v X)(N:lW h B)(cB:One B)(V:∀{z:Hp}{X:de},az h z->(∀v r,az z r->B v z.size r.size r->X v r)->uj (bz b) z X Kp)
  (y:∀caps J KF T L R u2 r,ua h r caps [#[J],#[pA b],#[ah (eN.n:Int)],#[ah (AX.n:Int)]] B Ig J KF T L R u2->K (.func (.func 196) #[] (caps.map pA).toArray) r):Oc (bz b) h K Kp:=by
 refine By (bS:=[]) (zs:=[.nilFunc]) (Kv:=K) Tryz.func190 aV (S:=aH h #[pA b] 121 λe z=>Bg axm K Kp ([some (pA b),some (.pointer (some e)),some .nilFunc]++nn 18) z) ?_ aV aV;refine aG λe z e1 m p _=>zE (C:=ajN B Ig b e eN AX) aV aV aV ⟨
  o0 1 _ λK h g y=>jX (p.ai g) y,
  oE 0,
  oE 1,
  oF 2 (N.mo m.1) λK h g y=>V (ak m g) y,
  o0 1 _ λK h g y=>jX (p.ai g) y,
  oE 4,
  oE 5,
  oX 6 λK h g y=>G (X:=λs=>K (some s.v) h) (ak m g) y,
  oE 7,
  o0 1 _ λK h g y=>jX (p.ai g) y,
  oE 9,
  oE 10,
  oX 11 λK h g y=>E (X:=λs=>K (some s.v) h) (ak m g) y,
  oE 12,
  oA,
  oA,
  oA,
  oS true cB,
  oS false (zB _),
  oS false (zB _),
  trivial⟩ λfr t F A Q U M=>?_
 have f:∀{i:Nat},i∉([]:cG):=pF;have s1:=m.1;obtain⟨p3,I,y3,H⟩:_/\_/\_/\_:=M.c 3 _ rfl f;obtain⟨p8,O,y8,z8⟩:_/\_/\_/\_:=M.c 8 _ rfl f;obtain⟨c',u,b',W⟩:_/\_/\_/\_:=M.c 13 _ rfl f;obtain⟨D,a',l⟩:_/\_/\_:=M.c 14 _ rfl f;obtain⟨x,Z,k⟩:_/\_/\_:=M.c 15 _ rfl f;obtain⟨w,Y,j⟩:_/\_/\_:=M.c 16 _ rfl f;rw[aC f,(cB _ _ _ _ I).2]at l;rw[aC f,(O:F 8=_)]at k;rw[aC f,(u:F 13=_)]at j;have P:fr.getD 1 none=some (pA e):=M.o.2 1 (by simp[ajN,Cl.dst])
 refine AV (fn:=.func 196) (caps:=#[.tmp 3,.tmp 1,.tmp 4,.tmp 5]) (d1:=20) (vs:=[pA (A 14),pA (e),pA (A 15),pA (A 16)]) aV aV aV aV aV aV (by rw[M.o.1];exact(by decide:20<21)) (by rw[M.o.1];exact(by decide:2<21)) ?_ rfl ?_
 ·simp only[iH,ev,D,P,x,w]
 ·refine y [A 14,e,A 15,A 16] (F 3) (undef) (Q 3) (U 3) t.size t.size t ⟨ak m M.g,rfl,λi a d=>?_,⟨I,by omega,H⟩,⟨trivial,by have:=M.g.1;omega,bP _⟩,.inl H⟩
  rcases i with _|_|_|_|i
  ·cases d;exact⟨by omega,λq=>by omega,_,_,rfl,l⟩
  ·cases d;exact⟨by omega,λq=>by omega,_,_,rfl,(p.ai M.g)⟩
  ·cases d;exact⟨by omega,λq=>by omega,_,_,rfl,k⟩
  ·cases d;exact⟨by omega,λq=>by omega,_,_,rfl,j⟩
  ·simp at d
def BO:Code:=Tryz.f198.body.getD .skip
def ajM(VB V2:lV)(b a1:Nat)(eN:Sl)(w:Value):List Cl:=[vb 6 b,vb 7 b,vc 8 (.pointer (some ⟨b,0,none⟩)),.vl 9 VB,vb 10 b,vb 11 b,vc 12 (.pointer (some ⟨b,16,none⟩)),vc 13 (Sl.v eN),vc 14 (.int .i64 (eN.n:Int)),vb 15 b,vb 16 b,vc 17 (.pointer (some ⟨b,17,none⟩)),vc 18 (w),.vl 19 V2,.al 3 #[.nilFunc] 1 17 3,.al 4 #[ah 0] 3 18 8,.al 5 #[.nilFunc] 1 19 13,.st 14 3,.st 15 8,.st 16 13]
abbrev aIw(b a1:Nat):Fr:=([some (pA b),some (pA a1),some .nilFunc]++nn 18)
theorem Oa.mk{K:de}{w:Value}{B:lV}(H:∀{r:Hp}{X:Sl->Prop},az h r->X eN->Ld r ⟨b,16,none⟩ Sl.v X)(G:∀{r:Hp}{X:Value->Prop},az h r->X w->Ld r ⟨b,17,none⟩ id X)(T:lW h B)(cB:One B)(HB:∀{z:Hp}{X:de},az h z->(∀v r,az z r->B v z.size r.size r->X v r)->uj (bz b) z X Kp)(U:lW h V2)(N:One V2)(H2:∀{z:Hp}{X:de},az h z->(∀v r,az z r->V2 v z.size r.size r->X v r)->kV w z X Kp)
  (y:∀caps O KF Y R W u2 r,ua h r caps [#[O],#[KF],#[pA b],#[ah (eN.n:Int)]] B V2 O KF Y R W u2->K (.func (.func 201) #[] (caps.map pA).toArray) r):Oa (bz b) h K Kp:=by
 refine By (bS:=[]) (zs:=[.nilFunc]) (Kv:=K) Tryz.func198 aV (S:=aH h #[pA b] 124 λf z=>Bg BO K Kp ([some (pA b),some (.pointer (some f)),some .nilFunc]++nn 18) z) ?_ aV aV;refine aG λf z e1 j p _=>zE (C:=ajM B V2 b f eN w) aV aV aV ⟨
  o0 1 _ λK h g y=>jX (p.ai g) y,
  oE 0,
  oE 1,
  oF 2 (T.mo j.1) λK h g y=>HB (ak j g) y,
  o0 1 _ λK h g y=>jX (p.ai g) y,
  oE 4,
  oE 5,
  oX 6 λK h g y=>H (X:=λs=>K (some s.v) h) (ak j g) y,
  oE 7,
  o0 1 _ λK h g y=>jX (p.ai g) y,
  oE 9,
  oE 10,
  oX 11 λK h g y=>G (X:=λs=>K (some s) h) (ak j g) y,
  oF 12 (U.mo j.1) λK h g y=>H2 (X:=λF r=>K (some F) r) (ak j g) y,
  oA,
  oA,
  oA,
  oS true cB,
  oS false (zB _),
  oS true N,
  trivial⟩ λfr Z F A J L M=>?_
 have d:∀{i:Nat},i∉([]:cG):=pF;have s1:=j.1;obtain⟨p3,I,y3,P⟩:_/\_/\_/\_:=M.c 3 _ rfl d;obtain⟨p8,Q,y8,z8⟩:_/\_/\_/\_:=M.c 8 _ rfl d;obtain⟨e',t,d',u⟩:_/\_/\_/\_:=M.c 13 _ rfl d;obtain⟨E,c',m⟩:_/\_/\_:=M.c 14 _ rfl d;obtain⟨D,b',l⟩:_/\_/\_:=M.c 15 _ rfl d;obtain⟨x,a',k⟩:_/\_/\_:=M.c 16 _ rfl d;rw[aC d,(cB _ _ _ _ I).2]at m;rw[aC d,(Q:F 8=_)]at l;rw[aC d,(N _ _ _ _ t).2]at k;have V:fr.getD 1 none=some (pA f):=M.o.2 1 (by simp[ajM,Cl.dst])
 refine AV (fn:=.func 201) (caps:=#[.tmp 3,.tmp 5,.tmp 1,.tmp 4]) (d1:=20) (vs:=[pA (A 14),pA (A 16),pA (f),pA (A 15)]) aV aV aV aV aV aV (by rw[M.o.1];exact(by decide:20<21)) (by rw[M.o.1];exact(by decide:2<21)) ?_ rfl ?_
 ·simp only[iH,ev,E,x,V,D]
 ·refine y [A 14,A 16,f,A 15] (F 3) (F 13) (J 3) (L 3) (J 13) (L 13) Z ⟨ak j M.g,rfl,λi a e=>?_,⟨I,by omega,P⟩,⟨t,by omega,u⟩,M.vv 3 13 _ _ _ _ rfl rfl d d aY⟩
  rcases i with _|_|_|_|i
  ·cases e;exact⟨by omega,M.av 14 13 _ _ _ _ _ _ _ rfl rfl d d,_,_,rfl,m⟩
  ·cases e;exact⟨by omega,M.av 16 13 _ _ _ _ _ _ _ rfl rfl d d,_,_,rfl,k⟩
  ·cases e;exact⟨by omega,λq=>by have:=p.lt;omega,_,_,rfl,(p.ai M.g)⟩
  ·cases e;exact⟨by omega,M.av 15 13 _ _ _ _ _ _ _ rfl rfl d d,_,_,rfl,l⟩
  ·simp at e
def axl:Code:=Tryz.f203.body.getD .skip
def aGB(VB V2:lV)(b:Nat)(w:Value):List Cl:=[vb 5 b,vb 6 b,vc 7 (.pointer (some ⟨b,0,none⟩)),.vl 8 VB,vb 9 b,vb 10 b,vc 11 (.pointer (some ⟨b,16,none⟩)),vc 12 (w),.vl 13 V2,.al 3 #[.nilFunc] 1 11 3,.al 4 #[.nilFunc] 1 12 8,.st 9 3,.st 10 8]
abbrev at5(b:Nat):Fr:=([some (pA b),none,some .nilFunc]++nn 12)
theorem N8.mk{K:de}{w:Value}{B:lV}(E:∀{r:Hp}{X:Value->Prop},az h r->X w->Ld r ⟨b,16,none⟩ id X)(J:lW h B)(cB:One B)(R:∀{z:Hp}{X:de},az h z->(∀v r,az z r->B v z.size r.size r->X v r)->uj (bz b) z X Kp)(L:lW h V2)(G:One V2)(T:∀{z:Hp}{X:de},az h z->(∀v r,az z r->V2 v z.size r.size r->X v r)->kV w z X Kp)
  (y:∀caps H KF O I N u2 r,ua h r caps [#[H],#[KF]] B V2 H KF O I N u2->K (.func (.func 206) #[] (caps.map pA).toArray) r):N8 (bz b) h K Kp:=by
 refine By (bS:=[]) (zs:=[.nilFunc]) (Kv:=K) Tryz.func203 aV (S:=Bg axl K Kp (at5 b) h) ?_ aV aV;have j:=cK h;refine zE (C:=aGB B V2 b w) aV aV aV ⟨
  o0 0 _ λK h g y=>y,
  oE 0,
  oE 1,
  oF 2 (J.mo j.1) λK h g y=>R (ak j g) y,
  o0 0 _ λK h g y=>y,
  oE 4,
  oE 5,
  oX 6 λK h g y=>E (X:=λs=>K (some s) h) (ak j g) y,
  oF 7 (L.mo j.1) λK h g y=>T (ak j g) y,
  oA,
  oA,
  oS true cB,
  oS true G,
  trivial⟩ λfr D F A p q M=>?_
 have d:∀{i:Nat},i∉([]:cG):=pF;obtain⟨Z,n,V,u⟩:_/\_/\_/\_:=M.c 3 _ rfl d;obtain⟨Y,m,U,t⟩:_/\_/\_/\_:=M.c 8 _ rfl d;obtain⟨x,Q,f⟩:_/\_/\_:=M.c 9 _ rfl d;obtain⟨l,P,e⟩:_/\_/\_:=M.c 10 _ rfl d;rw[aC d,(cB _ _ _ _ n).2]at f;rw[aC d,(G _ _ _ _ m).2]at e;refine AV (fn:=.func 206) (caps:=#[.tmp 3,.tmp 4]) (d1:=14) (vs:=[pA (A 9),pA (A 10)]) aV aV aV aV aV aV (by rw[M.o.1];exact(by decide:14<15)) (by rw[M.o.1];exact(by decide:2<15)) ?_ rfl ?_
 ·simp only[iH,ev,x,l]
 ·refine y [A 9,A 10] (F 3) (F 8) (p 3) (q 3) (p 8) (q 8) D ⟨ak j M.g,rfl,λi a k=>?_,⟨n,by omega,u⟩,⟨m,by omega,t⟩,M.vv 3 8 _ _ _ _ rfl rfl d d aY⟩
  rcases i with _|_|i
  ·cases k;exact⟨by omega,M.av 9 8 _ _ _ _ _ _ _ rfl rfl d d,_,_,rfl,f⟩
  ·cases k;exact⟨by omega,M.av 10 8 _ _ _ _ _ _ _ rfl rfl d d,_,_,rfl,e⟩
  ·simp at k
def axk:Code:=Tryz.f208.body.getD .skip
def aGA(VB V2:lV)(b:Nat)(eN:Sl):List Cl:=[vb 5 b,vb 6 b,vc 7 (.pointer (some ⟨b,0,none⟩)),.vl 8 VB,vb 9 b,vb 10 b,vc 11 (.pointer (some ⟨b,16,none⟩)),vc 12 (Sl.v eN),.vl 13 V2,.al 3 #[.nilFunc] 1 11 3,.al 4 #[.nilFunc] 1 12 8,.st 9 3,.st 10 8]
abbrev at4(b:Nat):Fr:=([some (pA b),none,some .nilFunc]++nn 12)
theorem N6.mk{K:de}{B:lV}(E:∀{r:Hp}{X:Sl->Prop},az h r->X eN->Ld r ⟨b,16,none⟩ Sl.v X)(J:lW h B)(cB:One B)(R:∀{z:Hp}{X:de},az h z->(∀v r,az z r->B v z.size r.size r->X v r)->uj (bz b) z X Kp)(L:lW h V2)(G:One V2)(T:∀{z:Hp}{X:de},az h z->(∀v r,az z r->V2 v z.size r.size r->X v r)->N0 eN z X Kp)
  (y:∀caps H KF O I N u2 r,ua h r caps [#[H],#[KF]] B V2 H KF O I N u2->K (.func (.func 213) #[] (caps.map pA).toArray) r):N6 (bz b) h K Kp:=by
 refine By (bS:=[]) (zs:=[.nilFunc]) (Kv:=K) Tryz.func208 aV (S:=Bg axk K Kp (at4 b) h) ?_ aV aV;have j:=cK h;refine zE (C:=aGA B V2 b eN) aV aV aV ⟨
  o0 0 _ λK h g y=>y,
  oE 0,
  oE 1,
  oF 2 (J.mo j.1) λK h g y=>R (ak j g) y,
  o0 0 _ λK h g y=>y,
  oE 4,
  oE 5,
  oX 6 λK h g y=>E (X:=λs=>K (some s.v) h) (ak j g) y,
  oF 7 (L.mo j.1) λK h g y=>T (ak j g) y,
  oA,
  oA,
  oS true cB,
  oS true G,
  trivial⟩ λfr x F A p q M=>?_
 have d:∀{i:Nat},i∉([]:cG):=pF;obtain⟨Y,n,U,u⟩:_/\_/\_/\_:=M.c 3 _ rfl d;obtain⟨W,m,Q,t⟩:_/\_/\_/\_:=M.c 8 _ rfl d;obtain⟨w,P,f⟩:_/\_/\_:=M.c 9 _ rfl d;obtain⟨l,D,e⟩:_/\_/\_:=M.c 10 _ rfl d;rw[aC d,(cB _ _ _ _ n).2]at f;rw[aC d,(G _ _ _ _ m).2]at e;refine AV (fn:=.func 213) (caps:=#[.tmp 3,.tmp 4]) (d1:=14) (vs:=[pA (A 9),pA (A 10)]) aV aV aV aV aV aV (by rw[M.o.1];exact(by decide:14<15)) (by rw[M.o.1];exact(by decide:2<15)) ?_ rfl ?_
 ·simp only[iH,ev,w,l]
 ·refine y [A 9,A 10] (F 3) (F 8) (p 3) (q 3) (p 8) (q 8) x ⟨ak j M.g,rfl,λi a k=>?_,⟨n,by omega,u⟩,⟨m,by omega,t⟩,M.vv 3 8 _ _ _ _ rfl rfl d d aY⟩
  rcases i with _|_|i
  ·cases k;exact⟨by omega,M.av 9 8 _ _ _ _ _ _ _ rfl rfl d d,_,_,rfl,f⟩
  ·cases k;exact⟨by omega,M.av 10 8 _ _ _ _ _ _ _ rfl rfl d d,_,_,rfl,e⟩
  ·simp at k
def axj:Code:=Tryz.f217.body.getD .skip
def ajL(VB V2:lV)(b a1:Nat)(eN:Sl)(rR:Sl):List Cl:=[vb 6 b,vb 7 b,vc 8 (.pointer (some ⟨b,0,none⟩)),.vl 9 VB,vb 10 b,vb 11 b,vc 12 (.pointer (some ⟨b,16,none⟩)),vc 13 (Sl.v eN),vc 14 (.int .i64 (eN.n:Int)),vb 15 b,vb 16 b,vc 17 (.pointer (some ⟨b,18,none⟩)),vc 18 (Sl.v rR),.vl 19 V2,.al 3 #[.nilFunc] 1 17 3,.al 4 #[ah 0] 3 18 8,.al 5 #[.nilFunc] 1 19 13,.st 14 3,.st 15 8,.st 16 13]
abbrev aIv(b a1:Nat):Fr:=([some (pA b),some (pA a1),some .nilFunc]++nn 18)
theorem NZ.mk{K:de}{rR:Sl}{B:lV}(G:∀{r:Hp}{X:Sl->Prop},az h r->X eN->Ld r ⟨b,16,none⟩ Sl.v X)(E:∀{r:Hp}{X:Sl->Prop},az h r->X rR->Ld r ⟨b,18,none⟩ Sl.v X)(T:lW h B)(cB:One B)(Z:∀{z:Hp}{X:de},az h z->(∀v r,az z r->B v z.size r.size r->X v r)->uj (bz b) z X Kp)(U:lW h V2)(L:One V2)(H2:∀{z:Hp}{X:de},az h z->(∀v r,az z r->V2 v z.size r.size r->X v r)->N0 rR z X Kp)
  (y:∀caps N KF W R V u2 r,ua h r caps [#[N],#[KF],#[pA b],#[ah (eN.n:Int)]] B V2 N KF W R V u2->K (.func (.func 220) #[] (caps.map pA).toArray) r):NZ (bz b) h K Kp:=by
 refine By (bS:=[]) (zs:=[.nilFunc]) (Kv:=K) Tryz.func217 aV (S:=aH h #[pA b] 133 λf z=>Bg axj K Kp ([some (pA b),some (.pointer (some f)),some .nilFunc]++nn 18) z) ?_ aV aV;refine aG λf z e1 j p _=>zE (C:=ajL B V2 b f eN rR) aV aV aV ⟨
  o0 1 _ λK h g y=>jX (p.ai g) y,
  oE 0,
  oE 1,
  oF 2 (T.mo j.1) λK h g y=>Z (ak j g) y,
  o0 1 _ λK h g y=>jX (p.ai g) y,
  oE 4,
  oE 5,
  oX 6 λK h g y=>G (X:=λs=>K (some s.v) h) (ak j g) y,
  oE 7,
  o0 1 _ λK h g y=>jX (p.ai g) y,
  oE 9,
  oE 10,
  oX 11 λK h g y=>E (X:=λs=>K (some s.v) h) (ak j g) y,
  oF 12 (U.mo j.1) λK h g y=>H2 (X:=λF r=>K (some F) r) (ak j g) y,
  oA,
  oA,
  oA,
  oS true cB,
  oS false (zB _),
  oS true L,
  trivial⟩ λfr Y F A I J M=>?_
 have d:∀{i:Nat},i∉([]:cG):=pF;have s1:=j.1;obtain⟨p3,H,y3,O⟩:_/\_/\_/\_:=M.c 3 _ rfl d;obtain⟨p8,P,y8,z8⟩:_/\_/\_/\_:=M.c 8 _ rfl d;obtain⟨e',t,d',u⟩:_/\_/\_/\_:=M.c 13 _ rfl d;obtain⟨D,c',m⟩:_/\_/\_:=M.c 14 _ rfl d;obtain⟨x,b',l⟩:_/\_/\_:=M.c 15 _ rfl d;obtain⟨w,a',k⟩:_/\_/\_:=M.c 16 _ rfl d;rw[aC d,(cB _ _ _ _ H).2]at m;rw[aC d,(P:F 8=_)]at l;rw[aC d,(L _ _ _ _ t).2]at k;have Q:fr.getD 1 none=some (pA f):=M.o.2 1 (by simp[ajL,Cl.dst])
 refine AV (fn:=.func 220) (caps:=#[.tmp 3,.tmp 5,.tmp 1,.tmp 4]) (d1:=20) (vs:=[pA (A 14),pA (A 16),pA (f),pA (A 15)]) aV aV aV aV aV aV (by rw[M.o.1];exact(by decide:20<21)) (by rw[M.o.1];exact(by decide:2<21)) ?_ rfl ?_
 ·simp only[iH,ev,D,w,Q,x]
 ·refine y [A 14,A 16,f,A 15] (F 3) (F 13) (I 3) (J 3) (I 13) (J 13) Y ⟨ak j M.g,rfl,λi a e=>?_,⟨H,by omega,O⟩,⟨t,by omega,u⟩,M.vv 3 13 _ _ _ _ rfl rfl d d aY⟩
  rcases i with _|_|_|_|i
  ·cases e;exact⟨by omega,M.av 14 13 _ _ _ _ _ _ _ rfl rfl d d,_,_,rfl,m⟩
  ·cases e;exact⟨by omega,M.av 16 13 _ _ _ _ _ _ _ rfl rfl d d,_,_,rfl,k⟩
  ·cases e;exact⟨by omega,λq=>by have:=p.lt;omega,_,_,rfl,(p.ai M.g)⟩
  ·cases e;exact⟨by omega,M.av 15 13 _ _ _ _ _ _ _ rfl rfl d d,_,_,rfl,l⟩
  ·simp at e
def axi:Code:=Tryz.f224.body.getD .skip
def ajK(VB V2:lV)(b a1:Nat)(eN:Sl)(w:Value)(rR:Sl):List Cl:=[vb 7 b,vb 8 b,vc 9 (.pointer (some ⟨b,0,none⟩)),.vl 10 VB,vb 11 b,vb 12 b,vc 13 (.pointer (some ⟨b,16,none⟩)),vc 14 (Sl.v eN),vc 15 (.int .i64 (eN.n:Int)),vb 16 b,vb 17 b,vc 18 (.pointer (some ⟨b,18,none⟩)),vc 19 (Sl.v rR),vc 20 (.int .i64 (rR.n:Int)),vb 21 b,vb 22 b,vc 23 (.pointer (some ⟨b,17,none⟩)),vc 24 (w),.vl 25 V2,.al 3 #[.nilFunc] 1 23 3,.al 4 #[ah 0] 3 24 8,.al 5 #[ah 0] 3 25 13,.al 6 #[.nilFunc] 1 26 18,.st 19 3,.st 20 8,.st 21 13,.st 22 18]
abbrev aIu(b a1:Nat):Fr:=([some (pA b),some (pA a1),some .nilFunc]++nn 24)
theorem NW.mk{K:de}{w:Value}{rR:Sl}{B:lV}(L:∀{r:Hp}{X:Sl->Prop},az h r->X eN->Ld r ⟨b,16,none⟩ Sl.v X)(J:∀{r:Hp}{X:Value->Prop},az h r->X w->Ld r ⟨b,17,none⟩ id X)(I:∀{r:Hp}{X:Sl->Prop},az h r->X rR->Ld r ⟨b,18,none⟩ Sl.v X)(V:lW h B)(cB:One B)(HB:∀{z:Hp}{X:de},az h z->(∀v r,az z r->B v z.size r.size r->X v r)->uj (bz b) z X Kp)(W:lW h V2)(R:One V2)(H2:∀{z:Hp}{X:de},az h z->(∀v r,az z r->V2 v z.size r.size r->X v r)->kV w z X Kp)
  (y:∀caps T KF l0 U l2 u2 r,ua h r caps [#[T],#[KF],#[pA b],#[ah (eN.n:Int)],#[ah (rR.n:Int)]] B V2 T KF l0 U l2 u2->K (.func (.func 228) #[] (caps.map pA).toArray) r):NW (bz b) h K Kp:=by
 refine By (bS:=[]) (zs:=[.nilFunc]) (Kv:=K) Tryz.func224 aV (S:=aH h #[pA b] 136 λf z=>Bg axi K Kp ([some (pA b),some (.pointer (some f)),some .nilFunc]++nn 24) z) ?_ aV aV;refine aG λf z e1 j t _=>zE (C:=ajK B V2 b f eN w rR) aV aV aV ⟨
  o0 1 _ λK h g y=>jX (t.ai g) y,
  oE 0,
  oE 1,
  oF 2 (V.mo j.1) λK h g y=>HB (ak j g) y,
  o0 1 _ λK h g y=>jX (t.ai g) y,
  oE 4,
  oE 5,
  oX 6 λK h g y=>L (X:=λs=>K (some s.v) h) (ak j g) y,
  oE 7,
  o0 1 _ λK h g y=>jX (t.ai g) y,
  oE 9,
  oE 10,
  oX 11 λK h g y=>I (X:=λs=>K (some s.v) h) (ak j g) y,
  oE 12,
  o0 1 (pA f) λK h g y=>jX (t.ai g) y,
  oE 14,
  oE 15,
  oX 16 λK h g y=>J (X:=λs=>K (some s) h) (ak j g) y,
  oF 17 (W.mo j.1) λK h g y=>H2 (X:=λF r=>K (some F) r) (ak j g) y,
  oA,
  oA,
  oA,
  oA,
  oS true cB,
  oS false (zB _),
  oS false (zB _),
  oS true R,
  trivial⟩ λfr h2 F A O P M=>?_
 have d:∀{i:Nat},i∉([]:cG):=pF;have s1:=j.1;obtain⟨p3,N,y3,Q⟩:_/\_/\_/\_:=M.c 3 _ rfl d;obtain⟨p8,Y,y8,z8⟩:_/\_/\_/\_:=M.c 8 _ rfl d;obtain⟨j',x,g',a'⟩:_/\_/\_/\_:=M.c 13 _ rfl d;obtain⟨i',u,f',OO⟩:_/\_/\_/\_:=M.c 18 _ rfl d;obtain⟨H,e',p⟩:_/\_/\_:=M.c 19 _ rfl d;obtain⟨G,d',m⟩:_/\_/\_:=M.c 20 _ rfl d;obtain⟨E,c',l⟩:_/\_/\_:=M.c 21 _ rfl d;obtain⟨D,b',k⟩:_/\_/\_:=M.c 22 _ rfl d;rw[aC d,(cB _ _ _ _ N).2]at p;rw[aC d,(Y:F 8=_)]at m;rw[aC d,(x:F 13=_)]at l;rw[aC d,(R _ _ _ _ u).2]at k;have Z:fr.getD 1 none=some (pA f):=M.o.2 1 (by simp[ajK,Cl.dst])
 refine AV (fn:=.func 228) (caps:=#[.tmp 3,.tmp 6,.tmp 1,.tmp 4,.tmp 5]) (d1:=26) (vs:=[pA (A 19),pA (A 22),pA (f),pA (A 20),pA (A 21)]) aV aV aV aV aV aV (by rw[M.o.1];exact(by decide:26<27)) (by rw[M.o.1];exact(by decide:2<27)) ?_ rfl ?_
 ·simp only[iH,ev,H,D,Z,G,E]
 ·refine y [A 19,A 22,f,A 20,A 21] (F 3) (F 18) (O 3) (P 3) (O 18) (P 18) h2 ⟨ak j M.g,rfl,λi a e=>?_,⟨N,by omega,Q⟩,⟨u,by omega,OO⟩,M.vv 3 18 _ _ _ _ rfl rfl d d aY⟩
  rcases i with _|_|_|_|_|i
  ·cases e;exact⟨by omega,M.av 19 18 _ _ _ _ _ _ _ rfl rfl d d,_,_,rfl,p⟩
  ·cases e;exact⟨by omega,M.av 22 18 _ _ _ _ _ _ _ rfl rfl d d,_,_,rfl,k⟩
  ·cases e;exact⟨by omega,λq=>by have:=t.lt;omega,_,_,rfl,(t.ai M.g)⟩
  ·cases e;exact⟨by omega,M.av 20 18 _ _ _ _ _ _ _ rfl rfl d d,_,_,rfl,m⟩
  ·cases e;exact⟨by omega,M.av 21 18 _ _ _ _ _ _ _ rfl rfl d d,_,_,rfl,l⟩
  ·simp at e
def axh:Code:=Tryz.f244.body.getD .skip
def ajJ(VB V2:lV)(b a1:Nat)(eN:Sl):List Cl:=[vb 5 b,vb 6 b,vc 7 (.pointer (some ⟨b,0,none⟩)),.vl 8 VB,vb 9 b,vb 10 b,vc 11 (.pointer (some ⟨b,16,none⟩)),vc 12 (Sl.v eN),vc 13 (.int .i64 (eN.n:Int)),.al 3 #[.nilFunc] 1 11 3,.al 4 #[ah 0] 3 12 8,.st 9 3,.st 10 8]
abbrev aIs(b a1:Nat):Fr:=([some (pA b),some (pA a1),some .nilFunc]++nn 12)
theorem NQ.mk{K:de}{B:lV}(E:∀{r:Hp}{X:Sl->Prop},az h r->X eN->Ld r ⟨b,16,none⟩ Sl.v X)(I:lW h B)(cB:One B)(R:∀{z:Hp}{X:de},az h z->(∀v r,az z r->B v z.size r.size r->X v r)->uj (bz b) z X Kp)
  (y:∀caps G KF O H N u2 r,ua h r caps [#[G],#[pA b],#[ah (eN.n:Int)]] B Ig G KF O H N u2->K (.func (.func 248) #[] (caps.map pA).toArray) r):NQ (bz b) h K Kp:=by
 refine By (bS:=[]) (zs:=[.nilFunc]) (Kv:=K) Tryz.func244 aV (S:=aH h #[pA b] 143 λd z=>Bg axh K Kp ([some (pA b),some (.pointer (some d)),some .nilFunc]++nn 12) z) ?_ aV aV;refine aG λd z e1 l m _=>zE (C:=ajJ B Ig b d eN) aV aV aV ⟨
  o0 1 _ λK h g y=>jX (m.ai g) y,
  oE 0,
  oE 1,
  oF 2 (I.mo l.1) λK h g y=>R (ak l g) y,
  o0 1 _ λK h g y=>jX (m.ai g) y,
  oE 4,
  oE 5,
  oX 6 λK h g y=>E (X:=λs=>K (some s.v) h) (ak l g) y,
  oE 7,
  oA,
  oA,
  oS true cB,
  oS false (zB _),
  trivial⟩ λfr p F A L P M=>?_
 have k:∀{i:Nat},i∉([]:cG):=pF;obtain⟨p3,w,W,u⟩:_/\_/\_/\_:=M.c 3 _ rfl k;obtain⟨Z,x,V,T⟩:_/\_/\_/\_:=M.c 8 _ rfl k;obtain⟨D,U,j⟩:_/\_/\_:=M.c 9 _ rfl k;obtain⟨t,Q,f⟩:_/\_/\_:=M.c 10 _ rfl k;rw[aC k,(cB _ _ _ _ w).2]at j;rw[aC k,(x:F 8=_)]at f;have J:fr.getD 1 none=some (pA d):=M.o.2 1 (by simp[ajJ,Cl.dst])
 refine AV (fn:=.func 248) (caps:=#[.tmp 3,.tmp 1,.tmp 4]) (d1:=14) (vs:=[pA (A 9),pA (d),pA (A 10)]) aV aV aV aV aV aV (by rw[M.o.1];exact(by decide:14<15)) (by rw[M.o.1];exact(by decide:2<15)) ?_ rfl ?_
 ·simp only[iH,ev,D,J,t]
 ·refine y [A 9,d,A 10] (F 3) (undef) (L 3) (P 3) p.size p.size p ⟨ak l M.g,rfl,λi a e=>?_,⟨w,by omega,u⟩,⟨trivial,by have:=M.g.1;omega,bP _⟩,.inl u⟩
  rcases i with _|_|_|i
  ·cases e;exact⟨by omega,λq=>by omega,_,_,rfl,j⟩
  ·cases e;exact⟨by omega,λq=>by omega,_,_,rfl,(m.ai M.g)⟩
  ·cases e;exact⟨by omega,λq=>by omega,_,_,rfl,f⟩
  ·simp at e
def yQ(f:aq)(M:cN):Prop:=∀{h:Hp}{s:Sl}{K:de}{Kp:PK},lZ h->cH h s f.cs->(∀v h',az h h'->M (λc=>h.size<=c/\c<h'.size) h' v f.begun none->K v h')->Oj f.name f.au f.k f.w f.id f.ix s h K Kp
def wZ(f:aq)(M:cN):Prop:=∀{T:aQ}{h:Hp}{v:Value}{vs:aP}{K:de}{Kp:PK},f.can vs->M T h v (f.st vs) none->
  (∀mm h',az h h'->one mm.F=true->mm.F.cells=#[mm.F]->mm.r=f.st vs->M (Tr T h h') h' v (f.st vs) (some mm)->K mm.F h')->kV v h K Kp
def sG(f:aq)(b:Nat)(sf sn sb:Sl)(r:Rb):lV:=λF lo hi h=>(one F=true/\F.cells=#[F])/\qD (λc=>lo<=c/\c<hi) h b F f sf sn sb r
theorem sG.one{s u:Sl}{r:Rb}:One (sG f b s t u r):=λ_ _ _ _ q=>q.1
abbrev zZ:=@sG.one
theorem sG.qj{s u S:Sl}{r:Rb}:lW H (sG f b s u S r):=λ_ _ _ _ _ _ q _ _ t e=>⟨q.1,q.2.fr t λc a _ d=>(e c d).2 a⟩
abbrev zY:=@sG.qj
theorem sG.call{s u:Sl}{r:Rb}{K:de}(B:mJ T h b ty f s t u r C)(g:az h H)
  (d:∀F h',az H h'->sG f b s t u r F H.size h'.size h'->K F h'):uj (bz b) H K Kp:=
 aqU (B.fr (bh g) id λ_ _ _=>id) λF h' e oF a=>d F h' e ⟨⟨oF,a.cells⟩,a.lt⟩
abbrev yz:=@sG.call
def lM(M:cN)(A:aQ)(w:Value)(rj:Raw):lV:=λF lo hi h=>(one F=true/\F.cells=#[F])/\∃mm:Mem,mm.F=F/\mm.r=rj/\M (λc=>A c\/(lo<=c/\c<hi)) h w rj (some mm)
theorem lM.one{M:cN}{w:Value}{R:Raw}:One (lM M A w R):=λ_ _ _ _ q=>q.1
theorem lM.qj{M:cN}{w:Value}{R:Raw}(KF:gB M)(l:∀c,A c->c<H.size):lW H (lM M A w R):=λ_ _ _ _ _ _⟨q,i,e,d,b⟩_ _ t k=>⟨q,i,e,d,KF b t λc a _ j=>by
 grind⟩
section
variable {KM:List cN} {M:cN} {h':Hp} {r:Raw} {w:Value}
theorem lM.call{G:Hp}{X:aP}{K:de}(C:MC c M)(j:c.can X)(H:M A h w (c.st X) none)(g:az h G)(d:∀F h',az G h'->lM M A w (c.st X) F G.size h'.size h'->K F h'):kV w G K Kp:=
 C.mark j (C.fr H (bh g) λ_ _ _=>id) λa h' i b k e l=>d a.F h' i ⟨⟨b,k⟩,a,rfl,e,l⟩
theorem bR.RR{cs:List (Array Value)}{v KF:Value}{l0 u0 C u2:Nat}{lo hi:Nat->Nat}{qM:List Mem}{sp:bg}(G:bR f KM T h r none g)(J:∀(j:Nat)M,KM[j]? =some M->gB M)
  (Q:ua h h' N cs (sG f g.b g.sf g.sn g.sb r.b) V2 v KF l0 u0 C u2) (H:∀j,j<KM.length->C<=lo j/\hi j<=u2) (hd:∀i j,i<KM.length->j<KM.length->i≠j->hi i<=lo j\/hi j<=lo i)
  (hk:∀(j:Nat)M A w,KM[j]? =some M->g.KT[j]? =some A->g.kv[j]? =some w->∃m,qM[j]? =some m/\m.r=r.aL j/\M (λc=>A c\/(lo j<=c/\c<hi j)) h' w (r.aL j) (some m)) (hl:qM.length=KM.length) (Y:KM.length=f.cs.length) (W:f.k≠1)
  (h1:f.k=15\/f.k=16\/f.k=19\/f.k=20->∃m0,qM=[m0]/\KF=m0.F) (Z:f.k=17\/f.k=18->Ct (λc=>C<=c/\c<u2/\∀j,j<KM.length->¬(lo j<=c/\c<hi j)) h' KF (qM.map Mem.F)) (V:eM f.k r.b r.b) (U:f.k=20->iJ 20 g.X h' sp r.b)
  (l:jr f.k g.b v KF (.mk (.func (.func (gJ f.k)) #[] (N.map pA).toArray) r g.sb qM sp)=cs):cQ f KM (Tr T h h') h' (.iface (bG f.k) (bI g.b)) r (some (.mk (.func (.func (gJ f.k)) #[] (N.map pA).toArray) r g.sb qM sp)):=by
 have gr:=Q.g;have O:=G.fr J (bh gr) λ_ _ _=>id;have lk:=G.lk;obtain⟨⟨_,bm⟩,b1,b2⟩:=Q.b;have k1:=Q.k.2;have p:r.kids=qM.map Mem.r:=by
  refine sE λj=>?_
  by_cases D:j<KM.length
  ·obtain⟨m,y,u,_⟩:=hk j _ _ _ (bx D) (bx ag) (bx ag);have e:r.kids[j]? =some (r.aL j):=by unfold Raw.aL;rw[gL,bx ag];rfl
   grind
  ·grind
 have l:jr f.k (g.mk' KM.length h h' lo hi).b v KF _=cs:=l;have E:∀c,h.size<=c/\c<h'.size->¬(C<=c/\c<u2)->(g.mk' KM.length h h' lo hi).R c:=λc q u=>.inr ⟨q.1,q.2,λj D z=>bU⟩
 refine⟨g.mk' KM.length h h' lo hi,rfl,G.marked J gr (λj D=>bU) hd (λj M A w y u L=>?_) ⟨⟨v,KF,⟨bm.mono λc q=>E c ⟨ag,ag⟩ λz=>by have:=Q.d;omega,Old.of O.B.o,O.B.len,O.B.nl,O.B.rl⟩,h1,λq=>?_,λq=>absurd q W,λ_=>⟨_,rfl,?_,λi x P=>?_⟩⟩,V,⟨p,by rw[<-Y];exact hl⟩,U⟩⟩
 ·obtain⟨m,K,_,q5⟩:=hk j M A w y u L
  show M _ h' w _ qM[j]?
  rw[K];exact q5
 ·obtain⟨a,t,s,e1,e2,e3,e4⟩:=Z q;have up:∀c,(C<=c/\c<u2/\∀j,j<KM.length->¬(lo j<=c/\c<hi j))->(g.mk' KM.length h h' lo hi).R c:=λc q=>.inr ⟨ag,ag,q.2.2⟩
  exact⟨a,t,s,e1,up a e2,e3,e4.fr (iX _ _) (λ_ _ _=>id) up⟩
 ·rw[l,cm];exact Q.n
 ·rw[l]at P;have I:i<N.length:=by rw[Q.n];exact(cU.1 P).1
  obtain⟨y,u,c',t,L,K⟩:=Q.c i _ (bx I);rw[P]at L;cases L;exact⟨N[i],t,aA,E _ ⟨y,K.lt⟩ u,K⟩
end
section
variable {M:cN} {s:Sl}
theorem af0{K:Option Addr->Int->HP}(C:MC f M)(U:yQ f M)(a:bC f)(o:f.gh)(y:lZ h)(z:cH h s f.cs)
  (N:∀p e,az h e->pW f M (λc=>h.size<=c/\c<e.size) e p [] false->K (bz p) 0 e):Ot f.name f.au f.k f.w f.id f.ix s h K Kp:=by
 refine aFc (aG λa1 h1 e1 j x _=>dZ x (aah (y.ai j) o (z.gr j) λb R n O=>?_));obtain rfl:b=true:=O.2 a;have s2:=n.1;have I:=ak j n;refine bu rfl (dZ (x.ai n) (aa5 f (z.gr I) a.jE.cs.1 a.jE.cs.2 λu B F T=>aG λa4 h4 e4 E L _=>oD L rfl λA J l=>dZ l (dZ l ?_)));have Z:=F.1;have m:=bE E J ag;have X:=m.1;have d:=wH (bY.lt _ T) m;have H:=ak (ak I F) m;refine U (y.ai H) (bY.h _ d) λv Q i G=>bM l i ⟨by obtain⟨_,_,rfl⟩:=C.na G;rfl,aG λp P e7 g r _=>N p P (ak (ak H i) g) ?_⟩
 have W:=i.1;refine⟨u,v,λc=>A.size<=c/\c<Q.size,λc=>R.size<=c/\c<B.size,⟨ag,r.lt⟩,λc q=>q.2,λc q=>⟨⟨ag,ag⟩,ag,ag⟩,λc q=>⟨⟨ag,ag⟩,ag⟩,r,wH (wH d i) g,?_⟩
 rw[ZB];exact C.fr G (bh g) λ_ _ _=>id
def Good(f:aq)(l:aP)(i:Nat):Prop:=∀j x,j<i->l[j]? =some x->jy f (l.take j) x=0
theorem Le:∀f:aq,f.can []
  | .mk e au k w id ix cs=>by
    have b:∀c∈cs,c.can []:=λc _=>Le c;refine(gk _ _).2 ⟨aA,aA,by simp[bH],aA,by simp[dS],λj o a=>?_⟩
    rw[TN];simp only[aq.cs,fh,tU]at a;obtain⟨c,d,rfl⟩:=a;grind
theorem Good.can(PF:jl f){l:aP}:∀{i:Nat},i<=l.length->Good f l i->f.can (l.take i):=by
  intro i
  induction i with
  |zero=>intro _ _;exact Le f
  | succ i b=>
    intro e a;have c:l[i]? =some l[i]:=aA;rw[kg ag];exact(Vg PF (b ag λj x d=>a j x ag) (a i _ ag c)).1
theorem mL.get:∀{l:aP},mL l->∀{i:Nat}{x:aB},l[i]? =some x->x.nM
 |[],_,i,x,h=>by simp at h
 |y::l,a,0,x,h=>by simp at h;subst h;exact a.1
 |y::l,a,i+1,x,h=>mL.get a.2 (by simpa using h)
theorem VV{l:aP}{K:Int->Int->Int->Sl->Sl->Sl->Int->Int->HP}(C:MC f M)(MD:yQ f M)(PF:jl f)(FC:mX f)(J:bC f)(I:f.gh)(hr:mL l)(hl:l.length<=9223372036854775807)(ht:lZ h)(hu:jz h)(hs:cH h s f.cs)(hv:aR D h t l)
  (c':∀q d,az h d->f.can l->Good f l l.length->eU (Nw h) (Nw h) d q (f.dn (f.st l))->K (f.dn (f.st l)).len (f.dn (f.st l)).off (f.dn (f.st l)).au q.1 q.2.1 q.2.2 0 0 d)
  (b':∀(i:Nat)x d,az h d->Good f l i->l[i]? =some x->jy f (l.take i) x≠0->K 0 0 0 bT bT bT (jy f (l.take i) x) (i:Int) d):AH f.name f.au f.k f.w f.id f.ix s t h K Kp:=by
 refine aFg (aG λa2 h1 e1 g1 k1 _=>aG λa4 F e2 g2 X _=>dZ (k1.ai g2) ?_);have U:=ak g1 g2;have hn:=hv.n;refine af0 C MD J I (ht.ai U) (hs.gr U) λp h3 g3 B3=>bu rfl ?_;refine az6 (λx d=>∃(i:Nat)(T:aQ),x=i/\i<=l.length/\az F d/\pW f M T d p (l.take i) false/\(∀c,T c->F.size<=c)/\Good f l i) (λx _=>l.length-x.toNat)
  ⟨0,_,rfl,dN _,g3,B3,λc q=>q.1,λj x hj=>ag⟩ ?_
 rintro x d ⟨i,T,rfl,hi,G,B,hT,Q⟩ N hN;have A:=ak U G;have R:=Q.can PF hi;have s3:=G.1;refine cL (λc=>?_) λc=>?_
 ·have E:l[i]? =some l[i]:=aA;have H:l.take (i+1)=l.take i++[l[i]]:=aA;generalize l[i]=x at E H;refine(eR (aR.lt _ hv) A).ix rfl E λa u cx a'=>gZ cx (aG λi' h4 e4 g4 v _=>lT v rfl λh5 o5 v=>eY v ?_);have s4:=g4.1;have g:=bE g4 o5 ag;have s5:=g.1;refine ajP C PF FC J I (ht.ai (ak A g)) (hu.ai (ak A g)) (B.fr C (bh g) λ_ _=>id) R (hr.get E) (eR a' g) (λc q z=>by have:=hT c z;omega) λh6 t6 B6=>?_
  have G6:az F h6:=((bh (ak G g):Tn No F h5).trans' t6 λc q L=>by have:=hT c q;omega).ai
  have r:=(X.ai G6);refine cL (λo=>?_) λo=>?_
  ·exact jI r rfl λZ P W=>gl W (b' i x Z (bE (ak U G6) P ag) Q E o)
  ·rw[aI o]at B6;refine aW ag ag (hN _ _ ⟨i+1,_,aA,ag,G6,H▸B6,λc q=>?_,λj y hj Y=>?_⟩ ag)
   ·rcases q with q|q
    ·exact hT c q
    ·omega
   ·by_cases e:j=i
    ·subst e;rw[E]at Y;cases Y;exact o
    ·exact Q j y ag Y
 ·have:i=l.length:=ag;subst this;rw[mz]at B R;have f':F.size<=p:=hT p B.choose_spec.choose_spec.choose_spec.choose_spec.tp;refine aBZ (ajD C B R λq h4 V _ D4=>aG λg' h5 e5 g m _=>jI m rfl λh6 o6 m=>gl m ?_);have g6:=bE g o6 ag;have r:=(V.aZ (X.ai G) ag).ai g6;refine jI r rfl λZ P W=>gl W (c' q Z ?_ R Q ?_)
  ·exact((((bh A:Tn No h d).trans' V λc q L=>ag).trans (bh g6)).trans' P.fr λc q L=>ag).ai
  ·exact(D4.gr g6).fr P.fr (λc(q:d.size<=c)_ e=>ag) (λc(q:d.size<=c)_ e=>ag) (λc(q:d.size<=c)=>ag) λc(q:d.size<=c)=>ag
end
theorem aw1{s:Sl}{K:fJ}(H:aiZ s t h K Kp):cX aD (.func (.func 39) #[] #[]) [Sl.v s,Sl.v t] h (λr a=>∃t:Bool,r=.bool t/\K t a) Kp:=by
 unfold cX;exact cast aV H
theorem axd{x y w z b2:Int}{s u S c b a:Sl}{K:fJ}(H:On x y k s u S w z b2 c b a h K Kp):cX aD (.func (.func 20) #[] #[]) [(.agg #[(ah x),(ah y),(ah k),(Sl.v s),(Sl.v u),(Sl.v S)]),(.agg #[(ah w),(ah z),(ah b2),(Sl.v c),(Sl.v b),(Sl.v a)])] h (λr d=>∃t:Bool,r=.bool t/\K t d) Kp:=by
 unfold cX;exact cast aV H
theorem zX{s:Sl}{l:dB}{K:ByteArray->Prop}(v:Sv h s (bv l))(a:K (bs l)):sM h s K:=⟨l,by have:=v.A7 v.na;rw[u7]at this;exact this,a⟩
section
variable {D' E':aQ} {s1 s2:Sl}
theorem axv{f b2:ig}{K:fJ}(p:fc D E h s1 f)(o:fc D' E' h s2 b2)(hl:f.length<=2^50)(k:∀b,(b=true↔f=b2)->K b h):Xh s1 s2 (.func (.func 39) #[] #[]) h K Kp:=by
 have w:=p.n;have C:=o.n;refine aDr (aE (λc=>k false ?_) λc=>?_)
 ·grind
 have c:=aM c;apply ay6 (λx s=>s=h/\∃i:Nat,x=i/\i<=f.length/\∀j,j<i->dD f j=dD b2 j) (λx _=>f.length-x.toNat) ⟨rfl,0,rfl,dN _,λj y=>ag⟩
 rintro x s ⟨rfl,i,rfl,F,r⟩ N hN;refine aE (λg=>?_) λg=>k true ⟨λ_=>?_,λ_=>rfl⟩
 ·have g:=aM g;refine p.ix rfl ag λa t B u=>⟨t,B,o.ix rfl ag λG v m l=>⟨v,m,aw1 (aDq (zX u.1 (zX l.1 ?_)))⟩⟩;rw[BU];refine aE (λd=>k false ⟨λe=>(by cases e),λe=>?_⟩) λd=>aW ag ag (hN _ _ ⟨rfl,i+1,aA,ag,λj y=>?_⟩ ag)
  all_goals grind
 ·have g:=aM g;apply U2
  ·omega
  ·intro j A z;have:=r j ag
   simpa[dD,gL,A,z]using this
mutual
def bD.lG:bD->Prop
 |.mk _ _ _ aX cs ds=>aX.length<=2^50/\(cs.length<=2^50/\uN cs)/\ds.length<=2^50/\uN ds
def uN:List bD->Prop
 |[]=>True
 |d::ds=>d.lG/\uN ds
end
theorem uN.get:∀{ds:jG},uN ds->∀d∈ds,d.lG
  |[],_,d,h=>by simp at h
  | x::b,a,d,h=>by
    rcases mB.1 h with rfl|h
    ·exact a.1
    ·exact uN.get a.2 d h
def Ia(d:bD):Prop:=∀{e:bD}{D E D' E':aQ}{h:Hp}{p q:Sl×Sl×Sl}{K:fJ}{Kp:PK},d.lG->eU D E h p d->eU D' E' h q e->(∀b h',az h h'->(b=true↔d=e)->K b h')->
 On d.len d.off d.au p.1 p.2.1 p.2.2 e.len e.off e.au q.1 q.2.1 q.2.2 h K Kp
theorem aby{cs f:jG}{K:fJ}(X:∀c∈cs,Ia c)(R:uN cs)(A:dz D E h s1 cs)(z:dz D' E' h s2 f)(hl:cs.length<=2^50)(w:∀b m,az h m->(b=true↔cs=f)->K b m):NO s1 s2 (.func (.func 20) #[] #[]) h K Kp:=by
 have P:=A.n;have n2:=z.n;refine aDp (aE (λc=>w false h (cK _) ?_) λc=>?_)
 ·grind
 have c:=aM c;apply ay5 (λx m=>az h m/\∃i:Nat,x=i/\i<=cs.length/\∀j,j<i->cs[j]? =f[j]?) (λx _=>cs.length-x.toNat) ⟨cK _,0,rfl,dN _,λj Q=>ag⟩
 rintro x m ⟨G,i,rfl,hi,B⟩ N hN;refine aE (λo=>?_) λo=>w true m G ⟨λ_=>?_,λ_=>rfl⟩
 ·have o:=aM o;have g:cs[i]? =some cs[i]:=aA;have k:f[i]? =some f[i]:=aA;have v:cs[i]∈cs:=aA;generalize cs[i]=d at g v;generalize f[i]=e at k;refine(A.gr G).ix rfl g λa p W vp=>cr.c W (aG λa8 h1 e8 I r _=>jI r rfl λF O r=>?_);have t:=bE I O ag;refine((z.gr G).gr t).ix rfl k λa' q y L=>cr.c y (aG λa9 h3 e9 H u _=>jI u rfl λT M u=>?_);have s:=bE H M ag;refine gl (r.ai s) (gl u (axd (X d v (R.get d v) ((vp.gr t).gr s) (L.gr s) λb S U C=>?_)));have J:=ak G (ak (ak t s) U);refine aE (λl=>w false S J ⟨λe=>(by cases e),λV=>?_⟩) λl=>aW ag ag (hN _ _ ⟨J,i+1,aA,ag,λj Q=>?_⟩ ag)
  ·have l:=aM l;rw[V,k]at g;have:=C.2 (by simpa using g.symm)
   rw[this]at l;cases l
  ·have l:=aM l
   by_cases q:j=i
   ·subst q;rw[g,k,C.1 l]
   ·exact B j ag
 ·apply sE;grind
theorem an3{n y:Int}{aX:ig}{cs ds:jG}(U:∀c∈cs,Ia c)(T:∀c∈ds,Ia c):Ia (.mk n y k aX cs ds):=by
 intro e D E D' E' h p q K Kp z L J N;obtain⟨w,v,t,d,g,f⟩:=e;refine aE4 (aG λI X e1 S j _=>aG λH W Y O r _=>?_);have G:=ak S O;have j:=j.ai O;have M:∀a,az h a->¬(bD.mk n y k aX cs ds=bD.mk w v t d g f)->K false a:=λa i q=>N false a i ⟨λe=>(by cases e),λe=>absurd e q⟩
 have j4:∀a,az h a->¬(bD.mk n y k aX cs ds=bD.mk w v t d g f)->M8 K Kp (aJ I) (aJ H) false a:=λa i q=>aif (bu rfl (M a i q));have j3:∀a,az h a->¬(bD.mk n y k aX cs ds=bD.mk w v t d g f)->M9 K Kp _ _ false a:=λa i q=>aih (bu rfl (j4 a i q));have j2:∀a,az h a->¬(bD.mk n y k aX cs ds=bD.mk w v t d g f)->Na K Kp _ _ false a:=λa i q=>aii (bu rfl (j3 a i q));have j1:∀a,az h a->¬(bD.mk n y k aX cs ds=bD.mk w v t d g f)->Nb K Kp _ _ false a:=λa i q=>aij (bu rfl (j2 a i q));refine aj j rfl (aj r rfl (aE (λc=>?_) λc=>j1 _ G ?_))
 ·have c:=aM c;simp only[bw,cz];refine aj j rfl (aj r rfl (aij (aE (λm=>?_) λm=>j2 _ G ?_)))
  ·have m:=aM m;simp only[bw,cz];refine aj j rfl (aj r rfl (aii (aE (λl=>?_) λl=>j3 _ G ?_)))
   ·have l:=aM l;simp only[bw,cz];refine aj j rfl (aj r rfl (axv (L.b.gr G) (J.b.gr G) z.1 λb B=>aih (aE (λF=>?_) λF=>j4 _ G ?_)))
    ·simp only[bw,cz];have B:=B.1 F;refine aj j rfl (aj r rfl (aby U z.2.1.2 (L.c.gr G) (J.c.gr G) z.2.1.1 λb V s A=>aif (aE (λC=>?_) λC=>M _ (ak G s) ?_)))
     ·have A:=A.1 C;simp only[bw,cz];refine aj (j.ai s) rfl (aj (r.ai s) rfl (aby T z.2.2.2 ((L.x.gr G).gr s) ((J.x.gr G).gr s) z.2.2.1 λb Q R P=>N b Q (ak (ak G s) R) ?_));rw[P];simp only[bD.aX]at B;simp only[bD.cs,bD.ds]at A ⊢;simp only[bD.len,bD.off,bD.au]at c m l;grind
     ·intro e;cases e;rw[A.2 rfl]at C;cases C
    grind
   grind
  grind
 grind
theorem Po:∀d:bD,Ia d
 |.mk n o u aX cs ds=>an3 (λc _=>Po c) λc _=>Po c
end
section
variable {M:cN} {s:Sl} {p:Sl×Sl×Sl}
theorem CV{K:Int->Int->Int->Sl->Sl->Sl->HP}{g:Hp}{n m:Nat}{z:Array Value}{l:TypeId}{x y:Int}{u S:Sl}(o:aN g n Z e)(O:Z.size=6)(r:aN g m z l)(P:z.size=6)(ne:m≠n)
  (N:∀w,Tn (λc=>c=n\/c=m) g w->K x y k t u S w):cV g (aJ n) x y k t u S λi=>cr i (aJ n) λF E C B l A=>cV i (aJ m) F E C B l A λa=>cr a (aJ m) λr0 L J I H G=>K r0 L J I H G a:=
 jI o O λi j o=>gl o (jI (j.aZ r ne) P λa v r=>gl r (N a ((j.fr.mono λc q _=>.inl q).trans (v.fr.mono λc q _=>.inr q))))
def VU(f:aq)(d:bD)(D:aQ)(h:Hp)(s:Sl)(p:Sl×Sl×Sl):Prop:=∀{h1:Hp}{K:Option Addr->Int->Sl->Int->HP}{Kp:PK},az h h1->
 (∀b s' q' h',az h1 h'->h1.size<=b->nG (λx=>(D x/\x<h1.size)\/h1.size<=x) h' b f d d.off d.len s' q'->K (bz b) 0 Sl.nil 0 h')->Ys f.name f.au f.k f.w f.id f.ix s d.len d.off d.au p.1 p.2.1 p.2.2 h1 K Kp
theorem aDa{K:Int->Int->Int->Sl->Sl->Sl->Int->HP}(C:MC f M)(MD:yQ f M)(PF:jl f)(FC:mX f)(U:bC f)(T:f.gh)(ht:n8 h)(hu:jz h)(hs:cH h s f.cs)(OP:VU f d D h s p)(ow:Cn f)(ar:f.arr d){l:aP}(el:l=kB f d d.off.toNat d.len.toNat)(hr:mL l)
  (f':∀q g,az h g->f.can l->Good f l l.length->eU (Nw h) (Nw h) g q (f.dn (f.st l))->K (f.dn (f.st l)).len (f.dn (f.st l)).off (f.dn (f.st l)).au q.1 q.2.1 q.2.2 0 g)
  (e':∀(i:Nat)x g,az h g->Good f l i->l[i]? =some x->jy f (l.take i) x≠0->K 0 0 0 bT bT bT (jy f (l.take i) x) g):XN f.name f.au f.k f.w f.id f.ix s d.len d.off d.au p.1 p.2.1 p.2.2 h K Kp:=by
 refine aFe (aG λa2 h1 e1 g1 m _=>aG λa3 h2 e2 g2 k3 _=>aG λa4 Z e3 S B _=>dZ ((m.ai g2).ai S) ?_);have G:=ak g1 (ak g2 S);have m:=(m.ai g2).ai S;have k3:=k3.ai S;refine aah (ht.k.ai G) T (hs.gr G) λb h4 R hb=>?_;obtain rfl:b=true:=hb.2 U;have s4:=R.1;refine bu rfl (dZ (m.ai R) (gl (k3.ai R) (OP (ak G R) λbA s' q' h5 g5 lb A=>aG λa7 h6 e6 g6 k7 _=>mw k7 rfl λY o7 k7=>aj k7 rfl (bu rfl ?_))));have s5:=g5.1;have O:=bE g6 o7 ag;have s7:=O.1;have P:=ak R (ak g5 O);have G7:=ak G P;have m:=m.ai P;have B:=B.ai P;have V:=Av.whole (A.gr O) ar;have hl:l.length<=9223372036854775807:=by rw[el,LN];have:=V.bd;omega
 -- i' is j' of k' a'
 have of:∀{o:Hp}{t:Sl}{K':Int->Int->Int->Sl->Sl->Sl->Int->Int->HP}(E:az h o)(H:aR (Nw Y) o t l) _
   (c2:∀(i:Nat)x g,az o g->Good f l i->l[i]? =some x->jy f _ x≠0->K' 0 0 0 bT bT bT _ _ g),AH f.name f.au f.k f.w f.id f.ix s t o K' Kp:=
  λE H c1 c2=>VV C MD PF FC U T hr hl (ht.k.ai E) (hu.ai E) (hs.gr E) H c1 c2
 have f1:∀{j:Hp}{q:Sl×Sl×Sl}{Q X v:Nat},az h j->eU (λc=>Q<=c/\c<X) (λc=>Q<=c/\c<X) j q (f.dn (f.st l))->Z.size<=Q->Z.size<=v->(v<Q\/X<=v)->f.can l->Good f l l.length->∀g,Tn (λc=>c=v\/c=a4) j g->K (f.dn (f.st l)).len (f.dn (f.st l)).off (f.dn (f.st l)).au q.1 q.2.1 q.2.2 0 g:=by
  intro j q Q X v L D9 b1 b2 b3 J n g W;exact f' q g (((bh L:Tn No h j).trans' W λc q d'=>ag).ai) J n (D9.fr W (λc q _ z=>ag) (λc q _ z=>ag) (λc q=>ag) λc q=>ag)
 have f2:∀{j:Hp}{v:Nat}{i:Nat}{x:aB},az h j->Z.size<=v->Good f l i->l[i]? =some x->jy f (l.take i) x≠0->∀g,Tn (λc=>c=v\/c=a4) j g->K 0 0 0 bT bT bT (jy f (l.take i) x) g:=
  λL b2 n I r g W=>e' _ _ g (((bh L:Tn No h _).trans' W λc q d'=>ag).ai) n I r
 have N:∀{o j:Hp}{q:Sl×Sl×Sl},eU (Nw o) (Nw o) j q (f.dn (f.st l))->eU (λc=>o.size<=c/\c<j.size) (λc=>o.size<=c/\c<j.size) j q (f.dn (f.st l)):=λD9=>D9.lt;refine dZ m ⟨afC ow V (hu.ai G7) λt o u H=>bM m u ?_,aG λv o e8 u y _=>bM m u (afC ow (V.gr u) (hu.ai (ak G7 u)) λt j e H=>bM (m.ai u) e ?_)⟩
 ·rw[<-el]at H;have E:=ak G7 u;have m:=m.ai u;have B:=B.ai u;have s8:=u.1;refine⟨of E H (λq j e J n D9=>aG λv F g' a y _=>bM (m.ai e) a ?_) (λi x j e n I r=>aG λv F g' a y _=>bM (m.ai e) a ?_),aG λv j e9 e y _=>bM m e ?_⟩
  ·have s9:=e.1;have b':=a.1;exact CV y rfl ((B.ai e).ai a) rfl ag (f1 (ak (ak E e) a) ((N D9).gr a) ag ag (.inr ag) J n)
  ·have s9:=e.1;exact CV y rfl ((B.ai e).ai a) rfl ag (f2 (ak (ak E e) a) ag n I r)
  ·have s9:=e.1;have c':=y.lt;refine of (ak E e) (eR H e) (λq F a J n D9=>?_) λi x F a n I r=>?_
   ·exact CV (y.ai a) rfl ((B.ai e).ai a) rfl ag (f1 (ak (ak E e) a) (N D9) ag ag (.inl ag) J n)
   ·exact CV (y.ai a) rfl ((B.ai e).ai a) rfl ag (f2 (ak (ak E e) a) ag n I r)
 ·rw[<-el]at H;have s9:=e.1;have L:=ak (ak G7 u) e;refine of L (sA H λc(q:o.size<=c)=>ag) (λq F a J n D9=>?_) λi x F a n I r=>?_
  ·exact CV ((y.ai e).ai a) rfl (((B.ai u).ai e).ai a) rfl ag (f1 (ak L a) (N D9) ag ag (.inl ag) J n)
  ·exact CV ((y.ai e).ai a) rfl (((B.ai u).ai e).ai a) rfl ag (f2 (ak L a) ag n I r)
theorem aC7{K:fJ}(C:MC f M)(MD:yQ f M)(PF:jl f)(FC:mX f)(B:bC f)(A:f.gh)(Q:n8 h)(P:jz h)(R:cH h s f.cs)(v0:eU D D h p d)(OP:VU f d D h s p)(N:Cn f)(Y:f.arr d){l:aP}(el:l=kB f d d.off.toNat d.len.toNat)(T:mL l)(n:(f.dn (f.st l)).lG)
  (F:∀b I,az h I->(b=true↔Good f l l.length/\f.dn (f.st l)=d)->K b I):XM f.name f.au f.k f.w f.id f.ix s d.len d.off d.au p.1 p.2.1 p.2.2 h K Kp:=by
 refine aFd (aG λa2 h1 e1 J O _=>aG λa3 h2 e2 z u _=>dZ (O.ai z) (gl u ?_));have G:=ak J z;refine aDa C MD PF FC B A (Q.ai G) (P.ai G) (R.gr G) (λg=>OP (ak G g)) N Y el T (λq v j hc H D3=>aG λZ V X y c _=>jI c rfl λo t c=>bO rfl (gl c ?_)) λi x v j H E m=>aG λZ V X y c _=>jI c rfl λo t c=>bu (by simpa using m) ?_
 ·have L:=j.1;have r:=bE y t ag;have a:=ak j r;refine gl (u.ai a) (Po _ n (D3.gr r) ((v0.gr G).gr a) λb U W S=>F b U (ak (ak G a) W) ?_);grind
 ·have r:=bE y t ag;exact F false o (ak G (ak j r)) ⟨λe=>(by cases e),λq=>absurd (q.1 i x (cU.1 E).1 E) m⟩
end
def fA:aq:=.mk (bs [97]) true 4 0 0 0 []
def dA:bD:=.mk 2 0 1 [[1],[254,255,0,0]] [] []
section
variable {s wi:Sl} {p:Sl×Sl×Sl}
theorem akS{G:ff}{w id:Int}{K:Sl->HP}(v:CG h p dA)(H:∀t d,az h d->Nv d t [16,16]->K t d):Yo G au 4 w id ix s 2 0 1 p.1 p.2.1 p.2.2 wi h K Kp:=by
 refine aGb (aG λQ Y e1 N l _=>aG λP I e2 u j _=>?_);simp only[bw];refine nk (O7 (l.ai u)) (aG λO X Z M m _=>pE m rfl λq F m=>?_);have r:=bE M F ag;have l:=(l.ai u).ai r;have j:=j.ai r;have E:=ak (ak N u) r;refine aj j rfl (EB ag ag ag λt W L A S=>?_);have tn:t.n=2:=A.2.1;rw[tn];apply aAm (λy a d=>∃i:Nat,y=0/\a=i/\i<=2/\Ws q d q.size t 2 (List.replicate i (ah 16)++List.replicate (2-i) (ah 0))) (λ_ a _=>2-a.toNat) ⟨0,rfl,rfl,ag,L,A,rfl,bP _⟩
 rintro y a V ⟨i,rfl,rfl,C,k⟩ R hN;refine cL (λc=>?_) λc=>?_
 ·have C:i<2:=ag;have e:(List.replicate i (ah 16)++List.replicate (2-i) (ah 0)).set i (ah 16)=List.replicate (i+1) (ah 16)++List.replicate (2-(i+1)) (ah 0):=by
   rcases i with _|_|i
   ·rfl
   ·rfl
   ·omega
  refine aj (j.ai k.g) rfl (aW ag ag (k.st rfl C λU f=>dZ (l.ai f.g) (gl (j.ai f.g) ?_)));rw[e]at f;rw[show _+(i:Int)=((i:Nat):Int) by omega]
  refine abb ((v.gr E).b.gr f.g) (λ_=>by decide) ag λD J=>?_
  have z:=f.ai J;have B:aO ((i:Int)+1) λx=>R (F4 wi (aJ Q) (aJ P) (aJ O) t 2 0 x) D:=aW ag ag (hN _ _ _ ⟨i+1,rfl,ag,ag,z⟩ ag)
  refine aE (λ_=>B) λ_=>aj (m.ai z.g) rfl (bu rfl (bu rfl (aCO (bu rfl (bu rfl (bu rfl (bu rfl (bu rfl (bu rfl (bu rfl (aCP (aFT (bO rfl (aAl (λx d=>x=0/\d=D) (λ_ _=>0) ⟨rfl,rfl⟩ ?_))))))))))))));grind[bu]
 ·obtain rfl:i=2:=ag;exact H _ _ (ak E k.g) k.o.sv
theorem aoC{g:ff}{w id x y:Int}{u S:Sl}{K:Int->Sl->Int->HP}(m:∀c,az h c->K 0 Sl.nil 0 c):Yp g au 4 w id ix s x y k t u S h K Kp:=by
 refine aGd (aG λb2 A e1 e l _=>aG λE z C a q _=>aG λD v B d j _=>?_);simp only[bw];exact aj ((l.ai a).ai d) rfl (bu rfl (bu rfl (aCQ (bu rfl (bu rfl (bu rfl (mw j rfl λr f i=>nY i (m _ (bE (ak e (ak a d)) f ag)))))))))
theorem awU{K:Int->Sl->Int->Sl->HP} (ht:n8 h) (hs:cH h s []) (v:CG h p dA) (ar:fA.arr dA) (hk:∀t a,az h a->K 0 Sl.nil 0 t a):ES (bs [97]) true 4 0 0 0 s 2 0 1 p.1 p.2.1 p.2.2 h K Kp:=by
 refine aGu (aG λb2 h1 e1 T o _=>aG λb3 h2 e2 E k _=>aG λF hA e3 D u _ => ?_);have q:=ak T (ak E D);have M:h.size<=F:=ag;have o:=(o.ai E).ai D;have k:=k.ai D;have look:∀{a:Hp} {e m:Int} {l:Sl} {J:HP},az hA a->e=0->(∀y,az a y->J y) ->
   aH a kI kF λG Q=>dW Q G e l m λj=>Ld j G mI λI=>If (I != 0) (eG j G λW V U=>dW j (aJ F) W V U λC=>eG C (aJ F) λr0 Y X=>K r0 Y X bT C) (J j):=by
  rintro a e m l J g rfl hJ;exact aG λb6 Q e6 g5 B _=>mw B rfl λj Z B=>aj B rfl (bu rfl (hJ j (bE g5 Z ag)))
 refine dZ o (gl k (anw (d:=dA) (cs:=[]) (ht.ai q) aY trivial (hs.gr q) (v.gr q) λe t m h4 S et he=>look S (he.2 ar.C1) λj g6 => ?_));have A:=ak S g6;refine aC6 (dZ (o.ai A) (gl (k.ai A) (aoC λC R=>look (ak A R) rfl λh8 g8 => ?_)));have H:=ak A (ak R g8);refine aC5 (gl (k.ai H) (apt (d:=dA) (v.gr (ak q H)) λL h9 g9 ds => ?_));have r:=ak H g9;have n0:=ds.n.1;rw[n0];apply aAy (λO w a=>O=Sl.nil/\w=0/\a=h9) (λ_ _ _=>0) ⟨rfl,rfl,rfl⟩;rintro O w b' ⟨rfl,rfl,rfl⟩ N1 _;refine bu rfl (aC4 ?_);simp only[bw];refine aj (o.ai r) rfl (bu rfl (aC3 (dZ (o.ai r) (gl (k.ai r) (akS (v.gr (ak q r)) λt N z P => ?_)))));have tn:t.n=2:=P.1;rw[tn];apply aAz (λx f a=>∃i:Nat,x=16*i/\f=i/\i<=2/\a=N) (λ_ f _=>2 - f.toNat) ⟨0,rfl,rfl,ag,rfl⟩
 rintro x f a' ⟨i,rfl,rfl,hi,rfl⟩ N1 hN;have u:=u.ai (ak r z);refine aE (λc => ?_) λc=>bu bU (mw u rfl λa o' u=>nY u (hk _ _ (bE (ak (ak q r) z) o' M)))
 have c:=aM c;have hg:([16,16]:cG)[i]? = some 16:=by
  rcases i with _ | _ | i
  ·rfl
  ·rfl
  ·omega
 rw[<-tn];refine P.ld rfl hg (aW ag ag (aW ag ag ?_));rw[tn];exact hN _ _ _ ⟨i+1,ag,ag,ag,rfl⟩ ag
theorem arh{K:Int->Sl->Int->HP}(ok:bC fA)(q:fA.gh)(u:n8 h)(w:cH h s [])(v:CG h p dA)(E:fA.arr dA)(B:∀x,az h x->K 0 Sl.nil 0 x):Xg (bs [97]) true 4 0 0 0 s 2 0 1 p.1 p.2.1 p.2.2 h K Kp:=by
 refine aDn (aG λb2 S e1 z f _=>aG λY R V o i _=>aG λX Q U n a _=>?_);have G:=ak z (ak o n);have f:=(f.ai o).ai n;have i:=i.ai n;refine dZ f (La (u.k.ai G) q (w.gr G) λe l m P c C=>?_);obtain rfl:e=0:=C.2 ok;have d:=ak G c;refine bu rfl (dZ (f.ai c) (gl (i.ai c) (awU (u.ai d) (w.gr d) (v.gr d) E λt O j=>aG λW N T y g _=>mw g rfl λM r g=>nY g ?_)));have H:=c.1;have F:=j.1;have a:=r.aZ (((a.ai c).ai j).ai y) ag;exact mw a rfl λL A a=>nY a (B _ (bE (bE (ak (ak d j) y) r ag) A ag))
theorem auA{g:ff}{w id:Int}{K:ByteArray->Bool->Int->Int->Int->Int->Sl->HP}(m:∀i,az h i->K g au k w id ix Sl.nil i):NM g au k w id ix Sl.nil h K Kp:=by
 refine aDl (aG λy u e1 j a _=>aG λb2 t v d c _=>?_);simp only[bw];refine aj (a.ai d) rfl (aFq (bO rfl (dc (a.ai d) aA rfl λn e a=>aj a rfl ?_)));have c:=e.aZ c ag;apply ay4 (λx f=>f=n/\x=0) (λ_ _=>0) ⟨rfl,rfl⟩;rintro x f ⟨rfl,rfl⟩ z _;exact bu rfl (dZ a (oD c rfl λr l c=>dZ c (m _ (bE (bE (ak j d) e ag) l ag))))
theorem adI{l:Sl}{K:Sl->HP}(d:l.n=0)(e:K Sl.nil h):OD l h K Kp:=by
 apply aGs;rw[d];apply aAx (λb a c=>b=Sl.nil/\a=0/\c=h) (λ_ _ _=>0) ⟨rfl,rfl,rfl⟩;grind[bu]
theorem awy{n0:Nat}{K:K6}(v:eU D E h p dA)(B:∀b,E b->b<n0)(J:n0<=h.size)(A:∀g o,az h o->eU (Nw h) E o g dA->K 2 0 1 g.1 g.2.1 g.2.2 o):NL 2 0 1 p.1 p.2.1 p.2.2 h K Kp:=by
 refine aDk (aG λG Q e1 w a _=>aG λb2 u R i d _=>?_);simp only[bw];have y:=ak w i;refine aj (a.ai i) rfl (awR y v.b aY λz F r vb=>dc ((a.ai i).ai r) aA rfl λP l a=>aj a rfl (adI v.c.n.1 (dc a aA rfl λO k a=>aj a rfl (adI v.x.n.1 (dc a aA rfl λN j a=>gl a (jI (j.aZ (k.aZ (l.aZ (d.ai r) ag) ag) ag) rfl λC t d=>gl d (A (z,Sl.nil,Sl.nil) _ (bE (bE (bE (bE (ak y r) l ag) k ag) j ag) t ag) ?_)))))));have f:Tn (λc=>c=G\/c=b2) F C:=(((l.fr.mono λ_ q _=>.inl q).trans (k.fr.mono λ_ q _=>.inl q)).trans (j.fr.mono λ_ q _=>.inl q)).trans (t.fr.mono λ_ q _=>.inr q);exact⟨vb.fr f (λb(m:u.size<=b)_ e=>ag) (λb m _ e=>bU) (λb(m:u.size<=b)=>ag) λ_ q=>q,jH _,jH _⟩
theorem apV(ok:bC fA)(w:fA.gh)(I:n8 h)(v0:eU D D h p dA)(R:fA.arr dA):VU fA dA D h Sl.nil p:=by
 have J:∀{h:Hp},cH h Sl.nil []:=λ{h}=>by unfold cH;exact⟨rfl,bP _⟩
 intro n K Kp F L;have v0:=v0.gr F;have v:=v0.mo (λ_ _=>trivial) λ_ _=>trivial;refine aGf (aG λb2 h1 e1 E j _=>aG λb3 h2 e2 u c _=>aG λQ O e3 t i _=>?_);have G:=ak E (ak u t);have j:=(j.ai u).ai t;have c:=c.ai t;refine dZ j (gl c (arh ok w (I.ai (ak F G)) J (v.gr G) R λh4 r=>aG λb6 h5 e6 C q _=>mw q rfl λN y q=>aj q rfl (bu rfl ?_)));have Y:=r.1;have i:=y.aZ ((i.ai r).ai C) ag;have a:=bE (ak r C) y ag;have o:=ak G a;have j:=j.ai a;have c:=c.ai a;refine aCV (dZ j (gl c (auA λM k=>bM c k ?_)));have S:=a.1;have W:=k.1;refine awy (v0.lt.gr (ak o k)) (λb z=>z.2) ((ak o k).1) λp' h8 B H=>?_;have V:=B.1;refine apT (d:=dA) (D:=λx=>x≠Q/\((D x/\x<n.size)\/n.size<=x)) (by show bY _ _ _ [];unfold bY;exact⟨rfl,bP _⟩) (H.mo (λx(g:M.size<=x)=>⟨ag,.inr ag⟩) λx g=>⟨ag,.inl g⟩) λb' h9 P z A=>?_
 have m:=ak (ak k B) P;exact mw (i.ai m) rfl λU l i=>nY i (L _ _ _ _ (bE (ak o m) l ag) ag (A.fr l.fr (λe=>ag) (λx g e=>g.1 e) λ_ g=>g.2))
end
theorem aoS(j:f.k≠12/\f.k≠13/\f.k≠15/\f.k≠16/\f.k≠17/\f.k≠18/\f.k≠19/\f.k≠20){D:aQ}{h:Hp}{b bl i:Nat}{d:bD}{o n r L:Int}{s:Sl}{q:Sl×Sl×Sl}{K:KV}{p:PK}(V:Vc D h b bl f d o n s q L i)(l:r=i)(c:jC f.k d.aX i=false)(m:VK h bl L (f.val d i) K):fE aD (xW f.k) "colonnade/array.read" [bI b,ah r,bI bl] h (KI K) p:=by
  have e:xW f.k=.iface H6 (.agg #[]):=by unfold xW;simp[j]
  rw[e];exact awT (aue V l j c m)
theorem ak5(y:f.k≠12/\f.k≠13/\f.k≠15/\f.k≠16/\f.k≠17/\f.k≠18/\f.k≠19/\f.k≠20):afE f:=by
 intro D h b bl i d o n r L s q K N V w l;have e:=V.kl.lt;refine aF9 (aG λM J e1 m j _=>aqn (V.A.gr m) V.ar V.lo V.hi w λC g=>aE (λc=>?_) λc=>?_)
 all_goals have G:=ak m g
 all_goals have H:=m.1
 all_goals have F:=g.1
 all_goals have E:=j.lt
 ·have z:f.val d i=v0:=by rw[Jb,oU,aI c]
  have p:=V.wl;rw[z]at l p;exact OX (V.kl.ai G) ag p V.lm λB v a=>l.fin ((bh G).trans v.fr) a (v.aZ (j.ai g) ag) rfl ag e (qt _)
 ·simp only[ob,bw];refine aj (V.A.gr G).k rfl (aoS y (V.gr G) w c ?_);intro t B u a x;exact l.fin ((bh G).trans u) a (u.aZ (j.ai g) ag) rfl ag e (x.mo λc(I:C.size<=c)=>⟨ag,ag⟩)
theorem apK:Cn fA:=apM (ak5 aY)
section
variable {KM:List cN} {M:cN} {h':Hp} {r:Raw} {w:Value}
theorem bR.Bj{s:Sl}{K:Sl->Prop}(G:bR f KM T h r none g)(a:∀(j:Nat)M,KM[j]? =some M->gB M)(gr:az h h')(k:g.b=b)(d:g.SS[i]? =some s)(e:K s):Ld h' ⟨b,16+i,none⟩ Sl.v K:=
 (G.fr a (bh gr) λ_ _ _=>id).dG k d e
theorem C0{x y:List Value×TypeId}{l:List (List Value×TypeId)}(h:g.SS.length=l.length/\g.ST.length=l.length)(e:l=[x,y]):∃j d,g.SS=[j,d]:=by
 rw[e]at h
 match i:g.SS,h.1 with
 |[a,b],_=>exact⟨a,b,rfl⟩
theorem rN{x:List Value×TypeId}{l:List (List Value×TypeId)}(h:g.SS.length=l.length/\g.ST.length=l.length)(e:l=[x]):∃b,g.SS=[b]:=by
 rw[e]at h
 match d:g.SS,h.1 with
 |[a],_=>exact⟨a,rfl⟩
theorem Ph{l:List (List Value×TypeId)}(h:g.SS.length=l.length/\g.ST.length=l.length)(e:l=[]):g.SS=[]:=by
 rw[e]at h;exact jv.1 h.1
theorem bR.abt{cs:List (Array Value)}{v KF:Value}{n m d u2:Nat}{K:de}(G:bR f [] T h r none g)(Q:ua h h' N cs (sG f g.b g.sf g.sn g.sb r.b) Ig v KF n m d u2)(o:f.cs=[])(l:f.k≠1/\f.k≠15/\f.k≠16/\f.k≠17/\f.k≠18/\f.k≠19/\f.k≠20)(e:eM f.k r.b r.b)
  (p:∀F,jr f.k g.b v KF (.mk F r g.sb [] [])=cs) (t:∀a h',az h h'->one a.F=true->a.F.cells=#[a.F]->a.r=r->cQ f [] (Tr T h h') h' (.iface (bG f.k) (bI g.b)) r (some a)->K a.F h'):K (.func (.func (gJ f.k)) #[] (N.map pA).toArray) h':=
 t _ h' Q.g rfl rfl rfl (G.RR (lo:=λ_=>0) (hi:=λ_=>0) qB Q (λj s=>by simp at s) (λi j hi=>by simp at hi) (λj M A w q=>by simp at q) rfl (by rw[o];rfl) l.1 (λq=>ag) (λq=>ag) e (λq=>ag) (p _))
theorem aq0(a:f.k=1)(l:f.cs=[]):wZ f (cQ f []):=by
 intro T h v vs K s u H m;obtain⟨g,rfl,G⟩:=H;have p:bG f.k=pO:=by unfold bG;rw[aI a]
 have q:kV (.iface pO (bI g.b)) h K s:=by
  refine avR (aEn ?_);simp only[ob];refine yz G.B (cK _) λF h' gr vb=>?_;have d:=G.fr qB (bh gr) λ_ _ _=>id;refine m (.mk F (f.st vs) g.sb [] []) h' gr vb.1.1 vb.1.2 rfl ⟨g.mk' 0 h h' (λ_=>0) (λ_=>0),rfl,G.marked qB gr (λj e=>by simp at e) (λi j n=>by simp at n) (λj M A w q=>by simp at q) ⟨⟨F,F,⟨vb.2.mono λc q=>.inr ⟨q.1,q.2,λj e=>by simp at e⟩,Old.of d.B.o,d.B.len,d.B.nl,d.B.rl⟩,λq=>ag,λq=>ag,λ_=>rfl,λq=>absurd a q⟩,?_,⟨?_,by rw[l];rfl⟩,λq=>ag⟩⟩
  ·unfold eM;rw[ay,ay,ay,ay,dR];trivial
  ·have:=G.lk.2.2;exact jv.1 this
 rw[<-p]at q;exact q
theorem aqV(a:f.k=12\/f.k=13)(p:f.cs=[]):wZ f (cQ f []):=by
 intro T h v vs K E N H y;obtain⟨g,rfl,G⟩:=H;have C:bG f.k=pN:=by unfold bG;rw[ay,aI a]
 have D:gJ f.k=196:=by unfold gJ;rw[aI a]
 have o:∀e:Rb,cy f.k e=[(ints e.ends,Y6),(bv e.all,Y8)]:=λe=>by unfold cy;rw[aI a]
 obtain⟨l,j,d⟩:=C0 G.ls (o _);have x:l.n=(f.st vs).b.ends.length:=by have:=G.oy (i:=0) (s:=l) (by simp[d]) (by rw[o];rfl);rw[this,ints,cm]
 have u:j.n=(f.st vs).b.all.length:=by have:=G.oy (i:=1) (s:=j) (by simp[d]) (by rw[o];rfl);rw[this,fM]
 have q:kV (.iface pN (bI g.b)) h K E:=by
  refine avM (Oc.mk (eN:=l) (AX:=j) (λgr m=>G.Bj (i:=0) qB gr rfl (by simp[d]) m) (λgr m=>G.Bj (i:=1) qB gr rfl (by simp[d]) m) zY zZ (λgr z=>yz G.B gr z) λt O KF L I J u2 h' Q=>?_)
  have:=G.abt Q p ag (by unfold eM;rw[aI a];exact⟨jJ _,jJ _⟩) (λF=>?_) y
  ·rw[D]at this;exact this
  ·unfold jr;simp only;rw[aI a,x,u];rfl
 rw[<-C]at q;exact q
theorem aqZ(x:fH f.k=true)(u:f.cs=[]):wZ f (cQ f []):=by
 intro T h v vs K O X H I;obtain⟨g,rfl,G⟩:=H;obtain⟨D,R,P,j,m,l,a,e,d⟩:=zw x;have L:bG f.k=pK:=by unfold bG;rw[aC D,ay,aC j,aC m,aC l,aC a,aC e,aC d]
 have N:gJ f.k=248:=by unfold gJ;rw[ay,aC j,aC m,aC l,aC a,aC e,aC d]
 have y:∀p:Rb,cy f.k p=[(l9 p.dV,pP),(strs p.texts,rz)]:=λp=>by unfold cy;rw[ay,ay,aC a,ay]
 obtain⟨t,U,o⟩:=C0 G.ls (y _);have C:t.n=(f.st vs).b.dV.length:=by have:=G.oy (i:=0) (s:=t) (by simp[o]) (by rw[y];rfl);rw[this,l9,cm]
 have q:kV (.iface pK (bI g.b)) h K O:=by
  refine avQ (NQ.mk (eN:=t) (λgr E=>G.Bj (i:=0) qB gr rfl (by simp[o]) E) zY zZ (λgr J=>yz G.B gr J) λz Y KF W S V u2 h' Q=>?_)
  have:=G.abt Q u ag ?_ (λF=>?_) I
  ·rw[N]at this;exact this
  ·unfold eM;rw[ay,aC j,aC e,aC a,ay,aC d];refine⟨jJ _,jJ _,?_⟩;rw[fF];simp only[aK,x,gu,cm]
  ·unfold jr;simp only;rw[ay,aC j,ay,aC a,aC e,aC d,C];rfl
 rw[<-L]at q;exact q
theorem bR.J0{cs:List (Array Value)}{v KF:Value}{n d a u2:Nat}{K:de}{sp:bg}(G:bR f [M] T h r none g)(D:∀(j:Nat)o,[M][j]? =some o->gB o)(t:f.cs=[c])(E:g.KT[0]? =some A)(z:g.kv[0]? =some w)
  (Q:ua h h' N cs (sG f g.b g.sf g.sn g.sb r.b) (lM M A w (r.aL 0)) v KF n d a u2) (J:f.k=15\/f.k=16\/f.k=19\/f.k=20) (s:eM f.k r.b r.b) (p:f.k=20->iJ 20 g.X h' sp r.b)
  (u:∀F m,jr f.k g.b v KF (.mk F r g.sb [m] sp)=cs) (B:∀e h',az h h'->one e.F=true->e.F.cells=#[e.F]->e.r=r->cQ f [M] (Tr T h h') h' (.iface (bG f.k) (bI g.b)) r (some e)->K e.F h'):K (.func (.func (gJ f.k)) #[] (N.map pA).toArray) h':=by
 obtain⟨⟨_,m,rfl,H,I⟩,P,O⟩:=Q.k;refine B _ h' Q.g rfl rfl rfl (G.RR D Q (λ_ _=>⟨bP _,bP _⟩) (λi j hi C ne=>?_) (λj o R L l y x=>?_) rfl (by rw[t];rfl) ag (λ_=>⟨m,rfl,rfl⟩) (λq=>ag) s p (u _ m))
 ·simp only[jw]at hi C;omega
 ·rcases j with _|j
  ·simp at l;subst l;rw[E]at y;cases y;rw[z]at x;cases x;exact⟨m,rfl,H,I⟩
  ·simp at l
theorem th{KM:List cN}{m:fQ}(G:bR f KM T h r m g)(hl:KM.length=1):∃A w,g.KT[0]? =some A/\g.kv[0]? =some w/\g.kv=[w]:=by
 have lk:=G.lk;have e:g.KT.length=1:=by rw[lk.2.1,hl]
 have d:g.kv.length=1:=by rw[lk.1,hl]
 match j:g.KT,i:g.kv,e,d with
 |[a],[b],_,_=>exact⟨a,b,rfl,rfl,rfl⟩
theorem aq1(a:f.k=15)(j:f.cs=[c])(C:MC c M):wZ f (cQ f [M]):=by
 intro T h v vs K V P H O;obtain⟨g,rfl,G⟩:=H;have D:=ni C;have R:bG f.k=pM:=by unfold bG;rw[ay,ay,aI a]
 have U:gJ f.k=201:=by unfold gJ;rw[ay,aI a]
 have J:∀x:Rb,cy f.k x=[(ints x.ends,Y6)]:=λx=>by unfold cy;rw[ay,dR]
 obtain⟨u,e⟩:=rN G.ls (J _);obtain⟨A,w,E,z,W⟩:=th G rfl;have o:f.cs[0]? =some c:=by rw[j];rfl
 have N:u.n=(f.st vs).b.ends.length:=by have:=G.oy (i:=0) (s:=u) (by simp[e]) (by rw[J];rfl);rw[this,ints,cm]
 have aL:=G.aL 0 M A w rfl E z;have d:=mW o vs;have I:∀c,A c->c<h.size:=λc q=>G.t.l (bL (g.fC E)) q;have q:kV (.iface pM (bI g.b)) h K V:=by
  rw[d]at aL;refine avS (Oa.mk (eN:=u) (V2:=lM M A w ((f.st vs).aL 0)) (λgr y=>G.Bj (i:=0) D gr rfl (by simp[e]) y) (λgr y=>(G.fr D (bh gr) λ_ _ _=>id).lP (i:=1) rfl (.inl a) (by simp[e]) z y) zY zZ (λgr p=>yz G.B gr p) (lM.qj C.fr I) lM.one (λgr p=>?_) λL F0 KF Z X Y u2 h' Q=>?_)
  ·rw[d]at p;exact lM.call C (fy o P) aL gr p
  ·have:=G.J0 (sp:=[]) D j E z Q (.inl a) (by unfold eM;rw[ay,aI a];exact jJ _) (λq=>ag) (λF m=>?_) O
   ·rw[U]at this;exact this
   ·unfold jr;simp only;rw[ay,aI a,N];rfl
 rw[<-R]at q;exact q
theorem aqX(a:f.k=16)(e:f.cs=[c])(C:MC c M):wZ f (cQ f [M]):=by
 intro T h v vs K O I H E;obtain⟨g,rfl,G⟩:=H;have y:=ni C;have L:bG f.k=oK:=by unfold bG;rw[ay,ay,ay,aI a]
 have N:gJ f.k=206:=by unfold gJ;rw[ay,ay,aI a]
 have J:∀x:Rb,cy f.k x=[]:=λx=>by unfold cy;rw[ay,ay,ay,dR]
 have s:=Ph G.ls (J _);obtain⟨A,w,p,o,P⟩:=th G rfl;have j:f.cs[0]? =some c:=by rw[e];rfl
 have aL:=G.aL 0 M A w rfl p o;have d:=mW j vs;have u:∀c,A c->c<h.size:=λc q=>G.t.l (bL (g.fC p)) q;have q:kV (.iface oK (bI g.b)) h K O:=by
  rw[d]at aL;refine avO (N8.mk (V2:=lM M A w ((f.st vs).aL 0)) (λgr D=>(G.fr y (bh gr) λ_ _ _=>id).lP (i:=0) rfl (.inr (.inl a)) (by simp[s]) o D) zY zZ (λgr n=>yz G.B gr n) (lM.qj C.fr u) lM.one (λgr n=>?_) λz W KF V R U u2 h' Q=>?_)
  ·rw[d]at n;exact lM.call C (fy j I) aL gr n
  ·have:=G.J0 (sp:=[]) y e p o Q (.inr (.inl a)) (by unfold eM;rw[ay,ay,ay,ay,dR];trivial) (λq=>ag) (λF m=>?_) E
   ·rw[N]at this;exact this
   ·unfold jr;simp only;rw[ay,ay,dR]
 rw[<-L]at q;exact q
end
end
end Go.Proofs.YtmjochipbmgljaaGreatDoor
