import Derived.Test.YtmjifnioaoamfaaGreatDoorBuildsJ2
import Derived.Test.YtmjifnioaoamfaaGreatDoorBuildsShDeferH
import Derived.Test.YtmjifnioaoamfaaGreatDoorBuildsShMix
set_option linter.all false
set_option maxRecDepth 100000
set_option maxHeartbeats 1000000
namespace Go.Proofs.YtmjifnioaoamfaaGreatDoor
open Go Go.Sh Go.WideShapes
section
variable {f c:ak} {q c0:Addr} {k ix:Int} {b i j:Nat} {d:bH} {au B:Bool} {D T E A:aR} {t eM:Sl} {e el ty:TypeId} {C:bg} {h H:Hp} {Kp:PK} {a:eU} {cs:cN} {x':List Value×TypeId} {Z:Array Value} {N:cV}
theorem acI(n:bE f){vs:aQ}{i:Nat}{v:aD}(m:vs[i]? =some v):jB f.k (f.dn (f.st vs)).aZ i=dY f.k v:=by
 have ks:=n.ks
 by_cases j:f.k=1
 ·unfold jB dY;simp[j]
 by_cases b:f.k=18
 ·unfold jB dY mJ;simp[b]
 by_cases a:f.k=20
 ·unfold jB dY mJ;simp[a]
 refine Dd (by unfold mJ;simp[j,b,a]) ?_ m
 by_cases h:f.k=12\/f.k=13
 ·rw[vD h];rfl
 by_cases e:f.k=15
 ·rw[I1 e];rfl
 by_cases d:f.k=16\/f.k=17
 ·rw[Bu d];rfl
 by_cases c:f.k=19
 ·rw[I0 c];rfl
 by_cases l:f.k=2
 ·rw[Bt l];rfl
 by_cases g:f.k=14
 ·rw[Bv g];rfl
 rw[zB ag];rfl
theorem atT{p:Nat->Bool}{q:aD->Bool}:∀{vs:aQ},(∀i v,vs[i]? =some v->p i=q v)->(List.range vs.length).countP p=vs.countP q
  | vs,h=>by
    have e:(List.range vs.length).map p=vs.map q:=by
      refine si λi=>?_;rw[fy,fy]
      by_cases a:i<vs.length
      ·simp[*]
      ·simp[*]
    have b:∀{α:Type}(p:α->Bool)(l:List α),l.countP p=(l.map p).countP id:=aC
    simp[*]
theorem anT(g:bE f){vs:aQ}(m:f.can vs):JT f.au f.k (f.dn (f.st vs)):=by
 have e:uk f.k (f.dn (f.st vs)).aZ (f.dn (f.st vs)).off.toNat (f.dn (f.st vs)).len.toNat=vs.countP (dY f.k):=by
  rw[zA,xz];unfold uk;exact atT λi v l=>by simp_all[bX,acI]
 refine⟨by rw[e,XM],λa=>?_⟩
 rw[e]at a;obtain⟨v,j,d⟩:=List.countP_pos_iff.1 a
 by_cases h:f.k=1
 ·exact g.right.2.1.1 h
 ·have c:f.k≠18/\f.k≠20:=by constructor <;> (grind[dY])
  rw[sH h c.1 c.2]at d;have b:=((gh f vs).1 m).fit v j;rw[eG]at b;grind[ku,sJ]
theorem aiR{vs:aQ}:(dF (aM k vs)).length=0\/(dF (aM k vs)).length=(vs.length+7)/8:=by
 unfold dF;split
 ·simp
 ·refine .inr ?_
  show(qD _).length=_
  rw[UU,cC]
theorem aaR(g:aD->Nat)(vs:aQ):(laidB (jR g vs) 4).length=(vs.length+1)*4:=by rw[Ir,Dh]
theorem anL(h:fE k=true)(vs:aQ):(aM k vs).dQ=vs.map (λv=>(v.num%2^64).toNat)/\(aM k vs).texts=vs.map aD.text:=by simp[aM,h]
theorem Ny{w:Int}{n:Nat}(a:k≠18)(h:b=0\/b=(n+7)/8):jo k w ix 0 n b<=b:=by
 unfold jo;grind
theorem ak8(G:bE f){vs:aQ}(S:f.can vs):((f.dn (f.st vs)).aZ.length:Int)=kO f.k/\(∀j,j<(f.dn (f.st vs)).aZ.length->(dG (f.dn (f.st vs)).aZ j).length<=65536)/\
    ∀j,j<(f.dn (f.st vs)).aZ.length->jo f.k f.w f.ix j vs.length (dG (f.dn (f.st vs)).aZ j).length<=(dG (f.dn (f.st vs)).aZ j).length:=by
  have I:=(gh f vs).1 S;have Q:=I.n4;have ks:=G.ks;have C:=aiR (k:=f.k) (vs:=vs);have two:∀{a b:dw}{P:aR},(∀j,j<[a,b].length->P j)↔P 0/\P 1:=λ{a b P}=>⟨λh=>⟨h 0 aC,h 1 aC⟩,λh j d=>by
    match j,d with
    |0,_=>exact h.1
    |1,_=>exact h.2⟩
  by_cases D:f.k=1
  ·rw[I2 D];exact⟨by rw[D];rfl,λj d=>by simp[bH.aZ]at d,λj d=>by simp[bH.aZ]at d⟩
  by_cases o:f.k=20
  ·rw[Oy o];exact⟨by rw[o];rfl,λj d=>by simp[bH.aZ]at d,λj d=>by simp[bH.aZ]at d⟩
  by_cases p:f.k=16\/f.k=17
  · rw[Bu p];refine⟨by rcases p with q|q <;> rw[q] <;> rfl,λj d=>?_,λj d=>?_⟩
    · have:j=0:=by simp[bH.aZ]at d;exact d
      subst this
      show(dF (aM f.k vs)).length<=_;omega
    · have:j=0:=by simp[bH.aZ]at d;exact d
      subst this
      show jo f.k f.w f.ix 0 vs.length (dF (aM f.k vs)).length<=(dF (aM f.k vs)).length
      exact Ny ag C
  by_cases g:f.k=12\/f.k=13
  · have s:(aM f.k vs).ends=jR (λv=>v.text.length) vs:=by simp[aM,g]
    have H:(aM f.k vs).all=vs.flatMap aD.text:=by simp[aM,g]
    have J:=I.tx g;rw[vD g,s,H];have F:=aaR (λv=>v.text.length) vs;refine⟨by rcases g with q|q <;> rw[q] <;> rfl,λj d=>?_,λj d=>?_⟩
    · match j,d with
      |0,_=>show(dF (aM f.k vs)).length<=_;omega
      |1,_=>show(laidB _ 4).length<=_;omega
      |2,_=>exact J
    · match j,d with
      |0,_=>exact Ny ag C
      | 1,_=>
        show jo f.k f.w f.ix 1 vs.length (laidB _ 4).length<=(laidB (jR (λv=>v.text.length) vs) 4).length
        unfold jo;rw[aA,aA,aA,dU];omega
      |2,_=>unfold jo;rw[aA,aI (.inr rfl)];exact eH _
  by_cases m:f.k=15
  · have s:(aM f.k vs).ends=jR (λv=>v.items.length) vs:=by simp[aM,m]
    rw[I1 m,s];have F:=aaR (λv=>v.items.length) vs;refine⟨by rw[m];rfl,two.2 ⟨?_,?_⟩,two.2 ⟨?_,?_⟩⟩
    ·show(dF (aM f.k vs)).length<=_;omega
    ·show(laidB _ 4).length<=_;omega
    · show jo f.k f.w f.ix 0 vs.length (dF (aM f.k vs)).length<=(dF (aM f.k vs)).length
      exact Ny ag C
    · show jo f.k f.w f.ix 1 vs.length (laidB _ 4).length<=(laidB (jR (λv=>v.items.length) vs) 4).length
      unfold jo;rw[aA,aA,aA,dU];omega
  by_cases c:f.k=18
  · have H:(aM f.k vs).all=vs.map λv=>UInt8.ofNat (fG v):=by simp[aM,c]
    have s:(aM f.k vs).ends.length=vs.length:=by simp[aM,c]
    rw[Oz c];have F:=Ir (aM f.k vs).ends 4;rw[s]at F;have Y:(aM f.k vs).all.length=vs.length:=by rw[H,cC]
    refine⟨by rw[c];rfl,two.2 ⟨?_,?_⟩,two.2 ⟨?_,?_⟩⟩
    ·show(aM f.k vs).all.length<=_;omega
    ·show(laidB _ 4).length<=_;omega
    · show jo f.k f.w f.ix 0 vs.length (aM f.k vs).all.length<=(aM f.k vs).all.length
      unfold jo;rw[aI c];omega
    · show jo f.k f.w f.ix 1 vs.length (laidB _ 4).length<=(laidB (aM f.k vs).ends 4).length
      unfold jo;rw[aI c];omega
  -- L with a z X one E more
  have i:∀(b:dw)(W:Nat),b.length<=65536->(f.k=2->b.length=(vs.length+7)/8)->(f.k≠2->W=(mW f.k f.w f.ix).toNat/\b.length=vs.length*W)->
      (([dF (aM f.k vs),b].length:Nat):Int)=kO f.k/\(∀j,j<[dF (aM f.k vs),b].length->(dG [dF (aM f.k vs),b] j).length<=65536)/\∀j,j<[dF (aM f.k vs),b].length->jo f.k f.w f.ix j vs.length (dG [dF (aM f.k vs),b] j).length<=(dG [dF (aM f.k vs),b] j).length:=by
    intro b W T U K;refine⟨by unfold kO;simp[*],two.2 ⟨?_,T⟩,two.2 ⟨?_,?_⟩⟩
    ·show(dF (aM f.k vs)).length<=_;omega
    · show jo f.k f.w f.ix 0 vs.length (dF (aM f.k vs)).length<=(dF (aM f.k vs)).length
      exact Ny c C
    · show jo f.k f.w f.ix 1 vs.length b.length<=b.length
      unfold jo;rw[aE c,aA]
      by_cases r:f.k=2
      all_goals simp_all
  by_cases e:f.k=19
  · have s:(aM f.k vs).ends.length=vs.length:=by simp[aM,e]
    have V:=G.right.1.2.2.2.2.2.1 e;obtain⟨e1,A,_⟩:=Da (k:=f.ix) ag;rw[I0 e];have l:=Ir (aM f.k vs).ends (wB f.ix);rw[s]at l;refine i _ (wB f.ix) ?_ (λq=>ag) λ_=>⟨?_,l⟩
    ·rw[l];rcases A with q|q|q|q <;> rw[q] <;> omega
    ·unfold mW;omega
  have O:fE f.k=true:=by
    simp only[not_or]at g p;simp[fE,D,g,m,p,c,e,o]
  obtain⟨y,N⟩:=anL O vs
  by_cases r:f.k=2
  ·rw[Bt r];have l:=af8 (aM f.k vs).dQ;rw[y,cC]at l;refine i _ 0 (by rw[y,l];omega) (λ_=>by rw[y];exact l) λq=>absurd r q
  by_cases n:f.k=14
  · rw[Bv n];have Z:=G.right.1.2.2.1 n;have l:(mb f.w.toNat (aM f.k vs).texts).length=vs.length*f.w.toNat:=by
      rw[Oa,N,cC];intro t M;rw[N]at M;obtain⟨u,R,rfl⟩:=kZ.1 M;have x:=I.fit u R;cases B:u.au with
      |true=>rw[eG]at x;rw[(ku x B).1];exact .inl rfl
      |false=>exact .inr (((Ed ⟨D,m,ag,ag,c,e,o⟩ x B).2.1 ag).2.2 n)
    refine i _ f.w.toNat ?_ (λq=>ag) λ_=>⟨by unfold mW;omega,l⟩
    rw[l];have:vs.length*f.w.toNat<=4096*16:=sX Q ag;omega
  rw[zB ag];obtain⟨e1,A,_⟩:=Da (k:=f.k) ag;have l:=Ir (aM f.k vs).dQ (wB f.k);rw[y,cC]at l;refine i _ (wB f.k) ?_ (λq=>absurd q r) λ_=>⟨by unfold mW;omega,by rw[y];exact l⟩
  rw[y,l];rcases A with q|q|q|q <;> rw[q] <;> omega
abbrev awj(c:ak):Prop:=∀us,c.can us->c.arr (c.dn (c.st us))
theorem ait(c:bE f){vs:aQ}(d:f.can vs):AE f.val (f.dn (f.st vs))=vs.map aD.bw:=by
 unfold AE;rw[xz]
 show(List.range vs.length).map _=_
 refine Nf aC λi x a=>?_;grind[Option.map_eq_some_iff,BL,ac1]
theorem avn(b:bE f){vs:aQ}(d:f.can vs)(o:(f.dn (f.st vs)).cs.length=rL f.k f.cs)(n:(f.dn (f.st vs)).ds.length=ug f.k)
  (r:∀(j:Nat)(c:bH),(f.dn (f.st vs)).cs[j]? =some c->(f.k=16->(vs.length:Int)*f.w<=c.len)/\(f.k=17->(vs.length:Int)<=c.len)) (h:ZA f.k f.ix (f.dn (f.st vs)))
  (m:∀(j:Nat)(c:bH),(wV (f.dn (f.st vs)))[j]? =some c->∃g,(rC f.k f.cs)[j]? =some g/\g.arr c) (p:f.k=20->ahp (f.dn (f.st vs))):f.arr (f.dn (f.st vs)):=by
 have e:=(gh f vs).1 d;have u:=e.n4;obtain⟨t,b2,s⟩:=ak8 b d;have q:((f.dn (f.st vs)).off+(f.dn (f.st vs)).len).toNat=vs.length:=by rw[zA,xz];omega
 rw[ak.Yn];refine⟨⟨b.ty,t,o,n,by rw[xz];omega,by rw[zA];omega,by rw[XM];omega,?_,by rw[xz];omega,by rw[zA];omega,ag,b2,λj a=>dH,λj c a=>?_,anT b d⟩,h,λj c a=>?_,p,?_⟩
 ·rw[XM,xz];grind
 ·rw[zA,xz];grind
 ·obtain⟨g,i,l⟩:=m j c a;simp[*]
 ·have:=ait b d;rw[vL]at this;rw[this,Wv];exact e.wt
theorem amc(h:¬(k=12\/k=13\/k=15\/k=18\/k=19)):ZA k ix d:=⟨λq=>absurd q ag,λq=>absurd q ag,λq=>absurd q ag⟩
theorem Nu{g:aD->Nat}{vs:aQ}(b:d.off=0)(e:dG d.aZ 1=laidB (jR g vs) 4)(a:(vs.map g).sum<2^31){i:Nat}(c:i<=vs.length):tS d i=((vs.take i).map g).sum:=by
 simp_all[tS,bX,aaS]
theorem anH{g:aD->Nat}{vs:aQ}(b:d.off=0)(hl:d.len=vs.length)(h:dG d.aZ 1=laidB (jR g vs) 4)(f:(vs.map g).sum<2^31)(p:U7 k d=(vs.map g).sum)
  (o:k=12->∀(i:Nat)v,vs[i]? =some v->jB k d.aZ i=false->iC (((dG d.aZ 2).drop (((vs.take i).map g).sum)).take (g v))=true):ahc k d:=by
 refine⟨λi m=>?_,λe i m n=>?_⟩
 ·have a:i<=vs.length:=by rw[hl]at m;omega
  rw[Nu b h f a,p];refine⟨ag,by have:=MO g vs i;omega,λj q=>?_⟩
  subst q;rw[Nu b h f ag];have c:=bL (l:=vs) (i:=j) ag;rw[Hv g c];omega
 ·have a:i<vs.length:=by rw[hl]at m;omega
  have c:=bL a;rw[b]at n;have:=o e i _ c (by simpa using n)
  rw[Nu b h f ag,Nu b h f ag,Hv g c];have e1:((((vs.take i).map g).sum+g vs[i]:Nat):Int).toNat-((((vs.take i).map g).sum:Nat):Int).toNat=g vs[i]:=ag;rw[e1];exact this
theorem avo(s:bE f)(C:f.k≠15/\f.k≠16/\f.k≠17/\f.k≠18/\f.k≠19/\f.k≠20):awj f:=by
 intro vs y;have A:=(gh f vs).1 y;obtain⟨l,p,o,h,d,b⟩:=C;have ks:=s.ks;have r:=jw.1 (s.right.1.2.2.2.2.2.2.2.2.2.2 ⟨l,p,d,b,o,h⟩);have n:(f.dn (f.st vs)).cs=[]/\(f.dn (f.st vs)).ds=[]:=by
  by_cases B:f.k=1
  ·rw[I2 B];exact⟨rfl,rfl⟩
  by_cases a:f.k=12\/f.k=13
  ·rw[vD a];exact⟨rfl,rfl⟩
  by_cases E:f.k=2
  ·rw[Bt E];exact⟨rfl,rfl⟩
  by_cases w:f.k=14
  ·rw[Bv w];exact⟨rfl,rfl⟩
  rw[zB ag];exact⟨rfl,rfl⟩
 refine avn s y ?_ ?_ (λj c m=>ag) ?_ (λj c m=>by unfold wV at m;grind) (λq=>absurd q b)
 ·rw[n.1,r];unfold rL;simp[*]
 ·rw[n.2];unfold ug;simp[*]
 ·by_cases a:f.k=12\/f.k=13
  ·have u:=A.tx a;have D:(aM f.k vs).ends=jR (λv=>v.text.length) vs:=by simp[aM,a]
   have z:(aM f.k vs).all=vs.flatMap aD.text:=by simp[aM,a]
   refine⟨λ_=>?_,λq=>absurd q ag,λq=>absurd q ag⟩;refine anH (zA f _) (xz f vs) (by rw[vD a,D];rfl) (by rw[BX]at u;omega) ?_ λe i v t x=>?_
   ·unfold U7;rw[aE l,vD a,z]
    show((vs.flatMap aD.text).length:Int)=_
    simp
   ·rw[acI s t,sH ag h b]at x;rw[vD a,z]
    show iC (((vs.flatMap aD.text).drop _).take v.text.length)=true
    rw[N9 aD.text t];exact((Ed ⟨ag,l,p,o,h,d,b⟩ (A.fit v (bS t)) x).2.1 ag).2.1 e
  ·exact amc ag
def cj(f:ak)(sf sn sb:Sl)(rows cz bF:Nat)(ex:bg):List Value:=
 .string f.name::.bool f.au::ah f.k::ah f.w::ah f.id::ah f.ix::Sl.v sf::ah rows::ah cz::Sl.v sb::ah bF::
 .bool f.cm.au::ah f.cm.num::.string (bs f.cm.text)::Sl.v sn::.bool f.small::ex
structure mD(T:aR)(h:Hp)(b:Nat)(ty:TypeId)(f:ak)(sf sn sb:Sl)(r:Rb)(ex:bg):Prop where
 k:aO h b (cj f sf sn sb r.rows r.cz r.bF ex).toArray ty
 o:Os T h sb (bv r.bits) Y8
 nT:¬T b
 len:r.bits.length=(r.rows+7)/8
 nl:r.cz<=r.rows
 rl:r.rows<=4096
section
variable {S:aR} {h':Hp} {sf sn sb:Sl} {r:Rb} {ex:bg}
theorem mD.lt(B:mD T h b ty f sf sn sb r ex):b<h.size:=B.k.lt
theorem mD.fr(B:mD T h b ty f sf sn sb r ex)(t:Tn S h h')(G:¬S b)(z:∀c,T c->c<h.size->¬S c):mD T h' b ty f sf sn sb r ex:=
 ⟨t.bq B.k G,B.o.fr t z,B.nT,B.len,B.nl,B.rl⟩
theorem Yj(x y:Nat)(c:x<2^8)(a:y<2^8):gu .or .u8 (x:Int) (y:Int)=((x|||y:Nat):Int):=by
 have e:(BitVec.ofInt 8 (x:Int)|||BitVec.ofInt 8 (y:Int)).toNat=x|||y:=by
  rw[BitVec.toNat_or,EF,EF,vQ,vQ,uv c,uv a]
 show IntKind.u8.wrap ((BitVec.ofInt 8 (x:Int)|||BitVec.ofInt 8 (y:Int)).toNat:Int)=_
 rw[e];simp only[IntKind.wrap,IntKind.signed,IntKind.bits];simp;omega
end
section
variable {sf sn sb qB:Sl} {n u w m:Nat} {ex:bg} {K:HP}
theorem BV.st7(k:aO h b (cj f sf sn sb n u w ex).toArray ty)(c:∀h',eJ b h h'->aO h' b (cj f sf sn sb m u w ex).toArray ty->K h'):St h ⟨b,7,none⟩ (ah (m:Int)) K:=
 dN k (by simp[cj]) rfl λh' o a=>c h' o (by simpa[cj]using a)
theorem BV.st8(k:aO h b (cj f sf sn sb n u w ex).toArray ty)(c:∀h',eJ b h h'->aO h' b (cj f sf sn sb n m w ex).toArray ty->K h'):St h ⟨b,8,none⟩ (ah (m:Int)) K:=
 dN k (by simp[cj]) rfl λh' o a=>c h' o (by simpa[cj]using a)
theorem BV.st9(k:aO h b (cj f sf sn sb n u w ex).toArray ty)(c:∀h',eJ b h h'->aO h' b (cj f sf sn qB n u w ex).toArray ty->K h'):St h ⟨b,9,none⟩ (Sl.v qB) K:=
 dN k (by simp[cj]) rfl λh' o a=>c h' o (by simpa[cj]using a)
theorem BV.akF(k:aO h b (cj f sf sn sb n u w ex).toArray ty)(c:∀h',eJ b h h'->aO h' b (cj f sf sn sb n u m ex).toArray ty->K h'):St h ⟨b,10,none⟩ (ah (m:Int)) K:=
 dN k (by simp[cj]) rfl λh' o a=>c h' o (by simpa[cj]using a)
theorem BV.ld7{K:Int->Prop}(k:aO h b (cj f sf sn sb n u w ex).toArray ty)(a:K (n:Int)):Ld h ⟨b,7,none⟩ mI K:=aj k (by simp[cj]) a
abbrev vK:=@BV.ld7
theorem BV.WI{K:Int->Prop}(k:aO h b (cj f sf sn sb n u w ex).toArray ty)(a:K (u:Int)):Ld h ⟨b,8,none⟩ mI K:=aj k (by simp[cj]) a
theorem BV.ld9{K:Sl->Prop}(k:aO h b (cj f sf sn sb n u w ex).toArray ty)(a:K sb):Ld h ⟨b,9,none⟩ Sl.v K:=aj k (by simp[cj]) a
abbrev xR:=@BV.ld9
theorem BV.WK{K:Int->Prop}(k:aO h b (cj f sf sn sb n u w ex).toArray ty)(a:K (w:Int)):Ld h ⟨b,10,none⟩ mI K:=aj k (by simp[cj]) a
end
section
variable {S:aR} {h':Hp} {sf sn sb:Sl} {r:Rb} {ex:bg}
theorem abz{n u w:Nat}{K:cL}(k:aO h b (cj f sf sn sb n u w ex).toArray ty)(c:n<4096)(a:∀h',eJ b h h'->aO h' b (cj f sf sn sb (n+1) u w ex).toArray ty->K 0 h'):Ff K Kp (bD b) h:=by
 apply Ff.of;refine bO ?_;exact vK k (aY ag ag (BV.st7 k a))
theorem abA{n u w:Nat}{bits:dw}{K:cL}(k:aO h b (cj f sf sn sb n u w ex).toArray ty)(o:Os T h sb (bv bits) Y8)(nT:¬T b)(hl:bits.length=n/8+1)(hn:n<4096)(hu:u<=n)
  (hk:∀h',Tn (λc=>c=b\/T c) h h'->aO h' b (cj f sf sn sb (n+1) (if au then u+1 else u) w ex).toArray ty->Os T h' sb (bv (if au then bits else oZ bits n)) Y8->
   (∀{s0:Sl}{l0:bg},Old T h sb s0 l0 Y8->Old T h' sb s0 l0 Y8)->K 0 h'):Fg K Kp (bD b) au h:=by
 refine Fg.of (aK (λc=>?_) λc=>?_)
 ·subst c;refine bO ?_;refine BV.WI k (aY ag ag (BV.st8 k λh1 o1 k1=>abz k1 hn λh2 o2 k2=>?_));have t:=o1.fr.trans o2.fr;exact hk h2 (t.mono λd hd _=>.inl hd) k2 (o.fr t λc q _ e=>nT (e▸q)) λq=>q.fr t λc q _ e=>nT (e▸q)
 ·subst c;refine bO ?_;have e1:Int.tdiv (n:Int) 8=((n/8:Nat):Int):=rfl;have e2:Int.tmod (n:Int) 8=((n%8:Nat):Int):=rfl;have Ud:sb.n=n/8+1:=by rw[o.n,fH,hl]
  obtain⟨bb,tb,ow⟩:∃bb,T bb/\gR h sb bb (bv bits) Y8:=by
   rcases o with⟨rfl,_⟩|q
   ·simp[Sl.nil]at Ud
   ·exact q
  have hb:=(bits.getD (n/8) 0).toNat_lt;have hp:2^(n%8)<2^8:=Pm bh (ym _ bh);have hg:bits[n/8]? =some (bits.getD (n/8) 0):=by rw[gB];simp[hl]
  refine xR k (vK k (oT bh ?_));rw[e1];refine aY ag ag (ow.vr ag ag (ow.ld (x:=((bits.getD (n/8) 0).toNat:Int)) ag (by grind[bv]) ?_))
  refine vK k (oT bh ?_);rw[e2];refine yx (js ag ?_);have em:min (Int.toNat ((n%8:Nat):Int)) (IntKind.bits .u8)=n%8:=by
   rw[gj];have:=ym n (show 8>0 by decide);show min (n%8) 8=_;omega
  rw[em];have es:(1:Int)*2^(n%8)=((2^(n%8):Nat):Int):=by rw[Int.one_mul];norm_cast
  rw[es];refine pO rfl hp (yx ?_);rw[Yj _ _ hb hp];apply ow.vr ag ag;have ei:(((n/8:Nat):Int)).toNat=n/8:=ag;have fR:=Jy hb hp;refine Os.M0 (.inr ⟨bb,tb,ow⟩) ag ⟨bb,ow.1,by rw[ei,Ud];simp⟩ rfl λh1 t1 o1 q1=>abz (t1.bq k nT) hn λh2 o2 k2=>?_
  have t2:=o2.fr;refine hk h2 ((t1.mono λd hd _=>.inr hd).trans (t2.mono λd hd _=>.inl hd)) k2 ?_ λq=>(q1 q).fr t2 λc q _ e=>nT (e▸q);have e3:(bv bits).set (sb.n-1) (.int .u8 (((bits.getD (n/8) 0).toNat|||2^(n%8):Nat):Int))=bv (oZ bits n):=by
   rw[Ud,Nat.add_sub_cancel];simp only[bv,oZ,Pt];rw[sW,uv fR]
  rw[e3]at o1;exact o1.fr t2 λc q _ e=>nT (e▸q)
theorem amf{K:cL}(B:mD T h b ty f sf sn sb r ex)(hT:∀c,T c->c<h.size)(p:4096<=r.rows->K 3 h)
  (H:r.rows<4096->∀qB h',Tn (λc=>c=b\/T c) h h'->mD (Or T h) h' b ty f sf sn qB (Rb.row au r) ex->(∀{F:Sl}{G:bg},Old T h sb F G Y8->Old (Or T h) h' qB F G Y8)->K 0 h'):
  nx (bD b) au h K Kp:=by
 have bl:=B.lt;have hl:=B.len;have nl:=B.nl;apply nx.of;refine bO ?_;refine vK B.k (aK (λc=>p ?_) λc=>?_)
 ·have c:=aU c;omega
 ·have c:=aU c;have s:r.rows<4096:=ag;refine vK B.k (oT bh ?_);rw[show Int.tmod (r.rows:Int) 8=((r.rows%8:Nat):Int)from rfl];refine yx (aK (λl=>?_) λl=>?_)
  ·have l:=aU l;have j:r.rows%8=0:=ag;have U:sb.n=r.rows/8:=by rw[B.o.n,fH,hl];omega
   refine xR B.k (aJ λW J e1 a Q _=>(B.o.gr a).ap rfl rfl (jn Q rfl) ag ag λE R D O L=>?_);have g:¬Or T J b:=λq=>q.elim B.nT λq=>by have:=a.1;omega
   refine BV.st9 (D.bq (B.k.ai a) B.nT) λI N P=>?_;have v:=N.fr;have C:Os (Or T J) I E (bv (r.bits++[0])) Y8:=by
    rw[um];exact O.fr v λc q _ e=>g (e▸q)
   refine abA P C g (by simp[hl];omega) s nl λA t z y x=>H s E A ?_ ⟨?_,?_,?_,?_,?_,?_⟩ λq=>?_
   ·refine((bx a).trans (D.mono λd i _=>.inr i)).trans' ((v.mono λd i _=>.inl i).trans t) λd i V=>?_;rcases i with q|q|q
    ·exact .inl q
    ·exact .inr q
    ·have:=a.1;omega
   ·simp only[Rb.row];exact z
   ·simp only[Rb.row,aI j];exact y.mono λc q=>q.imp id λq=>by have:=a.1;omega
   ·exact λq=>q.elim B.nT λq=>ag
   ·simp only[Rb.row,aI j];grind[Dn]
   ·simp only[Rb.row];split <;> omega
   ·show r.rows+1<=4096;omega
   ·have M:=L (q.fr (bx a) λ_ _ _=>id);exact(x (M.fr v λc q _ e=>g (e▸q))).mono λc q=>q.imp id λq=>by have:=a.1;omega
  ·have l:=aU l;have j:¬r.rows%8=0:=ag;refine abA B.k B.o B.nT ag s nl λA t z y x=>H s sb A t ⟨?_,?_,?_,?_,?_,?_⟩ λq=>(x q).mono λc q=>.inl q
   ·simp only[Rb.row];exact z
   ·simp only[Rb.row,aE j];exact y.mono λc q=>.inl q
   ·exact λq=>q.elim B.nT λq=>ag
   ·simp only[Rb.row,aE j];grind[Dn]
   ·simp only[Rb.row];split <;> omega
   ·show r.rows+1<=4096;omega
theorem aiG{x:Int}{n:Nat}{K:cL}(B:mD T h b ty f sf sn sb r ex)(i:x=n)(a:r.bF+n<2^62)
  (j:∀h',eJ b h h'->mD T h' b ty f sf sn sb {r with bF:=r.bF+n} ex->K (if 4194304<r.bF+n then 3 else 0) h'):mA (bD b) x h K Kp:=by
 subst i;apply mA.of;refine bO ?_;refine BV.WK B.k (aY ag ag (BV.akF B.k λa d g=>BV.WK g ?_));have l:mD T a b ty f sf sn sb {r with bF:=r.bF+n} ex:=⟨g,B.o.fr d.fr λc q _ e=>B.nT (e▸q),B.nT,B.len,B.nl,B.rl⟩
 have:=j a d l;refine cE (λc=>?_) λc=>?_
 ·grind
 ·grind
theorem au6{K:cL}(B:mD T h b ty f sf sn sb r ex)(a:K (r.rows:Int) h):Tb (bD b) h K Kp:=by
 apply Tb.of;refine bO ?_;exact vK B.k a
theorem auR{K:cL}(B:mD T h b ty f sf sn sb r ex)(a:K (r.bF:Int) h):SZ (bD b) h K Kp:=by
 apply SZ.of;refine bO ?_;exact BV.WK B.k a
end
section
variable {sf sn sb qB:Sl} {n u w n' u' w':Nat} {ex:bg}
theorem BV.all{K:ByteArray->Bool->Int->Int->Int->Int->Sl->Int->Int->Sl->Int->Bool->Int->ByteArray->Sl->Bool->Prop}(k:aO h b (cj f sf sn sb n u w ex).toArray ty)
  (a:K f.name f.au f.k f.w f.id f.ix sf n u sb w f.cm.au f.cm.num (bs f.cm.text) sn f.small):oa h (aF b) K:=by
 unfold oa;simp only[bz,bX];refine aj k (by simp[cj]) (aj k (by simp[cj]) (aj k (by simp[cj]) (aj k (by simp[cj]) (aj k (by simp[cj]) (aj k (by simp[cj]) (aj k (by simp[cj]) (aj k (by simp[cj]) (aj k (by simp[cj]) (aj k (by simp[cj]) (aj k (by simp[cj]) (aj k (by simp[cj]) (aj k (by simp[cj]) (aj k (by simp[cj]) (aj k (by simp[cj]) (aj k (by simp[cj]) a)))))))))))))))
theorem BV.put{K:HP}(k:aO h b (cj f sf sn sb n u w ex).toArray ty)(g:∀h',eJ b h h'->aO h' b (cj f sf sn qB n' u' w' ex).toArray ty->K h'):
  qT h (aF b) f.name f.au f.k f.w f.id f.ix sf n' u' qB w' f.cm.au f.cm.num (bs f.cm.text) sn f.small K:=by
 refine qT.l (vZ _ k (by simp[cj]) (by simp[one,Sl.v]) λh' cs d c m a=>g h' d ?_)
 have:cs=(cj f sf sn qB n' u' w' ex).toArray:=by
  apply BS;intro i;rw[a i,r7,r7];have e:∀n u w sb,cj f sf sn sb n u w ex=cj f sf sn sb n u w []++ex:=λ_ _ _ _=>rfl;rw[e,e n' u' w' qB];have l:∀n u w sb,(cj f sf sn sb n u w []).length=16:=λ_ _ _ _=>rfl
  by_cases j:i<16
  ·rw[aI cy,iX dH]
   simp[cj]
  ·simp_all[aE,cy,gv]
 grind
end
structure qx(M:aR)(h:Hp)(b:Nat)(F:Value)(f:ak)(sf sn rm:Sl)(r0:Rb):Prop where
 m:∃b3 b1 b4 x,M b3/\M b1/\M b4/\F=.func (.func 188) #[] #[bB b3,bB b1,bB b4]/\
  aO h b3 (cj f sf sn rm r0.rows r0.cz r0.bF []).toArray PE/\aO h b1 #[bB b] agB/\aO h b4 #[.int .u8 x] Y8/\(0<rm.n->(bv r0.bits)[rm.n-1]? =some (.int .u8 x))
section
variable {M S:aR} {h':Hp} {sf sn sb rm:Sl} {r r0:Rb} {ex:bg} {F:Value}
theorem qx.fr(m:qx M h b F f sf sn rm r0)(t:Tn S h h')(z:∀c,M c->c<h.size->¬S c):qx M h' b F f sf sn rm r0:=by
 obtain⟨p,q,o,x,d,g,a,e,j,k,i,l⟩:=m;exact⟨p,q,o,x,d,g,a,e,t.bq j (z _ d j.lt),t.bq k (z _ g k.lt),t.bq i (z _ a i.lt),l⟩
theorem qx.mono(m:qx M h b F f sf sn rm r0)(j:∀c,M c->D c):qx D h b F f sf sn rm r0:=by
 obtain⟨k,l,i,x,d,g,a,e⟩:=m;exact⟨k,l,i,x,j _ d,j _ g,j _ a,e⟩
theorem aoq{K:de}(B:mD T h b ty f sf sn sb r ex)(I:∀F h',aB h h'->one F=true->qx (Nw h) h' b F f sf sn sb r->K F h'):qY (bD b) h K Kp:=by
 refine qY.of (aJ λj X e1 C z _=>aj z rfl ?_);have hl:=B.len;have rl:=B.rl;have Z:sb.n=r.bits.length:=by rw[B.o.n,fH]
 refine bO ?_;have Y:=B.fr (bx C) id λ_ _ _=>id;refine BV.all Y.k (aJ λi h2 e2 O p _=>qT.b p rfl λJ Q p=>aJ λg h4 e4 L U _=>dN U aC rfl λs P H=>?_);have a':=p.lt;have N:=bK O Q ag;have A:=bK L P ag;have G:=aq (aq C N) A;have a:=(z.ai N).ai A;have l:=p.ai A;have t:=B.fr (bx G) id λ_ _ _=>id;apply aj a rfl;refine bO ?_;have d:one (.func (.func 188) #[] #[(bB i),(bB j),(bB g)])=true:=rfl;refine xR t.k (aK (λc=>?_) λc=>?_)
 ·have c:=aU c;apply aj a rfl;refine bO ?_;refine xR t.k (aj a rfl ?_);refine bO ?_;refine xR t.k (aY ag ag ?_);obtain⟨D,tb,E⟩:∃D,T D/\gR s sb D (bv r.bits) Y8:=by
   rcases t.o with⟨e,_⟩|q
   ·rw[e]at c;simp[Sl.nil]at c
   ·exact q
  obtain⟨y,V⟩:∃y,r.bits[sb.n-1]? =some y:=⟨_,bL ag⟩;have m:(bv r.bits)[sb.n-1]? =some (.int .u8 (y.toNat:Int)):=by unfold bv;rw[fy,V];rfl
  refine E.vr ag ag (E.ld ag (by rw[<-m];simp) (dN H aC rfl λW v R=>I _ W (bK G v ag) d ⟨i,j,g,(y.toNat:Int),?_,?_,?_,rfl,v.bq l ag,v.bq a ag,by simpa using R,λ_=>m⟩))
  all_goals omega
 ·have c:=aU c;refine I _ s G d ⟨i,j,g,0,?_,?_,?_,rfl,l,a,by simpa using H,λq=>ag⟩
  all_goals omega
theorem auD{p:Addr}{K:HP}(H:SY c0 p q h K Kp):c8 aG (.func (.func 188) #[] #[cU c0,cU p,cU q]) [] h (λr a=>r=.tuple #[]/\K a) Kp:=by
 unfold c8;exact cast aX H
theorem avh{K:HP}(m:qx M h b F f sf sn rm r0)(k:aO h b (cj f sf sn sb r.rows r.cz r.bF ex).toArray ty)(o:Old T h sb rm (bv r0.bits) Y8)(s:¬T b)(B:∀c,M c->¬T c/\c≠b)
  (G:r0.bits.length=(r0.rows+7)/8) (V:r0.cz<=r0.rows) (U:r0.rows<=4096)
  (D:∀h',Tn (λc=>c=b\/T c) h h'->mD T h' b ty f sf sn rm r0 ex->K h'):c8 aG F [] h (λr G=>r=.tuple #[]/\K G) Kp:=by
 obtain⟨X,Y,W,x,R,J,I,rfl,N,C,L,O⟩:=m;refine auD (SY.of (aj C rfl (uq N ?_)));refine bO ?_;have Q:rm.n=r0.bits.length:=by
  rcases o.iS with⟨e,P⟩|⟨_,_,_,_,e,_⟩
  ·have:=sY List.length P;rw[fH]at this;rw[e,this];rfl
  ·rw[e,fH]
 refine BV.put k λi y j=>?_;have t:=y.fr;have g:=y.bq C (B _ J).2;have v:=o.fr t λc q _ e=>s (e▸q);apply aj g rfl;refine bO ?_;refine xR j (aK (λc=>?_) λc=>?_)
 ·have c:=aU c;apply aj g rfl;refine bO ?_;refine xR j (aj g rfl ?_);refine bO ?_;refine xR j (aY ag ag (aj (y.bq L (B _ I).2) rfl ?_));obtain⟨p,E⟩:∃p,rm.a=some (aF p):=by
   rcases v.iS with⟨e,_⟩|⟨p,_,_,e,_⟩
   all_goals grind
  unfold Ix;rw[E];refine⟨ag,ag,?_⟩
  rw[bz];refine v.back ag (O ag) ⟨p,E,?_⟩ rfl λz A H=>D z ((t.mono λd l _=>.inl l).trans (A.mono λd l _=>.inr l)) ⟨A.bq j s,H,s,ag,ag,ag⟩
  simp
 ·have c:=aU c;exact D i (t.mono λd l _=>.inl l) ⟨j,v.avi ag,s,ag,ag,ag⟩
end
section
variable {h0:Hp} {sf sn sb:Sl} {r:Rb} {ex:bg}
theorem ql{s:Sl}{K:Int->Int->Int->Sl->Sl->Sl->HP}(B:mD T h b ty f sf sn sb r ex)(j:∀a,aB h a->K r.rows 0 r.cz s Sl.nil Sl.nil a):gZ (bD b) s h K Kp:=by
 refine gZ.of (aJ λm l e1 c g _=>?_);refine bO ?_;have k:=B.k.ai c;refine vK k (BV.WI k (iH g rfl λi d e=>fB e (j i (bK c d ag))))
theorem Pb{s:Sl}{l:dw}{K:Sl->HP}(o:Os T h s (bv l) Y8)(hl:l.length<=70000)(i:∀u g,aB h g->eL (Nw h) g u (bv l)->K u g):Aq s h K Kp:=by
 refine Aq.of (aK (λc=>?_) λc=>?_)
 ·rcases o with⟨rfl,e⟩|⟨b,_,o⟩
  ·rw[e]at i;exact i Sl.nil h (cW h) ⟨xW h,λq=>absurd rfl q⟩
  ·rw[o.1]at c;cases c
 ·refine aJ λy x e1 p k _=>?_;have v:=(o.gr p).sv;have m:=v.1;rw[fH]at m;refine(fO.start k (cr y)).ap ag rfl (by simp[fH,m]) (acv _) (auS l) (by rw[Ww];exact v.AU v.na) cy cy λt g f _ w=>i t g ?_ (by subst e1;exact fO.lq w)
  exact((bx p:Tn No h x).trans' f λd j z=>by
   obtain⟨a,n,j⟩:=j;grind).ai
theorem vJ{K:Sl->HP}(B:mD T h b ty f sf sn sb r ex)(a:∀u d,aB h d->eL (Nw h) d u (bv (dF r))->K u d):qX (bD b) h K Kp:=by
 have hl:=B.len;have g:=B.rl;apply qX.of;refine bO ?_;refine BV.WI B.k (aK (λc=>?_) λc=>?_)
 ·have c:=aU c;have e:dF r=[]:=by unfold dF;rw[dU]
  rw[e]at a;exact a Sl.nil h (cW h) ⟨xW h,λq=>absurd rfl q⟩
 ·have c:=aU c;have e:dF r=r.bits:=by unfold dF;rw[aA]
  rw[e]at a;exact xR B.k (Pb B.o ag a)
structure Gb(h0 h:Hp)(t:Sl)(out:dw):Prop where
 g:aB h0 h
 o:fO h0.size 1 h t ((bv out).map λv=>[v]) Y8
theorem Gb.n{out:dw}(x:Gb h0 h t out):t.n=out.length:=by rw[x.o.n];simp[bv]
theorem Gb.xN{out:dw}{y:UInt8}{v:Int}{K:Sl->HP}(x:Gb h0 h t out)(q:v=y.toNat)(hl:out.length<=1000000)(s:∀e k,Gb h0 k e (out++[y])->K e k):
  aL h #[.int .u8 v] Y8 λa j=>Ap j Y8 #[(.int .u8 0)] 1 1 t 1 (rd j (some a) (1*1)) λe w=>K e w:=by
 subst q;have A:=x.n;have B:=x.g.1;refine aJ λC j e1 i p _=>(x.o.ai i).ap ag rfl (new:=[[.int .u8 (y.toNat:Int)]]) rfl (λr c=>bZ) (λr c=>by simp at c;subst c;simp[one]) (jn p rfl) ag ag λl k f _ m=>s l k ⟨?_,by simpa[bv]using m⟩
 exact((bx (aq x.g i):Tn No h0 j).trans' f λd u z=>by have:=((x.o.ai i).at u).1;omega).ai
theorem afW{x:Nat}{X:Int->Prop}(hi:i<8)(hk:X ((UInt8.ofNat (x/2^(8*i))).toNat:Int)):
  aP ((8:Int)*(i:Int)) λt27=>Nn t27<|Lt (Int.fdiv (x:Int) (2^(min (Int.toNat t27) (IntKind.bits .u64)))) λt28=>Wr .u8 t28 X:=by
 refine aY ag ag (js ag (yx ?_));have e1:min (Int.toNat ((8:Int)*(i:Int))) (IntKind.bits .u64)=8*i:=by
  have:Int.toNat ((8:Int)*(i:Int))=8*i:=ag;rw[this];show min (8*i) 64=_;omega
 rw[e1];have e2:Int.fdiv (x:Int) (2^(8*i))=((x/2^(8*i):Nat):Int):=by
  rw[EE _ (Jz (ED bh))];norm_cast
 grind[Cb,IntKind.wrap_u8,UInt8.toNat_ofNat']
theorem adf(x n:Nat):iT x (n+1)=iT x n++[UInt8.ofNat (x/2^(8*n))]:=by simp[iT,uu]
end
section
variable {h0:Hp}
theorem Gb.start{c:Int}{K:Sl->HP}(h0:0<=c)(f:c<=1000000)(d:∀t a,Gb h a t []->K t a):dO h Y8 #[(.int .u8 0)] 1 1 0 c K:=by
 refine⟨JH _,h0,ag,ag,d _ _ ⟨rW h _,λr b=>by simp[bv]at b,by simp[bv],.inr ⟨h.size,cr _,aC,rfl,by simp[bv],zs #[.int .u8 0] (c.toNat*1),by simp[aO],aC,by simp[zs],λi e=>by simp at e⟩⟩⟩
theorem Gb.lq{out:dw}(x:Gb h0 h t out):eL (Nw h0) h t (bv out):=fO.lq x.o
theorem adk{l:cV}{m n:Nat}(a:l[i]? =some m):laidB (l.take (i+1)) n=laidB (l.take i) n++iT m n:=by
 simp[laidB,Po,a]
theorem adl(l:cV)(n:Nat):(laidB l n).length=l.length*n:=by
 induction l with
 |nil=>simp[laidB]
 |cons x b a=>simp only[laidB,List.flatMap_cons,ij,iq]at a ⊢;rw[a,Bb,qP];omega
theorem xe{s:Sl}{l:cV}{w:Nat}{K:Sl->HP}(o:Os D h s (l.map λx:Nat=>ah (x:Int)) Y6)(hl:l.length<=70000)(A:w<=8)(C:∀x∈l,x<2^63)
  (G:∀t m,Gb h m t (laidB l w)->K t m):oQ s (w:Int) h K Kp:=by
 have E:=o.n;rw[cC]at E;have F:(w:Int)*(s.n:Int)=((w*s.n:Nat):Int):=by norm_cast
 have I:w*s.n<=8*70000:=sX A ag;apply oQ.of;rw[F];refine aY ag ag (Gb.start ag ag λM P a=>Qi.bC (λt x f=>∃i:Nat,x=i/\i<=l.length/\Gb h f t (laidB (l.take i) w)) (λ_ x _=>l.length-x.toNat) ⟨0,rfl,ag,by simpa[laidB]using a⟩ ?_)
 rintro t x f ⟨i,rfl,O,a⟩ R hN;refine cE (λc=>?_) λc=>?_
 ·have d:i<l.length:=ag;have j:=bL d;have r:=C _ (kE d);generalize l[i]=y at j r;obtain⟨p,L,z⟩:∃p,D p/\gR f s p (l.map λx:Nat=>ah (x:Int)) Y6:=by
   rcases o.gr a.g with⟨e,_⟩|q
   all_goals simp_all
  refine z.vr ag ag (z.ld ag (x:=(y:Int)) (by simp[j]) ?_)
  have H:(laidB (l.take i) w).length<=8*70000:=by rw[adl,mP];exact jH (sX (Nat.min_le_left _ _) A) ag
  apply Qh.bC (λt x B=>∃k:Nat,x=k/\k<=w/\Gb h B t (laidB (l.take i) w++iT y k)) (λ_ x _=>w-x.toNat) ⟨0,rfl,ag,by simpa[iT]using a⟩
  rintro t x B ⟨k,rfl,J,a⟩ Q u;refine cE (λb=>?_) λb=>?_
  ·refine pO rfl (by show y<2^64;omega) (afW ag (a.xN rfl (by rw[ij,Bb];omega) λN m v=>aY ag ag (u _ _ _ ⟨k+1,ag,ag,by grind[adf,List.append_assoc]⟩ ag)))
  ·obtain rfl:k=w:=ag;exact aY ag ag (hN _ _ _ ⟨i+1,ag,ag,by rw[adk j];exact a⟩ ag)
 ·obtain rfl:i=l.length:=ag;rw[mO]at a;exact G t f a
theorem apg{s:Sl}{l:cV}{w:Nat}{K:Sl->HP}(o:Os D h s (l.map λx:Nat=>.int .u64 (x:Int)) oK)(hl:l.length<=70000)(A:w<=8)(C:∀x∈l,x<2^64)
  (G:∀t m,Gb h m t (laidB l w)->K t m):KY s (w:Int) h K Kp:=by
 have E:=o.n;rw[cC]at E;have F:(w:Int)*(s.n:Int)=((w*s.n:Nat):Int):=by norm_cast
 have I:w*s.n<=8*70000:=sX A ag;apply KY.of;rw[F];refine aY ag ag (Gb.start ag ag λM P a=>P0.bC (λt x f=>∃i:Nat,x=i/\i<=l.length/\Gb h f t (laidB (l.take i) w)) (λ_ x _=>l.length-x.toNat) ⟨0,rfl,ag,by simpa[laidB]using a⟩ ?_)
 rintro t x f ⟨i,rfl,O,a⟩ R hN;refine cE (λc=>?_) λc=>?_
 ·have d:i<l.length:=ag;have j:=bL d;have r:=C _ (kE d);generalize l[i]=y at j r;obtain⟨p,L,z⟩:∃p,D p/\gR f s p (l.map λx:Nat=>.int .u64 (x:Int)) oK:=by
   rcases o.gr a.g with⟨e,_⟩|q
   all_goals simp_all
  refine z.vr ag ag (z.ld ag (x:=(y:Int)) (by simp[j]) ?_)
  have H:(laidB (l.take i) w).length<=8*70000:=by rw[adl,mP];exact jH (sX (Nat.min_le_left _ _) A) ag
  apply PY.bC (λt x B=>∃k:Nat,x=k/\k<=w/\Gb h B t (laidB (l.take i) w++iT y k)) (λ_ x _=>w-x.toNat) ⟨0,rfl,ag,by simpa[iT]using a⟩
  rintro t x B ⟨k,rfl,J,a⟩ Q u;refine cE (λb=>?_) λb=>?_
  ·refine afW ag (a.xN rfl (by rw[ij,Bb];omega) λN m v=>aY ag ag (u _ _ _ ⟨k+1,ag,ag,by grind[adf,List.append_assoc]⟩ ag))
  ·obtain rfl:k=w:=ag;exact aY ag ag (hN _ _ _ ⟨i+1,ag,ag,by rw[adk j];exact a⟩ ag)
 ·obtain rfl:i=l.length:=ag;rw[mO]at a;exact G t f a
end
abbrev mU(v:Value)(x0:Bool)(x1:Int)(x2:eU)(x3:Sl)(h:Hp)(K:cL)(Kp:PK):Prop:=
  fo aG v "colonnade/build.take" [.agg #[.bool x0,ah x1,.string x2,Sl.v x3]] h (λr h'=>∃t:Int,r=ah t/\K t h') Kp
abbrev mB(v:Value)(h:Hp)(K:cL)(Kp:PK):Prop:=fo aG v "colonnade/build.zero" [] h (λr h'=>∃t:Int,r=ah t/\K t h') Kp
abbrev kU(v:Value)(h:Hp)(K:de)(Kp:PK):Prop:=fo aG v "colonnade/build.mark" [] h (λr h'=>∃t:Value,r=t/\K t h') Kp
abbrev ahu(v:Value)(h:Hp)(K:cL)(Kp:PK):Prop:=fo aG v "colonnade/build.count" [] h (λr h'=>∃t:Int,r=ah t/\K t h') Kp
abbrev aht(v:Value)(h:Hp)(K:cL)(Kp:PK):Prop:=fo aG v "colonnade/build.weight" [] h (λr h'=>∃t:Int,r=ah t/\K t h') Kp
abbrev mC(v:Value)(h:Hp)(K:Int->Int->Int->Sl->Sl->Sl->HP)(Kp:PK):Prop:=
  fo aG v "colonnade/build.done" [] h (λr h'=>∃t0:Int,∃t1:Int,∃t2:Int,∃t3:Sl,∃t4:Sl,∃t5:Sl,r=.agg #[ah t0,ah t1,ah t2,Sl.v t3,Sl.v t4,Sl.v t5]/\K t0 t1 t2 t3 t4 t5 h') Kp
theorem gV{g:FuncId}{name:String}{v:Value}{K:de}(d:sI aG e name=some (g,true))(c:(Du aG e true&&jT aG g)=true)
  (a:dW aG g (v::C) h K Kp):fo aG (.iface e v) name C h K Kp:=by
 unfold fo;grind
theorem afa{g:FuncId}{name:String}{K:de}(f:sI aG e name=none)(d:DN aG e name=some (g,0))(c:jT aG g=true)
  (a:dW aG g (bB b::C) h K Kp):fo aG (.iface e (bB b)) name C h K Kp:=by
 unfold fo;simp only[f,d,c,Nj,bz,BP];exact a
section
theorem as6{x:Int}{s:Sl}{K:cL}(H:Gz (bD b) B x a s h K Kp):mU (.iface nZ (bB b)) B x a s h K Kp:=gV aX aX H
theorem asX{K:cL}(H:K9 (bD b) h K Kp):mB (.iface nZ (bB b)) h K Kp:=gV aX aX H
theorem atf{K:de}(H:S9 (bD b) h K Kp):kU (.iface nZ (bB b)) h K Kp:=gV aX aX H
theorem ato{K:Int->Int->Int->Sl->Sl->Sl->HP}(H:Ta (bD b) h K Kp):mC (.iface nZ (bB b)) h K Kp:=gV aX aX H
theorem as1{x:Int}{s:Sl}{K:cL}(H:Gy (bD b) B x a s h K Kp):mU (.iface nY (bB b)) B x a s h K Kp:=gV aX aX H
theorem asS{K:cL}(H:K8 (bD b) h K Kp):mB (.iface nY (bB b)) h K Kp:=gV aX aX H
theorem ata{K:de}(H:SW (bD b) h K Kp):kU (.iface nY (bB b)) h K Kp:=gV aX aX H
theorem atj{K:Int->Int->Int->Sl->Sl->Sl->HP}(H:SX (bD b) h K Kp):mC (.iface nY (bB b)) h K Kp:=gV aX aX H
theorem as7{x:Int}{s:Sl}{K:cL}(H:Gw (bD b) B x a s h K Kp):mU (.iface nW (bB b)) B x a s h K Kp:=gV aX aX H
theorem asY{K:cL}(H:K7 (bD b) h K Kp):mB (.iface nW (bB b)) h K Kp:=gV aX aX H
theorem atg{K:de}(H:SR (bD b) h K Kp):kU (.iface nW (bB b)) h K Kp:=gV aX aX H
theorem atp{K:Int->Int->Int->Sl->Sl->Sl->HP}(H:SU (bD b) h K Kp):mC (.iface nW (bB b)) h K Kp:=gV aX aX H
theorem as3{x:Int}{s:Sl}{K:cL}(H:Gv (bD b) B x a s h K Kp):mU (.iface nt (bB b)) B x a s h K Kp:=gV aX aX H
theorem asU{K:cL}(H:K5 (bD b) h K Kp):mB (.iface nt (bB b)) h K Kp:=gV aX aX H
theorem atc{K:de}(H:SO (bD b) h K Kp):kU (.iface nt (bB b)) h K Kp:=gV aX aX H
theorem atl{K:Int->Int->Int->Sl->Sl->Sl->HP}(H:SP (bD b) h K Kp):mC (.iface nt (bB b)) h K Kp:=gV aX aX H
theorem as2{x:Int}{s:Sl}{K:cL}(H:Gu (bD b) B x a s h K Kp):mU (.iface nk (bB b)) B x a s h K Kp:=gV aX aX H
theorem asT{K:cL}(H:K4 (bD b) h K Kp):mB (.iface nk (bB b)) h K Kp:=gV aX aX H
theorem atb{K:de}(H:SL (bD b) h K Kp):kU (.iface nk (bB b)) h K Kp:=gV aX aX H
theorem atk{K:Int->Int->Int->Sl->Sl->Sl->HP}(H:SM (bD b) h K Kp):mC (.iface nk (bB b)) h K Kp:=gV aX aX H
theorem as9{x:Int}{s:Sl}{K:cL}(H:Gq (bD b) B x a s h K Kp):mU (.iface oJ (bB b)) B x a s h K Kp:=gV aX aX H
theorem as0{K:cL}(H:K3 (bD b) h K Kp):mB (.iface oJ (bB b)) h K Kp:=gV aX aX H
theorem ati{K:de}(H:SH (bD b) h K Kp):kU (.iface oJ (bB b)) h K Kp:=gV aX aX H
theorem atr{K:Int->Int->Int->Sl->Sl->Sl->HP}(H:SI (bD b) h K Kp):mC (.iface oJ (bB b)) h K Kp:=gV aX aX H
theorem as8{x:Int}{s:Sl}{K:cL}(H:Gn (bD b) B x a s h K Kp):mU (.iface oI (bB b)) B x a s h K Kp:=gV aX aX H
theorem asZ{K:cL}(H:K1 (bD b) h K Kp):mB (.iface oI (bB b)) h K Kp:=gV aX aX H
theorem ath{K:de}(H:SD (bD b) h K Kp):kU (.iface oI (bB b)) h K Kp:=gV aX aX H
theorem atq{K:Int->Int->Int->Sl->Sl->Sl->HP}(H:SE (bD b) h K Kp):mC (.iface oI (bB b)) h K Kp:=gV aX aX H
theorem as4{x:Int}{s:Sl}{K:cL}(H:Gk (bD b) B x a s h K Kp):mU (.iface nV (bB b)) B x a s h K Kp:=gV aX aX H
theorem asV{K:cL}(H:KZ (bD b) h K Kp):mB (.iface nV (bB b)) h K Kp:=gV aX aX H
theorem atd{K:de}(H:SA (bD b) h K Kp):kU (.iface nV (bB b)) h K Kp:=gV aX aX H
theorem atm{K:Int->Int->Int->Sl->Sl->Sl->HP}(H:SB (bD b) h K Kp):mC (.iface nV (bB b)) h K Kp:=gV aX aX H
theorem as5{x:Int}{s:Sl}{K:cL}(H:Gj (bD b) B x a s h K Kp):mU (.iface oH (bB b)) B x a s h K Kp:=gV aX aX H
theorem asW{K:cL}(H:Su (bD b) h K Kp):mB (.iface oH (bB b)) h K Kp:=gV aX aX H
theorem ate{K:de}(H:Sw (bD b) h K Kp):kU (.iface oH (bB b)) h K Kp:=gV aX aX H
theorem atn{K:Int->Int->Int->Sl->Sl->Sl->HP}(H:Sx (bD b) h K Kp):mC (.iface oH (bB b)) h K Kp:=gV aX aX H
end
abbrev Tr(T:aR)(h h':Hp):Nat->Prop:=λc=>T c\/(h.size<=c/\c<h'.size)
structure iO(T:aR)(h:Hp)(b:Nat)(Ls:List (Nat->Prop)):Prop where
 tb:T b
 lt:∀c,T c->c<h.size
 sub:∀L∈Ls,∀c,L c->T c/\c≠b
 ap:Ls.Pairwise λA B=>∀c,A c->¬B c
section
variable {L:aR} {h':Hp} {Ls:List (Nat->Prop)}
theorem iO.step(t:iO T h b Ls)(i:Nat)(u:h.size<=h'.size):iO (Tr T h h') h' b (Ls.modify i λA=>Tr A h h'):=by
 refine⟨.inl t.tb,λc g=>?_,λA s c g=>?_,?_⟩
 ·rcases g with q|q
  ·have:=t.lt c q;omega
  omega
 ·obtain⟨j,m,rfl⟩:=List.getElem_of_mem s;rw[YE]at g;have a:j<Ls.length:=by simpa using m
  split at g
  ·rcases g with q|q
   ·have:=t.sub _ (kE a) c q;exact⟨.inl this.1,this.2⟩
   ·exact⟨.inr q,λe=>by have:=t.lt b t.tb;omega⟩
  ·have:=t.sub _ (kE a) c g;exact⟨.inl this.1,this.2⟩
 ·rw[ux];intro j k m r n c;have a:j<Ls.length:=by simpa using m
  have l:k<Ls.length:=by simpa using r
  have d:=ux.1 t.ap j k a l n c;have o:=λq=>t.lt c (t.sub _ (kE a) c q).1;have lk:=λq=>t.lt c (t.sub _ (kE l) c q).1;rw[YE,YE];split
  ·rw[aA];rintro(q|q) p
   ·exact d q p
   ·have:=lk p;omega
  ·split
   ·rintro q (p|p)
    ·exact d q p
    ·have:=o q;omega
   ·exact d
theorem iO.nb(t:iO T h b Ls){A:aR}(d:A∈Ls){c:Nat}(a:A c):c≠b:=(t.sub A d c a).2
theorem iO.l(t:iO T h b Ls){A:aR}(z:A∈Ls){c:Nat}(e:A c):c<h.size:=t.lt c (t.sub A z c e).1
theorem Os.tr{s:Sl}{vs:bg}(o:Os (Or L h) h' s vs el):Os (Tr L h h') h' s vs el:=
 o.imp id λ⟨b,t,o⟩=>⟨b,t.imp id λq=>⟨q,o.lt⟩,o⟩
theorem Old.tr{s s0:Sl}(o:Old (Or L h) h' s s0 C el):Old (Tr L h h') h' s s0 C el:=
 ⟨o.le,o.iS.imp id λ⟨b,cs,t,e,d,a,c⟩=>⟨b,cs,t.imp id λq=>⟨q,a.lt⟩,e,d,a,c⟩⟩
theorem Tr.tr{g:Hp}(a:h.size<=g.size)(e:g.size<=H.size){c:Nat}(q:Tr (Tr L h g) g H c):Tr L h H c:=by
 grind
end
inductive Mem
 |mk (F:Value) (r:Raw) (s:Sl) (ks:List Mem) (sp:bg)
abbrev fN:=Option Mem
def Mem.F:Mem->Value|.mk F _ _ _ _=>F
def Mem.r:Mem->Raw|.mk _ r _ _ _=>r
def Mem.s:Mem->Sl|.mk _ _ s _ _=>s
def Mem.ks:Mem->List Mem|.mk _ _ _ k _=>k
def Mem.sp:Mem->List Value|.mk _ _ _ _ l=>l
def lp(l:cV):List Value:=l.map λx:Nat=>.int .u64 (x:Int)
def ints(l:cV):List Value:=l.map λx:Nat=>ah (x:Int)
def strs(l:ie):List Value:=l.map λt=>.string (bs t)
structure Mv(R T0:aR)(h:Hp)(b:Nat)(f:ak)(sf sn sb:Sl)(F0:Value)(s0:Sl)(r0:Rb):Prop where
 bm:qx R h b F0 f sf sn s0 r0
 o:Old T0 h sb s0 (bv r0.bits) Y8
 len:r0.bits.length=(r0.rows+7)/8
 nl:r0.cz<=r0.rows
 rl:r0.rows<=4096
section
variable {R R' T0 T0' S:aR} {h':Hp} {sf sn sb s0:Sl} {F0:Value} {r0:Rb}
theorem Mv.fr(m:Mv R T0 h b f sf sn sb F0 s0 r0)(t:Tn S h h')(B:∀c,R c->c<h.size->¬S c)(z:∀c,T0 c->c<h.size->¬S c):Mv R T0 h' b f sf sn sb F0 s0 r0:=
 ⟨m.bm.fr t B,m.o.fr t z,m.len,m.nl,m.rl⟩
end
theorem ai8(x:Int):IntKind.u64.wrap x=(((x%2^64).toNat:Nat):Int):=by
 simp only[IntKind.wrap,IntKind.signed,IntKind.bits];simp;omega
section
variable {T':aR} {h':Hp} {Ls:List (Nat->Prop)}
theorem iO.grow(t:iO T h b Ls)(a:h.size<=h'.size):iO T h' b Ls:=⟨t.tb,λc q=>mQ (t.lt c q) a,t.sub,t.ap⟩
theorem iO.mono(t:iO T h b Ls)(hT:∀c,T c->T' c)(hl:∀c,T' c->c<h.size):iO T' h b Ls:=⟨hT b t.tb,hl,λA a c q=>⟨hT c (t.sub A a c q).1,(t.sub A a c q).2⟩,t.ap⟩
theorem iO.ne(t:iO T h b Ls){i j:Nat}{A B:aR}(o:Ls[i]? =some A)(l:Ls[j]? =some B)(e:i≠j)(c:Nat)(g:A c):¬B c:=by
 obtain⟨d,rfl⟩:=dy.1 o;obtain⟨a,rfl⟩:=dy.1 l;rcases Nat.lt_or_gt_of_ne e with q|q
 ·exact ux.1 t.ap i j d a q c g
 ·exact λk=>ux.1 t.ap j i a d q c k g
theorem iO.kW(t:iO T h b Ls){i:Nat}{A:aR}(a:Ls[i]? =some A):¬A b:=λq=>t.nb (bS a) q rfl
end
section
variable {sf sn sb x y z:Sl} {n u w:Nat} {K:HP}
end
theorem iU(l:dw):(bs l).size=l.length:=by simp[bs,ByteArray.size]
def amY(x:aD)(r:Rb):Rb:={Rb.row x.au r with bF:=r.bF+(16+x.text.length),dQ:=r.dQ++[(x.num%2^64).toNat],texts:=r.texts++[x.text]}
def UQ(r:Raw)(x:aD):Int×Raw:=if 4096<=r.b.rows then(3,r)else(if 4194304<r.b.bF+(16+x.text.length)then 3 else 0,r.up (amY x))
section
variable {s:Sl} {vs:bg}
theorem Os.cut{n:Nat}{x:Int}{K:Sl->Prop}(o:Os T h s vs el)(d:n<=s.n)(e:x=n)(g:∀s',s'.n=n->Os T h s' (vs.take n) el->K s'):jA s 1 none (some x) none K:=by
 subst e;have c:s.n<=s.c:=by
  rcases o with⟨rfl,_⟩|⟨b,_,o⟩
  ·exact cr _
  ·obtain⟨_,_,_,_,q,_⟩:=o;exact q
 refine⟨JH _,aC,by simp;omega,aC,?_⟩
 simp only[uB,oG,JE,gj,EN];rcases o with⟨rfl,rfl⟩|⟨b,t,a,u,cs,l,p,k,j⟩
 ·have:n=0:=by simpa[Sl.nil]using d
  subst this;exact g _ rfl (.inl ⟨by simp[lY,Sl.nil],aC⟩)
 ·refine g _ rfl (.inr ⟨b,t,?_,?_,cs,l,?_,?_,λi x=>?_⟩)
  ·simp only[lY];grind[bz]
  all_goals grind
end
section
variable {r:Raw} {m:fN} {v:Value}
theorem aus{p:Addr}{K:HP}(H:Ss c0 p q h K Kp):c8 aG (.func (.func 248) #[] #[cU c0,cU p,cU q]) [] h (λr a=>r=.tuple #[]/\K a) Kp:=by
 unfold c8;exact cast aX H
theorem BV.uj{S c:Sl}{n w:Nat}(k:aO h b (cj f t S c n j w C).toArray ty):
  Cs h ⟨b,11,none⟩ [.bool f.cm.au,ah f.cm.num,.string (bs f.cm.text),Sl.v S]:=by
 intro i v a;rw[bz,gU k];rcases i with _|_|_|_|i
 ·simpa[cj]using a
 ·simpa[cj]using a
 ·simpa[cj]using a
 ·simpa[cj]using a
 ·simp at a
end
section
variable {h0:Hp}
theorem auQ{K:cL}(hk:K (wB k:Int) h):wH k h K Kp:=by
 have e:=hk;unfold wB at e;apply wH.of
 repeat' refine aK (λc=>?_) (λc=>?_)
 all_goals
  simp only[nU,PB,ne_eq]at*
  simp_all
theorem oy{s:Sl}{n m:dw}{K:Addr->HP}(p:eL D h s (bv n))(o:eL D h t (bv m))(z:D h.size)(q:∀a f,aB h f->fu D D f ⟨some a,2,2⟩ [n,m]->K a f):
  aL h #[Sl.v s,Sl.v t] fI K:=by
 refine aJ λb w e1 g k _=>q _ w g ⟨[s,t],rfl,?_,λj u l c d=>?_⟩
 ·refine⟨⟨rfl,cr _,λx y=>⟨_,rfl,λi v e=>?_⟩⟩,λ_ a r=>by cases r;exact e1▸z⟩
  rw[bz,gU k];grind
 ·rcases j with _|_|j
  ·simp at c d;subst c d;exact p.gr g
  ·simp at c d;subst c d;exact o.gr g
  ·simp at c
theorem eL.mo{D':aR}{s:Sl}{vs:bg}(v:eL D h s vs)(a:∀c,D c->D' c):eL D' h s vs:=v.fr (iW _ _) (λ_ _ _=>id) a
theorem BV.OC{s S:Sl}{n m w:Nat}(k:aO h b (cj f s t S n m w C).toArray ty):
  Cs h ⟨b,2,none⟩ [ah f.k,ah f.w,ah f.id,ah f.ix,Sl.v s]:=by
 intro i v a;rw[bz,gU k];rcases i with _|_|_|_|_|i
 ·simpa[cj]using a
 ·simpa[cj]using a
 ·simpa[cj]using a
 ·simpa[cj]using a
 ·simpa[cj]using a
 ·simp at a
end
def ZI(cs:cN):Prop:=∀{n:eU}{au:Bool}{k w id ix:Int}{h:Hp}{s:Sl}{K:ByteArray->Bool->Int->Int->Int->Int->Sl->HP}{Kp:PK},cG h s cs->cs.length<=70000->jC cs->
 (∀t h',aB h h'->ck (Nw h) h' t cs->K n au k w id ix t h')->GK n au k w id ix s h K Kp
theorem anK(IH:∀f∈cs,ZI f.cs):ZI cs:=by
  intro n au k w k' ix U s K Kp O hl d' hk;have hn:=O.n;refine GK.of (aJ λa1 hy e1 gy k1 _=>aJ λa2 h e2 X k2 _=>?_);have G0:=aq gy X;have C:=k1.ai X;simp only[bz,bX,Nat.reduceAdd];apply aj C rfl;refine QC.bC (λB x m=>∃(i:Nat)(G:List Sl),x=i/\i<=cs.length/\G.length=i/\aB h m/\fO h.size 7 m B (List.zipWith ak.row (cs.take i) G) iI/\
      ∀(j:Nat)(f:ak)(u:Sl),cs[j]? =some f->G[j]? =some u->ck (λb=>h.size<=b/\¬B.at b) m u f.cs)
    (λB x _=>cs.length-x.toNat) ⟨0,[],rfl,ag,rfl,cW _,sU _ _ _ _,aC⟩ ?_
  rintro B x m ⟨i,G,rfl,hi,z,y,A,hu⟩ N1 hN;have Z:=A.n;rw[qn,mP]at Z;refine cE (λc=>?_) λc=>?_
  · have V:cs[i]? =some cs[i]:=aC;have N:cs.take (i+1)=cs.take i++[cs[i]]:=aC;have p:cs[i]∈cs:=aC;generalize cs[i]=f at V N p;refine(O.gr G0).ix rfl V λa ha=>?_;obtain⟨u,c,f'⟩:=ha.row;refine gQ (c.ai y) (aJ λb5 hx eb gx kx _=>pG kx rfl λT J k5=>dM k5 ?_);have M:=bK gx J ag;have P:=(d'.get f p).cs;refine IH f p ((f'.gr y).gr M) P.1 P.2 λt h3 g3 ht=>aJ λn' R e5 g5 a' _=>?_;have I:=aq (aq M g3) g5;have c':=vM ht g5;refine(A.ai I).ap (by have:=y.1;have:=I.1;omega) rfl (new:=[f.row t]) rfl (λr L=>by simp at L;subst L;rfl) (λr L=>by simp at L;subst L;exact row_one f t) (by simpa[ak.row,oh]using jn a' rfl) ag ag λs' h6 Y Q o6=>aY ag ag (hN _ _ _ ⟨i+1,G++[t],aC,ag,by simp[z],?_,?_,?_⟩ ag)
    ·exact(((bx (aq y I):Tn No h R)).trans' Y λd hd l'=>by have:=((A.ai I).at hd).1;omega).ai
    ·rw[N,JC cy];exact o6
    · intro j g v W H;have h':=I.1
      by_cases e:j<i
      · rw[iX ag]at H;refine ck.fr Y (λb l=>l.1.2) (λb l=>⟨l.1.1,λq=>?_⟩) _ (vM (ck.lt _ (hu j g v W H)) I);rcases Q b q with q|q
        ·exact l.1.2 q
        omega
      · have e':=(dy.1 H).1;simp only[ij,jy]at e';have:j=i:=ag;subst this;rw[gv ag,z]at H;simp only[zR,B0,mS]at H;subst H;rw[V]at W;cases W;refine ck.fr Y (λb l q=>by have:=(A.at q).2;have:=M.1;omega) (λb l=>⟨by have:=y.1;have:=M.1;omega,λq=>?_⟩) _ (ck.lt _ c')
        rcases Q b q with q|q
        ·have:=(A.at q).2;have:=M.1;omega
        omega
  · have:i=cs.length:=ag;subst this;rw[mO]at A;have fin:ck (λb=>h.size<=b/\b<m.size) m B cs:=by
      apply ck.lt _;rcases A.cases with⟨rfl,e⟩|⟨b,l,o⟩
      · have:cs=[]:=by
          cases cs with
          |nil=>rfl
          | cons f fs=>cases G with
            |nil=>simp at z
            |cons=>simp at e
        subst this;unfold ck;grind
      ·exact ck.sub (ck.of o z l λj f u hf b'=>ck.fr (iW _ _) (λ_ _=>id) (λb l=>l.1) _ (hu j f u hf b')) rfl rfl A.cap
    simp only[bz,bX,Nat.reduceAdd];refine dN (C.ai y) aC rfl λT J k3=>dM k3 (pG (J.bq (k2.ai y) ag) rfl λh3 o3 k4=>dM k4 (hk B h3 ?_ ?_))
    ·exact bK (bK (aq G0 y) J ag) o3 ag
    · have f2:=ck.fr J.fr (λb l e=>ag) (λ_ q=>q) _ fin
      exact ck.fr o3.fr (λb l e=>ag) (λb l=>ag) _ f2
theorem acE:∀f:ak,ZI f.cs
 |.mk _ _ _ _ _ _ cs=>anK (cs:=cs) λf _=>acE f
open Classical in
theorem aoJ{L:HP}{mk:Fr}{T:(Fr->HP)->HP}(bC:ZQ L mk T)(P:Nat->HP){h:Hp}(h0:∃n,P n h)(step:∀n h,P n h->∀N:Fr->HP,(∀m h',m<n->P m h'->N mk h')->T N h):L h:=by
 let μ:Hp->Nat:=λh=>if hh:∃n,P n h then Classical.choose (least (λn=>P n h) hh)else 0
 have sp:∀h,(∃n,P n h)->P (μ h) h/\∀m,m<μ h->¬P m h:=by
  intro h hh
  have:μ h=Classical.choose (least (λn=>P n h) hh):=by simp only[μ];rw[dif_pos hh]
  rw[this];exact Classical.choose_spec (least (λn=>P n h) hh)
 refine bC (λh=>∃n,P n h) μ h0 λh hI N hN=>step (μ h) h (sp h hI).1 N λm h' hm hP=>hN h' ⟨m,hP⟩ ?_
 have:=(sp h' ⟨m,hP⟩).2 m
 grind
theorem asL(e:f.cs[0]? =some c):c.dep<f.dep:=by
 obtain⟨b,au,k,w,id,ix,cs⟩:=f;cases cs with
 |nil=>simp[ak.cs]at e
 |cons x a=>simp[ak.cs]at e;subst e;simp[ak.dep,XO];omega
theorem WE:∀cs:List ak,(tW cs).length=cs.length
 |[]=>rfl
 |x::a=>by simp[tW,WE a]
theorem Im{s:Sl}{K:fD}{v:PK}(F:cG h s f.cs)(r:∀d,aB h d->K f.lets d):CU f.name f.au f.k f.w f.id f.ix s h K v:=by
  refine CU.of (aJ λa P Q t C _=>aoJ Qo.bC (λn d=>∃(g:ak)(u:Sl),g.dep=n/\aB h d/\aO d a (g.row u).toArray iI/\cG h u g.cs/\g.lets=f.lets) ⟨f.dep,f,s,rfl,t,C,F,rfl⟩ ?_);rintro n j ⟨g,u,rfl,G,k,o,el⟩ N hN;have j1:¬(g.k=20/\g.cs.length=1)->Fp K v (aF a) j:=by
    intro q;have e:g.lets=(g.au&&decide (g.k≠18)):=by
      obtain⟨A,au,B,w,id,ix,cs⟩:=g;simp only[ak.lets,m8,ak.k,ak.cs,ak.au]at q ⊢;rw[aE (by rw[WE];exact q)]
      congr
    apply Fp.of;simp only[bz,bX];refine aj k rfl (aK (λc=>aj k rfl ?_) λc=>?_)
    ·have:=r j G;grind
    ·have:=r j G;grind
  simp only[bz,bX,Nat.reduceAdd];have L:=o.n;refine aj k rfl (aK (λc=>?_) λc=>j1 ?_)
  · simp only[sm,reduceCtorEq]at c;refine aj k rfl (aK (λl=>?_) λl=>j1 ?_)
    · simp only[sm,reduceCtorEq]at l;have hl:g.cs.length=1:=ag;have e:g.cs[0]? =some g.cs[0]:=aC;generalize g.cs[0]=c0 at e;refine aj k rfl (o.ix rfl e λp E=>?_);obtain⟨y,J,m⟩:=E.row;refine gQ (J.ai G) (pG k rfl λH z D=>hN c0.dep H (asL e) ⟨c0,y,rfl,bK G z ag,D,m,?_⟩);rw[<-el];obtain⟨A,au,B,w,id,ix,cs⟩:=g;simp only[ak.k,ak.cs]at c hl e;cases cs with
      |nil=>simp at e
      | cons x M=>
        simp at e;subst e;simp only[ak.lets,m8];rw[aI ⟨c,by rw[WE];exact hl⟩]
        simp[tW]
    grind
  grind
theorem amn{c:eU}{w id:Int}{s:Sl}{K:fD}{t:PK}(j:kS h)(g:(ak.mk c au k w id ix cs).fQ)(l:cG h s cs)
  (m:∀b i,aB h i->(b=true↔bE (.mk c au k w id ix cs))->K b i):CZ c au k w id ix s h K t:=by
 refine CZ.of (aJ λa u v d f _=>dM f (OG (j.ai d) g (l.gr d) λe p n q r o=>m _ q (aq d r) ?_));simp[*]
theorem aop{c:eU}{w id:Int}{s:Sl}{K:fD}{t:PK}(j:kS h)(g:(ak.mk c au k w id ix cs).fQ)(l:cG h s cs)
  (m:∀b i,aB h i->(b=true↔bE (.mk c au k w id ix cs))->K b i):CW c au k w id ix s h K t:=by
 refine CW.of (aJ λa u v d f _=>dM f (OG (j.ai d) g (l.gr d) λe p n q r o=>m _ q (aq d r) ?_));simp[*]
theorem zb(h:fE k=true):k≠1/\k≠12/\k≠13/\k≠15/\k≠16/\k≠17/\k≠18/\k≠19/\k≠20:=by
 simp[fE]at h;omega
theorem ajp(i:fE f.k=true)(r:Raw)(x:aD):f.tk r x=UQ r x:=by
 obtain⟨h,l,j,g,e,d,c,b,a⟩:=zb i;rw[kD];unfold iD UQ;rw[aE h,aA,aE g,aE e,aE d,aE c,aE b,aE a];unfold eN;split
 ·simp[cQ]
 ·simp only[cQ,fY,fj]
  congr 1
theorem aal(x:aD):16+x.text.length<=x.bw:=by rw[gS];omega
theorem qx.lt{M:aR}{F:Value}{s u:Sl}{r0:Rb}(m:qx M h b F f s t u r0):qx (λc=>M c/\c<h.size) h b F f s t u r0:=by
 obtain⟨o,p,n,x,j,k,i,e,d,g,a,l⟩:=m;exact⟨o,p,n,x,⟨j,d.lt⟩,⟨k,g.lt⟩,⟨i,a.lt⟩,e,d,g,a,l⟩
theorem qx.cells{F:Value}{s u:Sl}{r0:Rb}(m:qx D h b F f s t u r0):F.cells=#[F]:=by
 obtain⟨i,j,g,x,c,d,a,e,_⟩:=m;rw[e];rfl
theorem acL(b:bE f):f.cm.text.length<=4194304:=by
 by_cases a:f.small=true
 ·grind[sD,gS]
 ·have:f.cm=AH:=by unfold ak.cm;simp_all[aE,Dk]
  rw[this];exact eH _
def jj(f:ak):Prop:=∀v,f.fit v=true->dV f (λr=>f.tk r v) v
theorem acW{s:Sl}{K:fD}{i:PK}(d:kS h)(a:f.fQ)(e:cG h s f.cs)(g:∀b c,aB h c->(b=true↔bE f)->K b c):CW f.name f.au f.k f.w f.id f.ix s h K i:=by
 obtain⟨j,au,k,w,id,ix,cs⟩:=f;exact aop d a e g
theorem UA{s:Sl}{K:fD}{i:PK}(d:kS h)(a:f.fQ)(e:cG h s f.cs)(g:∀b c,aB h c->(b=true↔bE f)->K b c):CZ f.name f.au f.k f.w f.id f.ix s h K i:=by
 obtain⟨j,au,k,w,id,ix,cs⟩:=f;exact amn d a e g
def Ca(f:ak):Prop:=∀{h:Hp}{s:Sl}{K:cL}{Kp:PK},cG h s f.cs->(∀h',aB h h'->K (f.wz:Int) h')->tH f.name f.au f.k f.w f.id f.ix s h K Kp
def B9(f:ak):Prop:=∀{h:Hp}{s:Sl}{K:Bool->Int->ByteArray->Sl->HP}{Kp:PK},cG h s f.cs->(∀t h',aB h h'->aS (Nw h) h' t f.zv.items->K f.zv.au f.zv.num (bs f.zv.text) t h')->
 tG f.name f.au f.k f.w f.id f.ix s h K Kp
theorem Hh(hl:f.lets=true):f.wz=16:=by rw[zM,hl];rfl
theorem Mx(hl:f.lets=true):f.zv=v0:=by rw[ak.Mz,hl];rfl
theorem aix(hl:f.lets=true):Ca f:=by
 intro h s K l d e;refine tH.of (aJ λk j e1 a c _=>dM c (Im (d.gr a) λg i=>bQ hl ?_));have:=e g (aq a i)
 rwa [Hh hl]at this
theorem ahF(hl:f.lets=true):B9 f:=by
 intro h s K v k l;refine tG.of (aJ λu q e1 c j _=>aJ λt p r a i _=>dM (j.ai a) (Im ((k.gr c).gr a) λo d=>bQ hl (mj (i.ai d) rfl λm e g=>eW g ?_)));have:=l bM m (bK (aq c (aq a d)) e ag) (by rw[Mx hl];exact oz _)
 rwa [Mx hl]at this
theorem avH(J:Ca f)(I:B9 f)(v:bE f)(u:f.fQ){h:Hp}{s:Sl}{K:Bool->Int->ByteArray->Sl->Int->HP}{O:PK}(L:kS h)(n:cG h s f.cs)
  (y:∀t p,aB h p->aS (Nw h) p t f.cm.items->K f.cm.au f.cm.num (bs f.cm.text) t (if f.small then 0 else 3) p):Ll f.name f.au f.k f.w f.id f.ix s h K O:=by
 refine Ll.of (aJ λX V e1 B m _=>aJ λW U i g l _=>dM (m.ai g) ?_);have r:=aq B g;refine acW (L.ai r) u (n.gr r) λb T a M=>?_;obtain rfl:b=true:=M.2 v;have C:=aq r a;refine bu rfl (dM ((m.ai g).ai a) (J (n.gr C) λo d=>?_));have j:=aq C d;refine aK (λc=>?_) λc=>?_
 ·have c:=aU c;refine mj ((l.ai a).ai d) rfl λz F H=>eW H ?_;have e1:f.cm=AH:=by unfold ak.cm;rw[aA]
  have i:f.small=false:=by unfold ak.small;simp;omega
  have:=y bM z (bK j F ag) (by rw[e1];exact oz _)
  rw[e1,i]at this;exact this
 ·have c:=aU c;refine dM (((m.ai g).ai a).ai d) (I (n.gr j) λt z A E=>mj (((l.ai a).ai d).ai A) rfl λN x G=>eW G ?_);have e1:f.cm=f.zv:=by unfold ak.cm;rw[dU]
  have i:f.small=true:=by unfold ak.small;simp;omega
  have R:=a.1;have Q:=d.1;have:=y t N (bK (aq j A) x ag) (by
   rw[e1];exact aS.fr x.fr (λc(q:o.size<=c)_ e=>ag) (λc(q:o.size<=c)=>ag) _ E)
  grind
theorem au7(C:Ca f)(B:B9 f)(n:bE f)(m:f.fQ){h:Hp}{s:Sl}{K:ByteArray->Bool->Int->Int->Int->Int->Sl->Int->Int->Sl->Int->Bool->Int->ByteArray->Sl->Bool->HP}{M:PK}(E:kS h)(F:cG h s f.cs)
  (G:∀t l,aB h l->aS (Nw h) l t f.cm.items->K f.name f.au f.k f.w f.id f.ix s 0 0 bM 0 f.cm.au f.cm.num (bs f.cm.text) t f.small l):Ln f.name f.au f.k f.w f.id f.ix s h K M:=by
 refine Ln.of (aJ λY T e1 u r _=>aJ λX j V g p _=>dM (r.ai g) ?_);have i:=aq u g;refine avH C B n m (E.ai i) (F.gr i) λt J d v=>aJ λW S U L A _=>mj A rfl λI x z=>?_;have a:=bK L x ag;refine dM (((r.ai g).ai d).ai a) (eW z (qT.b ((p.ai d).ai a) rfl λH o y=>uq y ?_));have:=G t H (bK (aq i (aq d a)) o ag) (aS.fr o.fr (λc(q:j.size<=c)_ e=>ag) (λc(q:j.size<=c)=>ag) _ (eO v a))
 have e:((if f.small=true then(0:Int)else 3)==0)=f.small:=by cases f.small <;> rfl
 grind
mutual
def aD.nH:aD->Prop
 |.mk _ n _ xs=>(-9223372036854775808<=n/\n<=9223372036854775807)/\m5 xs
def m5:List aD->Prop
 |[]=>True
 |x::xs=>x.nH/\m5 xs
end
theorem aD.nH.num{v:aD}(h:v.nH): -9223372036854775808<=v.num/\v.num<=9223372036854775807:=by
 obtain⟨_,n,_,a⟩:=v;exact h.1
theorem aiE{K:fD}(a:K (decide (3<=k/\k<=10)) h):Lb k h K Kp:=by
 refine Lb.of (cE (λc=>?_) λc=>?_)
 ·grind
 ·grind
theorem amz{n:Int}{K:fD}(d:3<=k/\k<=10)(g: -9223372036854775808<=n/\n<=9223372036854775807)(a:K (kV k n) h):tF k n h K Kp:=by
 have e:k=3\/k=4\/k=5\/k=6\/k=7\/k=8\/k=9\/k=10:=ag;have fin:∀b,b=kV k n->K b h:=λb e=>e▸a;rcases e with rfl|rfl|rfl|rfl|rfl|rfl|rfl|rfl
 ·refine tF.of (uL.of (bQ rfl (bQ rfl (aY bh bh (js bh (aY bh bh (bu rfl (bQ rfl (aY bh bh (js bh (aY bh bh (show aW (n>= -128) _ _ from aK (λc=>(aY bh bh (js bh (fin (decide (n<128)) ?_)))) λc=>fin _ ?_))))))))))))
  all_goals(simp only[sm,reduceCtorEq]at c;unfold kV;rw[j0];simp[dJ];omega)
 ·refine tF.of (uL.of (bQ rfl (bQ rfl (aY bh bh (js bh (aY bh bh (bu rfl (bQ rfl (aY bh bh (js bh (aY bh bh (show aW (n>= -32768) _ _ from aK (λc=>(aY bh bh (js bh (fin (decide (n<32768)) ?_)))) λc=>fin _ ?_))))))))))))
  all_goals(simp only[sm,reduceCtorEq]at c;unfold kV;rw[j0];simp[dJ];omega)
 ·refine tF.of (uL.of (bQ rfl (bQ rfl (aY bh bh (js bh (aY bh bh (bu rfl (bQ rfl (aY bh bh (js bh (aY bh bh (show aW (n>= -2147483648) _ _ from aK (λc=>(aY bh bh (js bh (fin (decide (n<2147483648)) ?_)))) λc=>fin _ ?_))))))))))))
  all_goals(simp only[sm,reduceCtorEq]at c;unfold kV;rw[j0];simp[dJ];omega)
 ·refine tF.of (uL.of (bQ rfl (bQ rfl (aY bh bh (js bh (aY bh bh (bQ rfl (fin _ ?_))))))));unfold kV;simp;omega
 ·refine tF.of (uL.of (bQ rfl (bu rfl (aY bh bh (js bh (aY bh bh (bu rfl (bu rfl (aK (λc=>(js bh (aY bh bh (fin (decide (n<256)) ?_)))) λc=>fin _ ?_)))))))))
  all_goals(simp only[sm,reduceCtorEq]at c;unfold kV;rw[j0];simp[dJ];omega)
 ·refine tF.of (uL.of (bQ rfl (bu rfl (aY bh bh (js bh (aY bh bh (bu rfl (bu rfl (aK (λc=>(js bh (aY bh bh (fin (decide (n<65536)) ?_)))) λc=>fin _ ?_)))))))))
  all_goals(simp only[sm,reduceCtorEq]at c;unfold kV;rw[j0];simp[dJ];omega)
 ·refine tF.of (uL.of (bQ rfl (bu rfl (aY bh bh (js bh (aY bh bh (bu rfl (bu rfl (aK (λc=>(js bh (aY bh bh (fin (decide (n<4294967296)) ?_)))) λc=>fin _ ?_)))))))))
  all_goals(simp only[sm,reduceCtorEq]at c;unfold kV;rw[j0];simp[dJ];omega)
 ·refine tF.of (uL.of (bQ rfl (bu rfl (aY bh bh (js bh (aY bh bh (bQ rfl (fin _ ?_))))))));unfold kV;simp;omega
def mT(f:ak):Prop:=∀{D:aR}{h:Hp}{x left:Nat}{v:aD}{s t:Sl}{K:fD}{Kp:PK},jz h->aO h x #[ah (left:Int)] qS->left<=4194304->ck D h s f.cs->aS D h t v.items->¬D x->v.nH->
 (∀b h',Tn (·=x) h h'->(b=true↔v.bw<=left/\f.fit v=true)->(b=true->aO h' x #[ah ((left-v.bw:Nat):Int)] qS)->K b h')->wI (bD x) f.name f.au f.k f.w f.id f.ix s v.au v.num (bs v.text) t h K Kp
theorem BJ(l m:dw):((bs l).toList==(bs m).toList)=decide (l=m):=by
 rw[j0,BI,dP];constructor
 ·intro h;have:=sY tx h;simpa only[MM]using this
 grind
theorem O5(l:dw):((bs l).toList==(bs []).toList)=decide (l.length=0):=by
 rw[BJ,j0];simp
section
variable {x left:Nat} {v:aD} {s:Sl} {K:fD}
theorem aek(k:aO h x #[ah (left:Int)] qS)(hl:left<=4194304)(Y:ck D h s f.cs)(U:¬D x)(X:aS D h t v.items)
  (a:∀i,Tn (·=x) h i->¬(v.bw<=left/\f.fit v=true)->K false i)
  (gJ:∀i,Tn (·=x) h i->aO i x #[ah ((left-v.bw:Nat):Int)] qS->v.bw<=left->f.fit v=true->K true i)
  (r:∀i u z,Tn (·=x) h i->aO i x #[ah ((left-16-v.text.length:Nat):Int)] qS->16+v.text.length<=left->v.items.length<=4096->v.au=false->aO i u (f.row s).toArray iI->
   aO i z #[.bool v.au,ah v.num,.string (bs v.text),Sl.v t] di->h.size<=u->h.size<=z->Fu K Kp (bD x) (aF u) (aF z) i):
  wI (bD x) f.name f.au f.k f.w f.id f.ix s v.au v.num (bs v.text) t h K Kp:=by
 refine wI.of (aJ λu h1 e1 M m _=>aJ λz h2 e2 I g _=>?_);have hn:=X.n;have xl:=k.lt;have W:=gS v;have d:=(k.ai M).ai I;have m:=m.ai I;refine bO ?_;refine aj d rfl (aY ag ag (dN d aC rfl λh3 G d=>aj d rfl ?_));have C:=((bx (aq M I)).trans G.fr);have m:=G.bq m ag;have g:=G.bq g ag;have A:f.fit v=true->v.items.length<=4096:=λq=>by rw[eG]at q;exact Ec q
 refine aK (λc=>a _ C ?_) λc=>?_
 ·grind
 refine aj g rfl (aj d rfl (aK (λp=>a _ C ?_) λp=>?_))
 ·have p:=aU p;rw[iU]at p;omega
 have p:=aU p;rw[iU]at p;refine aj g rfl (aK (λy=>a _ C ?_) λy=>?_)
 ·grind
 have y:=aU y;apply RQ.of;refine bO ?_;refine aj d rfl (aj g rfl (aY bZ ag (dN d aC rfl λH F d=>RP.of ?_)))
 have B:=C.trans F.fr;have m:=F.bq m ag;have g:=F.bq g ag;rw[iU]at d;have ex:(left:Int)-16-(v.text.length:Int)=((left-16-v.text.length:Nat):Int):=ag;have d:aO H x #[ah ((left-16-v.text.length:Nat):Int)] qS:=by simpa[ex]using d
 simp only[bz,bX];refine aj g rfl (aK (λO=>?_) λO=>r H u z B d ag ag O m g ag ag);have N:f.fit v=(decide (v.items.length<=4096)&&(decide (v.num=0)&&decide (v.text.length=0)&&decide (v.items.length=0)&&f.lets)):=by
  rw[eG];unfold fm;simp[*]
 have l:∀b,(b=true->v.num=0/\v.text.length=0/\v.items.length=0)->(b=false->¬(v.num=0/\v.text.length=0/\v.items.length=0))->Fv K Kp (aF u) b H:=by
  intro b Q P;refine Fv.of (aK (λj=>?_) λj=>a _ B ?_)
  ·obtain⟨T,L,J⟩:=Q j;refine dM m (Im (ck.h _ (ck.fr B (λb q e=>U (e▸q)) (λ_ q=>q) _ Y)) λZ S=>?_)
   ·have d:=d.ai S;have R:=B.trans (bx S);have V:v.bw=16:=by
     have:v.items=[]:=jw.1 J;rw[W,this,L];rfl
    cases hl:f.lets with
    |true=>exact gJ _ R (by rw[V];simpa[L]using d) ag (by rw[N];simp[T,L,J,hl])
    |false=>exact a _ R λq=>by rw[N,hl]at q;simp at q
  ·simp_all
 refine aj g rfl (cE (λj=>?_) λj=>?_)
 ·apply aj g rfl;rw[O5];refine Fw.of (aK (λo=>?_) λo=>?_)
  ·have o:=aU o;simp only[bz,bX];refine aj g rfl (l _ (λq=>?_) λq=>?_)
   all_goals simp_all
  ·simp_all
 ·exact Fw.of (bu rfl (l _ (λq=>by cases q) λ_ q=>j q.1))
theorem aer(hf:1<=f.k/\f.k<=11):mT f:=by
 intro D h x left v s t K Kp hu k hl R g O E A;have r:=gS v;refine aek k hl R O g (λB y q=>A false B y (by simpa using q) (λe=>by cases e)) (λB y P M L=>A true B y (by simp[M,L]) λ_=>P) λF U a5 J z b1 b2 gJ C l l4 l5=>Fu.of ?_
 have d:f.fit v=(decide (v.text.length=0)&&(decide (v.items.length=0)&&(if f.k=2 then decide (v.num=0\/v.num=1)else decide (3<=f.k/\f.k<=11)&&kV f.k v.num))):=by
  rw[eG];unfold fm;rw[aE (by simp[gJ]),aA,aA,aA,aA,aA,aA]
  simp[b2]
 have T:Cs F ⟨U,2,none⟩ [ah f.k,ah f.w,ah f.id,ah f.ix,Sl.v s]:=by
  intro i v g;rw[bz,gU C];rcases i with _|_|_|_|_|i
  ·simpa[ak.row,oh]using g
  ·simpa[ak.row,oh]using g
  ·simpa[ak.row,oh]using g
  ·simpa[ak.row,oh]using g
  ·simpa[ak.row,oh]using g
  ·simp at g
 simp only[bz,bX];refine nh T (aJ λa7 h4 e7 H j _=>pH j rfl λu N j=>aj j rfl ?_);have G:=bK H N ag;have l:=l.ai G;have z:=z.ai G;have I:=J.trans (bx G);refine bu cy (wC.of (bu cy (bu cy (bu cy (bu cy (yC.of (bu cy (bu cy (bu cy (Ag.of (bu cy (RO.of ?_))))))))))));simp only[bz,bX];have fin:∀b,b=f.fit v->K b u:=λb e=>A b u I ⟨λq=>?_,λq=>by rw[e];exact q.2⟩ λq=>?_
 rotate_left
 ·have q:=e▸q;rw[d]at q;simp only[dr,dP]at q;have:v.items=[]:=jw.1 q.2.1;rw[this]at r;exact⟨by rw[r];simp[bJ];omega,by rw[<-e];assumption⟩
 ·have q:=e▸q;rw[d]at q;simp only[dr,dP]at q;have:v.items=[]:=jw.1 q.2.1;rw[this]at r;have S:left-v.bw=left-16-v.text.length:=by rw[r];simp[bJ];omega
  rw[S];exact z
 apply aj l rfl;rw[O5];refine aK (λc=>fin _ ?_) λc=>?_
 ·have c:=aU c;rw[d];simp[c]
 have c:=aU c;refine aj l rfl (aK (λp=>fin _ ?_) λp=>RN.of ?_)
 ·have p:=aU p;have:=g.n;rw[d];simp;intro _ q;rw[q]at this;simp at this;omega
 have p:=aU p;have Q:v.items.length=0:=by have:=g.n;omega
 have d:f.fit v=(if f.k=2 then decide (v.num=0\/v.num=1)else decide (3<=f.k/\f.k<=11)&&kV f.k v.num):=by
  rw[d];simp[c,Q]
 simp only[bz,bX];refine aj j rfl (cE (λm=>?_) λm=>?_)
 ·rw[aI m]at d;refine aj l rfl (aK (λa=>fin _ ?_) λa=>aj l rfl (fin _ ?_))
  ·have a:=aU a;rw[d];simp[a]
  ·have a:=aU a;rw[d,j0];simp[a]
 ·rw[aE m]at d;refine aj j rfl (aK (λa=>fin _ ?_) λa=>RM.of ?_)
  ·have a:=aU a;rw[d,a];have:=E.num;simp[kV];omega
  have a:=aU a;refine aj j rfl (aiE (aK (λo=>?_) λo=>fin _ ?_))
  ·have o:=aU o;simp only[bz,bX];refine aj j rfl (aj l rfl (amz o E.num (fin _ ?_)));simp_all
  ·have o:=aU o;rw[d];have:decide (3<=f.k/\f.k<=11)=false:=by simp;omega
   rw[this];simp
end
theorem arh(y:mT f){D E:aR}{h:Hp}{v:aD}{s t:Sl}{K:fD}{Kp:PK}(o:jz h)(p:ck D h s f.cs)(n:aS E h t v.items)(r:v.nH)
  (u:∀b e,aB h e->(b=true↔v.bw<=4194304/\f.fit v=true)->K b e):Lm f.name f.au f.k f.w f.id f.ix s v.au v.num (bs v.text) t h K Kp:=by
 refine Lm.of (aJ λQ L e1 g m _=>aJ λP J N d l _=>aJ λO B M a j _=>dM ((m.ai d).ai a) (eW (l.ai a) ?_));have G:=aq g (aq d a);refine y (D:=λc=>(D c\/E c)/\c<h.size) (o.ai G) j (cr _) ?_ ?_ (λq=>ag) r λb A i z _=>u b A (((bx G:Tn No h B)).trans' i λc q C=>ag).ai z
 ·exact ck.fr (bx G) (λ_ _=>id) (λc q=>⟨.inl q.1,q.2⟩) _ (ck.lt _ p)
 ·exact aS.fr (bx G) (λ_ _ _=>id) (λc q=>⟨.inr q.1,q.2⟩) _ (aS.lt _ n)
theorem awC(A:mT f)(j:bE f)(i:f.fQ){D E:aR}{h:Hp}{v:aD}{s t:Sl}{K:cL}{Kp:PK}(u:kS h)(r:jz h)(m:ck D h s f.cs)(p:aS E h t v.items)(y:v.nH)
  (z:∀n,aB h n->K (if v.bw<=4194304/\f.fit v=true then 0 else 7) n):Lq f.name f.au f.k f.w f.id f.ix s v.au v.num (bs v.text) t h K Kp:=by
 refine Lq.of (aJ λN J e1 F l _=>aJ λM I L g o _=>dM (l.ai g) ?_);have G:=aq F g;refine acW (u.ai G) i ((ck.h _ m).gr G) λb H e a=>?_;obtain rfl:b=true:=a.2 j;refine bu rfl (dM ((l.ai g).ai e) (eW (o.ai e) ?_));have d:=aq G e;refine arh A (r.ai d) (vM m d) (eO p d) y λb B C a=>?_;have:=z B (aq d C);refine aK (λc=>?_) λc=>?_
 ·have c:=aU c;grind
 ·grind
noncomputable def BB:Code:=Tryz.f24.body.getD .skip
noncomputable def at1:Code:=Tryz.f40.body.getD .skip
def acn:v7:=[]
def aaf:List Value:=[ah 0]
def adp(K:cL):Value->HP:=λv h=>rI v λr0=>K r0 h
theorem awG{c1:Addr}{K:HP}(H:Ld h c0 mI λi=>If (i !=0) (Ld h c1 id λf=>c8 aG f [] h (λr b=>r=(.tuple #[])/\(K b)) (λ_ _=>False)) (K h)):
  ∀w,aV w=h->oc aG 40 [cU c0,cU c1] .returning w λu2 a=>u2=.returning/\cH w a/\K (aV a):=by
 intro w j;have:=asN (bW:=[]) (D:=kT aG []) (zy _) (c:=at1) (caps:=[.pointer (some c0),.pointer (some c1)]) (zs:=[]) (Kv:=λ_ h=>K h)
  Tryz.func40 aX aX (cast aX H) w j
 apply this.mono;rintro e u2 a ⟨k,b,l,v,d⟩;refine⟨k,b,l,?_⟩;simp only[gI,AJ]at d;exact d.2
def ahh(b:Option Addr)(a3 a4 a5:Addr)(K:cL)(h:Hp):Prop:=
  NN b λp13=>
  Ld h (p13.add 7) id λt15=>
  bN h a3 λakd akc akb aka=>
  fo aG t15 "colonnade/build.take" [(.agg #[(.bool akd),(ah akc),(.string akb),(Sl.v aka)])] h (λr h1=>∃t17:Int,r=(ah t17)/\(
    St h1 a4 (ah t17) λh2=>
    ∀w,aV w=h2->oc aG 40 [cU a4,cU a5] .returning w λu' w'=>u'=.returning/\cH w w'/\Ld (aV w') a4 mI λr0=>K r0 (aV w'))) (λ_ _=>False)
abbrev XF(b:Option Addr)(Hq:Bool)(Ho:Int)(Hl:eU)(Hj:Sl)(a3 a4 a5 p7:Addr)(t9 t10:Value):Fr:=
 [some (.pointer b),some (.agg #[(.bool Hq),(ah Ho),(.string Hl),(Sl.v Hj)]),none,some (cU a3),some (cU a4),some (cU a5),some (.pointer b),some (cU p7),some (cU (p7.add 7)),some t9,some t10,none,none,none,none,none,none,none]
abbrev Tl(b:Option Addr)(Hq:Bool)(Ho:Int)(Hl:eU)(Hj:Sl)(a3 a4 a5 p7:Addr)(t9 t10:Value)(K:cL)(h:Hp):Prop:=
 ∃(caps:bg),Nat.blt 11 (XF b Hq Ho Hl Hj a3 a4 a5 p7 t9 t10).length=true/\iF (ev (XF b Hq Ho Hl Hj a3 a4 a5 p7 t9 t10)) [.tmp 4,.tmp 5]=some caps/\
  fT aG [] (kT aG acn) none (sub [1,1,1] BB) (I3 aG 40 caps Tryz.f24.results.toList aaf (adp K)) (λ_ _=>False) ((XF b Hq Ho Hl Hj a3 a4 a5 p7 t9 t10).set 11 (some (.func (.func 40) #[] caps.toArray))) h
theorem Tl.of{b:Option Addr}{x:Int}{I:eU}{s:Sl}{p z J:Addr}{v V:Value}{K:cL}(H:ahh b p q z K h):Tl b B x I s p q z J v V K h:=
 ⟨[cU q,cU z],by kernel_rfl,by kernel_rfl,cast aX H⟩
theorem Lp.of{b:Option Addr}{x:Int}{z:eU}{s:Sl}{K:cL}(H:
    iK h B x z s λa3 h1=>
    aL h1 #[(ah 0)] PG λa4 T=>
    NN b λR=>
    Ld T (R.add 7) id λM=>
    fo aG M "colonnade/build.mark" [] T (λr Z=>∃I:Value,r=I/\(
      aL Z #[(.nilFunc)] Y4 λU Y=>
      NA I <|
      St Y U I λW=>
      Tl b B x z s a3 a4 U R M I K W)) (λ_ _=>False)):Lp b B x z s h K Kp:=by
  have:=arB (bW:=[]) (D:=kT aG acn) (zy _) (g:=40) (pre:=[sub [0] BB,sub [1,0] BB]) (c2:=sub [1,1,1] BB) (id:=2) (o1:=zd (sub [1,1] BB) 0) (o2:=zd (sub [1,1] BB) 1) (tc:=11) (I6:=#[.tmp 4,.tmp 5]) (call:=X1 (zd (sub [1,1] BB) 1))
    (zs:=aaf) (args:=[(.pointer b),(.agg #[(.bool B),(.int .i64 x),(.string z),(Sl.v s)])]) (h:=h) (Kv:=adp K) (Kp:=Kp) Tryz.func24 aX aX aX aX aX aX aX aX aX aX aX aX (cast aX H)
  exact cast aX this
def hB(x c:Int):Int:=IntKind.u64.wrap (gu .xor .u64 x (IntKind.u64.wrap c)*1099511628211)
def hN:Nat->Int->Int->Int
 |0,x,_=>x
 |k+1,x,n=>hN k (hB x (IntKind.u8.wrap n)) (Int.fdiv n (2^8))
def hT(x:Int)(l:dw):Int:=l.foldl (λx b=>hB x (b.toNat:Int)) x
mutual
def aD.m9:aD->Int->Int
 |.mk au num text items,x=>ue items (hN 8 (hT (hN 8 (hN 8 (hB x (if au then 1 else 0)) (IntKind.u64.wrap num)) (IntKind.u64.wrap (text.length:Int))) text) (IntKind.u64.wrap (items.length:Int)))
def ue:List aD->Int->Int
 |[],x=>x
 |v::vs,x=>ue vs (v.m9 x)
end
def aD.hash(v:aD):Int:=v.m9 14695981039346656037
def hl(aH:aQ)(n:Nat)(u:Int):List Nat:=(List.range n).filter λi=>decide ((aH.getD i v0).hash=u)
structure ny(es:List MapEntry)(P:Int->Prop)(S:Int->Sl):Prop where
 a:∀e∈es,∃u:Int,e.key=.int .u64 u/\e.val=Sl.v (S u)/\P u
 b:∀u,P u->∃e∈es,e.key=.int .u64 u
 c:es.Pairwise λx y=>x.key≠y.key
theorem Uy{m:Nat}{g:Hp}{s:Sl}{rows:List (List Value)}(o:fO m i h s rows el)(f:Tn D h g)(k:∀c,s.at c->¬D c):fO m i g s rows el:=by
 rcases o.cases with⟨j,e⟩|⟨b,l,r⟩
 ·rw[j,e];exact sU _ _ _ _
 ·have d:=r.fr f (k b ⟨_,r.a,rfl⟩);exact⟨d.len,d.n,.inr ⟨b,l,d.lt,d.own⟩⟩
structure fZ(X:aR)(h:Hp)(sv:Sl)(mr:Nat)(aH:aQ)(n:Nat):Prop where
 ex:∃(Xi:aR)(ts:List Sl)(S:Int->Sl)(bk:Int->Nat),((∀c,Xi c->X c/\¬sv.at c/\c≠mr/\∀u,hl aH n u≠[]->c≠bk u)/\(∀c,sv.at c->X c/\c≠mr/\∀u,hl aH n u≠[]->c≠bk u)/\X mr/\
  (∀u,hl aH n u≠[]->X (bk u)/\bk u≠mr/\gR h (S u) (bk u) (ints (hl aH n u)) Y6)/\∀u v,hl aH n u≠[]->hl aH n v≠[]->u≠v->bk u≠bk v)/\
  (ts.length=aH.length/\fO 0 4 h sv (List.zipWith aD.row aH ts) di/\∀(j:Nat)(v:aD)(t:Sl),aH[j]? =some v->ts[j]? =some t->aS Xi h t v.items)/\∃es c,h[mr]? =some (.map es c)/\ny es.toList (λu=>hl aH n u≠[]) S
theorem fZ.fr{X S:aR}{h':Hp}{sv:Sl}{m n:Nat}{aH:aQ}(d:fZ X h sv m aH n)(t:Tn S h h')(z:∀c,X c->c<h.size->¬S c):fZ X h' sv m aH n:=by
 obtain⟨J,s,K,r,⟨l,i,g,A,y⟩,⟨C,o,B⟩,H,c,e1,I⟩:=d;have p:=(mq.1 e1).1;refine⟨J,s,K,r,⟨l,i,g,λu D=>?_,y⟩,⟨C,?_,λj v w G F=>aS.fr t (λc b hl=>z c (l c b).1 hl) (λ_ q=>q) _ (B j v w G F)⟩,H,c,(t.2 m p (z m g p)).trans e1,I⟩
 ·obtain⟨f,x,e⟩:=A u D;have:r u<h.size:=by obtain⟨_,_,cs,k,_⟩:=e;exact k.lt
  exact⟨f,x,e.fr t (z _ f this)⟩
 ·exact Uy o t λc b=>z c (i c b).1 (by obtain⟨a,E,rfl⟩:=b;exact(o.at ⟨a,E,rfl⟩).2)
theorem fZ.mono{sv:Sl}{m n:Nat}{j:aQ}(d:fZ D h sv m j n)(k:∀c,D c->E c):fZ E h sv m j n:=by
 obtain⟨s,l,t,r,⟨g,f,q,b,o⟩,p,e⟩:=d;exact⟨s,l,t,r,⟨λc a=>⟨k c (g c a).1,(g c a).2⟩,λc a=>⟨k c (f c a).1,(f c a).2⟩,k _ q,λu i=>⟨k _ (b u i).1,(b u i).2⟩,o⟩,p,e⟩
def bI(k:Int):TypeId:=if k=1 then nZ else if k=12\/k=13 then nY else if k=15 then nW else if k=16 then nt else if k=17 then nk else if k=18 then oJ else if k=19 then oI else if k=20 then nV else oH
def iz(k:Int):TypeId:=if k=1 then Zm else if k=12\/k=13 then Zl else if k=15 then Zk else if k=16 then Zj else if k=17 then Zi else if k=18 then Zh else if k=19 then Zg else if k=20 then Zf else Ze
def cF(k:Int)(r:Rb):List (List Value×TypeId):=
 if k=12\/k=13 then[(ints r.ends,Y6),(bv r.all,Y8)]else if k=15\/k=19\/k=20 then[(ints r.ends,Y6)]else if k=18 then[(bv r.all,Y8),(ints r.ends,Y6)]else if k=1\/k=16\/k=17 then[]else[(lp r.dQ,oK),(strs r.texts,qo)]
def nG(k:Int)(kv:bg)(ks:Sl)(sp:bg):List Value:=if k=15\/k=16\/k=19\/k=20 then kv++sp else if k=17\/k=18 then Sl.v ks::sp else sp
abbrev ia(k:Int)(SS:List Sl)(kv:bg)(ks:Sl)(sp:bg):List Value:=SS.map Sl.v++nG k kv ks sp
structure dO where
 b:Nat
 sf:Sl
 sn:Sl
 sb:Sl
 ks:Sl
 SS:List Sl
 ST:List (Nat->Prop)
 KT:List (Nat->Prop)
 kv:List Value
 sp:List Value
 T0:Nat->Prop
 R:Nat->Prop
 X:Nat->Prop
variable {g:dO}
def dO.Ls(g:dO):List (Nat->Prop):=g.T0::g.R::g.X::(g.ST++g.KT)
abbrev cO:=(Nat->Prop)->Hp->Value->Raw->Option Mem->Prop
def kq(r:Rb):aD:=r.aH.getLast?.getD AH
def iJ(k:Int)(X:aR)(h:Hp)(sp:bg)(r:Rb):Prop:=
 if k=19 then∃sv mr,sp=[Sl.v sv,.map (some mr)]/\fZ X h sv mr r.aH r.aH.length else if k=20 then∃t,sp=[.bool (kq r).au,ah (kq r).num,.string (bs (kq r).text),Sl.v t]/\aS X h t (kq r).items else sp=[]
def Ac(R:aR)(h:Hp)(caps:bg)(cs:List (Array Value)):Prop:=
 caps.length=cs.length/\∀(i:Nat)c,cs[i]? =some c->∃a t,caps[i]? =some (bB a)/\R a/\aO h a c t
def Cn(R:aR)(h:Hp)(KF:Value)(Fs:bg):Prop:=
 ∃a t s,KF=.func (.func 215) #[] #[bB a]/\R a/\aO h a #[Sl.v s] t/\eL R h s Fs
def pI(n:Nat):Array Value:=#[ah (n:Int)]
def jq(k:Int)(b:Nat)(F0 KF:Value)(mm:Mem):List (Array Value):=
 let m:Array Value:=#[bB b]
 if k=12\/k=13 then[#[F0],m,pI mm.r.b.ends.length,pI mm.r.b.all.length]
 else if k=15 then[#[F0],#[KF],m,pI mm.r.b.ends.length]
 else if k=16\/k=17 then[#[F0],#[KF]]
 else if k=18 then[#[F0],#[KF],m,pI mm.r.b.all.length]
 else if k=19 then[#[F0],#[KF],m,pI mm.r.b.ends.length,pI mm.r.b.aH.length]
 else if k=20 then[#[F0],#[KF],m,pI mm.r.b.ends.length,mm.sp.toArray,pI (mm.r.b.ends.getLastD 0)]
 else[#[F0],m,pI mm.r.b.dQ.length]
def eI(k:Int)(r m:Rb):Prop:=
 if k=12\/k=13 then m.ends <+: r.ends/\m.all <+: r.all else if k=15 then m.ends <+: r.ends else if k=19 then m.ends <+: r.ends/\m.aH <+: r.aH/\r.aH.length<=5000/\∀v∈r.aH,v.bw<=4194304
 else if k=18 then m.ends <+: r.ends/\m.all <+: r.all/\m.ends.length=m.all.length
 else if k=1\/k=16\/k=17 then True else if k=20 then m.ends.length<=r.ends.length/\m.ends.dropLast <+: r.ends/\m.ends.length<=4096 else m.dQ <+: r.dQ/\m.texts <+: r.texts/\m.dQ.length=m.texts.length
structure JX(f:ak)(bk:FuncId)(h:Hp)(r:Raw)(mm:Mem)(g:dO):Prop where
 c:∃F0 KF,Mv g.R g.T0 h g.b f g.sf g.sn g.sb F0 mm.s mm.r.b/\(f.k=15\/f.k=16\/f.k=19\/f.k=20->∃m0,mm.ks=[m0]/\KF=m0.F)/\(f.k=17\/f.k=18->Cn g.R h KF (mm.ks.map Mem.F))/\
  (f.k=1->mm.F=F0)/\(f.k≠1->∃caps:List Value,mm.F=.func (.func bk) #[] caps.toArray/\Ac g.R h caps (jq f.k g.b F0 KF mm))
 pr:eI f.k r.b mm.r.b
 ks:mm.r.kids=mm.ks.map Mem.r/\mm.ks.length=f.cs.length
 sp:f.k=20->iJ 20 g.X h mm.sp mm.r.b
def gA(k:Int):FuncId:=if k=12\/k=13 then 196 else if k=15 then 201 else if k=16 then 206 else if k=17 then 213 else if k=18 then 220 else if k=19 then 228 else if k=20 then 242 else 248
structure bU(f:ak)(KM:List cO)(T:aR)(h:Hp)(r:Raw)(m:fN)(g:dO):Prop where
 t:iO T h g.b g.Ls
 B:mD g.T0 h g.b (iz f.k) f g.sf g.sn g.sb r.b (ia f.k g.SS g.kv g.ks g.sp)
 ls:g.SS.length=(cF f.k r.b).length/\g.ST.length=(cF f.k r.b).length
 sl:∀(i:Nat)s A x,g.SS[i]? =some s->g.ST[i]? =some A->(cF f.k r.b)[i]? =some x->Os A h s x.1 x.2
 lk:g.kv.length=KM.length/\g.KT.length=KM.length/\r.kids.length=KM.length
 aN:∀(j:Nat)(M:cO)A w,KM[j]? =some M->g.KT[j]? =some A->g.kv[j]? =some w->M A h w (r.aN j) (m.bind λmm=>mm.ks[j]?)
 no:aS g.R h g.sn f.cm.items
 kl:f.k=17\/f.k=18->eL g.R h g.ks g.kv
 sp:iJ f.k g.X h g.sp r.b
 mm:∀mm,m=some mm->JX f (gA f.k) h r mm g
def cX(f:ak)(KM:List cO):cO:=λT h v r m=>∃g:dO,v=.iface (bI f.k) (bB g.b)/\bU f KM T h r m g
def gz(M:cO):Prop:=∀{T S:aR}{h h':Hp}{v:Value}{r:Raw}{m:fN},M T h v r m->Tn S h h'->(∀c,T c->c<h.size->¬S c)->M T h' v r m
section
variable {KM:List cO} {R X S:aR} {h':Hp} {r:Raw} {m:fN}
theorem iJ.fr{sp:bg}{B:Rb}(s:iJ k X h sp B)(t:Tn S h h')(G:∀c,X c->c<h.size->¬S c):iJ k X h' sp B:=by
 unfold iJ at s ⊢;split
 ·rename_i q
  rw[aI q]at s;obtain⟨u,w,e,v⟩:=s;exact⟨u,w,e,v.fr t G⟩
 ·rename_i q
  rw[aE q]at s;split
  ·rename_i a
   rw[aI a]at s;obtain⟨u,e,v⟩:=s;exact⟨u,e,aS.fr t G (λ_ z=>z) _ v⟩
  grind
theorem iJ.eq{sp:bg}{r a:Rb}(s:iJ k X h sp r)(e:a.aH=r.aH):iJ k X h sp a:=by
 unfold iJ kq at *;simp[*]
theorem iJ.mono{sp:bg}{r:Rb}(s:iJ k X h sp r)(j:∀c,X c->D c):iJ k D h sp r:=by
 unfold iJ at s ⊢;split
 ·rename_i q
  rw[aI q]at s;obtain⟨u,w,e,v⟩:=s;exact⟨u,w,e,v.mono j⟩
 ·rename_i q
  rw[aE q]at s;split
  ·rename_i a
   rw[aI a]at s;grind[aS.mo]
  grind
theorem Ac.fr{caps:bg}{cs:List (Array Value)}(c:Ac R h caps cs)(t:Tn S h h')(z:∀c,R c->c<h.size->¬S c):Ac R h' caps cs:=
 ⟨c.1,λi x d=>by obtain⟨a,y,e,b,k⟩:=c.2 i x d;exact⟨a,y,e,b,t.bq k (z a b k.lt)⟩⟩
theorem Cn.fr{KF:Value}(c:Cn R h KF C)(t:Tn S h h')(B:∀c,R c->c<h.size->¬S c):Cn R h' KF C:=by
 obtain⟨a,y,s,e,b,k,v⟩:=c;exact⟨a,y,s,e,b,t.bq k (B a b k.lt),v.fr t B λ_ z=>z⟩
theorem dO.gq(g:dO):g.Ls[0]? =some g.T0:=rfl
theorem dO.fF(g:dO):g.Ls[1]? =some g.R:=rfl
theorem dO.iM(g:dO):g.Ls[2]? =some g.X:=rfl
theorem dO.hO(g:dO){i:Nat}{A:aR}(b:g.ST[i]? =some A):g.Ls[3+i]? =some A:=by
 unfold dO.Ls;grind
theorem dO.fk(g:dO){j:Nat}{A:aR}(a:g.KT[j]? =some A):g.Ls[3+g.ST.length+j]? =some A:=by
 unfold dO.Ls;grind
theorem JX.fr{B:FuncId}{mm:Mem}(M:JX f B h r mm g)(t:Tn S h h')(z:∀c,g.R c->c<h.size->¬S c)(H:∀c,g.T0 c->c<h.size->¬S c)(G:∀c,g.X c->c<h.size->¬S c):JX f B h' r mm g:=by
 obtain⟨⟨n,KF,l,k,j,i,d⟩,b,ks,sp⟩:=M;exact⟨⟨n,KF,l.fr t z H,k,λq=>(j q).fr t z,i,λq=>by obtain⟨a,e,mc⟩:=d q;exact⟨a,e,mc.fr t z⟩⟩,b,ks,λq=>(sp q).fr t G⟩
theorem bU.fr(G:bU f KM T h r m g)(KF:∀(j:Nat)M,KM[j]? =some M->gz M)(t:Tn S h h')(H:∀c,T c->c<h.size->¬S c):bU f KM T h' r m g:=by
 have q:∀{A:aR}(i:Nat),g.Ls[i]? =some A->∀c,A c->c<h.size->¬S c:=λi o c k hl=>H c (G.t.sub _ (bS o) c k).1 hl;exact⟨G.t.grow t.1,G.B.fr t (H g.b G.t.tb (G.t.lt _ G.t.tb)) (q 0 g.gq),G.ls,λi s A x d a l=>(G.sl i s A x d a l).fr t (q _ (g.hO a)),G.lk,
  λj M A w d a l=>KF j M d (G.aN j M A w d a l) t λc k hl=>q _ (g.fk a) c k hl,aS.fr t (q 1 g.fF) (λ_ z=>z) _ G.no,λz=>(G.kl z).fr t (q 1 g.fF) λ_ z=>z,G.sp.fr t (q 2 g.iM),λn e=>(G.mm n e).fr t (q 1 g.fF) (q 0 g.gq) (q 2 g.iM)⟩
theorem cX.fr{v:Value}(KF:∀(j:Nat)M,KM[j]? =some M->gz M):gz (cX f KM):=by
 rintro T S h h' v r m ⟨g,e,G⟩ t a;exact⟨g,e,G.fr KF t a⟩
theorem bU.mono(G:bU f KM T h r m g)(hT:∀c,T c->D c)(hl:∀c,D c->c<h.size):bU f KM D h r m g:=
 ⟨G.t.mono hT hl,G.B,G.ls,G.sl,G.lk,G.aN,G.no,G.kl,G.sp,G.mm⟩
end
theorem acQ{α:Type}{l:List α}{a:α}{F:α->α}(h:l[i]? =some a):l.modify i F=l.set i (F a):=by
 apply si;grind
theorem dO.abh(g:dO){i:Nat}{B:aR}(a:i<g.ST.length):g.Ls.set (3+i) B={g with ST:=g.ST.set i B}.Ls:=by
 have e:3+i=i+1+1+1:=ag;unfold dO.Ls;simp[*]
theorem dO.abi(g:dO){j:Nat}{B:aR}:g.Ls.set (3+g.ST.length+j) B={g with KT:=g.KT.set j B}.Ls:=by
 have e:3+g.ST.length+j=g.ST.length+j+1+1+1:=ag;unfold dO.Ls;simp[*]
section
variable {KM:List cO} {S:aR} {h':Hp} {r:Raw} {m:fN}
theorem bU.av(G:bU f KM T h r m g){i j:Nat}{A B:aR}(l:g.Ls[i]? =some A)(o:∀c,S c->c<h.size->c=g.b\/A c)(a:g.Ls[j]? =some B)(ne:i≠j):∀c,B c->c<h.size->¬S c:=
 λc d hl k=>(o c k hl).elim (λe=>G.t.kW a (e▸d)) λn=>G.t.ne l a ne c n d
theorem bU.kr(G:bU f KM T h r m g){i:Nat}{A:aR}(a:g.Ls[i]? =some A){c:Nat}(b:A c):T c:=(G.t.sub _ (bS a) c b).1
theorem bU.bl(G:bU f KM T h r m g):g.b<h.size:=G.t.lt _ G.t.tb
theorem ame{K:cL}(G:bU f KM T h r m g)(KF:∀(j:Nat)M,KM[j]? =some M->gz M)(v:4096<=r.b.rows->K 3 h)
  (J:r.b.rows<4096->∀a h',Tn (λc=>c=g.b\/g.T0 c) h h'->bU f KM (Tr T h h') h' (r.up (Rb.row au)) m {g with sb:=a,T0:=Tr g.T0 h h'}->K 0 h'):nx (bD g.b) au h K Kp:=by
 refine amf G.B (λc q=>G.t.l (by simp[dO.Ls]) q) v λu a h' t p q=>?_
 have N:∀c,(c=g.b\/g.T0 c)->c<h.size->c=g.b\/g.T0 c:=λc q _=>q;have av:∀{j:Nat}{B:aR},g.Ls[j]? =some B->0≠j->∀c,B c->c<h.size->¬(c=g.b\/g.T0 c):=λL ne=>G.av g.gq N L ne;refine J u a h' t ⟨G.t.step 0 t.1,⟨p.k,p.o.tr,λq=>?_,p.len,p.nl,p.rl⟩,G.ls,λi s A x C d D=>(G.sl i s A x C d D).fr t (av (g.hO d) ag),G.lk,
  λj M A w C d D=>KF j M C (G.aN j M A w C d D) t (av (g.fk d) ag),aS.fr t (av g.fF ag) (λ_ z=>z) _ G.no,λz=>(G.kl z).fr t (av g.fF ag) λ_ z=>z,G.sp.fr t (av g.iM ag),λI e=>?_⟩
 ·rcases q with q|q
  ·exact G.t.kW g.gq q
  ·have q:h.size<=g.b/\g.b<h'.size:=q;have:=G.bl;omega
 ·obtain⟨⟨U,F,n,R,Q,P,O⟩,H,ks,sp⟩:=G.mm I e;have E:=av g.fF ag;exact⟨⟨U,F,⟨n.bm.fr t E,(q n.o).tr,n.len,n.nl,n.rl⟩,R,λz=>(Q z).fr t E,P,λz=>by obtain⟨y,e,mc⟩:=O z;exact⟨y,e,mc.fr t E⟩⟩,H,ks,λz=>(sp z).fr t (av g.iM ag)⟩
theorem bU.base{a:Rb}(G:bU f KM T h r m g)(KF:∀(j:Nat)M,KM[j]? =some M->gz M)(o:eJ g.b h h')(C:mD g.T0 h' g.b (iz f.k) f g.sf g.sn g.sb a (ia f.k g.SS g.kv g.ks g.sp))
  (e1:cF f.k a=cF f.k r.b) (B:a.aH=r.b.aH) (y:∀x,eI f.k r.b x->eI f.k a x):bU f KM T h' (.mk a r.kids) m g:=by
 have q:∀{A:aR}(i:Nat),g.Ls[i]? =some A->∀c,A c->c<h.size->¬c=g.b:=λi u c v hl e=>G.t.kW u (e▸v);have t:=o.fr;refine⟨G.t.grow (EJ o.1.symm),C,by rw[show(Raw.mk a r.kids).b=a from rfl,e1];exact G.ls,λi s A x n d l=>?_,G.lk,λj M A w n d l=>KF j M n (G.aN j M A w n d l) t (q _ (g.fk d)),
  aS.fr t (q 1 g.fF) (λ_ z=>z) _ G.no,λz=>(G.kl z).fr t (q 1 g.fF) λ_ z=>z,?_,λp e=>?_⟩
 ·rw[show(Raw.mk a r.kids).b=a from rfl,e1]at l;exact(G.sl i s A x n d l).fr t (q _ (g.hO d))
 ·exact(G.sp.fr t (q 2 g.iM)).eq B
 ·have M:=(G.mm p e).fr t (q 1 g.fF) (q 0 g.gq) (q 2 g.iM);exact⟨M.c,y _ M.pr,M.ks,M.sp⟩
theorem aiI{x:Int}{n:Nat}{K:cL}(G:bU f KM T h r m g)(KF:∀(j:Nat)M,KM[j]? =some M->gz M)(a:x=n)(d:r.b.bF+n<2^62)
  (c:∀h',eJ g.b h h'->bU f KM T h' (fj n r).2 m g->K (fj n r).1 h'):mA (bD g.b) x h K Kp:=by
 exact aiG G.B a d λh' o e=>c h' o (G.base KF o e rfl rfl λ_ z=>z)
theorem bU.slot{u:Sl}{R:Raw}(G:bU f KM T h r m g)(KF:∀(j:Nat)M,KM[j]? =some M->gz M)(E:g.ST[i]? =some A)(t:Tn A h H)(os:Os (Tr A h H) H u x'.1 x'.2)
  (o:eJ g.b H h') (F:aO h' g.b (cj f g.sf g.sn g.sb r.b.rows r.b.cz r.b.bF (ia f.k (g.SS.set i u) g.kv g.ks g.sp)).toArray (iz f.k))
  (l:R.b.rows=r.b.rows/\R.b.cz=r.b.cz/\R.b.bits=r.b.bits/\R.b.bF=r.b.bF) (e1:cF f.k R.b=(cF f.k r.b).set i x') (e0:R.kids=r.kids) (K:R.b.aH=r.b.aH) (J:∀v,m=some v->eI f.k r.b v.r.b->eI f.k R.b v.r.b):
  bU f KM (Tr T h H) h' R m {g with SS:=g.SS.set i u,ST:=g.ST.set i (Tr A h H)}/\Tn (λc=>A c\/c=g.b) h h':=by
 have y:=(dy.1 E).1;have C:=g.hO E;have nb:¬A g.b:=G.t.kW C;have bl:=G.bl;have n:Tn (λc=>A c\/c=g.b) h h':=(t.mono λc q _=>.inl q).trans (o.fr.mono λc q _=>.inr q);have D:∀c,(A c\/c=g.b)->c<h.size->c=g.b\/A c:=λc q _=>q.symm;have av:∀{j:Nat}{B:aR},g.Ls[j]? =some B->3+i≠j->∀c,B c->c<h.size->¬(A c\/c=g.b):=λI ne=>G.av C D I ne;refine⟨⟨?_,?_,?_,λj s B x d a p=>?_,by rw[e0];exact G.lk,λj M B w d a p=>?_,aS.fr n (av g.fF ag) (λ_ z=>z) _ G.no,λz=>(G.kl z).fr n (av g.fF ag) λ_ z=>z,?_,λv e=>?_⟩,n⟩
 ·have:=(G.t.step (3+i) t.1).grow (EJ o.1.symm);rw[acQ C,g.abh y]at this;exact this
 ·refine⟨dH,by rw[l.2.2.1];exact G.B.o.fr n (av g.gq ag),G.B.nT,by rw[l.2.2.1,l.1];exact G.B.len,by rw[l.2.1,l.1];exact G.B.nl,by rw[l.1];exact G.B.rl⟩
 ·simp only[B7,e1];exact G.ls
 ·dsimp only at d a;rw[e1]at p;rw[x9]at d a p
  by_cases e:i=j
  ·subst e;have N:=G.ls.1;have L:=G.ls.2;rw[aI rfl,dU]at d p;rw[aI rfl,aI y]at a;cases d;cases a;cases p;refine os.fr o.fr λc q _ e=>?_;grind
  ·rw[aE e]at d a p;exact(G.sl j s B x d a p).fr n (av (g.hO a) ag)
 ·have:=KF j M d (G.aN j M B w d a p) n (av (g.fk a) ag)
  unfold Raw.aN at this ⊢;grind
 ·exact(G.sp.fr n (av g.iM ag)).eq K
 ·have M:=(G.mm v e).fr n (av g.fF ag) (av g.gq ag) (av g.iM ag);exact⟨M.c,J v e M.pr,M.ks,M.sp⟩
theorem bU.apq{R:Raw}(G:bU f KM T h r m g)(KF:∀(j:Nat)M,KM[j]? =some M->gz M)(p:g.KT[j]? =some A)(t:Tn A h h')
  (y:∀M w,KM[j]? =some M->g.kv[j]? =some w->M (Tr A h h') h' w R (m.bind λl=>l.ks[j]?)):bU f KM (Tr T h h') h' (r.eZ j R) m {g with KT:=g.KT.set j (Tr A h h')}:=by
 have o:=(dy.1 p).1;have v:∀c,A c->c<h.size->c=g.b\/A c:=λc q _=>.inr q;have n:=g.fk p;have nb:=G.t.kW n;have av:∀{i:Nat}{B:aR},g.Ls[i]? =some B->3+g.ST.length+j≠i->∀c,B c->c<h.size->¬A c:=λu ne=>G.av n v u ne;have lk:=G.lk;refine⟨?_,G.B.fr t nb (av g.gq ag),G.ls,λi s B x d a k=>(G.sl i s B x d a k).fr t (av (g.hO a) bZ),⟨lk.1,dH,by rw[uX];omega⟩,λi M B w d a k=>?_,
  aS.fr t (av g.fF ag) (λ_ z=>z) _ G.no,λz=>(G.kl z).fr t (av g.fF ag) λ_ z=>z,G.sp.fr t (av g.iM ag),λl e=>(G.mm l e).fr t (av g.fF ag) (av g.gq ag) (av g.iM ag) |> λM=>⟨M.c,M.pr,M.ks,M.sp⟩⟩
 ·have:=G.t.step (3+g.ST.length+j) t.1;rw[acQ n,g.abi]at this;omega
 ·dsimp only at a;rw[x9]at a
  by_cases e:j=i
  ·subst e;rw[aI rfl,aI o]at a;cases a;rw[lC ag];exact y M w d k
  ·rw[aE e]at a;rw[AM e];exact KF i M d (G.aN i M B w d a k) t (av (g.fk a) ag)
def Out(g:dO)(c:Nat):Prop:=c≠g.b/\∀(i:Nat)A,g.Ls[i]? =some A->i≠1->¬A c
theorem bU.out(G:bU f KM T h r m g){c:Nat}(a:¬T c):Out g c:=⟨λe=>a (e▸G.t.tb),λi A b _ q=>a (G.kr b q)⟩
theorem bU.DF(G:bU f KM T h r m g){c:Nat}(a:g.R c):Out g c:=⟨λe=>G.t.kW g.fF (e▸a),λi A b ne q=>G.t.ne b g.fF ne c q a⟩
theorem Out.not{c:Nat}(G:bU f KM T h r m g)(a:¬Out g c):T c:=by
 by_cases q:T c
 ·exact q
 ·exact absurd (G.out q) a
theorem Out.set{a:dO}{c:Nat}(o:Out g c)(t:a.b=g.b)(u:a.Ls=g.Ls.set i (Tr A h h'))(p:g.Ls[i]? =some A)(y:c<h.size):Out a c:=by
 refine⟨by rw[t];exact o.1,λj B hB ne q=>?_⟩
 rw[u,x9]at hB;have d:=(dy.1 p).1
 by_cases e:i=j
 ·subst e;rw[aI rfl,aI d]at hB;cases hB;rcases q with q|q
  ·exact o.2 i A p ne q
  ·omega
 ·rw[aE e]at hB;exact o.2 j B hB ne q
end
section
variable {s:Sl} {vs:bg}
theorem Os.BM{bytes n:Nat}{news:bg}{e:List Value->Prop}{z:Array Value}{K:Sl->HP}(o:Os T h s vs el)(P:z.size=1)(Q:∀x∈news,one x=true)(hl:news.length=n)(w:e news)
  (F:(s.n+n+(s.n+n)/4+192)*bytes<=2^48) (R:s.n+n<2^63)
  (y:∀G h',Tn T h h'->Os (Or T h) h' G (vs++news) el->K G h'):Ap h el z 1 bytes s n e K:=by
 have j:∀iS:List Value,rd h s.a (s.n*1) iS->iS=vs->s.c<s.n+n->Ap h el z 1 bytes s n e K:=by
  intro iS A q p;subst q;have k:=o.n;refine⟨news,w,.inr ⟨p,?_,R,iS,A,?_⟩⟩
  ·have:=nextslicecap_le_wide p;have Y:=pL bytes this;omega
  ·intro u B X;refine y _ _ (bx (rW h _)) (.inr ⟨h.size,.inr (cr _),rfl,?_,_,by simp only[aO,Y0];rfl,B,?_,λi l=>?_⟩)
   ·simp[k,hl]
   ·simp[Builtin.zeroCells,k,hl,P];omega
   grind
 rcases o with⟨rfl,rfl⟩|⟨b,t,J,W,cs,I,Z,V,H⟩
 ·by_cases h0:n=0
  ·subst h0;have:news=[]:=bZ;subst this;exact⟨[],w,.inl ⟨cr _,y Sl.nil h (iW _ _) (.inl ⟨rfl,rfl⟩)⟩⟩
  ·exact j [] rfl rfl (by simp only[Sl.nil];omega)
 ·by_cases p:s.n+n<=s.c
  ·refine⟨news,w,.inl ⟨p,?_⟩⟩;rw[J]
   show iZ h ((Addr.mk b 0 none).add (s.n*1)) 0 news _
   rw[bz];refine vZ news I ag Q λh' D O N M L=>y _ h' (O.fr.mono λd U _=>U▸t) (.inr ⟨b,.inl t,rfl,by simp[W,hl],D,N,p,by rw[M,V],λi l=>?_⟩)
   grind
  ·refine j vs ?_ rfl ag;rw[J];refine⟨ag,λi v l=>?_⟩
   have:i<vs.length:=bZ;rw[bz,bX,gU I,H i ag];exact l
end
structure eT(f:ak)(KM:List cO)(T:aR)(h0 h:Hp)(r:Raw)(m:fN)(g:dO)(E:aR):Prop where
 t:Tn T h0 h
 G:bU f KM (Tr T h0 h) h r m g
 e:∀c,E c->c<h.size/\Out g c
section
variable {KM:List cO} {S:aR} {h0 h':Hp} {r r':Raw} {m:fN} {g':dO}
theorem eT.of(G:bU f KM T h r m g)(z:∀c,E c->c<h.size/\Out g c):eT f KM T h h r m g E:=
 ⟨iW _ _,G.mono (λc q=>.inl q) λc q=>q.elim (λq=>G.t.lt c q) λq=>ag,z⟩
theorem eT.next(s:eT f KM T h0 h r m g E)(G:bU f KM (Tr (Tr T h0 h) h h') h' r' m g')(t:Tn S h h')(d:∀c,S c->c<h.size->¬Out g c)(j:∀c,c<h.size->Out g c->Out g' c):eT f KM T h0 h' r' m g' E/\Tn (λc=>¬E c) h h':=by
 have i:=s.t.1;have b:=t.1;refine⟨⟨s.t.trans' t λc q a=>(Out.not s.G (d c q ag)).elim id λq=>ag,G.mono (λc q=>Tr.tr i b q) λc q=>?_,λc q=>?_⟩,t.mono λc q a z=>d c q a (s.e c z).2⟩
 ·rcases q with q|q
  ·have:=s.G.t.lt c (.inl q);omega
  omega
 ·have:=s.e c q;grind
theorem eT.ai(KF:∀(j:Nat)M,KM[j]? =some M->gz M)(s:eT f KM T h0 h r m g E)(gr:aB h h'):eT f KM T h0 h' r m g (λc=>E c\/(h.size<=c/\c<h'.size)):=by
 have b:=gr.1;have a:=s.G.fr KF (bx gr) λ_ _ _=>id;refine⟨s.t.trans (bx gr),a.mono (λc q=>q.imp id λq=>⟨q.1,ag⟩) λc q=>?_,λc q=>?_⟩
 ·rcases q with q|q
  ·have:=s.G.t.lt c (.inl q);omega
  omega
 ·rcases q with q|q
  ·have:=s.e c q;grind
  ·exact⟨q.2,s.G.out λz=>by have:=s.G.t.lt c z;omega⟩
theorem eT.only(s:eT f KM T h0 h r m g E)(o:eJ g.b h h')(G:bU f KM (Tr T h0 h) h' r' m g):eT f KM T h0 h' r' m g E/\Tn (λc=>¬E c) h h':=
 s.next (G.mono (λc q=>.inl q) λc q=>q.elim (λq=>G.t.lt c q) λq=>q.2) o.fr (λc q _ z=>z.1 q) λc _ o=>o
theorem eT.vm{a:Nat}{cs:Array Value}(t:Tn (λc=>¬E c) h h')(k:aO h a cs ty)(b:E a):aO h' a cs ty:=t.bq k λq=>q b
abbrev lG:=@eT.vm
theorem rz{n:Bool}{F:Raw->Int×Raw}(h:4096<=r.b.rows):cQ (eN n r) F=(3,r):=by
 unfold eN;rw[aI h];rfl
theorem ry{n:Bool}{F:Raw->Int×Raw}(h:r.b.rows<4096):cQ (eN n r) F=F (r.up (Rb.row n)):=by
 unfold eN;rw[aA];rfl
theorem bU.dI{s:Sl}{K:Sl->Prop}(G:bU f KM T h r m g)(l:g.b=b)(a:g.SS[i]? =some s)(d:K s):Ld h ⟨b,16+i,none⟩ Sl.v K:=by
 subst l;refine aj G.B.k ?_ d;rw[r7];have e:∀c,cj f g.sf g.sn g.sb r.b.rows r.b.cz r.b.bF c=cj f g.sf g.sn g.sb r.b.rows r.b.cz r.b.bF []++c:=λ_=>rfl;rw[e,gv (by show 16<=_;omega)]
 show(List.map Sl.v g.SS++_)[16+i-16]? =_
 grind
theorem bU.uW{s s':Sl}{K:HP}(G:bU f KM T h r m g)(j:g.SS[i]? =some s)(k:aO H g.b (cj f g.sf g.sn g.sb r.b.rows r.b.cz r.b.bF (ia f.k g.SS g.kv g.ks g.sp)).toArray (iz f.k))
  (l:∀h',eJ g.b H h'->aO h' g.b (cj f g.sf g.sn g.sb r.b.rows r.b.cz r.b.bF (ia f.k (g.SS.set i s') g.kv g.ks g.sp)).toArray (iz f.k)->K h'):St H ⟨g.b,16+i,none⟩ (Sl.v s') K:=by
 have e:∀d,cj f g.sf g.sn g.sb r.b.rows r.b.cz r.b.bF d=cj f g.sf g.sn g.sb r.b.rows r.b.cz r.b.bF []++d:=λ_=>rfl;have a:(cj f g.sf g.sn g.sb r.b.rows r.b.cz r.b.bF []).length=16:=rfl;refine dN k ?_ rfl λh' o c=>l h' o ?_
 all_goals grind[List.set_append_right,List.set_append_left,List.map_set]
theorem eT.app{n bytes:Nat}{s:Sl}{x:List Value×TypeId}{news:bg}{a:List Value->Prop}{z:Array Value}{K:HP}(KF:∀(j:Nat)M,KM[j]? =some M->gz M)(S:eT f KM T h0 h r m g E)(W:g.b=b)(C:g.SS[i]? =some s)(L:(cF f.k r.b)[i]? =some x)
  (J:z.size=1) (O:∀v∈news,one v=true) (hl:news.length=n) (N:a news) (d:(s.n+n+(s.n+n)/4+192)*bytes<=2^48) (P:s.n+n<2^63) (V:x'=(x.1++news,x.2))
  (U:r'.b.rows=r.b.rows/\r'.b.cz=r.b.cz/\r'.b.bits=r.b.bits/\r'.b.bF=r.b.bF) (e1:cF f.k r'.b=(cF f.k r.b).set i x') (e0:r'.kids=r.kids) (Y:r'.b.aH=r.b.aH) (X:∀y,m=some y->eI f.k r.b y.r.b->eI f.k r'.b y.r.b)
  (Q:∀e A' h',Tn (λc=>¬E c) h h'->eT f KM T h0 h' r' m {g with SS:=g.SS.set i e,ST:=g.ST.set i A'} E->K h'):Ap h x.2 z 1 bytes s n a λe p=>St p ⟨b,16+i,none⟩ (Sl.v e) K:=by
 subst W;have ls:=S.G.ls;have hi:=(dy.1 C).1;have l:g.ST[i]? =some g.ST[i]:=aC;generalize g.ST[i]=A at l;refine(S.G.sl i s A x C l L).BM J O hl N d P λe p t os=>?_;have nb:=S.G.t.kW (g.hO l);refine S.G.uW C (t.bq S.G.B.k nb) λh' o H=>?_;have w:Os (Tr A h p) p e x'.1 x'.2:=by rw[V];exact os.tr
 obtain⟨G',F⟩:=S.G.slot KF l t w o H U e1 e0 Y X;have so:=o.1;have u:=g.hO l;have I:i<g.ST.length:=ag;obtain⟨Z,D⟩:=S.next (G'.mono (λc q=>q.imp id λq=>⟨q.1,ag⟩) λc q=>by rcases q with q|q;(have:=S.G.t.lt c q;have:=t.1;omega);exact q.2) F (λc q _ z=>q.elim (z.2 _ A u ag) z.1) λc R z=>z.set rfl (g.abh I).symm u R
 grind
theorem eT.row{K:cL}(KF:∀(j:Nat)M,KM[j]? =some M->gz M)(S:eT f KM T h0 h r m g E)(p:g.b=b)(e:4096<=r.b.rows->K 3 h)
  (o:r.b.rows<4096->∀d A' h',Tn (λc=>¬E c) h h'->eT f KM T h0 h' (r.up (Rb.row au)) m {g with sb:=d,T0:=A'} E->K 0 h'):nx (bD b) au h K Kp:=by
 subst p;refine ame S.G KF e λc d h' k t=>?_;obtain⟨n,a⟩:=S.next t k (λc q _ z=>q.elim z.1 (z.2 0 _ g.gq bh)) λc l z=>z.set rfl rfl g.gq l;exact o c d _ h' a n
theorem eT.pU{x:Int}{n:Nat}{K:cL}(KF:∀(j:Nat)M,KM[j]? =some M->gz M)(S:eT f KM T h0 h r m g E)(l:g.b=b)(d:x=n)(k:r.b.bF+n<2^62)
  (e:∀h',Tn (λc=>¬E c) h h'->eT f KM T h0 h' (fj n r).2 m g E->K (fj n r).1 h'):mA (bD b) x h K Kp:=by
 subst l;refine aiI S.G KF d k λh' o p=>?_;obtain⟨i,a⟩:=S.only o p;exact e h' a i
theorem eT.aN{rj:Raw}(KF:∀(j:Nat)M,KM[j]? =some M->gz M)(S:eT f KM T h0 h r m g E)(u:g.KT[j]? =some A)(t:Tn A h h')
  (B:∀M w,KM[j]? =some M->g.kv[j]? =some w->M (Tr A h h') h' w rj (m.bind λy=>y.ks[j]?)):eT f KM T h0 h' (r.eZ j rj) m {g with KT:=g.KT.set j (Tr A h h')} E/\Tn (λc=>¬E c) h h':=by
 have a:=g.fk u;exact S.next (S.G.apq KF u t B) t (λc q _ z=>z.2 _ A a ag q) λc b z=>z.set rfl g.abi.symm a b
theorem bU.lN{w:Value}{K:Value->Prop}(G:bU f KM T h r m g)(l:g.b=b)(a:f.k=15\/f.k=16\/f.k=19\/f.k=20)(hl:g.SS.length=i)(c:g.kv[0]? =some w)(j:K w):Ld h ⟨b,16+i,none⟩ id K:=by
 subst l;refine aj G.B.k ?_ j;rw[r7];have e:∀d,cj f g.sf g.sn g.sb r.b.rows r.b.cz r.b.bF d=cj f g.sf g.sn g.sb r.b.rows r.b.cz r.b.bF []++d:=λ_=>rfl;rw[e,gv (by show 16<=_;omega)]
 show(List.map Sl.v g.SS++_)[16+i-16]? =_
 rw[gv cy,cC,show 16+i-16-g.SS.length=0 by omega]
 unfold nG;grind
end
structure MC(f:ak)(M:cO):Prop where
 fr:gz M
 lt:∀{T:aR}{h:Hp}{v:Value}{r:Raw}{m:fN},M T h v r m->∀c,T c->c<h.size
 na:∀{T:aR}{h:Hp}{v:Value}{r:Raw}{m:fN},M T h v r m->∃k b,v=.iface (bI k) (bB b)
 mono:∀{T T':aR}{h:Hp}{v:Value}{r:Raw}{m:fN},M T h v r m->(∀c,T c->T' c)->(∀c,T' c->c<h.size)->M T' h v r m
 drop:∀{T:aR}{h:Hp}{v:Value}{r:Raw}{m:fN},M T h v r m->M T h v r none
 take:∀{T D:aR}{h:Hp}{v:Value}{vs:aQ}{m:fN}{x:aD}{s:Sl}{K:cL}{Kp:PK},f.can vs->f.fit x=true->x.bw<=4194304->M T h v (f.st vs) m->aS D h s x.items->(∀c,D c->¬T c)->
  (∀h',Tn T h h'->M (Tr T h h') h' v (f.tk (f.st vs) x).2 m->K (f.tk (f.st vs) x).1 h')->mU v x.au x.num (bs x.text) s h K Kp
 zero:∀{T:aR}{h:Hp}{v:Value}{vs:aQ}{m:fN}{K:cL}{Kp:PK},f.can vs->M T h v (f.st vs) m->
  (∀h',Tn T h h'->M (Tr T h h') h' v (f.zk (f.st vs)).2 m->K (f.zk (f.st vs)).1 h')->mB v h K Kp
 mark:∀{T:aR}{h:Hp}{v:Value}{vs:aQ}{K:de}{Kp:PK},f.can vs->M T h v (f.st vs) none->
  (∀mm h',aB h h'->one mm.F=true->mm.F.cells=#[mm.F]->mm.r=f.st vs->M (Tr T h h') h' v (f.st vs) (some mm)->K mm.F h')->kU v h K Kp
 back:∀{T:aR}{h:Hp}{v:Value}{r:Raw}{mm:Mem}{K:HP}{Kp:PK},M T h v r (some mm)->
  (∀h',Tn T h h'->M T h' v mm.r (some mm)->K h')->c8 aG mm.F [] h (λr h1=>r=.tuple #[]/\K h1) Kp
 done:∀{T:aR}{h:Hp}{v:Value}{vs:aQ}{m:fN}{K:Int->Int->Int->Sl->Sl->Sl->HP}{Kp:PK},f.can vs->M T h v (f.st vs) m->
  (∀p h',aB h h'->eD (Nw h) (Nw h) h' p (f.dn (f.st vs))->K (f.dn (f.st vs)).len (f.dn (f.st vs)).off (f.dn (f.st vs)).au p.1 p.2.1 p.2.2 h')->mC v h K Kp
 count:∀{T:aR}{h:Hp}{v:Value}{r:Raw}{m:fN}{K:cL}{Kp:PK},M T h v r m->K (r.b.rows:Int) h->ahu v h K Kp
 weight:∀{T:aR}{h:Hp}{v:Value}{r:Raw}{m:fN}{K:cL}{Kp:PK},M T h v r m->K (r.b.bF:Int) h->aht v h K Kp
section
variable {KM:List cO} {v:Value} {r:Raw} {m:fN} {x:aD} {s:Sl} {K:cL}
theorem bU.oq{s:Sl}{x:List Value×TypeId}(G:bU f KM T h r m g)(a:g.SS[i]? =some s)(c:(cF f.k r.b)[i]? =some x):s.n=x.1.length:=by
 have d:=G.ls;have e:=(dy.1 a).1;exact(G.sl i s _ x a (bL ag) c).n
theorem ajq(a:f.k=1)(r:Raw)(x:aD):f.tk r x=cQ (eN true r) (fj 16):=by
 rw[kD];unfold iD;simp[*]
theorem aaM(e:f.k=1)(KF:∀(j:Nat)M,KM[j]? =some M->gz M)(G:bU f KM T h r m g)(I:r.b.bF<=2^50)(d:∀i,Tn T h i->cX f KM (Tr T h i) i (.iface (bI f.k) (bB g.b)) (f.tk r x).2 m->K (f.tk r x).1 i):Gz (bD g.b) x.au x.num (bs x.text) s h K Kp:=by
 have l:bI f.k=nZ:=by unfold bI;simp[*]
 rw[l]at d;rw[ajq e]at d;refine Gz.of (aJ λa u H w C _=>?_);simp only[n9];have n:=(eT.of (E:=λ_=>False) G λ_ q=>q.elim).ai KF w;refine n.row KF rfl (λc=>bQ rfl ?_) λc z J F B y=>bu rfl ?_
 ·rw[rz c]at d;exact d u n.t ⟨g,by rw[l],n.G⟩
 ·rw[ry c]at d;refine y.pU KF rfl rfl (by show r.b.bF+16<2^62;omega) λp A o=>d p o.t ⟨_,by rw[l],o.G⟩
theorem ajk(c:f.k=12\/f.k=13)(r:Raw)(x:aD):f.tk r x=cQ (eN x.au r) λa=>if 65536<a.b.all.length+x.text.length then(4,a)else fj (16+x.text.length) (a.up λb=>{b with all:=b.all++x.text,ends:=b.ends++[b.all.length+x.text.length]}):=by
 rw[kD];unfold iD;grind
theorem aaH(A:f.k=12\/f.k=13)(KF:∀(j:Nat)M,KM[j]? =some M->gz M)(G:bU f KM T h r m g)(b1:r.b.ends.length<=70000)(b2:r.b.all.length<=2^40)(b3:r.b.bF<=2^50)(b4:x.text.length<=2^40)
  (o:∀J,Tn T h J->cX f KM (Tr T h J) J (.iface (bI f.k) (bB g.b)) (f.tk r x).2 m->K (f.tk r x).1 J):Gy (bD g.b) x.au x.num (bs x.text) s h K Kp:=by
 have L:bI f.k=nY:=by unfold bI;grind
 rw[L]at o;rw[ajk A]at o;have l:∀I:Rb,cF f.k I=[(ints I.ends,Y6),(bv I.all,Y8)]:=λI=>by unfold cF;simp[*]
 have U:∀a b:Rb,eI f.k a b↔b.ends <+: a.ends/\b.all <+: a.all:=λa b=>by unfold eI;simp[*]
 obtain⟨C,p,d⟩:∃C p,g.SS=[C,p]:=by
  have:=G.ls.1;rw[l]at this
  match hg:g.SS,this with
  |[a,b],_=>simp
 refine Gy.of (aJ λa S ea g1 e _=>?_);refine bO ?_;have O:=(eT.of (E:=λ_=>False) G λ_ q=>q.elim).ai KF g1;have P:(λc=>False\/(h.size<=c/\c<S.size)) a:=ag
 refine aj e rfl (O.row KF rfl (λc=>bQ rfl ?_) λc a' A' h2 Y w=>bu rfl ?_)
 ·rw[rz c]at o;exact o S O.t ⟨g,by rw[L],O.G⟩
 ·rw[ry c]at o;have e:=lG Y e P;have n1:p.n=r.b.all.length:=by have:=w.G.oq (i:=1) (s:=p) (by simp[d]) (by rw[l];rfl);rw[this,fH];rfl
  have n0:C.n=r.b.ends.length:=by have:=w.G.oq (i:=0) (s:=C) (by simp[d]) (by rw[l];rfl);rw[this,ints,cC];rfl
  refine w.G.dI (i:=1) (s:=p) rfl (by simp[d]) (aj e rfl (aY ag (by rw[iU];omega) (aK (λu=>?_) λu=>?_)))
  ·have u:=aU u;rw[iU]at u;rw[aI (by show 65536<r.b.all.length+_;omega)]at o
   exact o h2 w.t ⟨_,by rw[L],w.G⟩
  ·have u:=aU u;rw[iU]at u;rw[aE (by show¬65536<r.b.all.length+_;omega)]at o
   refine w.G.dI (i:=1) (s:=p) rfl (by simp[d]) (aj e rfl ?_)
   refine w.app (i:=1) (x:=(bv r.b.all,Y8)) (x':=(bv (r.b.all++x.text),Y8)) (r':=(r.up (Rb.row x.au)).up λb=>{b with all:=b.all++x.text}) KF rfl (by simp[d]) (by rw[l];rfl) rfl ?_ (by rw[fH,iU]) ?_ bZ bZ (by rw[um])
    ⟨rfl,rfl,rfl,rfl⟩ (by rw[l,l];rfl) rfl rfl (λZ _ q=>?_) λz A1 h3 X H=>?_
   ·intro v F;simp only[bv,kZ]at F;obtain⟨y,_,rfl⟩:=F;rfl
   ·rfl
   ·rw[U]at q ⊢;exact⟨q.1,q.2.trans (sV _ _)⟩
   have e:=lG X e P;have Q:z.n=r.b.all.length+x.text.length:=by have:=H.G.oq (i:=1) (s:=z) (by simp[d]) (by rw[l];rfl);rw[this,fH];exact ij
   refine H.G.dI (i:=0) (s:=C) rfl (by simp[d]) (H.G.dI (i:=1) (s:=z) rfl (by simp[d]) (aJ λa5 h4 e5 N R _=>bR H.G.B.k N ?_))
   rw[Q]at R;refine(H.ai KF N).app (i:=0) (s:=C) (x:=(ints r.b.ends,Y6)) (x':=(ints (r.b.ends++[r.b.all.length+x.text.length]),Y6)) (r':=(r.up (Rb.row x.au)).up λb=>{b with all:=b.all++x.text,ends:=b.ends++[b.all.length+x.text.length]}) (news:=[ah ((r.b.all.length+x.text.length:Nat):Int)]) KF rfl (by simp[d]) (by rw[l];rfl) rfl ?_ rfl (jn R rfl) ag ag (by simp[ints])
    ⟨rfl,rfl,rfl,rfl⟩ (by rw[l,l];rfl) rfl rfl (λZ _ q=>?_) λb' A0 h5 W S5=>RC.of ?_
   ·intro v F;simp only[mR]at F;subst F;rfl
   ·rw[U]at q ⊢;exact⟨q.1.trans (sV _ _),q.2⟩
   have e:=lG W (e.ai N) (.inl P);refine bO ?_;refine aj e rfl (aY ag bZ (S5.pU KF rfl (n:=16+x.text.length) (by rw[iU];omega) (by show r.b.bF+_<2^62;omega) λh6 t6 V=>o h6 V.t ⟨_,by rw[L],V.G⟩))
end
theorem HD{g:Raw->Int×Raw}{a:List (Raw->Int×Raw)}{r:Raw}{F:Raw->Int×Raw}(h:(g r).1≠0):cQ (fc (g::a) r) F=g r:=by
 show cQ (cQ (g r) (fc a)) F=g r
 unfold cQ;simp[*]
theorem HA{g:Raw->Int×Raw}{a:List (Raw->Int×Raw)}{r:Raw}{F:Raw->Int×Raw}(h:(g r).1=0):cQ (fc (g::a) r) F=cQ (fc a (g r).2) F:=by
 show cQ (cQ (g r) (fc a)) F=_
 unfold cQ;simp[*]
theorem HC{r:Raw}{F:Raw->Int×Raw}:cQ (fc [] r) F=F r:=by
 unfold cQ fc;simp
theorem oe{Y:aD}:∀{l:aQ},Y∈l->Y.bw<=bJ l
  |[],h=>by simp at h
  | z::l,h=>by
    rcases lT.1 h with rfl|h
    ·simp[bJ]
    ·have:=oe h;simp[bJ];omega
theorem iG{X:aQ}(h:c.can X):(c.st X).b.bF<=4194304/\(c.st X).b.bF=bJ X:=by
 rw[fC];exact⟨((gh c X).1 h).wt,rfl⟩
theorem Oe(e:f.cs=[c])(d:f.k=15\/f.k=16){x:aD}(a:f.fit x=true):∀y∈x.items,c.fit y=true:=by
 rw[eG]at a;unfold fm at a;have b:(f.cs.map ak.fit).getD 0 tU=c.fit:=by rw[e];rfl
 rw[b]at a;grind
section
variable {M:cO} {v:Value} {vs:aQ} {m:fN} {x:aD} {s:Sl} {K:cL}
theorem ng(C:MC c M):∀(j:Nat)b,[M][j]? =some b->gz b:=by
 intro j b a;rcases j with _|j
 ·simp at a;subst a;exact C.fr
 ·simp at a
theorem ajr(d:f.k=15)(e:f.cs=[c])(r:Raw)(x:aD):f.tk r x=cQ (eN x.au r) λg=>cQ (fc (x.items.map λy=>dc 0 λq=>c.tk q y) g) λa=>fj (16+(dZ a 0-dZ g 0)) (a.up λb=>{b with ends:=b.ends++[(a.aN 0).b.rows]}):=by
 rw[kD];unfold iD;simp[*]
theorem aaN(o:f.k=15)(f':f.cs=[c])(C:MC c M)(PC:jj c)(hc:f.can vs)(P:f.fit x=true)(hw:x.bw<=4194304)(G:bU f [M] T h (f.st vs) m g)(hv:aS D h s x.items)(hD:∀c,D c->c<h.size->Out g c)
  (R:∀h',Tn T h h'->cX f [M] (Tr T h h') h' (.iface (bI f.k) (bB g.b)) (f.tk (f.st vs) x).2 m->K (f.tk (f.st vs) x).1 h'):Gw (bD g.b) x.au x.num (bs x.text) s h K Kp:=by
 have KF:=ng C;have ed:bI f.k=nW:=by unfold bI;rw[aA,aA,aI o]
 rw[ed]at R;rw[ajr o f']at R;have es:∀rb:Rb,cF f.k rb=[(ints rb.ends,Y6)]:=λrb=>by simp_all[cF,aE,ag,aI]
 have ep:∀a b:Rb,eI f.k a b↔b.ends <+: a.ends:=λa b=>by unfold eI;rw[aA,aI o]
 obtain⟨s0,F⟩:∃s0,g.SS=[s0]:=by
  have:=G.ls.1;rw[es]at this
  match hg:g.SS,this with
  |[a],_=>exact⟨a,rfl⟩
 obtain⟨w,l⟩:∃w,g.kv=[w]:=by
  have:=G.lk.1
  match hg:g.kv,this with
  |[a],_=>exact⟨a,rfl⟩
 have s':f.cs[0]? =some c:=by rw[f'];rfl
 have b':=mM s' vs;have e':=fh s' hc;generalize dB f.k f.w (dh f.cs) 0 vs=d at b' e';have p':=Oe f' (.inl o) P;have hxw:=gS x;have hil:x.items.length<=4096:=by rw[eG]at P;exact Ec P
 have hn:=hv.n;refine Gw.of (aJ λa h1 ea g1 ka _=>?_);refine bO ?_;have S1:=(eT.of (E:=λc=>D c/\c<h.size) G λc q=>⟨q.2,hD c q.1 q.2⟩).ai KF g1;generalize hE:(λc=>(D c/\c<h.size)\/(h.size<=c/\c<h1.size))=E at S1;have E1:E a:=by rw[<-hE];exact .inr ⟨ag,ka.lt⟩
 have i':∀c,D c/\c<h.size->E c:=λc q=>by rw[<-hE];exact .inl q
 have xk:=eO (aS.lt _ hv) g1;have vC:(f.st vs).b.ends.length<=5000:=by
  have:=((gh f vs).1 hc).n4;rw[fC];simp only[aM];rw[aA,aI o,Dh];omega
 refine aj ka rfl (S1.row KF rfl (λq=>bQ rfl ?_) λq qB A' h2 t2 S2=>bu rfl ?_)
 ·rw[rz q]at R;exact R h1 S1.t ⟨g,by rw[ed],S1.G⟩
 rw[ry q]at R;have ka:=lG t2 ka E1;have z':=aS.fr t2 (λc q _ z=>z (i' c q)) (λ_ z=>z) _ xk;generalize l':(f.st vs).up (Rb.row x.au)=Q at R S2;have k1:Q.aN 0=c.st d:=by rw[<-l',iQ];exact b'
 have b1:Q.b.ends=(f.st vs).b.ends/\Q.b.bF=(f.st vs).b.bF:=by rw[<-l'];exact⟨rfl,rfl⟩
 have u':=S2.G.aN 0 M _ w rfl (bL (by have:=G.lk.2.1;simp_all)) (by simp[l])
 refine S2.G.lN (i:=1) rfl (.inl o) (by simp[F]) (by simp[l]) (C.weight u' (aj ka rfl ?_))
 rw[k1];have n':=iG e';refine Qg.bC (λy h'=>∃(i:Nat)(L:dO)(r':Raw),y=i/\i<=x.items.length/\eT f [M] T h h' r' m L E/\L.b=g.b/\L.SS=g.SS/\L.kv=g.kv/\r'.b=Q.b/\r'.aN 0=c.st (d++x.items.take i)/\c.can (d++x.items.take i)/\
   aS (λc=>D c/\c<h.size) h' s x.items/\(cQ (fc (x.items.map λy=>dc 0 λq=>c.tk q y) Q) λr2=>fj (16+(dZ r2 0-dZ Q 0)) (r2.up λb=>{b with ends:=b.ends++[(r2.aN 0).b.rows]}))=
    cQ (fc ((x.items.drop i).map λy=>dc 0 λq=>c.tk q y) r') λr2=>fj (16+(dZ r2 0-dZ Q 0)) (r2.up λb=>{b with ends:=b.ends++[(r2.aN 0).b.rows]}))
  (λy _=>x.items.length-y.toNat) ⟨0,_,Q,rfl,eH _,S2,rfl,rfl,rfl,rfl,by simpa using k1,by simpa using e',z',rfl⟩ ?_
 rintro y h3 ⟨i,L,r',rfl,hi,S3,j,I,r,d',H,U,k',O⟩ N hN;have Xe:0<L.KT.length:=by have:=S3.G.lk.2.1;simp only[jy]at this;omega
 have hA:=bL Xe;generalize L.KT[0]=A at hA;refine aK (λX=>?_) λX=>?_
 ·have X:=aU X;have V:i<x.items.length:=ag;have hx:=bL V;have c':=kP V;have q':=B2 V;have J:=kE V;generalize x.items[i]=z at hx c' q' J;rw[q',qQ]at O;refine k'.ix rfl hx λp u cx hz=>ig cx (aJ λa8 h4 e4 g4 k8 _=>mj k8 rfl λh5 o5 k8=>?_);refine bO ?_;have g5:=bK g4 o5 ag;have S:=S3.ai KF g5;have DR:=S.G.aN 0 M A w rfl hA (by rw[r,l];rfl)
  rw[H]at DR;refine S.G.lN (i:=1) j (.inl o) (by rw[I,F];rfl) (by rw[r,l];rfl) (eW k8 (C.take U (p' z J) (by have:=oe J;omega) DR (eO hz g5) (λX q z=>(S.e X (.inl (i' X q))).2.2 _ A (L.fk hA) ag z) λh6 t6 M6=>?_))
  obtain⟨Z,v'⟩:=S.aN KF hA t6 λM' w' q1 q2=>by
   simp at q1;subst q1;rw[r,l]at q2;simp at q2;subst q2;exact M6
  have hE6:=(bx g5).trans (v'.mono λc q _ z=>q (.inl z));have W:(dc 0 (λq=>c.tk q z) r')=((c.tk (c.st (d++x.items.take i)) z).1,r'.eZ 0 (c.tk (c.st (d++x.items.take i)) z).2):=by unfold dc;rw[H]
  refine cE (λY=>?_) λY=>?_
  ·rw[O,HD (by rw[W];exact Y),W]at R
   exact R h6 Z.t ⟨_,by rw[ed];simp only[j],Z.G⟩
  ·have m':=PC z (p' z J) _ U Y;rw[HA (by rw[W];exact Y),W]at O
   refine aY ag ag (hN _ _ ⟨i+1,_,_,aC,ag,⟨Z.t,Z.G,λc q=>Z.e c (.inl q)⟩,j,I,r,by rw[mY];exact d',?_,?_,aS.fr hE6 (λc q _ z=>z (i' c q)) (λ_ z=>z) _ k',O⟩ ag)
   ·rw[lC (by have:=S.G.lk.2.2;simp only[jy]at this;omega),m'.2,c',oC]
   ·rw[c',<-oC];exact m'.1
 ·have X:=aU X;have:i=x.items.length:=ag;subst this;rw[Ez,BN,HC]at O;rw[mO]at H U;rw[O]at R;apply RB.of;refine bO ?_;have a':=S3.G.aN 0 M A w rfl hA (by rw[r,l];rfl)
  rw[H]at a';have n0:s0.n=r'.b.ends.length:=by have:=S3.G.oq (i:=0) (s:=s0) (by rw[I,F];rfl) (by rw[es];rfl);rw[this,ints,cC]
  have n0':s0.n<=5000:=by rw[n0,d',b1.1];exact vC
  have j':aO h3 g.b _ _:=j▸S3.G.B.k;refine S3.G.dI (i:=0) (s:=s0) j (by rw[I,F];rfl) (S3.G.lN (i:=1) (w:=w) j (.inl o) (by rw[I,F];rfl) (by rw[r,l];rfl) (C.count a' (bR j' (cW _) (aJ λa5 h4 e4 g4 k5 _=>bR j' g4 ?_))))
  refine(S3.ai KF g4).app (i:=0) (s:=s0) (x:=(ints r'.b.ends,Y6)) (x':=(ints (r'.b.ends++[(c.st (d++x.items)).b.rows]),Y6)) (r':=r'.up λb=>{b with ends:=b.ends++[(r'.aN 0).b.rows]}) (news:=[ah ((c.st (d++x.items)).b.rows:Int)]) KF j (by rw[I,F];rfl) (by rw[es];rfl) rfl ?_ rfl (jn k5 rfl) ag ag (by simp[ints])
   ⟨rfl,rfl,rfl,rfl⟩ (by rw[es,es,gm,H];rfl) (jO) rfl (λmm _ q=>?_) λy' A0 h5 t5 S=>RA.of ?_
  ·intro v hv;simp only[mR]at hv;subst hv;rfl
  ·rw[ep]at q ⊢;exact q.trans (sV _ _)
  refine bO ?_;have DR:=S.G.aN 0 M A w rfl hA (by show L.kv[0]? =_;rw[r,l];rfl)
  rw[iQ,H]at DR;have o':=iG U;have t':=oV d x.items;have Xm:dZ Q 0=bJ d:=by unfold dZ;rw[k1];exact n'.2
  have Xl:dZ r' 0=bJ d+bJ x.items:=by unfold dZ;rw[H,o'.2,t']
  have hvh:r'.b.bF<=4194304:=by rw[d',b1.2];exact(iG hc).1
  refine S.G.lN (i:=1) (w:=w) j (.inl o) (by show(L.SS.set 0 y').length=1;rw[B7,I,F];rfl) (by show L.kv[0]? =_;rw[r,l];rfl) (C.weight DR (aY ag ag (aY ag ag (S.pU KF j (n:=16+(dZ r' 0-dZ Q 0)) (by rw[Xm,Xl,o'.2,t',n'.2];omega) (by show r'.b.bF+_<2^62;omega) λh6 t6 Z=>R h6 Z.t ⟨_,by rw[ed];simp only[j],Z.G⟩))))
end
theorem anW{K:Value->Prop}(a:K (.iface e (bB b))):su aG (.iface e (bB b)) K:=by
 unfold su yu;exact a
def wm(t:TypeId):Prop:=match sI aG t "colonnade/build.take" with|some (_,true)=>True|_=>False
theorem aog:wm nZ:=cast aX trivial
theorem aof:wm nY:=cast aX trivial
theorem aoe:wm nW:=cast aX trivial
theorem aod:wm nt:=cast aX trivial
theorem aoc:wm nk:=cast aX trivial
theorem aob:wm oJ:=cast aX trivial
theorem aoa:wm oI:=cast aX trivial
theorem an9:wm nV:=cast aX trivial
theorem an8:wm oH:=cast aX trivial
theorem an7(k:Int):wm (bI k):=by
 unfold bI
 by_cases zE:k=1
 ·rw[aI zE];exact aog
 rw[aE zE]
 by_cases xF:k=12\/k=13
 ·rw[aI xF];exact aof
 rw[aE xF]
 by_cases BE:k=15
 ·rw[aI BE];exact aoe
 rw[aE BE]
 by_cases a:k=16
 ·rw[aI a];exact aod
 rw[aE a]
 by_cases xE:k=17
 ·rw[aI xE];exact aoc
 rw[aE xE]
 by_cases zD:k=18
 ·rw[aI zD];exact aob
 rw[aE zD]
 by_cases xD:k=19
 ·rw[aI xD];exact aoa
 rw[aE xD]
 by_cases OM:k=20
 all_goals simp_all[aI,an9,aE,an8]
theorem acP{X:Prop}(e:X):Ck aG (.iface (bI k) (bB b)) "colonnade/build.take" X:=⟨an7 k,e⟩
section
variable {M:cO} {v:Value} {vs:aQ} {m:fN} {x:aD} {s:Sl} {K:cL}
noncomputable def mX(f c:ak)(x:aD):List aD:=if x.au then List.replicate f.w.toNat c.cm else x.items
noncomputable def pZ(f c:ak)(x:aD):List (Raw->Int×Raw):=if x.au then List.replicate f.w.toNat (dc 0 c.zk)else x.items.map λy=>dc 0 λq=>c.tk q y
theorem ajm(a:f.k=16)(b:f.cs=[c])(r:Raw)(x:aD):f.tk r x=cQ (eN x.au r) λe=>cQ (fc (pZ f c x) e) λd=>fj (if x.au then 16 else 16+(dZ d 0-dZ e 0)) d:=by
 rw[kD];unfold iD;rw[aA,aA,aA,aI a,b];rfl
theorem akK(f c:ak)(x:aD):(mX f c x).length=(pZ f c x).length:=by
 unfold mX pZ;split <;> simp
theorem akI(b:f.k=16)(e:f.cs=[c])(a:f.fit x=true):(pZ f c x).length=f.w.toNat:=by
 unfold pZ;split
 ·simp
 ·rename_i d
  rw[eG]at a;unfold fm at a;grind
theorem akH{x:aD}(n:jj c)(l:dV c c.zk c.cm)(e:x.au=false->∀y∈x.items,c.fit y=true){i:Nat}{g:Raw->Int×Raw}{y:aD}(b:(pZ f c x)[i]? =some g)(a:(mX f c x)[i]? =some y):
    ∃G:Raw->Int×Raw,g=dc 0 G/\dV c G y/\(x.au=true->G=c.zk)/\(x.au=false->x.items[i]? =some y/\G=λq=>c.tk q y):=by
  unfold pZ at b;unfold mX at a;cases d:x.au with
  | true=>
    grind
  | false=>
    rw[d]at b a;simp only[lH,kF]at b a;rw[fy,a]at b;simp only[oD,mS]at b;subst b;exact⟨_,rfl,n y (e d y (bS a)),λq=>(by cases q),λ_=>⟨a,rfl⟩⟩
theorem aaJ(fX:bE f)(l:f.k=16)(Z:f.cs=[c])(C:MC c M)(PC:jj c)(PZ:dV c c.zk c.cm)(hc:f.can vs)(c':f.fit x=true)(hw:x.bw<=4194304)(G:bU f [M] T h (f.st vs) m g)(hv:aS D h s x.items)(hD:∀c,D c->c<h.size->Out g c)
  (r:∀h',Tn T h h'->cX f [M] (Tr T h h') h' (.iface (bI f.k) (bB g.b)) (f.tk (f.st vs) x).2 m->K (f.tk (f.st vs) x).1 h'):Gv (bD g.b) x.au x.num (bs x.text) s h K Kp:=by
 have KF:=ng C;have ed:bI f.k=nt:=by unfold bI;simp_all
 rw[ed]at r;rw[ajm l Z]at r;have NL:=fX.right.1.2.2.2.1 l;have es:∀rb:Rb,cF f.k rb=[]:=λrb=>by simp_all[cF,aE,ag,aI]
 have V:g.SS=[]:=by
  have:=G.ls.1;rw[es]at this;exact jw.1 this
 obtain⟨w,I⟩:∃w,g.kv=[w]:=by
  have:=G.lk.1
  match hg:g.kv,this with
  |[a],_=>exact⟨a,rfl⟩
 have x':f.cs[0]? =some c:=by rw[Z];rfl
 have b':=mM x' vs;have f':=fh x' hc;generalize dB f.k f.w (dh f.cs) 0 vs=d at b' f';have u':=Oe Z (.inr l) c';have hlen:=akI l Z c';have hYG:=akK f c x;have hxw:=gS x;refine Gv.of (aJ λa h1 ea g1 ka _=>?_);refine bO ?_;have kal:=ka.lt;have S1:=(eT.of (E:=λc=>D c/\c<h.size) G λc q=>⟨q.2,hD c q.1 q.2⟩).ai KF g1;generalize hE:(λc=>(D c/\c<h.size)\/(h.size<=c/\c<h1.size))=E at S1;have E1:E a:=by rw[<-hE];exact .inr ⟨ag,kal⟩
 have i':∀c,D c/\c<h.size->E c:=λc q=>by rw[<-hE];exact .inl q
 have xk:=eO (aS.lt _ hv) g1;refine aj ka rfl (S1.row KF rfl (λq=>bQ rfl ?_) λq qB A' h2 t2 S2=>bu rfl ?_)
 ·rw[rz q]at r;exact r h1 S1.t ⟨g,by rw[ed],S1.G⟩
 rw[ry q]at r;have ka:=lG t2 ka E1;have W2:=aS.fr t2 (λc q _ z=>z (i' c q)) (λ_ z=>z) _ xk;generalize o':(f.st vs).up (Rb.row x.au)=r1 at r S2;have k1:r1.aN 0=c.st d:=by rw[<-o',iQ];exact b'
 have b1:r1.b.bF=(f.st vs).b.bF:=by rw[<-o'];rfl
 have z':=S2.G.aN 0 M _ w rfl (bL (by have:=G.lk.2.1;simp_all)) (by simp[I])
 have kb2:=S2.G.B.k;refine S2.G.lN (i:=0) rfl (.inr (.inl l)) (by simp[V]) (by simp[I]) (C.weight z' (aj kb2 (by simp[cj];rfl) ?_))
 rw[k1];have q':=iG f';generalize hF:(λr2:Raw=>fj (if x.au then 16 else 16+(dZ r2 0-dZ r1 0)) r2)=F at r
 refine Qf.bC (λy h'=>∃(i:Nat)(Q:dO)(P:Raw),y=i/\i<=f.w.toNat/\eT f [M] T h h' P m Q E/\Q.b=g.b/\Q.SS=g.SS/\Q.kv=g.kv/\P.b=r1.b/\P.aN 0=c.st (d++(mX f c x).take i)/\c.can (d++(mX f c x).take i)/\
   aS (λc=>D c/\c<h.size) h' s x.items/\aO h' a #[.bool x.au,ah x.num,.string (bs x.text),Sl.v s] di/\cQ (fc (pZ f c x) r1) F=cQ (fc ((pZ f c x).drop i) P) F)
  (λy _=>f.w.toNat-y.toNat) ⟨0,_,r1,rfl,eH _,S2,rfl,rfl,rfl,rfl,by simpa using k1,by simpa using f',W2,ka,rfl⟩ ?_
 rintro y h3 ⟨i,Q,P,rfl,hi,R,o,X,J,e',W,O,n',U,L⟩ N hN;have Xe:0<Q.KT.length:=by have:=R.G.lk.2.1;simp only[jy]at this;omega
 have hA:=bL Xe;generalize Q.KT[0]=A at hA;have j:=R.G.aN 0 M A w rfl hA (by rw[J,I];rfl)
 rw[W]at j;refine cE (λcc=>?_) λcc=>?_
 ·have t':(pZ f c x)[i]? =some (pZ f c x)[i]:=bL ag;have l':(mX f c x)[i]? =some (mX f c x)[i]:=bL ag;have d':(mX f c x).take (i+1)=(mX f c x).take i++[(mX f c x)[i]]:=kP ag;have v':(pZ f c x).drop i=(pZ f c x)[i]::(pZ f c x).drop (i+1):=B2 ag;generalize(pZ f c x)[i]=gi at t' v';generalize(mX f c x)[i]=yi at l' d';rw[v']at L;obtain⟨Gi,rfl,j',hz,hnz⟩:=akH PC PZ (λ_=>u') t' l';have Y:dc 0 Gi P=((Gi (c.st (d++(mX f c x).take i))).1,P.eZ 0 (Gi (c.st (d++(mX f c x).take i))).2):=by unfold dc;rw[W]
  -- behind the kid's call
  have fin:∀H,Tn A h3 H->M (Tr A h3 H) H w (Gi (c.st (d++(mX f c x).take i))).2 (m.bind λmm=>mm.ks[0]?)->
    If ((Gi (c.st (d++(mX f c x).take i))).1 !=0) (K (Gi (c.st (d++(mX f c x).take i))).1 H) (aP ((i:Int)+1) λt55=>N (Ih (bD g.b) (aF a) ((c.st d).b.bF:Int) f.w t55) H):=by
   intro H t6 M6;obtain⟨S,k'⟩:=R.aN KF hA t6 λM' w' q1 q2=>by
    simp at q1;subst q1;rw[J,I]at q2;simp at q2;subst q2;exact M6
   refine cE (λc2=>?_) λc2=>?_
   ·rw[L,HD (by rw[Y];exact c2),Y]at r
    exact r H S.t ⟨_,by rw[ed];simp only[o],S.G⟩
   ·have p':=j' _ O c2;rw[HA (by rw[Y];exact c2),Y]at L
    refine aY ag ag (hN _ _ ⟨i+1,_,_,aC,ag,S,o,X,J,by rw[mY];exact e',?_,?_,aS.fr k' (λc q _ z=>z (i' c q)) (λ_ z=>z) _ n',lG k' U E1,L⟩ ag)
    ·rw[lC (by have:=R.G.lk.2.2;simp only[jy]at this;omega),p'.2,d',oC]
    ·rw[d',<-oC];exact p'.1
  refine aj U rfl (aK (λcn=>?_) λcn=>?_)
  ·refine bO ?_;have:=hz cn;subst this;exact R.G.lN (i:=0) o (.inr (.inl l)) (by rw[X,V];rfl) (by rw[J,I];rfl) (C.zero O j λH t6 M6=>fin H t6 M6)
  ·refine bO ?_;obtain⟨m',rfl⟩:=hnz cn;have a':=bS m';obtain⟨kk,bb,rfl⟩:=C.na j;refine R.G.lN (i:=0) o (.inr (.inl l)) (by rw[X,V];rfl) (by rw[J,I];rfl) (aj U rfl (n'.ix rfl m' λp u cx Iy=>ig cx (anW (C.take (D:=λc=>D c/\c<h.size) O (u' yi a') (by have:=oe a';omega) j Iy (λcc q z=>(R.e cc (i' cc q)).2.2 _ A (Q.fk hA) ag z) λH t6 M6=>fin H t6 M6))))
 ·have:i=f.w.toNat:=ag;subst this;rw[<-hlen,Ez,HC]at L;rw[pK ag]at W O j;rw[L,<-hF]at r;refine Rz.of (aj U rfl (aK (λcn=>?_) λcn=>?_))
  ·simp only[n9];dsimp only at r;rw[cn]at r;simp only[fY]at r;refine R.pU KF o (n:=16) rfl (by rw[e',b1];have:=(iG hc).1;omega) λH t6 S=>r H S.t ⟨_,by rw[ed];simp only[o],S.G⟩
  ·refine bO ?_;dsimp only at r;rw[cn]at r;simp only[lH,kF]at r;have s':=iG O;have y':=oV d (mX f c x);have Xm:dZ r1 0=bJ d:=by unfold dZ;rw[k1];exact q'.2
   have Xl:dZ P 0=bJ d+bJ (mX f c x):=by unfold dZ;rw[W,s'.2,y']
   have hvh:P.b.bF<=4194304:=by rw[e',b1];exact(iG hc).1
   refine R.G.lN (i:=0) (w:=w) o (.inr (.inl l)) (by rw[X,V];rfl) (by rw[J,I];rfl) (C.weight j (aY ag ag (aY ag ag (R.pU KF o (n:=16+(dZ P 0-dZ r1 0)) (by rw[Xm,Xl,s'.2,y',q'.2];omega) ag λH t6 S=>r H S.t ⟨_,by rw[ed];simp only[o],S.G⟩))))
end
def kI(cs:cN)(KM:List cO):Prop:=KM.length=cs.length/\∀(j:Nat)c M,cs[j]? =some c->KM[j]? =some M->MC c M
theorem kI.qI{KM:List cO}(C:kI cs KM):∀(j:Nat)M,KM[j]? =some M->gz M:=by
 intro j M a;have d:=(dy.1 a).1;have b:j<cs.length:=by have:=C.1;omega
 have q:=C.2 j _ M (bL b) a;intro T S h e v r m;exact q.fr
section
variable {KM:List cO} {v:Value} {vs:aQ} {r:Raw} {m:fN} {x:aD} {s:Sl} {K:cL}
def tN(r:Raw)(i:Nat):Nat:=((List.range i).map λj=>(r.aN j).b.bF).sum
theorem Di(r:Raw)(i:Nat):tN r (i+1)=tN r i+(r.aN i).b.bF:=by
 grind[tN,List.range_succ]
theorem Dj{r:Raw}{n:Nat}(a:∀j,(r.aN j).b.bF<=n):∀i,tN r i<=i*n
 |0=>by simp[tN]
 |i+1=>by rw[Di];have:=Dj a i;grind
theorem MN(G:bU f KM T h r m g)(C:kI f.cs KM)(p:f.k=17\/f.k=18)(u:∀j,(r.aN j).b.bF<=2^40)(M:KM.length<=4096)(E:K (total r:Int) h):Ar g.ks h K Kp:=by
 have q:=G.kl p;have lk:=G.lk;have L:g.ks.n=KM.length:=by rw[q.1.1,lk.1]
 have B:total r=tN r KM.length:=by rw[pV,lk.2.2];rfl
 refine Ar.of (P9.bC (λy z A=>A=h/\∃i:Nat,z=i/\i<=KM.length/\y=(tN r i:Int)) (λ_ z _=>KM.length-z.toNat) ⟨rfl,0,rfl,eH _,rfl⟩ ?_);rintro y z A ⟨rfl,i,rfl,O,rfl⟩ N hN;refine aK (λd=>?_) λd=>?_
 ·have d:=aU d;have e:i<f.cs.length:=by have:=C.1;omega
  have w:KM[i]? =some KM[i]:=aC;have t:g.kv[i]? =some g.kv[i]:=aC;have F:g.KT[i]? =some g.KT[i]:=aC;have o:f.cs[i]? =some f.cs[i]:=aC;have I:=Dj u i;have J:=u i;have:i*2^40<=4096*2^40:=ag;refine q.1.ix ag ag aC λa H=>⟨_,H,(C.2 i _ _ o w).weight (G.aN i _ _ _ w F t) (aY ag ag (aY ag ag (hN _ _ _ ⟨rfl,i+1,aC,ag,?_⟩ ag)))⟩
  rw[Di];simp
 ·grind
theorem bU.tX{K:Sl->Prop}(G:bU f KM T h r m g)(l:g.b=b)(a:f.k=17\/f.k=18)(hl:g.SS.length=i)(j:K g.ks):Ld h ⟨b,16+i,none⟩ Sl.v K:=by
 subst l;refine aj G.B.k ?_ j;rw[r7];have e:∀d,cj f g.sf g.sn g.sb r.b.rows r.b.cz r.b.bF d=cj f g.sf g.sn g.sb r.b.rows r.b.cz r.b.bF []++d:=λ_=>rfl;rw[e,gv (by show 16<=_;omega)]
 show(List.map Sl.v g.SS++_)[16+i-16]? =_
 rw[gv cy,cC,show 16+i-16-g.SS.length=0 by omega]
 unfold nG;grind
def MW(x:aD)(j:Nat)(c:ak):aD:=if x.au then c.cm else x.items.getD j v0
noncomputable def pW(x:aD)(j:Nat)(c:ak):Raw->Int×Raw:=if x.au then c.zk else λq=>c.tk q (x.items.getD j v0)
noncomputable def uU(f:ak)(x:aD):List (Raw->Int×Raw):=(List.range f.cs.length).map λi=>dc i (if x.au then(f.cs.map ak.zk).getD i od else λc=>((f.cs.map ak.tk).getD i om) c (x.items.getD i v0))
theorem akm(a:f.cs[j]? =some c):(uU f x)[j]? =some (dc j (pW x j c)):=by
 have b:=(dy.1 a).1;simp_all[uU,pW,fy,B8,oD,lO]
theorem aaX:(uU f x).length=f.cs.length:=by simp[uU]
theorem ajl(a:f.k=17)(r:Raw)(x:aD):f.tk r x=cQ (eN x.au r) λd=>cQ (fc (uU f x) d) λb=>fj (if x.au then 16 else 16+(total b-total d)) b:=by
 simp_all[kD,iD,uU]
theorem aaI(fX:bE f)(S:f.k=17)(C:kI f.cs KM)(PC:∀c∈f.cs,jj c/\dV c c.zk c.cm)(hc:f.can vs)(i':f.fit x=true)(hw:x.bw<=4194304)(G:bU f KM T h (f.st vs) m g)(hv:aS D h s x.items)(hD:∀c,D c->c<h.size->Out g c)
    (I:∀h',Tn T h h'->cX f KM (Tr T h h') h' (.iface (bI f.k) (bB g.b)) (f.tk (f.st vs) x).2 m->K (f.tk (f.st vs) x).1 h'):Gu (bD g.b) x.au x.num (bs x.text) s h K Kp:=by
  have KF:=C.qI;have CL:=C.1;have W:f.k=17\/f.k=18:=.inl S;have ed:bI f.k=nk:=by unfold bI;simp_all
  rw[ed]at I;rw[ajl S]at I;have z':=fX.right.1.2.2.2.2.2.2.2.2.1 S;have es:∀rb:Rb,cF f.k rb=[]:=λrb=>by simp_all[cF,aE,ag,aI]
  have j':g.SS=[]:=by
    have:=G.ls.1;rw[es]at this;exact jw.1 this
  have Z:=λj(c:ak)(d:f.cs[j]? =some c)=>mM d vs;have X:=λj(c:ak)(d:f.cs[j]? =some c)=>fh d hc;generalize f':(λj=>dB f.k f.w (dh f.cs) j vs)=l;have Z:∀(j:Nat)(c:ak),f.cs[j]? =some c->(f.st vs).aN j=c.st (l j):=λj c d=>by rw[<-f'];exact Z j c d
  have X:∀(j:Nat)(c:ak),f.cs[j]? =some c->c.can (l j):=λj c d=>by rw[<-f'];exact X j c d
  have hfy:∀(j:Nat)(c:ak),f.cs[j]? =some c->dV c (pW x j c) (MW x j c)/\(x.au=false->c.fit (x.items.getD j v0)=true):=by
    intro j c d;have hm:=bS d;unfold pW MW;cases hn:x.au with
    |true=>simp_all
    |false=>have q:=(Ea S i' hn).2.2 j c d;exact⟨(PC c hm).1 _ q,λ_=>q⟩
  have hlen:x.au=false->x.items.length=f.cs.length:=λhn=>(Ea S i' hn).2.1;have hxw:=gS x;have hn:=hv.n;have out:∀(B:Raw),B.kids.length=f.cs.length->(∀(j:Nat)(c:ak),f.cs[j]? =some c->∃us,B.aN j=c.st us/\c.can us)->∀j,(B.aN j).b.bF<=2^40:=by
    intro B hl hr j
    by_cases d:j<f.cs.length
    ·obtain⟨us,e,hu⟩:=hr j _ (bL d);rw[e];have:=(iG hu).1;omega
    ·unfold Raw.aN;rw[gB,zV ag];exact eH _
  refine Gu.of (aJ λa h1 ea g1 ka _=>?_);refine bO ?_;have S1:=(eT.of (E:=λc=>D c/\c<h.size) G λc q=>⟨q.2,hD c q.1 q.2⟩).ai KF g1;generalize hE:(λc=>(D c/\c<h.size)\/(h.size<=c/\c<h1.size))=E at S1;have E1:E a:=by rw[<-hE];exact .inr ⟨ag,ka.lt⟩
  have k':∀c,D c/\c<h.size->E c:=λc q=>by rw[<-hE];exact .inl q
  have xk:=eO (aS.lt _ hv) g1;refine aj ka rfl (S1.row KF rfl (λq=>bQ rfl ?_) λq qB A' h2 t2 S2=>bu rfl ?_)
  ·rw[rz q]at I;exact I h1 S1.t ⟨g,by rw[ed],S1.G⟩
  rw[ry q]at I;have ka:=lG t2 ka E1;have W2:=aS.fr t2 (λc q _ z=>z (k' c q)) (λ_ z=>z) _ xk;generalize u':(f.st vs).up (Rb.row x.au)=P at I S2;have k1:∀(j:Nat)(c:ak),f.cs[j]? =some c->P.aN j=c.st (l j):=by grind[iQ]
  have b1:P.b.bF=(f.st vs).b.bF:=by rw[<-u'];rfl
  have l1:P.kids.length=f.cs.length:=by rw[S2.G.lk.2.2];exact CL
  have o1:=out P l1 λj c d=>⟨l j,k1 j c d,X j c d⟩;refine S2.G.tX (i:=0) rfl W (by simp[j']) (MN S2.G C W o1 ag (S2.G.tX (i:=0) rfl W (by simp[j']) ?_))
  generalize hF:(λr2:Raw=>fj (if x.au then 16 else 16+(total r2-total P)) r2)=F at I
  refine Qd.bC (λy h'=>∃(i:Nat)(Q:dO)(B:Raw),y=i/\i<=f.cs.length/\eT f KM T h h' B m Q E/\Q.b=g.b/\Q.SS=g.SS/\Q.kv=g.kv/\Q.ks=g.ks/\B.b=P.b/\
      (∀(j:Nat)(c:ak),f.cs[j]? =some c->B.aN j=c.st (l j++if j<i then[MW x j c]else[])/\c.can (l j++if j<i then[MW x j c]else[]))/\
      aS (λc=>D c/\c<h.size) h' s x.items/\aO h' a #[.bool x.au,ah x.num,.string (bs x.text),Sl.v s] di/\cQ (fc (uU f x) P) F=cQ (fc ((uU f x).drop i) B) F)
    (λy _=>f.cs.length-y.toNat) ⟨0,_,P,rfl,eH _,S2,rfl,rfl,rfl,rfl,rfl,λj c d=>by simpa using⟨k1 j c d,X j c d⟩,W2,ka,rfl⟩ ?_
  rintro y h3 ⟨i,Q,B,rfl,hi,S3,L,y',hgk,o,t',R,s',a',U⟩ N hN;have n':=S3.G.lk;have o':=S3.G.kl W;have ns:g.ks.n=f.cs.length:=by rw[<-o,o'.1.1,n'.1,CL]
  refine cE (λcc=>?_) λcc=>?_
  · have x':i<f.cs.length:=ag;have V:=bL x';have d':KM[i]? =some KM[i]:=bL ag;have e':Q.KT[i]? =some Q.KT[i]:=bL ag;have b':Q.kv[i]? =some Q.kv[i]:=bL ag;generalize f.cs[i]=H at V;generalize KM[i]=Mi at d';generalize Q.KT[i]=A at e';generalize Q.kv[i]=w at b';have Ci:=C.2 i H Mi V d';have M:=S3.G.aN i Mi A w d' e' b';obtain⟨Y,O⟩:=R i H V;rw[aA,pM]at Y O;rw[Y]at M;have hdr:(uU f x).drop i=dc i (pW x i H)::(uU f x).drop (i+1):=by
      rw[B2 (by rw[aaX];exact x')]
      congr 1
      have:=dy.1 (akm (x:=x) V);exact this.2
    rw[hdr]at U;obtain⟨l',hfi⟩:=hfy i H V;have c':dc i (pW x i H) B=((pW x i H (H.st (l i))).1,B.eZ i (pW x i H (H.st (l i))).2):=by unfold dc;rw[Y]
    have fin:∀J,Tn A h3 J->Mi (Tr A h3 J) J w (pW x i H (H.st (l i))).2 (m.bind λmm=>mm.ks[i]?)->
        If ((pW x i H (H.st (l i))).1 !=0) (K (pW x i H (H.st (l i))).1 J) (aP ((i:Int)+1) λt51=>N (Ig (bD g.b) (aF a) (total P:Int) g.ks (g.ks.n:Int) t51) J):=by
      intro J t6 M6;obtain⟨S6,m'⟩:=S3.aN KF e' t6 λM' w' q1 q2=>by
        rw[d']at q1;cases q1;rw[b']at q2;cases q2;exact M6
      refine cE (λc2=>?_) λc2=>?_
      · rw[U,HD (by rw[c'];exact c2),c']at I
        exact I J S6.t ⟨_,by rw[ed];simp only[L],S6.G⟩
      · have v':=l' _ O c2;rw[HA (by rw[c'];exact c2),c']at U
        refine aY ag ag (hN _ _ ⟨i+1,_,_,aC,ag,S6,L,y',hgk,o,by rw[mY];exact t',λj c d=>?_,aS.fr m' (λc q _ z=>z (k' c q)) (λ_ z=>z) _ s',lG m' a' E1,U⟩ ag)
        by_cases e:i=j
        ·subst e;rw[V]at d;cases d;rw[lC ag,dU];exact⟨v'.2,v'.1⟩
        · rw[AM e];have:=R j c d
          by_cases q:j<i
          ·rw[aI q]at this;rw[dU];exact this
          ·rw[aE q]at this;rw[aA];exact this
    rw[<-o];refine o'.1.ix ag (by rw[o];omega) (by rw[gj];exact b') λp cp=>⟨_,cp,aj a' rfl (aK (λcn=>?_) λcn=>?_)⟩
    · rw[o];have eg:pW x i H=H.zk:=by unfold pW;rw[cn];rfl
      rw[eg]at fin;exact Ci.zero O M λJ t6 M6=>fin J t6 M6
    · rw[o];have eg:pW x i H=λq=>H.tk q (x.items.getD i v0):=by unfold pW;rw[cn];rfl
      rw[eg]at fin;have hl:=hlen cn;have q':x.items[i]? =some (x.items.getD i v0):=by rw[gB,bL ag];rfl
      obtain⟨kk,bb,rfl⟩:=Ci.na M;simp only[bz,bX];refine aj a' rfl (s'.ix rfl q' λp' u cx Iy=>ig cx (acP (Ci.take (D:=λc=>D c/\c<h.size) O (hfi cn) (by have:=oe (bS q');omega) M Iy (λcc q z=>(S3.e cc (k' cc q)).2.2 _ A (Q.fk e') ag z) λJ t6 M6=>fin J t6 M6)))
  · have:i=f.cs.length:=ag;subst this;rw[<-aaX (f:=f) (x:=x),Ez,HC]at U;rw[U,<-hF]at I;have hvh:B.b.bF<=4194304:=by rw[t',b1];exact(iG hc).1
    refine Rx.of (aj a' rfl (aK (λcn=>?_) λcn=>?_))
    ·simp only[n9];dsimp only at I;rw[cn]at I;simp only[fY]at I;refine S3.pU KF L (n:=16) rfl ag λJ t6 S6=>I J S6.t ⟨_,by rw[ed];simp only[L],S6.G⟩
    · refine bO ?_;dsimp only at I;rw[cn]at I;simp only[lH,kF]at I;have l3:B.kids.length=f.cs.length:=by rw[n'.2.2];exact CL
      have o3:=out B l3 λj c d=>⟨_,(R j c d).1,(R j c d).2⟩;have hle:total P<=total B:=by
        rw[pV,pV,l1,l3];have:∀n,n<=f.cs.length->tN P n<=tN B n:=by
          intro n
          induction n with
          |zero=>intro _;exact cr _
          | succ n ih=>
            intro hn;have d:f.cs[n]? =some f.cs[n]:=bL ag;have q1:=(iG (R n _ d).2).2;have q2:=(iG (X n _ d)).2;rw[Di,Di,k1 n _ d,(R n _ d).1,q1,q2,oV];have:=ih ag;omega
        exact this _ (cr _)
      have IC:total P<=32*2^40:=by rw[pV,l1];exact jH (Dj o1 _) (pL _ z')
      have ht3:total B<=32*2^40:=by rw[pV,l3];exact jH (Dj o3 _) (pL _ z')
      refine S3.G.tX (i:=0) L W (by rw[y',j'];rfl) (MN S3.G C W o3 ag (aY ag ag (aY ag ag (S3.pU KF L (n:=16+(total B-total P)) ag ag λJ t6 S6=>I J S6.t ⟨_,by rw[ed];simp only[L],S6.G⟩))))
end
theorem auv{k:Value}{p:Addr}{K:cL}(H:SF k p h K Kp):c8 aG (.func (.func 222) #[] #[cU p]) [k] h (λr a=>∃t:Int,r=ah t/\K t a) Kp:=by
 unfold c8;exact cast aX H
theorem auq{k:Value}{K:cL}(H:mB k h K Kp):c8 aG (.func (.methodOf JL "colonnade/build.zero") #[] #[]) [k] h (λr d=>∃t:Int,r=ah t/\K t d) Kp:=by
  unfold c8;exact cast aX H
section
variable {KM:List cO} {h0:Hp} {v:Value} {vs:aQ} {m:fN} {x:aD} {s:Sl} {K:cL}
theorem adh{V:Value}{F:Raw->Int×Raw}(H:f.k=18)(C:kI f.cs KM)(hc:f.can vs)(hj:f.cs[j]? =some c)(p':j<32)(S:eT f KM T h0 h (f.st vs) m g E)(y:g.b=b)
  (hF:∀I,c.can I->(F (c.st I)).1=0->(F (c.st I)).2.b.bF<=4194304/\(c.st I).b.bF<=(F (c.st I)).2.b.bF)
  (HT:∀{Q:Hp}{A:aR}{M:cO}{w:Value}{mo:fN}{I:aQ}{K':cL},KM[j]? =some M->c.can I->M A Q w (c.st I) mo->Tn (λc=>¬E c) h Q->(∀c,E c->¬A c)->
   (∀P,Tn A Q P->M (Tr A Q P) P w (F (c.st I)).2 mo->K' (F (c.st I)).1 P)->c8 aG V [w] Q (λr h1=>∃t:Int,r=ah t/\K' t h1) Kp)
  (o:∀Q g',g'.b=b->eT f KM T h0 Q (sL j F (f.st vs)).2 m g' E->K (sL j F (f.st vs)).1 Q):Gp (bD b) (j:Int) V h K Kp:=by
 have KF:=C.qI;have CL:=C.1;have j':f.k=17\/f.k=18:=.inr H;have L:∀rb:Rb,cF f.k rb=[(bv rb.all,Y8),(ints rb.ends,Y6)]:=λrb=>by unfold cF;rw[aA,aA,aI H]
 have ep:∀a b:Rb,eI f.k a b↔b.ends <+: a.ends/\b.all <+: a.all/\b.ends.length=b.all.length:=λa b=>by unfold eI;rw[aA,aA,aA,aI H]
 obtain⟨s0,s1,l⟩:∃s0 s1,g.SS=[s0,s1]:=by
  have:=S.G.ls.1;rw[L]at this
  match hg:g.SS,this with
  |[a,b],_=>exact⟨a,b,rfl⟩
 have y':=(dy.1 hj).1;have Y:=mM hj vs;have O:=fh hj hc;generalize dB f.k f.w (dh f.cs) j vs=u at Y O;have n4:=((gh f vs).1 hc).n4;have al:(f.st vs).b.all.length<=4096:=by rw[fC];simp only[aM];rw[aA,aI H,cC];exact n4
 have el:(f.st vs).b.ends.length<=4096:=by rw[fC];simp only[aM];rw[aA,aA,aI H,cC,Jq];exact n4
 apply Gp.of;refine bO ?_;unfold sL at o;refine S.row KF y (λq=>bQ rfl ?_) λq s' A' h2 t2 N=>bu rfl ?_
 ·rw[rz q]at o;exact o h g y S
 rw[ry q]at o;generalize e':(f.st vs).up (Rb.row false)=d at o N;have k1:d.aN j=c.st u:=by rw[<-e',iQ];exact Y
 have a1:d.b.all=(f.st vs).b.all/\d.b.ends=(f.st vs).b.ends/\d.b.bF=(f.st vs).b.bF:=by rw[<-e'];exact⟨rfl,rfl,rfl⟩
 have b':=N.G.kl j';have a':=N.G.lk;have m':j<g.kv.length:=by have:g.kv.length=KM.length:=a'.1;omega
 have n':j<g.KT.length:=by have:g.KT.length=KM.length:=a'.2.1;omega
 have Z:KM[j]? =some KM[j]:=bL ag;have hw:=bL m';have hA:=bL n';generalize KM[j]=M at Z;generalize g.kv[j]=w at hw;generalize g.KT[j]=A at hA;have Cj:=C.2 j c M hj Z;have ns:g.ks.n=KM.length:=by have:=b'.1.1;rw[a'.1]at this;exact this
 have X:=N.G.aN j M A w Z hA hw;rw[k1]at X;refine N.G.tX (i:=2) y j' (by simp[l]) (b'.1.ix ag (by show(j:Int)<g.ks.n;omega) (by rw[gj];exact hw) λp cp=>⟨_,cp,Cj.weight X ?_⟩)
 have n0:s0.n=(f.st vs).b.all.length:=by have:=N.G.oq (i:=0) (s:=s0) (by simp[l]) (by rw[L];rfl);rw[this,fH,a1.1]
 have n1:s1.n=(f.st vs).b.ends.length:=by have:=N.G.oq (i:=1) (s:=s1) (by simp[l]) (by rw[L];rfl);rw[this,ints,cC,a1.2.1]
 refine N.G.dI (i:=0) (s:=s0) y (by simp[l]) (pO rfl (by omega:j<2^8) (aJ λa3 h3 e3 g3 k3 _=>?_))
 have k':(UInt8.ofNat j).toNat=j:=by rw[sW];omega
 refine(N.ai KF g3).app (i:=0) (x:=(bv d.b.all,Y8)) (x':=(bv (d.b.all++[UInt8.ofNat j]),Y8)) (r':=d.up λb=>{b with all:=b.all++[UInt8.ofNat j]}) (news:=[.int .u8 (j:Int)]) KF y (by simp[l]) (by rw[L];rfl) rfl ?_ rfl (jn k3 rfl) ag ag (by rw[um];simp[bv,k'])
  ⟨rfl,rfl,rfl,rfl⟩ (by rw[L,L];rfl) rfl rfl (λmm _ q=>?_) λu' A0 h4 t4 S4=>?_
 ·intro v hv;simp only[mR]at hv;subst hv;rfl
 ·rw[ep]at q ⊢;exact⟨q.1,q.2.1.trans (sV _ _),q.2.2⟩
 have W:=S4.G.aN j M A w Z hA hw;rw[iQ,k1]at W;have c':aO h4 b _ _:=y▸S4.G.B.k;refine S4.G.dI (i:=1) (s:=s1) y (by simp[l]) (Cj.count W (bR c' (cW _) (aJ λa5 h5 e5 g5 k5 _=>bR c' g5 ?_)))
 refine(S4.ai KF g5).app (i:=1) (s:=s1) (x:=(ints d.b.ends,Y6)) (x':=(ints (d.b.ends++[(c.st u).b.rows]),Y6)) (r':=d.up λb=>{b with all:=b.all++[UInt8.ofNat j],ends:=b.ends++[(d.aN j).b.rows]}) (news:=[ah ((c.st u).b.rows:Int)]) KF y (by simp[l]) (by rw[L];rfl) rfl ?_ rfl (jn k5 rfl) ag ag (by simp[ints])
  ⟨rfl,rfl,rfl,rfl⟩ (by rw[L,L,gm,k1];rfl) rfl rfl (λmm _ q=>?_) λt' A1 h6 t6 S6=>?_
 ·intro v hv;simp only[mR]at hv;subst hv;rfl
 ·rw[ep]at q ⊢;exact⟨q.1.trans (sV _ _),q.2.1,q.2.2⟩
 have U:=S6.G.aN j M A w Z hA hw;rw[iQ,k1]at U;have tE:Tn (λc=>¬E c) h h6:=(((t2.trans (bx g3)).trans (t4.mono λc q _ z=>q (.inl z))).trans (bx g5)).trans (t6.mono λc q _ z=>q (.inl (.inl z)));generalize d':(d.up λb=>{b with all:=b.all++[UInt8.ofNat j],ends:=b.ends++[(d.aN j).b.rows]})=J at o S6
 have k2:J.aN j=c.st u:=by rw[<-d',iQ];exact k1
 have b2:J.b.bF=(f.st vs).b.bF:=by rw[<-d'];exact a1.2.2
 have o':dc j F J=((F (c.st u)).1,J.eZ j (F (c.st u)).2):=by unfold dc;rw[k2]
 rw[o']at o;refine HT Z O U tE (λcc q z=>(S6.e cc (.inl (.inl q))).2.2 _ A (dO.fk _ hA) ag z) λh7 t7 M7=>?_;obtain⟨S7,q'⟩:=S6.aN KF hA t7 λM' w' q1 q2=>by
  rw[Z]at q1;cases q1;have q2:g.kv[j]? =some w':=q2;rw[hw]at q2;cases q2;exact M7
 have S7:eT f KM T h0 h7 (J.eZ j (F (c.st u)).2) m _ E:=⟨S7.t,S7.G,λc q=>S7.e c (.inl (.inl q))⟩;refine cE (λR=>?_) λR=>?_
 ·unfold cQ at o;rw[aE R]at o;exact o h7 _ (by exact y) S7
 ·unfold cQ at o;rw[aI R]at o;obtain⟨q1,q2⟩:=hF u O R;have l':j<J.kids.length:=by have:J.kids.length=KM.length:=S6.G.lk.2.2;omega
  have i':dZ d j=(c.st u).b.bF:=by unfold dZ;rw[k1]
  have f':dZ (J.eZ j (F (c.st u)).2) j=(F (c.st u)).2.b.bF:=by unfold dZ;rw[lC l']
  refine Cj.weight M7 (aY ag ag (aY ag ag (S7.pU KF y (n:=16+(dZ (J.eZ j (F (c.st u)).2) j-dZ d j)) (by rw[i',f'];omega) ?_ λh8 t8 S8=>o h8 _ (by exact y) S8)))
  rw[mY,b2,i',f'];have:=(iG hc).1;omega
end
section
variable {KM:List cO} {M:cO} {h0:Hp} {v:Value} {vs:aQ} {r:Raw} {m:fN} {x:aD} {s:Sl} {K:cL}
theorem arN(b:f.k=18)(a:f.fit x=true):x.au=false/\0<=x.num/\x.num<f.cs.length/\x.items.length=1/\∀c,f.cs[x.num.toNat]? =some c->c.fit (x.items.getD 0 v0)=true:=by
  rw[eG]at a;have hl:f.lets=false:=by rw[xS];unfold m8;rw[aA];simp[b]
  rw[hl]at a;unfold fm at a;simp only[dr]at a;obtain⟨_,a⟩:=a;cases d:x.au with
  |true=>grind
  | false=>
    rw[d,aE aC,aA,aI b]at a;simp only[dr,dP,cC]at a;obtain⟨_,n,l,j,e⟩:=a;simp_all
theorem aju(a:f.k=18)(b:f.cs[x.num.toNat]? =some c)(r:Raw):f.tk r x=sL x.num.toNat (λq=>c.tk q (x.items.getD 0 v0)) r:=by
 rw[kD];unfold iD;simp[*]
theorem aaP(S:bE f)(e:f.k=18)(C:kI f.cs KM)(PC:∀c∈f.cs,jj c)(hc:f.can vs)(J:f.fit x=true)(hw:x.bw<=4194304)(G:bU f KM T h (f.st vs) m g)(hv:aS D h s x.items)(hD:∀c,D c->c<h.size->Out g c)
  (O:∀l,Tn T h l->cX f KM (Tr T h l) l (.iface (bI f.k) (bB g.b)) (f.tk (f.st vs) x).2 m->K (f.tk (f.st vs) x).1 l):Gq (bD g.b) x.au x.num (bs x.text) s h K Kp:=by
 obtain⟨_,h1,h2,h3,h4⟩:=arN e J;have b':=(S.right.1.2.2.2.2.2.2.2.2.2.1 e).2;have o:f.cs[x.num.toNat]? =some f.cs[x.num.toNat]:=bL ag;generalize f.cs[x.num.toNat]=c at o;have n:=h4 c o;have B:=PC c (bS o) _ n;have j:x.items[0]? =some (x.items.getD 0 v0):=by rw[gB,bL ag];rfl
 have a':=gS x;have i:=bS j;rw[aju e o]at O;generalize x.items.getD 0 v0=y at j O n B i;refine Gq.of (aJ λa I ea P N _=>?_);refine bO ?_;have Z:=(eT.of (E:=λc=>D c/\c<h.size) G λc q=>⟨q.2,hD c q.1 q.2⟩).ai C.qI P;generalize X:(λc=>(D c/\c<h.size)\/(h.size<=c/\c<I.size))=E at Z;have E1:E a:=by rw[<-X];exact .inr ⟨ag,N.lt⟩
 have H:∀c,D c/\c<h.size->E c:=λc q=>by rw[<-X];exact .inl q
 have R:=eO (aS.lt _ hv) P;have en:x.num=(x.num.toNat:Int):=ag;apply aj N rfl;rw[en];refine adh e C hc o ag Z rfl (λL d hz=>?_) (λ{l A M w mo L K'}hM d W t V U=>?_) λl g' eg S'=>O l S'.t ⟨g',by rw[eg],S'.G⟩
 ·obtain⟨q1,q2⟩:=B L d hz;rw[q2];have:=iG q1;have:=iG d;have:=oV L [y];exact⟨ag,ag⟩
 ·have Cj:=C.2 _ c M o hM;obtain⟨kk,bb,rfl⟩:=Cj.na W;refine auv (SF.of ?_);simp only[bz,bX];refine aj (lG t N E1) rfl ((aS.fr t (λc q _ z=>z (H c q)) (λ_ z=>z) _ R).ix rfl j λp u cx Q=>ig cx (acP (Cj.take d n (by have:=oe i;omega) W Q (λY q z=>V Y (H Y q) z) U)))
end
section
variable {KM:List cO} {M:cO} {v:Value} {vs:aQ} {r:Raw} {m:fN} {K:cL}
theorem uP(a:f.small=true\/¬(16<=f.k/\f.k<=20))(r:Raw):f.zk r=f.tk r f.cm:=by
 simp_all[rX,nE,aI]
theorem bU.uj(G:bU f KM T h r m g):Cs h ⟨g.b,11,none⟩ [.bool f.cm.au,ah f.cm.num,.string (bs f.cm.text),Sl.v g.sn]:=BV.uj G.B.k
theorem ahU(d:f.k=1)(KF:∀(j:Nat)M,KM[j]? =some M->gz M)(G:bU f KM T h r m g)(i:r.b.bF<=2^50)(e:∀a,Tn T h a->cX f KM (Tr T h a) a (.iface (bI f.k) (bB g.b)) (f.zk r).2 m->K (f.zk r).1 a):K9 (bD g.b) h K Kp:=by
 rw[uP (.inr ag)]at e;apply K9.of;refine bO ?_;exact ig G.uj (aaM d KF G i e)
theorem ahP(d:bE f)(e:f.k=12\/f.k=13)(KF:∀(j:Nat)M,KM[j]? =some M->gz M)(G:bU f KM T h r m g)(n:r.b.ends.length<=70000)(b2:r.b.all.length<=2^40)(l:r.b.bF<=2^50)
  (i:∀a,Tn T h a->cX f KM (Tr T h a) a (.iface (bI f.k) (bB g.b)) (f.zk r).2 m->K (f.zk r).1 a):K8 (bD g.b) h K Kp:=by
 rw[uP (.inr ag)]at i;have:=acL d;apply K8.of;refine bO ?_;exact ig G.uj (aaH e KF G n b2 l ag i)
theorem ahV(a:bE f)(e:f.k=15)(i:f.cs=[c])(C:MC c M)(o:jj c)(l:f.can vs)(G:bU f [M] T h (f.st vs) m g)
  (j:∀d,Tn T h d->cX f [M] (Tr T h d) d (.iface (bI f.k) (bB g.b)) (f.zk (f.st vs)).2 m->K (f.zk (f.st vs)).1 d):K7 (bD g.b) h K Kp:=by
 rw[uP (.inr ag)]at j;obtain⟨_,n,s,p⟩:=sD a (Ue a ag);apply K7.of;refine bO ?_;exact ig G.uj (aaN e i C o l n ag G G.no (λc q _=>G.DF q) j)
end
section
variable {KM:List cO} {M:cO} {v:Value} {vs:aQ} {r:Raw} {m:fN} {K:cL}
theorem ahI(i:¬f.small=true)(a:f.k=16)(b:f.cs=[c])(r:Raw):f.zk r=cQ (eN false r) λe=>cQ (fc (List.replicate f.w.toNat (dc 0 c.zk)) e) λd=>fj (16+(dZ d 0-dZ e 0)) d:=by
 rw[rX];unfold nE;simp[*]
theorem ahS(S:bE f)(j:f.k=16)(W:f.cs=[c])(C:MC c M)(PC:jj c)(PZ:dV c c.zk c.cm)(hc:f.can vs)(G:bU f [M] T h (f.st vs) m g)
  (e:∀X,Tn T h X->cX f [M] (Tr T h X) X (.iface (bI f.k) (bB g.b)) (f.zk (f.st vs)).2 m->K (f.zk (f.st vs)).1 X):K5 (bD g.b) h K Kp:=by
 apply K5.of;refine bO ?_;refine aj G.B.k (by simp[cj];rfl) ?_
 by_cases hs:f.small=true
 ·rw[uP (.inl hs)]at e;obtain⟨_,h2,h3,h4⟩:=sD S hs;exact bQ hs (ig G.uj (aaJ S j W C PC PZ hc h2 ag G G.no (λc q _=>G.DF q) e))
 rw[ahI hs j W]at e;apply bu (by simpa using hs)
 have KF:=ng C;have ed:bI f.k=nt:=by unfold bI;simp_all
 rw[ed]at e;have v':=S.right.1.2.2.2.1 j;have es:∀rb:Rb,cF f.k rb=[]:=λrb=>by simp_all[cF,aE,ag,aI]
 have P:g.SS=[]:=by
  have:=G.ls.1;rw[es]at this;exact jw.1 this
 obtain⟨w,l⟩:∃w,g.kv=[w]:=by
  have:=G.lk.1
  match hg:g.kv,this with
  |[a],_=>exact⟨a,rfl⟩
 have i':f.cs[0]? =some c:=by rw[W];rfl
 have J:=mM i' vs;have U:=fh i' hc;generalize dB f.k f.w (dh f.cs) 0 vs=d at J U;have S1:=eT.of (E:=λ_=>False) G λ_ q=>q.elim;refine S1.row KF rfl (λq=>bQ rfl ?_) λq u' A' h2 t2 S2=>bu rfl ?_
 ·rw[rz q]at e;exact e h S1.t ⟨g,by rw[ed],S1.G⟩
 rw[ry q]at e;generalize b':(f.st vs).up (Rb.row false)=H at e S2;have k1:H.aN 0=c.st d:=by rw[<-b',iQ];exact J
 have b1:H.b.bF=(f.st vs).b.bF:=by rw[<-b'];rfl
 have k':=S2.G.aN 0 M _ w rfl (bL (by have:=G.lk.2.1;simp_all)) (by simp[l])
 have l':=S2.G.B.k;refine S2.G.lN (i:=0) rfl (.inr (.inl j)) (by simp[P]) (by simp[l]) (C.weight k' (aj l' (by simp[cj];rfl) ?_))
 rw[k1];have d':=iG U;generalize hF:(λr2:Raw=>fj (16+(dZ r2 0-dZ H 0)) r2)=F at e;generalize f':List.replicate f.w.toNat (dc 0 c.zk)=Y at e;have q':Y.length=f.w.toNat:=by rw[<-f'];simp
 refine Qe.bC (λy X=>∃(i:Nat)(z:dO)(x:Raw),y=i/\i<=f.w.toNat/\eT f [M] T h X x m z (λ_=>False)/\z.b=g.b/\z.SS=g.SS/\z.kv=g.kv/\x.b=H.b/\x.aN 0=c.st (d++List.replicate i c.cm)/\c.can (d++List.replicate i c.cm)/\
   cQ (fc Y H) F=cQ (fc (Y.drop i) x) F)
  (λy _=>f.w.toNat-y.toNat) ⟨0,_,H,rfl,eH _,S2,rfl,rfl,rfl,rfl,by simpa using k1,by simpa using U,rfl⟩ ?_
 rintro y h3 ⟨i,z,x,rfl,hi,O,o,V,s,a',Q,R,p⟩ N hN;have m':0<z.KT.length:=by have:=O.G.lk.2.1;simp only[jy]at this;omega
 have hA:=bL m';generalize z.KT[0]=A at hA;have u:=O.G.aN 0 M A w rfl hA (by rw[s,l];rfl)
 rw[Q]at u;refine cE (λcc=>?_) λcc=>?_
 ·refine bO ?_;have n':i<Y.length:=ag;have s':Y.drop i=dc 0 c.zk::Y.drop (i+1):=by
   rw[B2 n']
   congr 1
   simp[<-f']
  rw[s']at p;have D:dc 0 c.zk x=((c.zk (c.st (d++List.replicate i c.cm))).1,x.eZ 0 (c.zk (c.st (d++List.replicate i c.cm))).2):=by unfold dc;rw[Q]
  refine O.G.lN (i:=0) o (.inr (.inl j)) (by rw[V,P];rfl) (by rw[s,l];rfl) (C.zero R u λh6 t6 M6=>?_)
  obtain⟨Z,t'⟩:=O.aN KF hA t6 λM' w' q1 q2=>by
   simp at q1;subst q1;rw[s,l]at q2;simp at q2;subst q2;exact M6
  refine cE (λI=>?_) λI=>?_
  ·rw[p,HD (by rw[D];exact I),D]at e
   exact e h6 Z.t ⟨_,by rw[ed];simp only[o],Z.G⟩
  ·have c':=PZ _ R I;rw[HA (by rw[D];exact I),D]at p
   have L:List.replicate (i+1) c.cm=List.replicate i c.cm++[c.cm]:=Ey;refine aY ag ag (hN _ _ ⟨i+1,_,_,aC,ag,Z,o,V,s,by rw[mY];exact a',?_,?_,p⟩ ag)
   ·rw[lC (by have:=O.G.lk.2.2;simp only[jy]at this;omega),c'.2,L,oC]
   ·rw[L,<-oC];exact c'.1
 ·have:i=f.w.toNat:=ag;subst this;rw[<-q',Ez,HC]at p;rw[p,<-hF]at e;apply Ry.of;refine bO ?_;dsimp only at e;have e':=iG R;have j':=oV d (List.replicate f.w.toNat c.cm);have p':dZ H 0=bJ d:=by unfold dZ;rw[k1];exact d'.2
  have o':dZ x 0=bJ d+bJ (List.replicate f.w.toNat c.cm):=by unfold dZ;rw[Q,e'.2,j']
  have x':x.b.bF<=4194304:=by rw[a',b1];exact(iG hc).1
  refine O.G.lN (i:=0) o (.inr (.inl j)) (by rw[V,P];rfl) (by rw[s,l];rfl) (C.weight u (aY ag ag (aY ag ag (O.pU KF o (by rw[p',o',e'.2,j',d'.2];omega) ag λh6 t6 Z=>e h6 Z.t ⟨_,by rw[ed];simp only[o],Z.G⟩))))
end
section
variable {KM:List cO} {M:cO} {v:Value} {vs:aQ} {r:Raw} {m:fN} {K:cL}
noncomputable def uQ(f:ak):List (Raw->Int×Raw):=(List.range (f.cs.map ak.zk).length).map λi=>dc i ((f.cs.map ak.zk).getD i od)
theorem ahY(a:f.cs[j]? =some c):(uQ f)[j]? =some (dc j c.zk):=by
 grind[List.getElem?_eq_some_iff,uQ]
theorem aad:(uQ f).length=f.cs.length:=by simp[uQ]
theorem ahH(e:¬f.small=true)(a:f.k=17)(r:Raw):f.zk r=cQ (eN false r) λd=>cQ (fc (uQ f) d) λb=>fj (16+(total b-total d)) b:=by
 simp_all[rX,nE,uQ]
theorem ahQ(b':bE f)(L:f.k=17)(C:kI f.cs KM)(PC:∀c∈f.cs,jj c/\dV c c.zk c.cm)(hc:f.can vs)(G:bU f KM T h (f.st vs) m g)
    (s:∀h',Tn T h h'->cX f KM (Tr T h h') h' (.iface (bI f.k) (bB g.b)) (f.zk (f.st vs)).2 m->K (f.zk (f.st vs)).1 h'):K4 (bD g.b) h K Kp:=by
  apply K4.of;refine bO ?_;refine aj G.B.k (by simp[cj];rfl) ?_
  by_cases hs:f.small=true
  ·rw[uP (.inl hs)]at s;obtain⟨_,h2,h3,h4⟩:=sD b' hs;exact bQ hs (ig G.uj (aaI b' L C PC hc h2 ag G G.no (λc q _=>G.DF q) s))
  rw[ahH hs L]at s;apply bu (by simpa using hs)
  have KF:=C.qI;have CL:=C.1;have D:f.k=17\/f.k=18:=.inl L;have ed:bI f.k=nk:=by unfold bI;simp_all
  rw[ed]at s;have m':=b'.right.1.2.2.2.2.2.2.2.2.1 L;have es:∀rb:Rb,cF f.k rb=[]:=λrb=>by simp_all[cF,aE,ag,aI]
  have a':g.SS=[]:=by
    have:=G.ls.1;rw[es]at this;exact jw.1 this
  have R:=λj(c:ak)(a:f.cs[j]? =some c)=>mM a vs;have J:=λj(c:ak)(a:f.cs[j]? =some c)=>fh a hc;generalize Z:(λj=>dB f.k f.w (dh f.cs) j vs)=l;have R:∀(j:Nat)(c:ak),f.cs[j]? =some c->(f.st vs).aN j=c.st (l j):=λj c a=>by rw[<-Z];exact R j c a
  have J:∀(j:Nat)(c:ak),f.cs[j]? =some c->c.can (l j):=λj c a=>by rw[<-Z];exact J j c a
  have out:∀(d:Raw),d.kids.length=f.cs.length->(∀(j:Nat)(c:ak),f.cs[j]? =some c->∃us,d.aN j=c.st us/\c.can us)->∀j,(d.aN j).b.bF<=2^40:=by
    intro d hl hr j
    by_cases a:j<f.cs.length
    ·obtain⟨us,e,hu⟩:=hr j _ (bL a);rw[e];have:=(iG hu).1;omega
    ·unfold Raw.aN;rw[gB,zV ag];exact eH _
  have S1:=eT.of (E:=λ_=>False) G λ_ q=>q.elim;refine S1.row KF rfl (λq=>bQ rfl ?_) λq q' A' h2 t2 S2=>bu rfl ?_
  ·rw[rz q]at s;exact s h S1.t ⟨g,by rw[ed],S1.G⟩
  rw[ry q]at s;generalize i':(f.st vs).up (Rb.row false)=H at s S2;have k1:∀(j:Nat)(c:ak),f.cs[j]? =some c->H.aN j=c.st (l j):=by grind[iQ]
  have b1:H.b.bF=(f.st vs).b.bF:=by rw[<-i'];rfl
  have l1:H.kids.length=f.cs.length:=by rw[S2.G.lk.2.2];exact CL
  have o1:=out H l1 λj c a=>⟨l j,k1 j c a,J j c a⟩;refine S2.G.tX (i:=0) rfl D (by simp[a']) (MN S2.G C D o1 ag (S2.G.tX (i:=0) rfl D (by simp[a']) ?_))
  generalize hF:(λr2:Raw=>fj (16+(total r2-total H)) r2)=F at s;refine Qc.bC (λy h'=>∃(i:Nat)(I:dO)(d:Raw),y=i/\i<=f.cs.length/\eT f KM T h h' d m I (λ_=>False)/\I.b=g.b/\I.SS=g.SS/\I.kv=g.kv/\I.ks=g.ks/\d.b=H.b/\
      (∀(j:Nat)(c:ak),f.cs[j]? =some c->d.aN j=c.st (l j++if j<i then[c.cm]else[])/\c.can (l j++if j<i then[c.cm]else[]))/\cQ (fc (uQ f) H) F=cQ (fc ((uQ f).drop i) d) F)
    (λy _=>f.cs.length-y.toNat) ⟨0,_,H,rfl,eH _,S2,rfl,rfl,rfl,rfl,rfl,λj c a=>by simpa using⟨k1 j c a,J j c a⟩,rfl⟩ ?_
  rintro y h3 ⟨i,I,d,rfl,hi,S3,O,l',n',o,f',u,x⟩ N hN;have d':=S3.G.lk;have e':=S3.G.kl D;have ns:g.ks.n=f.cs.length:=by rw[<-o,e'.1.1,d'.1,CL]
  refine cE (λcc=>?_) λcc=>?_
  · have k':i<f.cs.length:=ag;have z:=bL k';have W:KM[i]? =some KM[i]:=bL ag;have c':I.KT[i]? =some I.KT[i]:=bL ag;have U:I.kv[i]? =some I.kv[i]:=bL ag;generalize f.cs[i]=S at z;generalize KM[i]=Mi at W;generalize I.KT[i]=A at c';generalize I.kv[i]=w at U;have Y:=S3.G.aN i Mi A w W c' U;obtain⟨P,Q⟩:=u i S z;rw[aA,pM]at P Q;rw[P]at Y;have o':(uQ f).drop i=dc i S.zk::(uQ f).drop (i+1):=by
      rw[B2 (by rw[aad];exact k')]
      congr 1
      exact(dy.1 (ahY z)).2
    rw[o']at x;have V:dc i S.zk d=((S.zk (S.st (l i))).1,d.eZ i (S.zk (S.st (l i))).2):=by unfold dc;rw[P]
    rw[<-o];refine e'.1.ix ag (by rw[o];omega) (by rw[gj];exact U) λp cp=>⟨_,cp,(C.2 i S Mi z W).zero Q Y λh6 t6 M6=>?_⟩
    rw[o];obtain⟨S6,p'⟩:=S3.aN KF c' t6 λM' w' q1 q2=>by
      rw[W]at q1;cases q1;rw[U]at q2;cases q2;exact M6
    refine cE (λX=>?_) λX=>?_
    · rw[x,HD (by rw[V];exact X),V]at s
      exact s h6 S6.t ⟨_,by rw[ed];simp only[O],S6.G⟩
    · have j':=((PC S (bS z)).2) _ Q X;rw[HA (by rw[V];exact X),V]at x
      refine aY ag ag (hN _ _ ⟨i+1,_,_,aC,ag,S6,O,l',n',o,by rw[mY];exact f',λj c a=>?_,x⟩ ag)
      by_cases e:i=j
      ·subst e;rw[z]at a;cases a;rw[lC ag,dU];exact⟨j'.2,j'.1⟩
      · rw[AM e];have:=u j c a
        by_cases q:j<i
        ·rw[aI q]at this;rw[dU];exact this
        ·rw[aE q]at this;rw[aA];exact this
  · have:i=f.cs.length:=ag;subst this;rw[<-aad,Ez,HC]at x;rw[x,<-hF]at s;have s':d.b.bF<=4194304:=by rw[f',b1];exact(iG hc).1
    apply Rw.of;refine bO ?_;dsimp only at s;have l3:d.kids.length=f.cs.length:=by rw[d'.2.2];exact CL
    have o3:=out d l3 λj c a=>⟨_,(u j c a).1,(u j c a).2⟩;have v':total H<=total d:=by
      rw[pV,pV,l1,l3];have:∀n,n<=f.cs.length->tN H n<=tN d n:=by
        intro n
        induction n with
        |zero=>intro _;exact cr _
        | succ n ih=>
          intro hn;have a:f.cs[n]? =some f.cs[n]:=bL ag;have q1:=(iG (u n _ a).2).2;have q2:=(iG (J n _ a)).2;rw[Di,Di,k1 n _ a,(u n _ a).1,q1,q2,oV];have:=ih ag;omega
      exact this _ (cr _)
    have u':total H<=32*2^40:=by rw[pV,l1];exact jH (Dj o1 _) (pL _ m')
    have t':total d<=32*2^40:=by rw[pV,l3];exact jH (Dj o3 _) (pL _ m')
    refine S3.G.tX (i:=0) O D (by rw[l',a'];rfl) (MN S3.G C D o3 ag (aY ag ag (aY ag ag (S3.pU KF O (n:=16+(total d-total H)) ag ag λh6 t6 S6=>s h6 S6.t ⟨_,by rw[ed];simp only[O],S6.G⟩))))
theorem ahO(b:¬f.small=true)(a:f.k=18)(d:f.cs[0]? =some c)(r:Raw):f.zk r=sL 0 c.zk r:=by
 rw[rX];unfold nE;simp[*]
theorem ahX(i:bE f)(d:f.k=18)(C:kI f.cs KM)(y:∀c∈f.cs,jj c/\dV c c.zk c.cm)(p:f.can vs)(G:bU f KM T h (f.st vs) m g)
  (o:∀e,Tn T h e->cX f KM (Tr T h e) e (.iface (bI f.k) (bB g.b)) (f.zk (f.st vs)).2 m->K (f.zk (f.st vs)).1 e):K3 (bD g.b) h K Kp:=by
 apply K3.of;refine bO ?_;refine aj G.B.k (by simp[cj];rfl) ?_
 by_cases l:f.small=true
 ·rw[uP (.inl l)]at o;obtain⟨_,L,S,R⟩:=sD i l;exact bQ l (ig G.uj (aaP i d C (λc p=>(y c p).1) p L ag G G.no (λc q _=>G.DF q) o))
 have U:=(i.right.1.2.2.2.2.2.2.2.2.2.1 d).1;have n:f.cs[0]? =some f.cs[0]:=aC;generalize f.cs[0]=c at n;rw[ahO l d n]at o;apply bu dH
 have P:=eT.of (E:=λ_=>False) G λ_ q=>q.elim;refine adh (j:=0) d C p n ag P rfl (λs a H=>?_) (λ{e A M w mo s V}I a J t Q u=>auq ((C.2 0 c M n I).zero a J u)) λe N O x=>o e x.t ⟨N,by rw[O],x.G⟩
 obtain⟨D,z⟩:=(y c (bS n)).2 s a H;grind[iG,oV]
end
section
variable {KM:List cO} {r:Raw} {m:fN} {x:aD} {s:Sl} {K:cL}
theorem ajo(p:fE f.k=true)(r:Raw)(x:aD):f.tk r x=cQ (eN x.au r) λn=>fj (16+x.text.length) (n.up λb=>{b with dQ:=b.dQ++[(x.num%2^64).toNat],texts:=b.texts++[x.text]}):=by
 simp_all[zb,kD,iD]
theorem aaL(P:fE f.k=true)(KF:∀(j:Nat)M,KM[j]? =some M->gz M)(G:bU f KM T h r m g)(b1:r.b.dQ.length<=70000)(b2:r.b.texts.length<=70000)(b3:r.b.bF<=2^50)(b4:x.text.length<=2^50)
  (w:∀C,Tn T h C->cX f KM (Tr T h C) C (.iface (bI f.k) (bB g.b)) (f.tk r x).2 m->K (f.tk r x).1 C):Gj (bD g.b) x.au x.num (bs x.text) s h K Kp:=by
 obtain⟨k1,g',f',O,e',d',z,N,L⟩:=zb P;rw[ajo P]at w;have l:∀A:Rb,cF f.k A=[(lp A.dQ,oK),(strs A.texts,qo)]:=λA=>by unfold cF;simp[*]
 have S:∀a b:Rb,eI f.k a b↔b.dQ <+: a.dQ/\b.texts <+: a.texts/\b.dQ.length=b.texts.length:=λa b=>by unfold eI;simp[*]
 obtain⟨p,o,d⟩:∃p o,g.SS=[p,o]:=by
  have:=G.ls.1;rw[l]at this
  match hg:g.SS,this with
  |[a,b],_=>simp
 refine Gj.of (aJ λa Q ea R e _=>?_);refine bO ?_;have I:=(eT.of (E:=λ_=>False) G λ_ q=>q.elim).ai KF R;have J:(λc=>False\/(h.size<=c/\c<Q.size)) a:=ag
 refine aj e rfl (I.row KF rfl (λc=>bQ rfl ?_) λc a' A' h2 Y y=>bu rfl ?_)
 ·rw[rz c]at w;exact w Q I.t ⟨g,rfl,I.G⟩
 rw[ry c]at w;have e:=lG Y e J;have n0:p.n=r.b.dQ.length:=by have:=y.G.oq (i:=0) (s:=p) (by simp[d]) (by rw[l];rfl);rw[this,lp,cC];rfl
 have n1:o.n=r.b.texts.length:=by have:=y.G.oq (i:=1) (s:=o) (by simp[d]) (by rw[l];rfl);rw[this,strs,cC];rfl
 refine y.G.dI (i:=0) (s:=p) rfl (by simp[d]) (aj e rfl (Cb ?_))
 rw[ai8];refine aJ λi' h3 e3 F k3 _=>bR y.G.B.k F ?_;refine(y.ai KF F).app (i:=0) (x:=(lp r.b.dQ,oK)) (x':=(lp (r.b.dQ++[(x.num%2^64).toNat]),oK)) (r':=(r.up (Rb.row x.au)).up λb=>{b with dQ:=b.dQ++[(x.num%2^64).toNat]}) KF rfl (by simp[d]) (by rw[l];rfl) rfl ?_ rfl (jn k3 rfl) ag ag (by simp[lp])
  ⟨rfl,rfl,rfl,rfl⟩ (by rw[l,l];rfl) rfl rfl (λZ _ q=>?_) λc' A0 h4 X H=>Rn.of ?_
 ·intro v u;simp only[mR]at u;subst u;rfl
 ·rw[S]at q ⊢;exact⟨q.1.trans (sV _ _),q.2⟩
 have e:=lG X (e.ai F) (.inl J);refine bO ?_;refine H.G.dI (i:=1) (s:=o) rfl (by simp[d]) (aj e rfl (aJ λb6 h5 e5 D k5 _=>bR H.G.B.k D ?_))
 refine(H.ai KF D).app (i:=1) (s:=o) (x:=(strs r.b.texts,qo)) (x':=(strs (r.b.texts++[x.text]),qo)) (r':=(r.up (Rb.row x.au)).up λb=>{b with dQ:=b.dQ++[(x.num%2^64).toNat],texts:=b.texts++[x.text]}) (news:=[.string (bs x.text)]) KF rfl (by simp[d]) (by rw[l];rfl) rfl ?_ rfl (jn k5 rfl) ag ag (by simp[strs])
  ⟨rfl,rfl,rfl,rfl⟩ (by rw[l,l];rfl) rfl rfl (λZ _ q=>?_) λV A1 h6 W S6=>Rm.of ?_
 ·intro v u;simp only[mR]at u;subst u;rfl
 ·rw[S]at q ⊢;exact⟨q.1,q.2.1.trans (sV _ _),q.2.2⟩
 have e:=lG W (e.ai D) (.inl (.inl J));refine bO ?_;exact aj e rfl (aY ag (by rw[iU];omega) (S6.pU KF rfl (n:=16+x.text.length) (by rw[iU];omega) (by show r.b.bF+_<2^62;omega) λh7 t7 U=>w h7 U.t ⟨_,by rfl,U.G⟩))
end
section
variable {KM:List cO} {M:cO} {S:aR} {h':Hp} {r r':Raw} {m:fN} {mm:Mem} {K:HP}
theorem bU.Iu{rj:Raw}(G:bU f KM T h r m g)(KF:∀(j:Nat)M,KM[j]? =some M->gz M)(l:g.KT[j]? =some A)(t:Tn A h h')
  (u:∀M w,KM[j]? =some M->g.kv[j]? =some w->M A h' w rj (m.bind λmm=>mm.ks[j]?)):bU f KM T h' (r.eZ j rj) m g:=by
 have v:=(dy.1 l).1;have p:∀c,A c->c<h.size->c=g.b\/A c:=λc q _=>.inr q;have n:=g.fk l;have nb:=G.t.kW n;have av:∀{i:Nat}{B:aR},g.Ls[i]? =some B->3+g.ST.length+j≠i->∀c,B c->c<h.size->¬A c:=λo ne=>G.av n p o ne;have lk:=G.lk;refine⟨G.t.grow t.1,G.B.fr t nb (av g.gq ag),G.ls,λi s B x d a k=>(G.sl i s B x d a k).fr t (av (g.hO a) bZ),⟨lk.1,lk.2.1,by rw[uX];omega⟩,λi M B w d a k=>?_,
  aS.fr t (av g.fF ag) (λ_ z=>z) _ G.no,λz=>(G.kl z).fr t (av g.fF ag) λ_ z=>z,G.sp.fr t (av g.iM ag),λmm e=>(G.mm mm e).fr t (av g.fF ag) (av g.gq ag) (av g.iM ag) |> λM=>⟨M.c,M.pr,M.ks,M.sp⟩⟩
 by_cases e:j=i
 ·subst e;rw[l]at a;cases a;rw[lC ag];exact u M w d k
 ·rw[AM e];exact KF i M d (G.aN i M B w d a k) t (av (g.fk a) ag)
theorem bU.wR{s':Sl}(G:bU f KM T h r m g)(KF:∀(j:Nat)M,KM[j]? =some M->gz M)(p:g.ST[i]? =some A)(os:Os A h s' x'.1 x'.2)
  (o:eJ g.b h h') (u:aO h' g.b (cj f g.sf g.sn g.sb r.b.rows r.b.cz r.b.bF (ia f.k (g.SS.set i s') g.kv g.ks g.sp)).toArray (iz f.k))
  (d:r'.b.rows=r.b.rows/\r'.b.cz=r.b.cz/\r'.b.bits=r.b.bits/\r'.b.bF=r.b.bF) (e1:cF f.k r'.b=(cF f.k r.b).set i x') (e0:r'.kids=r.kids) (D:r'.b.aH=r.b.aH) (C:∀mm,m=some mm->eI f.k r.b mm.r.b->eI f.k r'.b mm.r.b):
  bU f KM T h' r' m {g with SS:=g.SS.set i s'}:=by
 have E:=(dy.1 p).1;have q:∀{A:aR}(i:Nat),g.Ls[i]? =some A->∀c,A c->c<h.size->¬c=g.b:=λi v c y hl e=>G.t.kW v (e▸y);have t:=o.fr;refine⟨G.t.grow (EJ o.1.symm),⟨dH,by rw[d.2.2.1];exact G.B.o.fr t (q 0 g.gq),G.B.nT,by rw[d.2.2.1,d.1];exact G.B.len,by rw[d.2.1,d.1];exact G.B.nl,by rw[d.1];exact G.B.rl⟩,?_,λj s B x a n l=>?_,by rw[e0];exact G.lk,λj M B w a n l=>?_,
  aS.fr t (q 1 g.fF) (λ_ z=>z) _ G.no,λz=>(G.kl z).fr t (q 1 g.fF) λ_ z=>z,?_,λmm e=>?_⟩
 ·simp only[B7,e1];exact G.ls
 ·dsimp only at a n;rw[e1]at l;rw[x9]at a l
  by_cases e:i=j
  ·subst e;have H:=G.ls.1;have F:=G.ls.2;rw[aI rfl,dU]at a l;rw[p]at n;cases a;cases n;cases l;exact os.fr t (q _ (g.hO p))
  ·rw[aE e]at a l;exact(G.sl j s B x a n l).fr t (q _ (g.hO n))
 ·have:=KF j M a (G.aN j M B w a n l) t (q _ (g.fk n));unfold Raw.aN at this ⊢;grind
 ·exact(G.sp.fr t (q 2 g.iM)).eq D
 ·have M:=(G.mm mm e).fr t (q 1 g.fF) (q 0 g.gq) (q 2 g.iM);exact⟨M.c,C mm e M.pr,M.ks,M.sp⟩
theorem bU.conv(G:bU f KM T h r m g)(a:r'.b.rows=r.b.rows/\r'.b.cz=r.b.cz/\r'.b.bits=r.b.bits/\r'.b.bF=r.b.bF)(e1:cF f.k r'.b=cF f.k r.b)(e0:r'.kids=r.kids)(u:f.k=19\/f.k=20->r'.b.aH=r.b.aH)(p:∀mm,m=some mm->eI f.k r.b mm.r.b->eI f.k r'.b mm.r.b):
  bU f KM T h r' m g:=by
 refine⟨G.t,⟨by rw[a.1,a.2.1,a.2.2.2];exact G.B.k,by rw[a.2.2.1];exact G.B.o,G.B.nT,by rw[a.2.2.1,a.1];exact G.B.len,by rw[a.2.1,a.1];exact G.B.nl,by rw[a.1];exact G.B.rl⟩,by rw[e1];exact G.ls,λi s A x n l d=>G.sl i s A x n l (e1▸d),by rw[e0];exact G.lk,λj M A w n l d=>?_,G.no,G.kl,?_,λmm e=>?_⟩
 ·have:=G.aN j M A w n l d;unfold Raw.aN at this ⊢;grind
 ·by_cases q:f.k=19\/f.k=20
  ·exact G.sp.eq (u q)
  ·have:=G.sp;unfold iJ at this ⊢;grind
 ·have M:=G.mm mm e;exact⟨M.c,p mm e M.pr,M.ks,M.sp⟩
def Raw.qA(r m:Raw):Raw:=.mk {r.b with rows:=m.b.rows,cz:=m.b.cz,bits:=m.b.bits,bF:=m.b.bF} r.kids
theorem xK{v:Value}(G:bU f KM T h r (some mm) g)(KF:∀(j:Nat)M,KM[j]? =some M->gz M)(d:Mv g.R g.T0 h g.b f g.sf g.sn g.sb v mm.s mm.r.b)
  (I:∀h',Tn (λc=>c=g.b\/g.T0 c) h h'->bU f KM T h' (r.qA mm.r) (some mm) {g with sb:=mm.s}->K h'):c8 aG v [] h (λr D=>r=.tuple #[]/\K D) Kp:=by
 refine avh d.bm G.B.k d.o G.B.nT (λc q=>⟨G.t.ne g.fF g.gq bh c q,λe=>G.t.kW g.fF (e▸q)⟩) d.len d.nl d.rl λD a l=>?_;have L:∀c,(c=g.b\/g.T0 c)->c<h.size->c=g.b\/g.T0 c:=λc q _=>q;have av:∀{j:Nat}{B:aR},g.Ls[j]? =some B->0≠j->∀c,B c->c<h.size->¬(c=g.b\/g.T0 c):=λJ ne=>G.av g.gq L J ne;have p:=av g.fF ag;refine I D a ⟨G.t.grow a.1,⟨l.k,l.o,l.nT,l.len,l.nl,l.rl⟩,G.ls,λi s A x y n C=>(G.sl i s A x y n C).fr a (av (g.hO n) ag),G.lk,λj M A w y n C=>KF j M y (G.aN j M A w y n C) a (av (g.fk n) ag),
  aS.fr a p (λ_ z=>z) _ G.no,λz=>(G.kl z).fr a p λ_ z=>z,G.sp.fr a (av g.iM ag),λV e=>?_⟩
 cases e;obtain⟨⟨U,F,E,Q,P,O,N⟩,H,ks,sp⟩:=G.mm mm rfl;exact⟨⟨U,F,⟨E.bm.fr a p,Old.of l.o,d.len,d.nl,d.rl⟩,Q,λz=>(P z).fr a p,O,λz=>by obtain⟨u,e,mc⟩:=N z;exact⟨u,e,mc.fr a p⟩⟩,H,ks,λz=>(sp z).fr a (av g.iM ag)⟩
end
theorem auC{p a:Addr}{K:HP}(H:SV c0 p q a h K Kp):c8 aG (.func (.func 196) #[] #[cU c0,cU p,cU q,cU a]) [] h (λr b=>r=.tuple #[]/\K b) Kp:=by
 unfold c8;exact cast aX H
theorem auA{p:Addr}{K:HP}(H:SN c0 p h K Kp):c8 aG (.func (.func 206) #[] #[cU c0,cU p]) [] h (λr a=>r=.tuple #[]/\K a) Kp:=by
 unfold c8;exact cast aX H
theorem auB{p a:Addr}{K:HP}(H:SQ c0 p q a h K Kp):c8 aG (.func (.func 201) #[] #[cU c0,cU p,cU q,cU a]) [] h (λr b=>r=.tuple #[]/\K b) Kp:=by
 unfold c8;exact cast aX H
section
variable {R:aR} {caps:bg}
theorem acV{d:Array Value}(mc:Ac R h caps [Z,d]):∃b a i e,caps=[bB b,bB a]/\(R b/\aO h b Z i)/\(R a/\aO h a d e):=by
  obtain⟨b,i,e0,k⟩:=mc.2 0 Z rfl;obtain⟨a,e,e1,j⟩:=mc.2 1 d rfl
  match caps,mc.1 with
  | [u,v],_=>
    grind
theorem Wo{k j i:Array Value}(mc:Ac R h caps [Z,k,j,i]):∃e d b a o n m l,caps=[bB e,bB d,bB b,bB a]/\
    (R e/\aO h e Z o)/\(R d/\aO h d k n)/\(R b/\aO h b j m)/\(R a/\aO h a i l):=by
  obtain⟨e,o,e0,y⟩:=mc.2 0 Z rfl;obtain⟨d,n,e1,x⟩:=mc.2 1 k rfl;obtain⟨b,m,q,t⟩:=mc.2 2 j rfl;obtain⟨a,l,p,s⟩:=mc.2 3 i rfl
  match caps,mc.1 with
  | [u,v,w,z],_=>
    grind
end
section
variable {KM:List cO} {M:cO} {r:Raw} {mm:Mem} {K:HP}
theorem ava(v:f.k=16)(b':f.cs=[c])(C:MC c M)(G:bU f [M] T h r (some mm) g)(W:∀u,Tn T h u->cX f [M] T u (.iface (bI f.k) (bB g.b)) mm.r (some mm)->K u):
  c8 aG mm.F [] h (λr p=>r=.tuple #[]/\K p) Kp:=by
 have KF:=ng C;obtain⟨⟨O,c',bm,c1,c2,c3,c4⟩,pr,ks⟩:=G.mm mm rfl;obtain⟨caps,eF,mc⟩:=c4 ag;obtain⟨d,L,rfl⟩:=c1 ag;have x:jq f.k g.b O d.F mm=[#[O],#[d.F]]:=by unfold jq;simp only;rw[aA,aA,dU]
 rw[x]at mc;obtain⟨a0,a1,t0,t1,ec,⟨r0,V⟩,⟨Q,I⟩⟩:=acV mc;have z:gA f.k=206:=by unfold gA;rw[aA,aA,aI v]
 have J:∀E:Rb,cF f.k E=[]:=λE=>by unfold cF;rw[aA,aA,aA,dU]
 have ep:∀a b:Rb,eI f.k a b:=λa b=>by unfold eI;rw[aA,aA,aA,aA,dU];trivial
 rw[eF,ec,z];have Y:∀c,(c=g.b\/g.T0 c)->c<h.size->c=g.b\/g.T0 c:=λc q _=>q;have av:∀{j:Nat}{B:aR},g.Ls[j]? =some B->0≠j->∀c,B c->c<h.size->¬(c=g.b\/g.T0 c):=λX ne=>G.av g.gq Y X ne;refine auA (SN.of (aj V rfl (xK G KF bm λp D N=>aj (D.bq I (av g.fF ag _ Q I.lt)) rfl ?_)));have lk:=G.lk;have U:0<g.KT.length:=by have:=lk.2.1;simp only[jy]at this;omega
 have S:0<g.kv.length:=by have:=lk.1;simp only[jy]at this;omega
 have m:=bL U;have n:=bL S;generalize g.KT[0]=A at m;generalize g.kv[0]=w at n;have i:=N.aN 0 M A w rfl m n;have e0:((some mm).bind λmm=>mm.ks[0]?)=some d:=by show mm.ks[0]? =some d;rw[L];rfl
 rw[e0]at i
 show c8 aG d.F [] p _ _
 refine C.back i λZ u2 M2=>W Z ?_ ⟨{g with sb:=mm.s},rfl,(N.Iu (rj:=d.r) KF m u2 λM' P H l=>?_).conv ⟨rfl,rfl,rfl,rfl⟩ (by rw[J,J]) ?_ (λq=>ag) λa' _ _=>ep _ _⟩
 ·exact(D.mono λc q _=>q.elim (λe=>e▸G.t.tb) λq=>G.kr g.gq q).trans (u2.mono λc q _=>G.kr (g.fk m) q)
 ·simp at H;subst H;have l:=l;rw[n]at l;cases l;rw[e0];exact M2
 ·have hl:=lk.2.2;have e1:mm.r.kids=[d.r]:=by rw[ks.1,L];rfl
  rw[e1]
  show[d.r]=((r.qA mm.r).eZ 0 d.r).kids
  have:r.kids.length=1:=hl
  match o:r.kids,this with
  |[y],_=>simp[Raw.eZ,Raw.qA,Raw.kids,o] <;> (unfold Raw.kids at o;simp[o])
end
theorem WZ{a b:cV}(p:a <+: b):(ints b).take a.length=ints a:=by
 grind[ints,List.map_take,List.prefix_iff_eq_take]
theorem af2{a b:dw}(p:a <+: b):(bv b).take a.length=bv a:=by
 grind[bv,List.map_take,List.prefix_iff_eq_take]
section
variable {KM:List cO} {M:cO} {r:Raw} {mm:Mem} {K:HP}
theorem au8(J:f.k=12\/f.k=13)(Z:f.cs=[])(G:bU f [] T h r (some mm) g)(hk:∀U,Tn T h U->cX f [] T U (.iface (bI f.k) (bB g.b)) mm.r (some mm)->K U):
  c8 aG mm.F [] h (λr h1=>r=.tuple #[]/\K h1) Kp:=by
 have KF:∀(j:Nat)(M:cO),([]:List cO)[j]? =some M->gz M:=λj M q=>by simp at q
 obtain⟨⟨W,c',bm,c1,c2,c3,c4⟩,C,ks⟩:=G.mm mm rfl;obtain⟨d',eF,mc⟩:=c4 ag;have a':jq f.k g.b W c' mm=[#[W],#[bB g.b],pI mm.r.b.ends.length,pI mm.r.b.all.length]:=by unfold jq;simp only;rw[dU]
 rw[a']at mc;obtain⟨a0,a1,a2,a3,t0,t1,t2,t3,ec,⟨r0,k0⟩,⟨r1,o⟩,⟨r2,O⟩,⟨r3,w⟩⟩:=Wo mc;have b':gA f.k=196:=by unfold gA;rw[aI J]
 have m:∀N:Rb,cF f.k N=[(ints N.ends,Y6),(bv N.all,Y8)]:=λN=>by unfold cF;rw[aI J]
 have P:∀a b:Rb,eI f.k a b↔b.ends <+: a.ends/\b.all <+: a.all:=λa b=>by unfold eI;rw[dU]
 rw[P]at C;obtain⟨z,y,d⟩:∃z y,g.SS=[z,y]:=by
  have:=G.ls.1;rw[m]at this
  match hg:g.SS,this with
  |[a,b],_=>exact⟨a,b,rfl⟩
 obtain⟨S,Q,l⟩:∃S Q,g.ST=[S,Q]:=by
  have:=G.ls.2;rw[m]at this
  match hg:g.ST,this with
  |[a,b],_=>exact⟨a,b,rfl⟩
 rw[eF,ec,b'];have hS:∀c,(c=g.b\/g.T0 c)->c<h.size->c=g.b\/g.T0 c:=λc q _=>q;have v:=G.av g.gq hS g.fF ag;have nR:∀{c:Nat},g.R c->c≠g.b:=λq e=>G.t.kW g.fF (e▸q);refine auC (SV.of (aj k0 rfl ?_))
 show c8 aG W [] h _ _
 refine xK G KF bm λh1 L u=>?_;have o:=L.bq o (v _ r1 o.lt);have O:=L.bq O (v _ r2 O.lt);have w:=L.bq w (v _ r3 w.lt);have o0:=u.sl 0 z S (ints r.b.ends,Y6) (by simp[d]) (by simp[l]) (by rw[m];rfl)
 have o1:=u.sl 1 y Q (bv r.b.all,Y8) (by simp[d]) (by simp[l]) (by rw[m];rfl)
 have n0:=o0.n;have n1:=o1.n;have p0:=C.1.length_le;have p1:=C.2.length_le;simp only[ints,cC]at n0;rw[fH]at n1;refine aj o rfl (aj o rfl (aj o rfl ?_));refine bO ?_;refine u.dI (i:=0) rfl (by simp[d]) (aj O rfl (o0.cut ag rfl λE e0 I=>aj o rfl ?_))
 refine bO ?_;refine u.dI (i:=1) rfl (by simp[d]) (aj w rfl (o1.cut ag rfl λD e1 H=>?_))
 rw[WZ C.1]at I;rw[af2 C.2]at H;refine u.uW (i:=0) (s:=z) (by simp[d]) u.B.k λh2 x Y=>?_
 have V:=u.wR (x':=(ints mm.r.b.ends,Y6)) (r':=(r.qA mm.r).up λb=>{b with ends:=mm.r.b.ends}) KF (by simp[l]) I x Y ⟨rfl,rfl,rfl,rfl⟩ (by rw[m,m];rfl) rfl rfl λp _ q=>by rw[P]at q ⊢;cases‹some mm=some p›;exact⟨jF _,q.2⟩
 refine mw w (x.bq w (nR r3)) (mw o (x.bq o (nR r1)) (V.uW (i:=1) (s:=y) (by simp[d]) V.B.k λh3 w3 X=>?_))
 have G3:=V.wR (i:=1) (s':=D) (A:=Q) (x':=(bv mm.r.b.all,Y8)) (r':=(r.qA mm.r).up λb=>{b with ends:=mm.r.b.ends,all:=mm.r.b.all}) KF (by simp[l]) (H.fr x.fr λc q _ e=>G.t.kW (g.hO (i:=1) (by simp[l])) (e▸q)) w3 X ⟨rfl,rfl,rfl,rfl⟩ (by rw[m,m];rfl) rfl rfl λp _ q=>by rw[P]at q ⊢;cases‹some mm=some p›;exact⟨q.1,jF _⟩
 refine hk h3 ?_ ⟨_,by rfl,G3.conv (r':=mm.r) ⟨rfl,rfl,rfl,rfl⟩ (by rw[m,m];rfl) ?_ (λq=>ag) λp e q=>?_⟩
 ·exact((L.mono λc q _=>q.elim (λe=>e▸G.t.tb) λq=>G.kr g.gq q).trans (x.fr.mono λc q _=>q▸G.t.tb)).trans (w3.fr.mono λc q _=>q▸G.t.tb)
 ·have e1:mm.r.kids=[]:=by
   rw[ks.1];have:=ks.2;rw[Z]at this;rw[jw.1 this];rfl
  have e2:r.kids=[]:=jw.1 G.lk.2.2;rw[e1];exact e2.symm
 ·cases e;rw[P];exact⟨jF _,jF _⟩
end
section
variable {KM:List cO} {M:cO} {r:Raw} {mm:Mem} {K:HP}
theorem anB{r m:Raw}{k:Raw}(hl:r.kids.length=1):((r.qA m).eZ 0 k).kids=[k]:=by
 obtain⟨b,ks⟩:=r
 match ks,hl with
 |[y],_=>rfl
theorem ave(u:f.k=15)(d':f.cs=[c])(C:MC c M)(G:bU f [M] T h r (some mm) g)(hk:∀V,Tn T h V->cX f [M] T V (.iface (bI f.k) (bB g.b)) mm.r (some mm)->K V):
  c8 aG mm.F [] h (λr U=>r=.tuple #[]/\K U) Kp:=by
 have KF:=ng C;obtain⟨⟨X,f',bm,c1,c2,c3,c4⟩,Q,ks⟩:=G.mm mm rfl;obtain⟨c',eF,mc⟩:=c4 ag;obtain⟨j,em,rfl⟩:=c1 ag;have a':jq f.k g.b X j.F mm=[#[X],#[j.F],#[bB g.b],pI mm.r.b.ends.length]:=by unfold jq;simp only;rw[aA,aI u]
 rw[a']at mc;obtain⟨a0,a1,a2,a3,t0,t1,t2,t3,ec,⟨r0,k0⟩,⟨r1,N⟩,⟨r2,l⟩,⟨r3,x⟩⟩:=Wo mc;have b':gA f.k=201:=by unfold gA;rw[aA,aI u]
 have o:∀P:Rb,cF f.k P=[(ints P.ends,Y6)]:=λP=>by unfold cF;rw[aA,dU]
 have W:∀a b:Rb,eI f.k a b↔b.ends <+: a.ends:=λa b=>by unfold eI;rw[aA,aI u]
 rw[W]at Q;obtain⟨y,p⟩:∃y,g.SS=[y]:=by
  have:=G.ls.1;rw[o]at this
  match hg:g.SS,this with
  |[a],_=>exact⟨a,rfl⟩
 obtain⟨O,I⟩:∃O,g.ST=[O]:=by
  have:=G.ls.2;rw[o]at this
  match hg:g.ST,this with
  |[a],_=>exact⟨a,rfl⟩
 have lk:=G.lk;have l1:0<g.KT.length:=by have:=lk.2.1;simp only[jy]at this;omega
 have l2:0<g.kv.length:=by have:=lk.1;simp only[jy]at this;omega
 have z:=bL l1;have S:=bL l2;generalize g.KT[0]=A at z;generalize g.kv[0]=w at S;rw[eF,ec,b'];have hS:∀c,(c=g.b\/g.T0 c)->c<h.size->c=g.b\/g.T0 c:=λc q _=>q;have v:=G.av g.gq hS g.fF ag;have nA:∀c,g.R c->¬A c:=λc q=>G.t.ne g.fF (g.fk z) ag c q;refine auB (SQ.of (aj k0 rfl ?_))
 show c8 aG X [] h _ _
 refine xK G KF bm λU J G1=>?_;have N:=J.bq N (v _ r1 N.lt);have l:=J.bq l (v _ r2 l.lt);have x:=J.bq x (v _ r3 x.lt);have d:=G1.aN 0 M A w rfl z S;have e0:((some mm).bind λmm=>mm.ks[0]?)=some j:=by show mm.ks[0]? =some j;rw[em];rfl
 rw[e0]at d;apply aj N rfl
 show c8 aG j.F [] U _ _
 refine C.back d λh2 u2 M2=>?_;have D:=G1.Iu KF z u2 λM' w' q1 L=>by
  simp at q1;subst q1;have L:=L;rw[S]at L;cases L;rw[e0];exact M2
 have l:=u2.bq l (nA _ r2);have x:=u2.bq x (nA _ r3);have o0:=D.sl 0 y O (ints r.b.ends,Y6) (by simp[p]) (by simp[I]) (by rw[o];rfl)
 have n0:=o0.n;have p0:=Q.length_le;simp only[ints,cC]at n0;refine aj l rfl (aj l rfl ?_);refine bO ?_;refine D.dI (i:=0) rfl (by simp[p]) (aj x rfl (o0.cut ag rfl λE e' H=>?_))
 rw[WZ Q]at H;refine D.uW (i:=0) (s:=y) (by simp[p]) D.B.k λh3 w3 Z=>?_
 have G3:=D.wR (x':=(ints mm.r.b.ends,Y6)) (r':=((r.qA mm.r).eZ 0 j.r).up λb=>{b with ends:=mm.r.b.ends}) KF (by simp[I]) H w3 Z ⟨rfl,rfl,rfl,rfl⟩ (by rw[o,o];rfl) rfl rfl λY e _=>by rw[W];cases e;exact jF _
 refine hk h3 ?_ ⟨_,by rfl,G3.conv ⟨rfl,rfl,rfl,rfl⟩ (by rw[o,o];rfl) ?_ (λq=>ag) λY e _=>by cases e;rw[W];exact jF _⟩
 ·exact((J.mono λc q _=>q.elim (λe=>e▸G.t.tb) λq=>G.kr g.gq q).trans (u2.mono λc q _=>G.kr (g.fk z) q)).trans (w3.fr.mono λc q _=>q▸G.t.tb)
 ·rw[ks.1,em];exact(anB lk.2.2).symm
end
theorem auy{K:HP}(H:SJ c0 h K Kp):c8 aG (.func (.func 215) #[] #[cU c0]) [] h (λr a=>r=.tuple #[]/\K a) Kp:=by
 unfold c8;exact cast aX H
theorem auz{p:Addr}{K:HP}(H:SK c0 p h K Kp):c8 aG (.func (.func 213) #[] #[cU c0,cU p]) [] h (λr a=>r=.tuple #[]/\K a) Kp:=by
 unfold c8;exact cast aX H
section
variable {KM:List cO} {r:Raw} {mm:Mem} {K:HP}
def Rj(g:dO):Nat->Prop:=λc=>∃(j:Nat)(A:aR),g.KT[j]? =some A/\A c
theorem agf{v:Value}(C:kI f.cs KM)(G:bU f KM T h r (some mm) g)(kf:Cn g.R h v (mm.ks.map Mem.F))(hl:mm.ks.length=f.cs.length)(a':f.cs.length<=32)
  (hk:∀r' d,Tn (Rj g) h d->bU f KM T d r' (some mm) g->r'.b=r.b->r'.kids=mm.ks.map Mem.r->K d):c8 aG v [] h (λr h1=>r=.tuple #[]/\K h1) Kp:=by
 have CL:=C.1;obtain⟨a,t,s,rfl,ra,ka,sv⟩:=kf;have nR:∀c,g.R c->¬Rj g c:=λc q z=>by
  obtain⟨j,A,m,z⟩:=z;exact G.t.ne g.fF (g.fk m) ag c q z
 have hn:s.n=mm.ks.length:=by have:=sv.1.1;rw[cC]at this;exact this
 refine auy (SJ.of (aj ka rfl ?_));refine P8.bC (λy d=>∃(i:Nat)(r':Raw),y=i/\i<=mm.ks.length/\Tn (Rj g) h d/\bU f KM T d r' (some mm) g/\r'.b=r.b/\∀j B,j<i->mm.ks[j]? =some B->r'.aN j=B.r) (λy _=>mm.ks.length-y.toNat)
  ⟨0,r,rfl,eH _,iW _ _,G,rfl,λj _ D=>ag⟩ ?_
 rintro y d ⟨i,r',rfl,hi,I,H,Z,Y⟩ N hN;have lk:=H.lk;refine cE (λo=>?_) λo=>?_
 ·have V:i<mm.ks.length:=ag;have S:i<g.KT.length:=ag;have P:i<g.kv.length:=ag;have Q:i<KM.length:=ag;have U:i<f.cs.length:=ag;have k:=bL V;have m:=bL S;have L:=bL P;have E:=bL Q;have x:=bL U;generalize mm.ks[i]=J at k;generalize g.KT[i]=A at m;generalize g.kv[i]=w at L;generalize KM[i]=M at E;generalize f.cs[i]=ci at x;have aN:=H.aN i M A w E m L;have e0:((some mm).bind λmm=>mm.ks[i]?)=some J:=k;rw[e0]at aN;have O:=sv.fr I (λc q _=>nR c q) λ_ z=>z;refine O.1.ix ag ag (by rw[gj,fy,k];rfl) λp cp=>⟨_,cp,?_⟩
  show c8 aG J.F [] d _ _
  refine(C.2 i ci M x E).back aN λh2 u2 M2=>aY ag ag (hN _ _ ⟨i+1,_,aC,ag,I.trans (u2.mono λc q _=>⟨i,A,m,q⟩),H.Iu (rj:=J.r) C.qI m u2 λM' w' X W=>?_,by rw[mY];exact Z,λj B D l=>?_⟩ ag)
  ·rw[E]at X;cases X;rw[L]at W;cases W;rw[e0];exact M2
  ·by_cases e:i=j
   ·subst e;rw[k]at l;cases l;rw[lC ag]
   ·rw[AM e];exact Y j B ag l
 ·have:i=mm.ks.length:=ag;subst this;refine hk r' d I H Z (si λj=>?_)
  by_cases D:j<mm.ks.length
  ·grind[Raw.aN,List.getElem?_eq_getElem]
  simp_all
theorem au9(u:bE f)(d:f.k=17)(C:kI f.cs KM)(G:bU f KM T h r (some mm) g)(I:∀p,Tn T h p->cX f KM T p (.iface (bI f.k) (bB g.b)) mm.r (some mm)->K p):
  c8 aG mm.F [] h (λr o=>r=.tuple #[]/\K o) Kp:=by
 obtain⟨⟨s,i,U,c1,S,c3,Q⟩,pr,ks⟩:=G.mm mm rfl;obtain⟨D,P,mc⟩:=Q ag;have w:jq f.k g.b s i mm=[#[s],#[i]]:=by unfold jq;simp only;simp[*]
 rw[w]at mc;obtain⟨a0,a1,Z,Y,O,⟨r0,H⟩,⟨E,z⟩⟩:=acV mc;have x:gA f.k=213:=by unfold gA;grind
 have B:∀y:Rb,cF f.k y=[]:=λy=>by unfold cF;simp[*]
 have N:∀a b:Rb,eI f.k a b:=λa b=>by unfold eI;grind
 rw[P,O,x];have J:∀c,(c=g.b\/g.T0 c)->c<h.size->c=g.b\/g.T0 c:=λc q _=>q;have l:=G.av g.gq J g.fF ag;refine auz (SK.of (aj H rfl ?_))
 show c8 aG s [] h _ _
 refine xK G C.qI U λo n W=>aj (n.bq z (l _ E z.lt)) rfl ?_
 show c8 aG i [] o _ _
 refine agf C W ((S (.inl d)).fr n l) ks.2 (u.right.1.2.2.2.2.2.2.2.2.1 d) λr' M u2 V m v=>I M ?_ ⟨_,by rfl,V.conv ⟨by rw[m];rfl,by rw[m];rfl,by rw[m];rfl,by rw[m];rfl⟩ (by rw[B,B]) bZ (λq=>ag) λX _ _=>N _ _⟩
 exact(n.mono λc q _=>q.elim (λe=>e▸G.t.tb) λq=>G.kr g.gq q).trans (u2.mono λc q _=>by obtain⟨j,A,L,q⟩:=q;exact G.kr (g.fk L) q)
end
theorem auw{p a:Addr}{K:HP}(H:SG c0 p q a h K Kp):c8 aG (.func (.func 220) #[] #[cU c0,cU p,cU q,cU a]) [] h (λr b=>r=.tuple #[]/\K b) Kp:=by
 unfold c8;exact cast aX H
section
variable {KM:List cO} {r:Raw} {mm:Mem} {K:HP}
theorem avg(c':bE f)(l:f.k=18)(C:kI f.cs KM)(G:bU f KM T h r (some mm) g)(hk:∀h',Tn T h h'->cX f KM T h' (.iface (bI f.k) (bB g.b)) mm.r (some mm)->K h'):
  c8 aG mm.F [] h (λr h1=>r=.tuple #[]/\K h1) Kp:=by
 have KF:=C.qI;obtain⟨⟨F0,x,bm,c1,c2,c3,c4⟩,pr,ks⟩:=G.mm mm rfl;obtain⟨g',eF,mc⟩:=c4 ag;have e':jq f.k g.b F0 x mm=[#[F0],#[x],#[bB g.b],pI mm.r.b.all.length]:=by unfold jq;simp only;simp[*]
 rw[e']at mc;obtain⟨a0,a1,a2,a3,t0,t1,t2,t3,ec,⟨r0,k0⟩,⟨r1,k1⟩,⟨Z,p⟩,⟨Y,v⟩⟩:=Wo mc;have f':gA f.k=220:=by unfold gA;grind
 have o:∀U:Rb,cF f.k U=[(bv U.all,Y8),(ints U.ends,Y6)]:=λU=>by unfold cF;grind
 have V:∀a b:Rb,eI f.k a b↔b.ends <+: a.ends/\b.all <+: a.all/\b.ends.length=b.all.length:=λa b=>by unfold eI;grind
 rw[V]at pr;obtain⟨O,N,M⟩:=pr;obtain⟨H,E,d⟩:∃H E,g.SS=[H,E]:=by
  have:=G.ls.1;rw[o]at this
  match hg:g.SS,this with
  |[a,b],_=>simp
 obtain⟨X,W,m⟩:∃X W,g.ST=[X,W]:=by
  have:=G.ls.2;rw[o]at this
  match hg:g.ST,this with
  |[a,b],_=>simp
 rw[eF,ec,f'];have hS:∀c,(c=g.b\/g.T0 c)->c<h.size->c=g.b\/g.T0 c:=λc q _=>q;have u:=G.av g.gq hS g.fF ag;have nR:∀{c:Nat},g.R c->c≠g.b:=λq e=>G.t.kW g.fF (e▸q);have nK:∀c,g.R c->¬Rj g c:=λc q z=>by
  obtain⟨j,A,hA,z⟩:=z;exact G.t.ne g.fF (g.fk hA) ag c q z
 refine auw (SG.of (aj k0 rfl ?_))
 show c8 aG F0 [] h _ _
 refine xK G KF bm λh1 D G1=>aj (D.bq k1 (u _ r1 k1.lt)) rfl ?_
 show c8 aG x [] h1 _ _
 refine agf C G1 ((c2 (.inr l)).fr D u) ks.2 ((c'.right.1.2.2.2.2.2.2.2.2.2.1 l).2) λr' h2 u2 w I d'=>?_;have p:=u2.bq (D.bq p (u _ Z p.lt)) (nK _ Z);have v:=u2.bq (D.bq v (u _ Y v.lt)) (nK _ Y);have ea:r'.b.all=r.b.all/\r'.b.ends=r.b.ends:=by rw[I];exact⟨rfl,rfl⟩
 have o0:=w.sl 0 H X (bv r.b.all,Y8) (by simp[d]) (by simp[m]) (by rw[o,ea.1];rfl)
 have o1:=w.sl 1 E W (ints r.b.ends,Y6) (by simp[d]) (by simp[m]) (by rw[o,ea.2];rfl)
 have n0:=o0.n;have n1:=o1.n;have p0:=O.length_le;have p1:=N.length_le;simp only[ints,cC]at n1;rw[fH]at n0;refine aj p rfl (aj p rfl (aj p rfl ?_));refine bO ?_;refine w.dI (i:=0) rfl (by simp[d]) (aj v rfl (o0.cut ag rfl λL e0 Q=>aj p rfl ?_))
 refine bO ?_;refine w.dI (i:=1) rfl (by simp[d]) (aj v rfl (o1.cut ag rfl λJ e1 P=>?_))
 rw[af2 N]at Q;rw[<-M,WZ O]at P;refine w.uW (i:=0) (s:=H) (by simp[d]) w.B.k λh3 y b'=>?_
 have G3:=w.wR (x':=(bv mm.r.b.all,Y8)) (r':=r'.up λb=>{b with all:=mm.r.b.all}) KF (by simp[m]) Q y b' ⟨rfl,rfl,rfl,rfl⟩ (by rw[o,o];rfl) rfl rfl λS e q=>by rw[V]at q ⊢;cases e;exact⟨q.1,jF _,q.2.2⟩
 refine mw v (y.bq v (nR Y)) (mw p (y.bq p (nR Z)) (G3.uW (i:=1) (s:=E) (s':=J) (by simp[d]) G3.B.k λh4 w4 a'=>?_))
 have G4:=G3.wR (i:=1) (s':=J) (A:=W) (x':=(ints mm.r.b.ends,Y6)) (r':=r'.up λb=>{b with all:=mm.r.b.all,ends:=mm.r.b.ends}) KF (by simp[m]) (P.fr y.fr λc q _ e=>G.t.kW (g.hO (i:=1) (by simp[m])) (e▸q)) w4 a' ⟨rfl,rfl,rfl,rfl⟩ (by rw[o,o];rfl) rfl rfl λS e q=>by rw[V]at q ⊢;cases e;exact⟨jF _,q.2.1,q.2.2⟩
 refine hk h4 ?_ ⟨_,by rfl,G4.conv (r':=mm.r) ⟨by show _=r'.b.rows;rw[I];rfl,by show _=r'.b.cz;rw[I];rfl,by show _=r'.b.bits;rw[I];rfl,by show _=r'.b.bF;rw[I];rfl⟩ (by rw[o,o];rfl) (by rw[jO,d'];exact ks.1) (λq=>ag) λS e q=>by cases e;rw[V];exact⟨jF _,jF _,M⟩⟩
 exact(((D.mono λc q _=>q.elim (λe=>e▸G.t.tb) λq=>G.kr g.gq q).trans (u2.mono λc q _=>by obtain⟨j,A,hA,q⟩:=q;exact G.kr (g.fk hA) q)).trans (y.fr.mono λc q _=>q▸G.t.tb)).trans (w4.fr.mono λc q _=>q▸G.t.tb)
end
section
variable {KM:List cO} {r:Raw} {m:fN} {mm:Mem} {v:Value}
theorem avd{K:HP}(l:f.k=1)(n:f.cs=[])(G:bU f [] T h r (some mm) g)(u:∀i,Tn T h i->cX f [] T i (.iface (bI f.k) (bB g.b)) mm.r (some mm)->K i):
  c8 aG mm.F [] h (λr d=>r=.tuple #[]/\K d) Kp:=by
 have KF:∀(j:Nat)(M:cO),([]:List cO)[j]? =some M->gz M:=aC
 obtain⟨⟨J,C,z,I,H,y,E⟩,D,ks⟩:=G.mm mm rfl;have p:∀o:Rb,cF f.k o=[]:=λo=>by unfold cF;simp[*]
 have w:∀a b:Rb,eI f.k a b:=λa b=>by unfold eI;simp[*]
 rw[y l];refine xK G KF z λd s A=>u d (s.mono λc q _=>q.elim (λe=>e▸G.t.tb) λq=>G.kr g.gq q) ⟨_,by rfl,A.conv ⟨rfl,rfl,rfl,rfl⟩ (by rw[p,p]) ?_ (λq=>ag) λB _ _=>w _ _⟩
 have e1:mm.r.kids=[]:=by
  rw[ks.1];have:=ks.2;rw[n]at this;rw[jw.1 this];rfl
 have x:=jw.1 G.lk.2.2;rw[e1];exact x.symm
theorem cX.drop(k:∀(j:Nat)M,KM[j]? =some M->∀{T:aR}{h:Hp}{v:Value}{r:Raw}{m:fN},M T h v r m->M T h v r none)(H:cX f KM T h v r m):cX f KM T h v r none:=by
 obtain⟨g,e,G⟩:=H;exact⟨g,e,G.t,G.B,G.ls,G.sl,G.lk,λj M A w a d b=>k j M a (G.aN j M A w a d b),G.no,G.kl,G.sp,λ_ q=>by cases q⟩
theorem cX.lt(H:cX f KM T h v r m):∀c,T c->c<h.size:=by
 obtain⟨g,e,G⟩:=H;exact G.t.lt
theorem cX.na(H:cX f KM T h v r m):∃k b,v=.iface (bI k) (bB b):=by
 obtain⟨g,e,G⟩:=H;grind
theorem cX.mono(H:cX f KM T h v r m)(hT:∀c,T c->D c)(hl:∀c,D c->c<h.size):cX f KM D h v r m:=by
 obtain⟨g,e,G⟩:=H;exact⟨g,e,G.mono hT hl⟩
def wM(t:TypeId):Prop:=(sI aG t "colonnade/build.count"=none/\DN aG t "colonnade/build.count"=some (178,0))/\sI aG t "colonnade/build.weight"=none/\DN aG t "colonnade/build.weight"=some (182,0)
theorem aue:wM nZ:=⟨⟨by kernel_rfl,by kernel_rfl⟩,by kernel_rfl,by kernel_rfl⟩
theorem aud:wM nY:=⟨⟨by kernel_rfl,by kernel_rfl⟩,by kernel_rfl,by kernel_rfl⟩
theorem auc:wM nW:=⟨⟨by kernel_rfl,by kernel_rfl⟩,by kernel_rfl,by kernel_rfl⟩
theorem aub:wM nt:=⟨⟨by kernel_rfl,by kernel_rfl⟩,by kernel_rfl,by kernel_rfl⟩
theorem aua:wM nk:=⟨⟨by kernel_rfl,by kernel_rfl⟩,by kernel_rfl,by kernel_rfl⟩
theorem at7:wM oJ:=⟨⟨by kernel_rfl,by kernel_rfl⟩,by kernel_rfl,by kernel_rfl⟩
theorem at6:wM oI:=⟨⟨by kernel_rfl,by kernel_rfl⟩,by kernel_rfl,by kernel_rfl⟩
theorem at5:wM nV:=⟨⟨by kernel_rfl,by kernel_rfl⟩,by kernel_rfl,by kernel_rfl⟩
theorem at4:wM oH:=⟨⟨by kernel_rfl,by kernel_rfl⟩,by kernel_rfl,by kernel_rfl⟩
theorem ae0(k:Int):wM (bI k):=by
 unfold bI
 by_cases zE:k=1
 ·rw[aI zE];exact aue
 rw[aE zE]
 by_cases xF:k=12\/k=13
 ·rw[aI xF];exact aud
 rw[aE xF]
 by_cases BE:k=15
 ·rw[aI BE];exact auc
 rw[aE BE]
 by_cases a:k=16
 ·rw[aI a];exact aub
 rw[aE a]
 by_cases xE:k=17
 ·rw[aI xE];exact aua
 rw[aE xE]
 by_cases zD:k=18
 ·rw[aI zD];exact at7
 rw[aE zD]
 by_cases xD:k=19
 ·rw[aI xD];exact at6
 rw[aE xD]
 by_cases OM:k=20
 all_goals simp_all[aI,at5,aE,at4]
theorem cX.count{K:cL}(H:cX f KM T h v r m)(a:K (r.b.rows:Int) h):ahu v h K Kp:=by
 obtain⟨g,rfl,G⟩:=H;have q:=ae0 f.k;exact afa q.1.1 q.1.2 aX (au6 G.B a)
theorem cX.weight{K:cL}(H:cX f KM T h v r m)(a:K (r.b.bF:Int) h):aht v h K Kp:=by
 obtain⟨g,rfl,G⟩:=H;have q:=ae0 f.k;exact afa q.2.1 q.2.2 aX (auR G.B a)
end
def vX(f:ak)(M:cO):Prop:=∀{T D:aR}{h:Hp}{v:Value}{vs:aQ}{m:fN}{x:aD}{s:Sl}{K:cL}{Kp:PK},f.can vs->f.fit x=true->x.bw<=4194304->M T h v (f.st vs) m->aS D h s x.items->(∀c,D c->¬T c)->
  (∀h',Tn T h h'->M (Tr T h h') h' v (f.tk (f.st vs) x).2 m->K (f.tk (f.st vs) x).1 h')->mU v x.au x.num (bs x.text) s h K Kp
def vU(f:ak)(M:cO):Prop:=∀{T:aR}{h:Hp}{v:Value}{vs:aQ}{m:fN}{K:cL}{Kp:PK},f.can vs->M T h v (f.st vs) m->
  (∀h',Tn T h h'->M (Tr T h h') h' v (f.zk (f.st vs)).2 m->K (f.zk (f.st vs)).1 h')->mB v h K Kp
section
variable {KM:List cO} {M:cO}
theorem qu:∀(j:Nat)(M:cO),([]:List cO)[j]? =some M->gz M:=λj M q=>by simp at q
theorem Hu(a:f.k=12\/f.k=13){vs:aQ}(d:f.can vs):(f.st vs).b.ends.length<=70000/\(f.st vs).b.all.length<=2^40:=by
 have c:=(gh f vs).1 d;have g:=c.n4;have e:=c.tx a;rw[fC];simp only[aM];rw[aI a,aI a,Dh];omega
theorem ajM(a:f.k=1):vX f (cX f []):=by
 intro T D h v vs m x s K l i d n H o p e;obtain⟨g,rfl,G⟩:=H;have j:bI f.k=nZ:=by unfold bI;simp[*]
 have q:mU (.iface nZ (bB g.b)) x.au x.num (bs x.text) s h K l:=as6 (aaM a qu G (by have:=(iG i).1;omega) e)
 grind
theorem ah4(a:f.k=1):vU f (cX f []):=by
 intro T h v vs m K j e H d;obtain⟨g,rfl,G⟩:=H;have i:bI f.k=nZ:=by unfold bI;simp[*]
 have q:mB (.iface nZ (bB g.b)) h K j:=asX (ahU a qu G (by have:=(iG e).1;omega) d)
 grind
theorem ajH(n:bE f)(a:f.k=12\/f.k=13):vX f (cX f []):=by
 intro T D h v vs m x s K l d e o H p r i;obtain⟨g,rfl,G⟩:=H;have j:bI f.k=nY:=by unfold bI;grind
 have q:mU (.iface nY (bB g.b)) x.au x.num (bs x.text) s h K l:=as1 (aaH a qu G (Hu a d).1 (Hu a d).2 (by have:=(iG d).1;omega) (by have:=aal x;omega) i)
 simp[*]
theorem ahZ(e:bE f)(a:f.k=12\/f.k=13):vU f (cX f []):=by
 intro T h v vs m K l d H i;obtain⟨g,rfl,G⟩:=H;have j:bI f.k=nY:=by unfold bI;grind
 have q:mB (.iface nY (bB g.b)) h K l:=asS (ahP e a qu G (Hu a d).1 (Hu a d).2 (by have:=(iG d).1;omega) i)
 simp[*]
theorem ajN(u:bE f)(a:f.k=15)(e:f.cs=[c])(C:MC c M)(r:jj c):vX f (cX f [M]):=by
 intro T D h v vs m x s K t n d i H j o l;obtain⟨g,rfl,G⟩:=H;have p:bI f.k=nW:=by unfold bI;simp[*]
 have q:mU (.iface nW (bB g.b)) x.au x.num (bs x.text) s h K t:=as7 (aaN a e C r n d i G j (λc q _=>G.out (o c q)) l);grind
theorem ah5(d:bE f)(a:f.k=15)(e:f.cs=[c])(C:MC c M)(n:jj c):vU f (cX f [M]):=by
 intro T h v vs m K o j H i;obtain⟨g,rfl,G⟩:=H;have l:bI f.k=nW:=by unfold bI;simp[*]
 have q:mB (.iface nW (bB g.b)) h K o:=asY (ahV d a e C n j G i);grind
theorem ajJ(e:bE f)(a:f.k=16)(i:f.cs=[c])(C:MC c M)(u:jj c)(t:dV c c.zk c.cm):vX f (cX f [M]):=by
 intro T D h v vs m x s K w o d j H l p n;obtain⟨g,rfl,G⟩:=H;have r:bI f.k=nt:=by unfold bI;simp[*]
 have q:mU (.iface nt (bB g.b)) x.au x.num (bs x.text) s h K w:=as3 (aaJ e a i C u t o d j G l (λc q _=>G.out (p c q)) n);grind
theorem ah1(d:bE f)(a:f.k=16)(e:f.cs=[c])(C:MC c M)(o:jj c)(n:dV c c.zk c.cm):vU f (cX f [M]):=by
 intro T h v vs m K p j H i;obtain⟨g,rfl,G⟩:=H;have l:bI f.k=nt:=by unfold bI;simp[*]
 have q:mB (.iface nt (bB g.b)) h K p:=asU (ahS d a e C o n j G i);grind
theorem ajI(e:bE f)(a:f.k=17)(C:kI f.cs KM)(r:∀c∈f.cs,jj c/\dV c c.zk c.cm):vX f (cX f KM):=by
 intro T D h v vs m x s K t n d i H j o l;obtain⟨g,rfl,G⟩:=H;have p:bI f.k=nk:=by unfold bI;simp[*]
 have q:mU (.iface nk (bB g.b)) x.au x.num (bs x.text) s h K t:=as2 (aaI e a C r n d i G j (λc q _=>G.out (o c q)) l);grind
theorem ah0(d:bE f)(a:f.k=17)(C:kI f.cs KM)(l:∀c∈f.cs,jj c/\dV c c.zk c.cm):vU f (cX f KM):=by
 intro T h v vs m K n i H e;obtain⟨g,rfl,G⟩:=H;have j:bI f.k=nk:=by unfold bI;simp[*]
 have q:mB (.iface nk (bB g.b)) h K n:=asT (ahQ d a C l i G e);grind
theorem ajP(i:bE f)(a:f.k=18)(C:kI f.cs KM)(r:∀c∈f.cs,jj c/\dV c c.zk c.cm):vX f (cX f KM):=by
 intro T D h v vs m x s K t e d j H l o n;obtain⟨g,rfl,G⟩:=H;have p:bI f.k=oJ:=by unfold bI;simp[*]
 have q:mU (.iface oJ (bB g.b)) x.au x.num (bs x.text) s h K t:=as9 (aaP i a C (λc e=>(r c e).1) e d j G l (λc q _=>G.out (o c q)) n);grind
theorem ah7(d:bE f)(a:f.k=18)(C:kI f.cs KM)(l:∀c∈f.cs,jj c/\dV c c.zk c.cm):vU f (cX f KM):=by
 intro T h v vs m K n i H e;obtain⟨g,rfl,G⟩:=H;have j:bI f.k=oJ:=by unfold bI;simp[*]
 have q:mB (.iface oJ (bB g.b)) h K n:=as0 (ahX d a C l i G e);grind
end
def wL(f:ak)(M:cO):Prop:=∀{T:aR}{h:Hp}{v:Value}{vs:aQ}{m:fN}{K:Int->Int->Int->Sl->Sl->Sl->HP}{Kp:PK},f.can vs->M T h v (f.st vs) m->
  (∀p h',aB h h'->eD (Nw h) (Nw h) h' p (f.dn (f.st vs))->K (f.dn (f.st vs)).len (f.dn (f.st vs)).off (f.dn (f.st vs)).au p.1 p.2.1 p.2.2 h')->mC v h K Kp
section
variable {KM:List cO} {M:cO}
theorem fu.none:fu D E h Sl.nil []:=⟨[],rfl,⟨xW h,λq=>absurd rfl q⟩,λj t l a b=>by simp at a⟩
abbrev Jn:=@fu.none
theorem af5{s u:Sl}{p o n:dw}{K:Addr->HP}(z:eL D h s (bv p))(r:eL D h t (bv o))(q:eL D h u (bv n))(C:D h.size)(A:∀a m,aB h m->fu D D m ⟨some a,3,3⟩ [p,o,n]->K a m):
  aL h #[Sl.v s,Sl.v t,Sl.v u] fI K:=by
 refine aJ λb F e1 k y _=>A _ F k ⟨[s,t,u],rfl,?_,λj w l d e=>?_⟩
 ·refine⟨⟨rfl,cr _,λx G=>⟨_,rfl,λi v g=>?_⟩⟩,λ_ a B=>by cases B;exact e1▸C⟩
  rw[bz,gU y];grind
 ·rcases j with _|_|_|j
  ·simp at d e;subst d e;exact z.gr k
  ·simp at d e;subst d e;exact r.gr k
  ·simp at d e;subst d e;exact q.gr k
  ·simp at d
theorem asB(a:f.k=1):wL f (cX f []):=by
 intro T h v vs m K s w H e;obtain⟨g,rfl,G⟩:=H;have r:bI f.k=nZ:=by unfold bI;simp[*]
 have q:mC (.iface nZ (bB g.b)) h K s:=by
  refine ato (Ta.of (aJ λz y e1 d n _=>?_));simp only[n9];have t:=G.B.fr (bx d) id λ_ _ _=>id;refine ql t λx i=>iH (n.ai i) rfl λo j l=>fB l ?_;have p:f.dn (f.st vs)=.mk (f.st vs).b.rows 0 (f.st vs).b.cz [] [] []:=by rw[I2 a,fC];rfl
  rw[p]at e;exact e (Sl.nil,Sl.nil,Sl.nil) o (bK (aq d i) j ag) ⟨Jn,jv _,jv _⟩
 grind
theorem asw(d:f.k=12\/f.k=13):wL f (cX f []):=by
 intro T h v vs m K Kp X H W;obtain⟨g,rfl,G⟩:=H;have ed:bI f.k=nY:=by unfold bI;grind
 have F:∀A:Rb,cF f.k A=[(ints A.ends,Y6),(bv A.all,Y8)]:=λA=>by unfold cF;simp[*]
 obtain⟨z,y,l⟩:∃z y,g.SS=[z,y]:=by
  have:=G.ls.1;rw[F]at this
  match hg:g.SS,this with
  |[a,b],_=>simp
 obtain⟨Q,P,r⟩:∃Q P,g.ST=[Q,P]:=by
  have:=G.ls.2;rw[F]at this
  match hg:g.ST,this with
  |[a,b],_=>simp
 have bd:=Hu d X;have R:=((gh f vs).1 X).tx d;have Y:(f.st vs).b.all.length<=65536:=by rw[fC];simp only[aM];rw[aI d];exact R
 have o:∀x∈(f.st vs).b.ends,x<2^63:=by
  rw[fC];simp only[aM];rw[aI d];intro x I;unfold jR at I;simp only[kZ,uz]at I;obtain⟨i,_,rfl⟩:=I;have:=MO (λv:aD=>v.text.length) vs i;have e:(vs.map λv:aD=>v.text.length).sum=(vs.flatMap aD.text).length:=by rw[BX]
  omega
 have q:mC (.iface nY (bB g.b)) h K Kp:=by
  refine atj (SX.of (aJ λN h1 e1 L V _=>?_));refine bO ?_;have j:=G.fr qu (bx L) λ_ _ _=>id;have o0:=j.sl 0 z Q (ints (f.st vs).b.ends,Y6) (by simp[l]) (by simp[r]) (by rw[F];rfl)
  have o1:=j.sl 1 y P (bv (f.st vs).b.all,Y8) (by simp[l]) (by simp[r]) (by rw[F];rfl)
  refine j.dI (i:=0) (s:=z) rfl (by simp[l]) (j.dI (i:=1) (s:=y) rfl (by simp[l]) (vJ j.B λu h2 n v2=>bR j.B.k n (bR j.B.k n ?_)))
  have z2:=n.1;refine xe (w:=4) (o0.gr n) bd.1 ag o λt h3 p=>bR (j.B.k.ai n) p.g ?_;have z3:=p.g.1;refine Pb ((o1.gr n).gr p.g) ag λw h4 C Z=>?_;have z4:=C.1;refine af5 ((v2.mo λc(q:h1.size<=c)=>(⟨ag,ag⟩:h.size<=c/\c≠N)).gr p.g |>.gr C) ((p.lq.mo λc(q:h2.size<=c)=>(⟨ag,ag⟩:h.size<=c/\c≠N)).gr C) (Z.mo λc(q:h3.size<=c)=>⟨ag,ag⟩) ⟨ag,ag⟩ λb' h5 g5 bf=>?_
  have O:=aq (aq n p.g) (aq C g5);have B5:=j.B.fr (bx O) id λ_ _ _=>id;refine ql B5 λh6 J=>iH ((V.ai O).ai J) rfl λh7 U k7=>fB k7 ?_;have ef:f.dn (f.st vs)=.mk (f.st vs).b.rows 0 (f.st vs).b.cz [dF (f.st vs).b,laidB (f.st vs).b.ends 4,(f.st vs).b.all] [] []:=by rw[vD d,fC];rfl
  rw[ef]at W;exact W (_,Sl.nil,Sl.nil) h7 (bK (aq (aq L O) J) U ag) ⟨(bf.gr J).fr U.fr (λc q _ e=>q.2 e) (λc q _ e=>q.2 e) (λc q=>q.1) λc q=>q.1,jv _,jv _⟩
 simp[*]
end
section
variable {KM:List cO} {M:cO} {h0:Hp} {vs:aQ} {m:fN} {K:Int->Int->Int->Sl->Sl->Sl->HP}
theorem dD.one{a:Nat}{p:Sl×Sl×Sl}(k:aO h a #[ah d.len,ah d.off,ah d.au,Sl.v p.1,Sl.v p.2.1,Sl.v p.2.2] el)(l:D a)(v:eD D E h p d):dD D E h ⟨some (aF a),1,1⟩ [d]:=by
 obtain⟨n,o,u,aZ,cs,ds⟩:=d;have j:iB D E h (aF a) (.mk n o u aZ cs ds):=by
  unfold iB;refine⟨p.1,p.2.1,p.2.2,λi w e=>?_,v.b,v.c,v.x⟩;rw[bz,gU k];rcases i with _|_|_|_|_|_|i
  all_goals first|(simp[yP]at e;done)|(simpa[yP,bH.len,bH.off,bH.au]using e)
 unfold dD;exact⟨rfl,cr _,_,rfl,l,j,by unfold ju;trivial⟩
theorem akG{n:Nat}{b:Sl}{X:TypeId}{c2:Array Value}(r:f.k=16)(s:f.cs=[c])(C:MC c M)(hc:f.can vs)(G:bU f [M] T h (f.st vs) m g)(P:aO h n c2 X)(e2:c2.size=6)
  (O:aO h j #[ah ((f.st vs).b.rows:Int),ah 0,ah ((f.st vs).b.cz:Int),Sl.v b,Sl.v Sl.nil,Sl.v Sl.nil] cg) (bf:fu (λc=>h0.size<=c/\c≠n/\c≠j) (λc=>h0.size<=c/\c≠n/\c≠j) h b [dF (f.st vs).b]) (V:aB h0 h) (l2:h0.size<=n) (l3:h0.size<=j) (ne:n≠j)
  (Q:∀p F,aB h0 F->eD (Nw h0) (Nw h0) F p (f.dn (f.st vs))->K (f.dn (f.st vs)).len (f.dn (f.st vs)).off (f.dn (f.st vs)).au p.1 p.2.1 p.2.2 F):yB K Kp (bD g.b) (aF n) (aF j) h:=by
 have es:∀N:Rb,cF f.k N=[]:=λN=>by unfold cF;rw[aA,aA,aA,dU]
 have L:g.SS=[]:=by
  have:=G.ls.1;rw[es]at this;exact jw.1 this
 have lk:=G.lk;have Z:0<g.KT.length:=by have:=lk.2.1;simp only[jy]at this;omega
 have Y:0<g.kv.length:=by have:=lk.1;simp only[jy]at this;omega
 have R:=bL Z;have E:=bL Y;generalize g.KT[0]=A at R;generalize g.kv[0]=w at E;have aN:=G.aN 0 M A w rfl R E;have d:f.cs[0]? =some c:=by rw[s];rfl
 rw[mM d vs]at aN;have ef:f.dn (f.st vs)=.mk (f.st vs).b.rows 0 (f.st vs).b.cz [dF (f.st vs).b] [c.dn (c.st (dB f.k f.w (dh f.cs) 0 vs))] []:=by
  have ek:hY f vs=[c.dn (c.st (dB f.k f.w (dh f.cs) 0 vs))]:=by
   have x:=tY (vs:=vs) d;have l:=DQ f vs;rw[s]at l
   match hq:hY f vs,l with
   |[y],_=>rw[hq]at x;simp at x;rw[x]
  rw[Bu (.inl r),ek,fC];rfl
 rw[ef]at Q;apply yB.of;refine bO ?_;have b':=P.lt;have a':=O.lt;refine G.lN (i:=0) rfl (.inr (.inl r)) (by simp[L]) E (C.done (fh d hc) aN λp x U D1=>aJ λa l c' H o _=>?_)
 have z1:=U.1;have B:=aq U H;refine dN (O.ai B) aC rfl λh3 u J=>?_;have t:aO h3 j #[ah ((f.st vs).b.rows:Int),ah 0,ah ((f.st vs).b.cz:Int),Sl.v b,Sl.v ⟨some (aF a),1,1⟩,Sl.v Sl.nil] cg:=by simpa[Sl.v]using J
 refine fB t (iH (u.bq (P.ai B) ne) e2 λS D k4=>fB k4 (Q (b,⟨some (aF a),1,1⟩,Sl.nil) S (bK (bK (aq V B) u l3) D l2) ⟨?_,?_,jv _⟩))
 ·exact((bf.gr B).fr u.fr (λc q _ e=>q.2.2 e) (λc q _ e=>q.2.2 e) (λc q=>q) λc q=>q).fr D.fr (λc q _ e=>q.2.1 e) (λc q _ e=>q.2.1 e) (λc q=>q.1) λc q=>q.1
 ·have I:Tn (λc=>c=j\/c=n) l S:=(u.fr.mono λc q _=>.inl q).trans (D.fr.mono λc q _=>.inr q);have d2:dD (λc=>h.size<=c) (λc=>h.size<=c) l ⟨some (aF a),1,1⟩ [c.dn (c.st (dB f.k f.w (dh f.cs) 0 vs))]:=dD.one o (by show h.size<=a;omega) (D1.gr H)
  exact dD.fr I (λc(q:h.size<=c)_ z=>ag) (λc(q:h.size<=c)_ z=>ag) (λc(q:h.size<=c)=>by show h0.size<=c;omega) (λc(q:h.size<=c)=>by show h0.size<=c;omega) _ d2
end
section
variable {M:cO} {D' E':aR}
theorem fu.mo{s:Sl}{aZ:ie}(v:fu D E h s aZ)(e:∀b,D b->D' b)(a:∀b,E b->E' b):fu D' E' h s aZ:=v.fr (iW _ _) (λ_ _ _=>id) (λ_ _ _=>id) e a
theorem Ev{s:Sl}{k:dw}{K:Addr->HP}(o:eL D h s (bv k))(t:D h.size)(q:∀b g,aB h g->b=h.size->fu D D g ⟨some (aF b),1,1⟩ [k]->K (aF b) g):aL h #[Sl.v s] fI K:=by
 refine aJ λb u e1 n p _=>q _ u n e1 ⟨[s],rfl,?_,λj w l d e=>?_⟩
 ·refine⟨⟨rfl,cr _,λx y=>⟨_,rfl,λi v m=>?_⟩⟩,λ_ a r=>by cases r;exact e1▸t⟩
  rw[bz,gU p];grind
 ·rcases j with _|j
  ·simp at d e;subst d e;exact o.gr n
  ·simp at d
theorem asy(w:f.k=16)(O:f.cs=[c])(C:MC c M):wL f (cX f [M]):=by
 intro T h v vs m K X hc H hk;obtain⟨g,rfl,G⟩:=H;have ed:bI f.k=nt:=by unfold bI;simp[*]
 have q:mC (.iface nt (bB g.b)) h K X:=by
  refine atl (SP.of (aJ λa2 p e1 y R _=>?_));simp only[n9];have fin:∀{r:Hp}{j l:Nat}{L:Array Value},aB p r->aO r j L cg->L.size=6->p.size<=j->fu (λc=>p.size<=c/\c≠j) (λc=>p.size<=c/\c≠j) r ⟨some (aF l),1,1⟩ [dF (f.st vs).b]->
    cJ r (aF j) ((f.st vs).b.rows:Int) 0 ((f.st vs).b.cz:Int) ⟨some (aF l),1,1⟩ Sl.nil Sl.nil λz=>yB K X (bD g.b) (aF a2) (aF j) z:=by
   intro r j l L I n W l3 s;refine iH n W λz Q N=>?_;have J:=bK I Q l3;exact akG w O C hc (G.fr (ng C) (bx (aq y J)) λ_ _ _=>id) (R.ai J) rfl N (s.fr Q.fr (λc q _ e=>q.2 e) (λc q _ e=>q.2 e) (λc q=>⟨ag,ag,q.2⟩) λc q=>⟨ag,ag,q.2⟩) (aq y J) ag ag ag hk
  have Bx:∀{r:Hp},aB p r->mD g.T0 r g.b (iz f.k) f g.sf g.sn g.sb (f.st vs).b (ia f.k g.SS g.kv g.ks g.sp):=λI=>G.B.fr (bx (aq y I)) id λ_ _ _=>id;refine⟨vJ (Bx (cW _)) λu V i P=>⟨Ev (P.mo λc q=>q) i.1 λl U o x s=>⟨?_,?_⟩,?_⟩,?_⟩
  ·have t:=aq i o;refine ql (Bx t) λF a=>aJ λj A e5 d n _=>?_;have Z:=t.1;have Y:=a.1;refine fin (aq (aq t a) d) n rfl ag (((s.lt.gr a).gr d).mo (λc q=>⟨q.1,ag⟩) λc q=>⟨q.1,ag⟩)
  ·have t:=aq i o;refine aJ λj F e4 a n _=>ql (Bx (aq t a)) λA d=>?_;have Z:=t.1;refine fin (aq (aq t a) d) (n.ai d) rfl ag (((s.lt.gr a).gr d).mo (λc q=>⟨q.1,ag⟩) λc q=>⟨q.1,ag⟩)
  ·refine aJ λj U W o n _=>Ev (D:=λc=>p.size<=c/\c≠j) ((P.lt.gr o).mo λc q=>⟨q.1,ag⟩) (by have:=i.1;omega) λl F a x s=>ql (Bx (aq (aq i o) a)) λA d=>?_
   have z2:=i.1;exact fin (aq (aq (aq i o) a) d) ((n.ai a).ai d) rfl ag (s.gr d)
  ·exact aJ λj V e2 i n _=>vJ (Bx i) λu U o v3=>Ev (v3.mo λc(q:V.size<=c)=>ag) (by have:=i.1;have:=o.1;omega) λl F a x s=>ql (Bx (aq (aq i o) a)) λA d=>fin (aq (aq (aq i o) a) d) (((n.ai o).ai a).ai d) rfl ag (s.gr d)
 grind
end
structure awL(f:ak)(M:cO)(T:aR)(h:Hp)(p:Nat)(vs:aQ)(en:Bool)(sf:Sl)(v:Value)(Tm R:aR):Prop where
 tp:T p
 lt:∀c,T c->c<h.size
 tm:∀c,Tm c->T c/\c≠p/\¬R c
 tr:∀c,R c->T c/\c≠p
 k:aO h p #[.string f.name,.bool f.au,ah f.k,ah f.w,ah f.id,ah f.ix,Sl.v sf,v,.bool en] agC
 c:ck R h sf f.cs
 m:M Tm h v (f.st vs) none
def sy(f:ak)(M:cO)(T:aR)(h:Hp)(p:Nat)(vs:aQ)(en:Bool):Prop:=∃sf v Tm R,awL f M T h p vs en sf v Tm R
section
variable {M:cO} {S:aR} {h':Hp} {p:Nat} {vs:aQ} {en:Bool} {x:aD} {s:Sl}
theorem sy.fr(C:MC f M)(B:sy f M T h p vs en)(t:Tn S h h')(z:∀c,T c->¬S c):sy f M T h' p vs en:=by
 obtain⟨a,v,b,R,B⟩:=B;exact⟨a,v,b,R,B.tp,λc q=>mQ (B.lt c q) t.1,B.tm,B.tr,t.bq B.k (z p B.tp),ck.fr t (λc q=>z c (B.tr c q).1) (λ_ q=>q) _ B.c,C.fr B.m t λc q _=>z c (B.tm c q).1⟩
theorem apc{K:cL}(C:MC f M)(B:sy f M T h p vs en)(V:f.can vs)(O:f.fit x=true)(hP:dV f (λr=>f.tk r x) x)(hw:x.bw<=4194304)(hv:aS D h s x.items)(hD:∀c,D c->¬T c)
  (hk:∀h',Tn T h h'->sy f M (Tr T h h') h' p (if(f.tk (f.st vs) x).1=0 then vs++[x]else vs) en->K (f.tk (f.st vs) x).1 h'):Lp (bD p) x.au x.num (bs x.text) s h K Kp:=by
 obtain⟨sf,v,A,R,B⟩:=B;refine Lp.of (aJ λa3 h1 e3 g1 Q _=>aJ λw u e4 W i _=>?_);have pl:=B.k.lt;have G2:=aq g1 W;have a':=λc q=>B.lt c (B.tm c q).1;refine bO ?_;refine aj (B.k.ai G2) rfl (C.mark V (C.fr B.m (bx G2) λ_ _ _=>id) λmm t g3 o3 c3 X M3=>aJ λY h4 e5 g4 o _=>⟨c3,dN o aC o3 λl o5 o=>Tl.of ?_⟩);have s3:=g3.1;have G5:=bK g4 o5 ag;have s5:=G5.1;have Gs:=aq g3 G5;have G:=aq G2 Gs;have Q:=(Q.ai W).ai Gs;have i:=i.ai Gs;have y:=B.k.ai G;have o:aO l Y #[mm.F] Y4:=by simpa using o
 have M5:=C.fr M3 (bx G5) λ_ _ _=>id;unfold ahh;refine bO ?_;have g:∀c,Tr A u t c->(A c/\c<h.size)\/(u.size<=c/\c<t.size):=λc q=>q.imp (λq=>⟨q,a' c q⟩) id;refine aj y rfl (eW Q (C.take V O hw M5 (eO (aS.lt _ hv) G) (λc q z=>?_) λL I M6=>?_))
 ·rcases g c z with n|n
  ·exact hD c q.1 (B.tm c n.1).1
  ·have:=q.2;omega
 have s6:=I.1;have i:=I.bq i λq=>by rcases g w q with q|q <;> omega
 have o:=I.bq o λq=>by rcases g Y q with q|q <;> omega
 have y:=I.bq y λq=>by
  rcases g p q with q|q
  ·exact(B.tm p q.1).2.1 rfl
  ·omega
 refine dN i aC rfl λH J i=>?_;have s7:=J.1;have o:=J.bq o ag;have y:=J.bq y ag;have i:aO H w #[ah (f.tk (f.st vs) x).1] PG:=by simpa using i
 have d:∀c,Tr (Tr A u t) l L c->(A c/\c<h.size)\/(u.size<=c/\c<t.size)\/(l.size<=c/\c<L.size):=λc q=>by
  rcases q with q|q
  ·exact(g c q).imp id .inl
  ·exact .inr (.inr q)
 have M7:=C.fr M6 J.fr λc q _ e=>by rcases d c q with q|q|q <;> omega
 have N:Tn (λc=>Tr A u t c\/c=w) l H:=(I.mono λc q _=>.inl q).trans (J.fr.mono λc q _=>.inr q);have c':ck R H sf f.cs:=by
  refine ck.fr N (λc q z=>?_) (λc q=>q.1) _ (vM (ck.lt _ B.c) G);rcases z with z|z
  ·rcases g c z with n|n
   ·exact(B.tm c n.1).2.2 q.1
   ·have:=q.2;omega
  ·have:=q.2;omega
 -- e' end,from a heap j d' P H
 have fin:∀j U,Tn (Tr (Tr A u t) l L) H j->M (Tr (Tr A u t) l L) j v U none->U=f.st (if(f.tk (f.st vs) x).1=0 then vs++[x]else vs)->aO j w #[ah (f.tk (f.st vs) x).1] PG->Ld j (aF w) mI λr0=>K r0 j:=by
  intro j U E Z X i;subst X;have s8:=E.1;have y:=E.bq y λq=>by
   rcases d p q with q|q|q
   ·exact(B.tm p q.1).2.1 rfl
   ·omega
   ·omega
  refine aj i rfl (hk j ?_ ⟨sf,v,Tr (Tr A u t) l L,R,.inl B.tp,λc q=>?_,λc q=>?_,λc q=>⟨.inl (B.tr c q).1,(B.tr c q).2⟩,y,?_,Z⟩)
  ·refine((bx G).trans' N λc q b'=>?_).trans' E λc q b'=>?_
   ·rcases q with q|q
    ·rcases g c q with q|q
     ·exact(B.tm c q.1).1
     ·omega
    ·omega
   ·rcases d c q with q|q|q
    ·exact(B.tm c q.1).1
    ·omega
    ·omega
  ·rcases q with q|q
   ·have:=B.lt c q;omega
   ·exact q.2
  ·rcases d c q with q|q|q
   ·exact⟨.inl (B.tm c q.1).1,(B.tm c q.1).2⟩
   ·exact⟨.inr ag,by omega,λz=>by have:=B.lt c (B.tr c z).1;omega⟩
   ·exact⟨.inr ag,by omega,λz=>by have:=B.lt c (B.tr c z).1;omega⟩
  ·refine ck.fr (D:=λc=>R c/\c<h.size) E (λc q z=>?_) (λc q=>q.1) _ (ck.fr (iW _ _) (λ_ _=>id) (λc q=>⟨q.1,B.lt c (B.tr c q.1).1⟩) _ (ck.lt _ c'));rcases d c z with n|n|n
   ·exact(B.tm c n.1).2.2 q.1
   ·have:=q.2;omega
   ·have:=q.2;omega
 refine awG (c0:=(aF w)) (c1:=(aF Y)) (h:=H) (K:=λh'=>Ld h' (aF w) mI λr0=>K r0 h') (aj i rfl (aK (λc=>?_) λc=>?_))
 ·have c:=aU c;refine aj o rfl (C.back M7 λj E Z=>fin j _ E (C.drop Z) ?_ (E.bq i λq=>by rcases d w q with q|q|q <;> omega))
  rw[X,aE c]
 ·have c:=aU c;exact fin H _ (iW _ _) (C.drop M7) (by rw[aI c];exact(hP vs V c).2) i
noncomputable def iu(f:ak)(vs:aQ)(x:aD):Int:=if x.bw<=4194304/\f.fit x=true then(f.tk (f.st vs) x).1 else 7
theorem avz(PF:jj f){vs:aQ}{x:aD}(b:f.can vs)(h:iu f vs x=0):f.can (vs++[x])/\f.fit x=true:=by
 unfold iu at h;split at h
 ·rename_i q;exact⟨((PF x q.2) vs b h).1,q.2⟩
 ·cases h
theorem awS{K:cL}(C:MC f M)(PF:jj f)(V:mT f)(y:bE f)(u:f.fQ)(N:kS h)(L:jz h)(B:sy f M T h p vs false)(P:f.can vs)(O:x.nH)(F:aS D h s x.items)(Q:∀c,D c->¬T c)
  (n:∀h',Tn T h h'->sy f M (Tr T h h') h' p (if iu f vs x=0 then vs++[x]else vs) false->K (iu f vs x) h'):Lw (bD p) x.au x.num (bs x.text) s h K Kp:=by
 have J:=B;obtain⟨j,v,r,R,B⟩:=B;refine Lw.of (aJ λa3 h1 e3 d A _=>?_);refine bO ?_;refine aj (B.k.ai d) rfl (bu rfl (gQ ?_ (eW A (awC V y u (N.ai d) (L.ai d) (vM B.c d) (eO F d) O λo t=>?_))))
 ·intro i w E;rw[bz,gU (B.k.ai d)];rcases i with _|_|_|_|_|_|_|i
  all_goals first|(simp at E;done)|(simpa using E)
 have G:=aq d t;have X:=t.1;have I:=J.fr C (bx G) λ_ _=>id;have up:∀{h':Hp}{g:aQ},o.size<=h'.size->sy f M (Tr T o h') h' p g false->sy f M (Tr T h h') h' p g false:=by
  rintro h' g Z ⟨j,v,r,R,B⟩;exact⟨j,v,r,R,.inl J.choose_spec.choose_spec.choose_spec.choose_spec.tp,λc q=>by rcases q with q|q;exact B.lt c (.inl q);exact q.2,λc q=>⟨(B.tm c q).1.imp id λq=>⟨by omega,q.2⟩,(B.tm c q).2⟩,λc q=>⟨(B.tr c q).1.imp id λq=>⟨by omega,q.2⟩,(B.tr c q).2⟩,B.k,B.c,B.m⟩
 refine aK (λc=>?_) λc=>eW (A.ai t) ?_
 ·have c:=aU c;have H:¬(x.bw<=4194304/\f.fit x=true):=λq=>by rw[aI q]at c;exact c rfl
  have e:iu f vs x=7:=by unfold iu;rw[aE H]
  rw[aE H];rw[e]at n;exact n o (bx G) (up (cr _) (by
   obtain⟨j,v,r,R,B⟩:=I;exact⟨j,v,r,R,.inl B.tp,λc q=>by rcases q with q|q;exact B.lt c q;exact q.2,λc q=>⟨.inl (B.tm c q).1,(B.tm c q).2⟩,λc q=>⟨.inl (B.tr c q).1,(B.tr c q).2⟩,B.k,B.c,B.m⟩))
 ·have c:=aU c;have l:x.bw<=4194304/\f.fit x=true:=by
   by_cases q:x.bw<=4194304/\f.fit x=true
   ·exact q
   ·rw[aE q]at c;cases c
  have e:iu f vs x=(f.tk (f.st vs) x).1:=by unfold iu;rw[aI l]
  rw[e]at n;exact apc C I P l.2 (PF x l.2) l.1 (eO F G) Q λU z W=>n U ((bx G:Tn T h o).trans z) (up z.1 W)
theorem awD{K:Int->Int->Int->Sl->Sl->Sl->Int->HP}(C:MC f M)(B:sy f M T h p vs false)(A:f.can vs)
  (z:∀q h',Tn (·=p) h h'->sy f M T h' p vs true->eD (Nw h) (Nw h) h' q (f.dn (f.st vs))->K (f.dn (f.st vs)).len (f.dn (f.st vs)).off (f.dn (f.st vs)).au q.1 q.2.1 q.2.2 0 h'):Lu (bD p) h K Kp:=by
 obtain⟨w,v,G,R,B⟩:=B;refine Lu.of (aJ λF U V g o _=>?_);have Q:=B.k.lt;refine bO ?_;refine aj (B.k.ai g) rfl (bu rfl (dN (B.k.ai g) aC rfl λj i n=>?_));have O:=i.1;have t:=C.fr (C.fr B.m (bx g) λ_ _ _=>id) i.fr λc q _ e=>(B.tm c q).2.1 e;refine aj n rfl (C.done A t λq E d H=>?_);refine iH ((i.bq o ag).ai d) rfl λr a y=>fB y ?_;have u:=((bx g).trans i.fr).trans (bx d);have l:=u.trans' a.fr λc q J=>by omega
 refine z q r l ⟨w,v,G,R,B.tp,λc q=>mQ (B.lt c q) l.1,B.tm,B.tr,?_,ck.fr l (λc q=>(B.tr c q).2) (λ_ q=>q) _ B.c,?_⟩ ?_
 ·have:=a.bq (n.ai d) ag
  simpa using this
 ·exact C.fr (C.fr t (bx d) λ_ _ _=>id) a.fr λc q _ e=>by have:=B.lt c (B.tm c q).1;omega
 ·exact H.fr a.fr (λc(q:j.size<=c)_ e=>by omega) (λc(q:j.size<=c)_ e=>by omega) (λc(q:j.size<=c)=>by show h.size<=c;omega) λc(q:j.size<=c)=>by show h.size<=c;omega
end
theorem iO.ext{h':Hp}{Ls n:List (Nat->Prop)}(t:iO T h b Ls)(N:Nat->Nat->Prop)(y:h.size<=h'.size)(hl:∀(i:Nat)B,n[i]? =some B->∃A,Ls[i]? =some A/\∀c,B c->A c\/N i c)
  (hN:∀i c,N i c->h.size<=c/\c<h'.size) (v:∀i j c,i≠j->N i c->¬N j c):iO (Tr T h h') h' b n:=by
 refine⟨.inl t.tb,λc k=>?_,λB hB c k=>?_,?_⟩
 ·rcases k with q|q
  ·have:=t.lt c q;omega
  omega
 ·obtain⟨i,hi⟩:=List.getElem?_of_mem hB;obtain⟨A,o,d⟩:=hl i B hi;rcases d c k with q|q
  ·have:=t.sub A (bS o) c q;grind
  ·have:=hN i c q;exact⟨.inr this,λe=>by have:=t.lt b t.tb;omega⟩
 ·rw[ux];intro i j hi u x c k l;obtain⟨A,o,d⟩:=hl i _ (bL hi);obtain⟨w,m,a⟩:=hl j _ (bL u);have lA:=λq=>t.lt c (t.sub A (bS o) c q).1;have s:=λq=>t.lt c (t.sub w (bS m) c q).1;rcases d c k with q|q
  ·rcases a c l with p|p
   ·exact t.ne o m ag c q p
   grind
  grind
def dO.mk'(g:dO)(n:Nat)(h h':Hp)(lo hi:Nat->Nat):dO:=
 {g with R:=λc=>g.R c\/(h.size<=c/\c<h'.size/\∀j,j<n->¬(lo j<=c/\c<hi j)),KT:=(List.range n).map λj=>λc=>(g.KT.getD j λ_=>False) c\/(lo j<=c/\c<hi j)}
section
variable {KM:List cO} {M:cO} {h':Hp} {r:Raw} {mm:Mem} {lo hi:Nat->Nat}
theorem bU.marked(G:bU f KM T h r none g)(KF:∀(j:Nat)M,KM[j]? =some M->gz M)(gr:aB h h')(I:∀j,j<KM.length->h.size<=lo j/\hi j<=h'.size)(L:∀i j,i<KM.length->j<KM.length->i≠j->hi i<=lo j\/hi j<=lo i)
  (K:∀(j:Nat)M A w,KM[j]? =some M->g.KT[j]? =some A->g.kv[j]? =some w->M (λc=>A c\/(lo j<=c/\c<hi j)) h' w (r.aN j) mm.ks[j]?) (J:JX f (gA f.k) h' r mm (g.mk' KM.length h h' lo hi)):
  bU f KM (Tr T h h') h' r (some mm) (g.mk' KM.length h h' lo hi):=by
 have lk:=G.lk;have d:=G.fr KF (bx gr) λ_ _ _=>id;have C:∀{j:Nat}{A:aR},(g.mk' KM.length h h' lo hi).KT[j]? =some A->j<KM.length/\∃B,g.KT[j]? =some B/\A=λc=>B c\/(lo j<=c/\c<hi j):=by
  intro j A l;have D:j<KM.length:=by have:=(dy.1 l).1;simpa[dO.mk']using this
  refine⟨D,g.KT[j],bL ag,?_⟩;simp only[dO.mk']at l;rw[fy,B8 D]at l;simp only[oD,mS]at l;rw[<-l,gB,bL ag];rfl
 refine⟨?_,d.B,d.ls,d.sl,⟨lk.1,by simp[dO.mk'],lk.2.2⟩,λj M A w a b o=>?_,aS.fr (iW _ _) (λ_ _ _=>id) (λc q=>.inl q) _ d.no,λz=>(d.kl z).fr (iW _ _) (λ_ _ _=>id) λc q=>.inl q,d.sp,λP e=>bZ⟩
 ·refine G.t.ext (λi c=>(i=1/\h.size<=c/\c<h'.size/\∀j,j<KM.length->¬(lo j<=c/\c<hi j))\/∃j,i=3+g.ST.length+j/\j<KM.length/\lo j<=c/\c<hi j) gr.1 (λi B hB=>?_) (λi c q=>?_) λi j c ne q p=>?_
  ·rcases i with _|_|_|i
   ·exact⟨g.T0,rfl,λc q=>.inl (by cases hB;exact q)⟩
   ·refine⟨g.R,rfl,λc q=>?_⟩;cases hB;rcases q with q|q
    all_goals grind
   ·exact⟨g.X,rfl,λc q=>.inl (by cases hB;exact q)⟩
   ·by_cases u:i<g.ST.length
    ·have E:=bL u;have N:=(g.mk' KM.length h h' lo hi).hO E;have n:=g.hO E;rw[show i+1+1+1=3+i by omega]at hB⊢
     rw[N]at hB;grind
    ·have v:(g.mk' KM.length h h' lo hi).KT[i-g.ST.length]? =some B:=by
      have:(g.mk' KM.length h h' lo hi).Ls[i+1+1+1]? =some B:=hB;unfold dO.Ls at this;rw[BW,BW,BW,gv (show(g.mk' KM.length h h' lo hi).ST.length<=i from by show g.ST.length<=i;omega)]at this
      exact this
     obtain⟨a,O,b,rfl⟩:=C v;have n:=g.fk b;grind
  all_goals grind
 ·obtain⟨_,B,F,rfl⟩:=C b;exact K j M B w a F o
end
abbrev lU:=Value->Nat->Nat->HP
variable {V2:lU}
structure tu(h h':Hp)(caps:cV)(cs:List (Array Value))(VB V2:lU)(F0 KF:Value)(l0 u0 l2 u2:Nat):Prop where
 g:aB h h'
 n:caps.length=cs.length
 c:∀(i:Nat)a,caps[i]? =some a->h.size<=a/\¬(l2<=a/\a<u2)/\∃c t,cs[i]? =some c/\aO h' a c t
 b:VB F0 l0 u0 h'/\h.size<=l0/\u0<=h'.size
 k:V2 KF l2 u2 h'/\h.size<=l2/\u2<=h'.size
 d:u0<=l2\/u2<=l0
abbrev pA(a:Nat):Value:=bB a
abbrev vc(n:Nat)(v:Value):Cl:=.vl n (pR v)
abbrev vb(n b:Nat):Cl:=.vl n (pR (pA b))
abbrev A9(c:Code)(K:de)(Kp:PK):Fr->HP:=yZ aG (pe (sub [1,0] c)) (λfr h=>fT aG [] (GY aG []) none (.seq (.region 2 #[DG (sub [1,1,0] c) 0,DG (sub [1,1,0] c) 1] false) .ret) (mF aG [.tmp 2] [.nilFunc] K) Kp fr h) Kp (pe (sub [1,0] c)).size (List.range (pe (sub [1,0] c)).size)
theorem jV{a:Nat}{p:Option Addr}{K:Option Value->HP}(k:aO h a #[.pointer p] e)(c:K (some (.pointer p)) h):Ld h (aF a) Value.pointer λp=>K (some (.pointer p)) h:=aj k rfl c
theorem ze(n:Int):One (pR (ah n)):=.cst rfl rfl
def JU:lU:=λ_ _ _ _=>True
noncomputable def auN:Code:=Tryz.f190.body.getD .skip
def ahz(VB V2:lU)(b a1:Nat)(eM:Sl)(AP:Sl):List Cl:=[vb 6 b,vb 7 b,vc 8 (bB b),.vl 9 VB,vb 10 b,vb 11 b,vc 12 (.pointer (some ⟨b,16,none⟩)),vc 13 (Sl.v eM),vc 14 (ah (eM.n:Int)),vb 15 b,vb 16 b,vc 17 (.pointer (some ⟨b,17,none⟩)),vc 18 (Sl.v AP),vc 19 (ah (AP.n:Int)),.al 3 #[.nilFunc] 1 17 3,.al 4 #[ah 0] 3 18 8,.al 5 #[ah 0] 3 19 13,.st 14 3,.st 15 8,.st 16 13]
abbrev ayt(b a1:Nat):Fr:=([some (pA b),some (pA a1),some .nilFunc]++nn 18)
theorem SW.mk{K:de}{AP:Sl}{B:lU}(G:∀{r:Hp}{X:Sl->Prop},aB h r->X eM->Ld r ⟨b,16,none⟩ Sl.v X)(E:∀{r:Hp}{X:Sl->Prop},aB h r->X AP->Ld r ⟨b,17,none⟩ Sl.v X)(N:lV h B)(cB:One B)(V:∀{z:Hp}{X:de},aB h z->(∀v r,aB z r->B v z.size r.size r->X v r)->qY (bD b) z X Kp)
  (y:∀caps J KF T L R u2 r,tu h r caps [#[J],#[pA b],#[ah (eM.n:Int)],#[ah (AP.n:Int)]] B JU J KF T L R u2->K (.func (.func 196) #[] (caps.map pA).toArray) r):SW (bD b) h K Kp:=by
 refine Bo (bW:=[]) (zs:=[.nilFunc]) (Kv:=K) Tryz.func190 aX (S:=aL h #[pA b] 90 λe z=>A9 auN K Kp ([some (pA b),some (cU e),some .nilFunc]++nn 18) z) ?_ aX aX;refine aJ λe z e1 m p _=>zh (C:=ahz B JU b e eM AP) aX aX aX ⟨
  o0 1 (pA e) λK h g y=>jV (p.ai g) y,
  oE 0,
  oE 1,
  oF 2 (N.mo m.1) λK h g y=>V (aq m g) y,
  o0 1 (pA e) λK h g y=>jV (p.ai g) y,
  oE 4,
  oE 5,
  oX 6 λK h g y=>G (X:=λs=>K (some s.v) h) (aq m g) y,
  oE 7,
  o0 1 (pA e) λK h g y=>jV (p.ai g) y,
  oE 9,
  oE 10,
  oX 11 λK h g y=>E (X:=λs=>K (some s.v) h) (aq m g) y,
  oE 12,
  oA,
  oA,
  oA,
  oS true cB,
  oS false (ze _),
  oS false (ze _),
  trivial⟩ λfr t F A Q U M=>?_
 have f:∀{i:Nat},i∉([]:cV):=nS;obtain⟨p3,I,y3,H⟩:_/\_/\_/\_:=M.c 3 _ rfl f;obtain⟨p8,O,y8,z8⟩:_/\_/\_/\_:=M.c 8 _ rfl f;obtain⟨c',u,b',W⟩:_/\_/\_/\_:=M.c 13 _ rfl f;obtain⟨D,a',l⟩:_/\_/\_:=M.c 14 _ rfl f;obtain⟨x,Z,k⟩:_/\_/\_:=M.c 15 _ rfl f;obtain⟨w,Y,j⟩:_/\_/\_:=M.c 16 _ rfl f;rw[aE f,(cB _ _ _ _ I).2]at l;rw[aE f,(O:F 8=_)]at k;rw[aE f,(u:F 13=_)]at j;have P:fr.getD 1 none=some (pA e):=M.o.2 1 (by simp[ahz,Cl.dst])
 refine AN (fn:=.func 196) (caps:=#[.tmp 3,.tmp 1,.tmp 4,.tmp 5]) (vs:=[pA (A 14),pA (e),pA (A 15),pA (A 16)]) aX aX aX aX aX aX (by rw[M.o.1];exact(by decide:20<21)) (by rw[M.o.1];exact(by decide:2<21)) ?_ rfl ?_
 ·simp only[iF,ev,D,P,x,w]
 ·refine y [A 14,e,A 15,A 16] (F 3) (undef) (Q 3) (U 3) t.size t.size t ⟨aq m M.g,rfl,λi a d=>?_,⟨I,by omega,H⟩,⟨trivial,by have:=M.g.1;omega,cr _⟩,.inl H⟩
  rcases i with _|_|_|_|i
  ·cases d;exact⟨by omega,λq=>by omega,_,_,rfl,l⟩
  ·cases d;exact⟨by omega,λq=>by omega,_,_,rfl,(p.ai M.g)⟩
  ·cases d;exact⟨by omega,λq=>by omega,_,_,rfl,k⟩
  ·cases d;exact⟨by omega,λq=>by omega,_,_,rfl,j⟩
  ·simp at d
noncomputable def BE:Code:=Tryz.f198.body.getD .skip
def ahy(VB V2:lU)(b a1:Nat)(eM:Sl)(w:Value):List Cl:=[vb 6 b,vb 7 b,vc 8 (bB b),.vl 9 VB,vb 10 b,vb 11 b,vc 12 (.pointer (some ⟨b,16,none⟩)),vc 13 (Sl.v eM),vc 14 (ah (eM.n:Int)),vb 15 b,vb 16 b,vc 17 (.pointer (some ⟨b,17,none⟩)),vc 18 (w),.vl 19 V2,.al 3 #[.nilFunc] 1 17 3,.al 4 #[ah 0] 3 18 8,.al 5 #[.nilFunc] 1 19 13,.st 14 3,.st 15 8,.st 16 13]
abbrev ays(b a1:Nat):Fr:=([some (pA b),some (pA a1),some .nilFunc]++nn 18)
theorem SR.mk{K:de}{w:Value}{B:lU}(H:∀{r:Hp}{X:Sl->Prop},aB h r->X eM->Ld r ⟨b,16,none⟩ Sl.v X)(G:∀{r:Hp}{X:Value->Prop},aB h r->X w->Ld r ⟨b,17,none⟩ id X)(T:lV h B)(cB:One B)(HB:∀{z:Hp}{X:de},aB h z->(∀v r,aB z r->B v z.size r.size r->X v r)->qY (bD b) z X Kp)(U:lV h V2)(N:One V2)(H2:∀{z:Hp}{X:de},aB h z->(∀v r,aB z r->V2 v z.size r.size r->X v r)->kU w z X Kp)
  (y:∀caps O KF Y R W u2 r,tu h r caps [#[O],#[KF],#[pA b],#[ah (eM.n:Int)]] B V2 O KF Y R W u2->K (.func (.func 201) #[] (caps.map pA).toArray) r):SR (bD b) h K Kp:=by
 refine Bo (bW:=[]) (zs:=[.nilFunc]) (Kv:=K) Tryz.func198 aX (S:=aL h #[pA b] 93 λf z=>A9 BE K Kp ([some (pA b),some (cU f),some .nilFunc]++nn 18) z) ?_ aX aX;refine aJ λf z e1 j p _=>zh (C:=ahy B V2 b f eM w) aX aX aX ⟨
  o0 1 (pA f) λK h g y=>jV (p.ai g) y,
  oE 0,
  oE 1,
  oF 2 (T.mo j.1) λK h g y=>HB (aq j g) y,
  o0 1 (pA f) λK h g y=>jV (p.ai g) y,
  oE 4,
  oE 5,
  oX 6 λK h g y=>H (X:=λs=>K (some s.v) h) (aq j g) y,
  oE 7,
  o0 1 (pA f) λK h g y=>jV (p.ai g) y,
  oE 9,
  oE 10,
  oX 11 λK h g y=>G (X:=λs=>K (some s) h) (aq j g) y,
  oF 12 (U.mo j.1) λK h g y=>H2 (aq j g) y,
  oA,
  oA,
  oA,
  oS true cB,
  oS false (ze _),
  oS true N,
  trivial⟩ λfr Z F A J L M=>?_
 have d:∀{i:Nat},i∉([]:cV):=nS;obtain⟨p3,I,y3,P⟩:_/\_/\_/\_:=M.c 3 _ rfl d;obtain⟨p8,Q,y8,z8⟩:_/\_/\_/\_:=M.c 8 _ rfl d;obtain⟨e',t,d',u⟩:_/\_/\_/\_:=M.c 13 _ rfl d;obtain⟨E,c',m⟩:_/\_/\_:=M.c 14 _ rfl d;obtain⟨D,b',l⟩:_/\_/\_:=M.c 15 _ rfl d;obtain⟨x,a',k⟩:_/\_/\_:=M.c 16 _ rfl d;rw[aE d,(cB _ _ _ _ I).2]at m;rw[aE d,(Q:F 8=_)]at l;rw[aE d,(N _ _ _ _ t).2]at k;have V:fr.getD 1 none=some (pA f):=M.o.2 1 (by simp[ahy,Cl.dst])
 refine AN (fn:=.func 201) (caps:=#[.tmp 3,.tmp 5,.tmp 1,.tmp 4]) (vs:=[pA (A 14),pA (A 16),pA (f),pA (A 15)]) aX aX aX aX aX aX (by rw[M.o.1];exact(by decide:20<21)) (by rw[M.o.1];exact(by decide:2<21)) ?_ rfl ?_
 ·simp only[iF,ev,E,x,V,D]
 ·refine y [A 14,A 16,f,A 15] (F 3) (F 13) (J 3) (L 3) (J 13) (L 13) Z ⟨aq j M.g,rfl,λi a e=>?_,⟨I,by omega,P⟩,⟨t,by omega,u⟩,M.vv 3 13 _ _ _ _ rfl rfl d d bh⟩
  rcases i with _|_|_|_|i
  ·cases e;exact⟨by omega,M.av 14 13 _ _ _ _ _ _ _ rfl rfl d d,_,_,rfl,m⟩
  ·cases e;exact⟨by omega,M.av 16 13 _ _ _ _ _ _ _ rfl rfl d d,_,_,rfl,k⟩
  ·cases e;exact⟨by omega,λq=>by have:=p.lt;omega,_,_,rfl,(p.ai M.g)⟩
  ·cases e;exact⟨by omega,M.av 15 13 _ _ _ _ _ _ _ rfl rfl d d,_,_,rfl,l⟩
  ·simp at e
noncomputable def auM:Code:=Tryz.f203.body.getD .skip
def awJ(VB V2:lU)(b:Nat)(w:Value):List Cl:=[vb 5 b,vb 6 b,vc 7 (bB b),.vl 8 VB,vb 9 b,vb 10 b,vc 11 (.pointer (some ⟨b,16,none⟩)),vc 12 (w),.vl 13 V2,.al 3 #[.nilFunc] 1 11 3,.al 4 #[.nilFunc] 1 12 8,.st 9 3,.st 10 8]
abbrev arx(b:Nat):Fr:=([some (pA b),none,some .nilFunc]++nn 12)
theorem SO.mk{K:de}{w:Value}{B:lU}(E:∀{r:Hp}{X:Value->Prop},aB h r->X w->Ld r ⟨b,16,none⟩ id X)(J:lV h B)(cB:One B)(R:∀{z:Hp}{X:de},aB h z->(∀v r,aB z r->B v z.size r.size r->X v r)->qY (bD b) z X Kp)(L:lV h V2)(G:One V2)(T:∀{z:Hp}{X:de},aB h z->(∀v r,aB z r->V2 v z.size r.size r->X v r)->kU w z X Kp)
  (y:∀caps H KF O I N u2 r,tu h r caps [#[H],#[KF]] B V2 H KF O I N u2->K (.func (.func 206) #[] (caps.map pA).toArray) r):SO (bD b) h K Kp:=by
 refine Bo (bW:=[]) (zs:=[.nilFunc]) (Kv:=K) Tryz.func203 aX (S:=A9 auM K Kp (arx b) h) ?_ aX aX;have j:=cW h;refine zh (C:=awJ B V2 b w) aX aX aX ⟨
  o0 0 (pA b) λK h g y=>y,
  oE 0,
  oE 1,
  oF 2 (J.mo j.1) λK h g y=>R (aq j g) y,
  o0 0 (pA b) λK h g y=>y,
  oE 4,
  oE 5,
  oX 6 λK h g y=>E (X:=λs=>K (some s) h) (aq j g) y,
  oF 7 (L.mo j.1) λK h g y=>T (aq j g) y,
  oA,
  oA,
  oS true cB,
  oS true G,
  trivial⟩ λfr D F A p q M=>?_
 have d:∀{i:Nat},i∉([]:cV):=nS;obtain⟨Z,n,V,u⟩:_/\_/\_/\_:=M.c 3 _ rfl d;obtain⟨Y,m,U,t⟩:_/\_/\_/\_:=M.c 8 _ rfl d;obtain⟨x,Q,f⟩:_/\_/\_:=M.c 9 _ rfl d;obtain⟨l,P,e⟩:_/\_/\_:=M.c 10 _ rfl d;rw[aE d,(cB _ _ _ _ n).2]at f;rw[aE d,(G _ _ _ _ m).2]at e;refine AN (fn:=.func 206) (caps:=#[.tmp 3,.tmp 4]) (vs:=[pA (A 9),pA (A 10)]) aX aX aX aX aX aX (by rw[M.o.1];exact(by decide:14<15)) (by rw[M.o.1];exact(by decide:2<15)) ?_ rfl ?_
 ·simp only[iF,ev,x,l]
 ·refine y [A 9,A 10] (F 3) (F 8) (p 3) (q 3) (p 8) (q 8) D ⟨aq j M.g,rfl,λi a k=>?_,⟨n,by omega,u⟩,⟨m,by omega,t⟩,M.vv 3 8 _ _ _ _ rfl rfl d d bh⟩
  rcases i with _|_|i
  ·cases k;exact⟨by omega,M.av 9 8 _ _ _ _ _ _ _ rfl rfl d d,_,_,rfl,f⟩
  ·cases k;exact⟨by omega,M.av 10 8 _ _ _ _ _ _ _ rfl rfl d d,_,_,rfl,e⟩
  ·simp at k
noncomputable def auL:Code:=Tryz.f208.body.getD .skip
def awI(VB V2:lU)(b:Nat)(eM:Sl):List Cl:=[vb 5 b,vb 6 b,vc 7 (bB b),.vl 8 VB,vb 9 b,vb 10 b,vc 11 (.pointer (some ⟨b,16,none⟩)),vc 12 (Sl.v eM),.vl 13 V2,.al 3 #[.nilFunc] 1 11 3,.al 4 #[.nilFunc] 1 12 8,.st 9 3,.st 10 8]
abbrev arw(b:Nat):Fr:=([some (pA b),none,some .nilFunc]++nn 12)
theorem SL.mk{K:de}{B:lU}(E:∀{r:Hp}{X:Sl->Prop},aB h r->X eM->Ld r ⟨b,16,none⟩ Sl.v X)(J:lV h B)(cB:One B)(R:∀{z:Hp}{X:de},aB h z->(∀v r,aB z r->B v z.size r.size r->X v r)->qY (bD b) z X Kp)(L:lV h V2)(G:One V2)(T:∀{z:Hp}{X:de},aB h z->(∀v r,aB z r->V2 v z.size r.size r->X v r)->Gr eM z X Kp)
  (y:∀caps H KF O I N u2 r,tu h r caps [#[H],#[KF]] B V2 H KF O I N u2->K (.func (.func 213) #[] (caps.map pA).toArray) r):SL (bD b) h K Kp:=by
 refine Bo (bW:=[]) (zs:=[.nilFunc]) (Kv:=K) Tryz.func208 aX (S:=A9 auL K Kp (arw b) h) ?_ aX aX;have j:=cW h;refine zh (C:=awI B V2 b eM) aX aX aX ⟨
  o0 0 (pA b) λK h g y=>y,
  oE 0,
  oE 1,
  oF 2 (J.mo j.1) λK h g y=>R (aq j g) y,
  o0 0 (pA b) λK h g y=>y,
  oE 4,
  oE 5,
  oX 6 λK h g y=>E (X:=λs=>K (some s.v) h) (aq j g) y,
  oF 7 (L.mo j.1) λK h g y=>T (aq j g) y,
  oA,
  oA,
  oS true cB,
  oS true G,
  trivial⟩ λfr x F A p q M=>?_
 have d:∀{i:Nat},i∉([]:cV):=nS;obtain⟨Y,n,U,u⟩:_/\_/\_/\_:=M.c 3 _ rfl d;obtain⟨W,m,Q,t⟩:_/\_/\_/\_:=M.c 8 _ rfl d;obtain⟨w,P,f⟩:_/\_/\_:=M.c 9 _ rfl d;obtain⟨l,D,e⟩:_/\_/\_:=M.c 10 _ rfl d;rw[aE d,(cB _ _ _ _ n).2]at f;rw[aE d,(G _ _ _ _ m).2]at e;refine AN (fn:=.func 213) (caps:=#[.tmp 3,.tmp 4]) (vs:=[pA (A 9),pA (A 10)]) aX aX aX aX aX aX (by rw[M.o.1];exact(by decide:14<15)) (by rw[M.o.1];exact(by decide:2<15)) ?_ rfl ?_
 ·simp only[iF,ev,w,l]
 ·refine y [A 9,A 10] (F 3) (F 8) (p 3) (q 3) (p 8) (q 8) x ⟨aq j M.g,rfl,λi a k=>?_,⟨n,by omega,u⟩,⟨m,by omega,t⟩,M.vv 3 8 _ _ _ _ rfl rfl d d bh⟩
  rcases i with _|_|i
  ·cases k;exact⟨by omega,M.av 9 8 _ _ _ _ _ _ _ rfl rfl d d,_,_,rfl,f⟩
  ·cases k;exact⟨by omega,M.av 10 8 _ _ _ _ _ _ _ rfl rfl d d,_,_,rfl,e⟩
  ·simp at k
noncomputable def auK:Code:=Tryz.f217.body.getD .skip
def ahx(VB V2:lU)(b a1:Nat)(eM:Sl)(ru:Sl):List Cl:=[vb 6 b,vb 7 b,vc 8 (bB b),.vl 9 VB,vb 10 b,vb 11 b,vc 12 (.pointer (some ⟨b,16,none⟩)),vc 13 (Sl.v eM),vc 14 (ah (eM.n:Int)),vb 15 b,vb 16 b,vc 17 (.pointer (some ⟨b,18,none⟩)),vc 18 (Sl.v ru),.vl 19 V2,.al 3 #[.nilFunc] 1 17 3,.al 4 #[ah 0] 3 18 8,.al 5 #[.nilFunc] 1 19 13,.st 14 3,.st 15 8,.st 16 13]
abbrev ayr(b a1:Nat):Fr:=([some (pA b),some (pA a1),some .nilFunc]++nn 18)
theorem SH.mk{K:de}{ru:Sl}{B:lU}(G:∀{r:Hp}{X:Sl->Prop},aB h r->X eM->Ld r ⟨b,16,none⟩ Sl.v X)(E:∀{r:Hp}{X:Sl->Prop},aB h r->X ru->Ld r ⟨b,18,none⟩ Sl.v X)(T:lV h B)(cB:One B)(Z:∀{z:Hp}{X:de},aB h z->(∀v r,aB z r->B v z.size r.size r->X v r)->qY (bD b) z X Kp)(U:lV h V2)(L:One V2)(H2:∀{z:Hp}{X:de},aB h z->(∀v r,aB z r->V2 v z.size r.size r->X v r)->Gr ru z X Kp)
  (y:∀caps N KF W R V u2 r,tu h r caps [#[N],#[KF],#[pA b],#[ah (eM.n:Int)]] B V2 N KF W R V u2->K (.func (.func 220) #[] (caps.map pA).toArray) r):SH (bD b) h K Kp:=by
 refine Bo (bW:=[]) (zs:=[.nilFunc]) (Kv:=K) Tryz.func217 aX (S:=aL h #[pA b] 102 λf z=>A9 auK K Kp ([some (pA b),some (cU f),some .nilFunc]++nn 18) z) ?_ aX aX;refine aJ λf z e1 j p _=>zh (C:=ahx B V2 b f eM ru) aX aX aX ⟨
  o0 1 (pA f) λK h g y=>jV (p.ai g) y,
  oE 0,
  oE 1,
  oF 2 (T.mo j.1) λK h g y=>Z (aq j g) y,
  o0 1 (pA f) λK h g y=>jV (p.ai g) y,
  oE 4,
  oE 5,
  oX 6 λK h g y=>G (X:=λs=>K (some s.v) h) (aq j g) y,
  oE 7,
  o0 1 (pA f) λK h g y=>jV (p.ai g) y,
  oE 9,
  oE 10,
  oX 11 λK h g y=>E (X:=λs=>K (some s.v) h) (aq j g) y,
  oF 12 (U.mo j.1) λK h g y=>H2 (aq j g) y,
  oA,
  oA,
  oA,
  oS true cB,
  oS false (ze _),
  oS true L,
  trivial⟩ λfr Y F A I J M=>?_
 have d:∀{i:Nat},i∉([]:cV):=nS;obtain⟨p3,H,y3,O⟩:_/\_/\_/\_:=M.c 3 _ rfl d;obtain⟨p8,P,y8,z8⟩:_/\_/\_/\_:=M.c 8 _ rfl d;obtain⟨e',t,d',u⟩:_/\_/\_/\_:=M.c 13 _ rfl d;obtain⟨D,c',m⟩:_/\_/\_:=M.c 14 _ rfl d;obtain⟨x,b',l⟩:_/\_/\_:=M.c 15 _ rfl d;obtain⟨w,a',k⟩:_/\_/\_:=M.c 16 _ rfl d;rw[aE d,(cB _ _ _ _ H).2]at m;rw[aE d,(P:F 8=_)]at l;rw[aE d,(L _ _ _ _ t).2]at k;have Q:fr.getD 1 none=some (pA f):=M.o.2 1 (by simp[ahx,Cl.dst])
 refine AN (fn:=.func 220) (caps:=#[.tmp 3,.tmp 5,.tmp 1,.tmp 4]) (vs:=[pA (A 14),pA (A 16),pA (f),pA (A 15)]) aX aX aX aX aX aX (by rw[M.o.1];exact(by decide:20<21)) (by rw[M.o.1];exact(by decide:2<21)) ?_ rfl ?_
 ·simp only[iF,ev,D,w,Q,x]
 ·refine y [A 14,A 16,f,A 15] (F 3) (F 13) (I 3) (J 3) (I 13) (J 13) Y ⟨aq j M.g,rfl,λi a e=>?_,⟨H,by omega,O⟩,⟨t,by omega,u⟩,M.vv 3 13 _ _ _ _ rfl rfl d d bh⟩
  rcases i with _|_|_|_|i
  ·cases e;exact⟨by omega,M.av 14 13 _ _ _ _ _ _ _ rfl rfl d d,_,_,rfl,m⟩
  ·cases e;exact⟨by omega,M.av 16 13 _ _ _ _ _ _ _ rfl rfl d d,_,_,rfl,k⟩
  ·cases e;exact⟨by omega,λq=>by have:=p.lt;omega,_,_,rfl,(p.ai M.g)⟩
  ·cases e;exact⟨by omega,M.av 15 13 _ _ _ _ _ _ _ rfl rfl d d,_,_,rfl,l⟩
  ·simp at e
noncomputable def auJ:Code:=Tryz.f224.body.getD .skip
def ahw(VB V2:lU)(b a1:Nat)(eM:Sl)(w:Value)(ru:Sl):List Cl:=[vb 7 b,vb 8 b,vc 9 (bB b),.vl 10 VB,vb 11 b,vb 12 b,vc 13 (.pointer (some ⟨b,16,none⟩)),vc 14 (Sl.v eM),vc 15 (ah (eM.n:Int)),vb 16 b,vb 17 b,vc 18 (.pointer (some ⟨b,18,none⟩)),vc 19 (Sl.v ru),vc 20 (ah (ru.n:Int)),vb 21 b,vb 22 b,vc 23 (.pointer (some ⟨b,17,none⟩)),vc 24 (w),.vl 25 V2,.al 3 #[.nilFunc] 1 23 3,.al 4 #[ah 0] 3 24 8,.al 5 #[ah 0] 3 25 13,.al 6 #[.nilFunc] 1 26 18,.st 19 3,.st 20 8,.st 21 13,.st 22 18]
abbrev ayq(b a1:Nat):Fr:=([some (pA b),some (pA a1),some .nilFunc]++nn 24)
theorem SD.mk{K:de}{w:Value}{ru:Sl}{B:lU}(L:∀{r:Hp}{X:Sl->Prop},aB h r->X eM->Ld r ⟨b,16,none⟩ Sl.v X)(J:∀{r:Hp}{X:Value->Prop},aB h r->X w->Ld r ⟨b,17,none⟩ id X)(I:∀{r:Hp}{X:Sl->Prop},aB h r->X ru->Ld r ⟨b,18,none⟩ Sl.v X)(V:lV h B)(cB:One B)(HB:∀{z:Hp}{X:de},aB h z->(∀v r,aB z r->B v z.size r.size r->X v r)->qY (bD b) z X Kp)(W:lV h V2)(R:One V2)(H2:∀{z:Hp}{X:de},aB h z->(∀v r,aB z r->V2 v z.size r.size r->X v r)->kU w z X Kp)
  (y:∀caps T KF l0 U l2 u2 r,tu h r caps [#[T],#[KF],#[pA b],#[ah (eM.n:Int)],#[ah (ru.n:Int)]] B V2 T KF l0 U l2 u2->K (.func (.func 228) #[] (caps.map pA).toArray) r):SD (bD b) h K Kp:=by
 refine Bo (bW:=[]) (zs:=[.nilFunc]) (Kv:=K) Tryz.func224 aX (S:=aL h #[pA b] 105 λf z=>A9 auJ K Kp ([some (pA b),some (cU f),some .nilFunc]++nn 24) z) ?_ aX aX;refine aJ λf z e1 j t _=>zh (C:=ahw B V2 b f eM w ru) aX aX aX ⟨
  o0 1 (pA f) λK h g y=>jV (t.ai g) y,
  oE 0,
  oE 1,
  oF 2 (V.mo j.1) λK h g y=>HB (aq j g) y,
  o0 1 (pA f) λK h g y=>jV (t.ai g) y,
  oE 4,
  oE 5,
  oX 6 λK h g y=>L (X:=λs=>K (some s.v) h) (aq j g) y,
  oE 7,
  o0 1 (pA f) λK h g y=>jV (t.ai g) y,
  oE 9,
  oE 10,
  oX 11 λK h g y=>I (X:=λs=>K (some s.v) h) (aq j g) y,
  oE 12,
  o0 1 (pA f) λK h g y=>jV (t.ai g) y,
  oE 14,
  oE 15,
  oX 16 λK h g y=>J (X:=λs=>K (some s) h) (aq j g) y,
  oF 17 (W.mo j.1) λK h g y=>H2 (aq j g) y,
  oA,
  oA,
  oA,
  oA,
  oS true cB,
  oS false (ze _),
  oS false (ze _),
  oS true R,
  trivial⟩ λfr h2 F A O P M=>?_
 have d:∀{i:Nat},i∉([]:cV):=nS;obtain⟨p3,N,y3,Q⟩:_/\_/\_/\_:=M.c 3 _ rfl d;obtain⟨p8,Y,y8,z8⟩:_/\_/\_/\_:=M.c 8 _ rfl d;obtain⟨j',x,g',a'⟩:_/\_/\_/\_:=M.c 13 _ rfl d;obtain⟨i',u,f',TA⟩:_/\_/\_/\_:=M.c 18 _ rfl d;obtain⟨H,e',p⟩:_/\_/\_:=M.c 19 _ rfl d;obtain⟨G,d',m⟩:_/\_/\_:=M.c 20 _ rfl d;obtain⟨E,c',l⟩:_/\_/\_:=M.c 21 _ rfl d;obtain⟨D,b',k⟩:_/\_/\_:=M.c 22 _ rfl d;rw[aE d,(cB _ _ _ _ N).2]at p;rw[aE d,(Y:F 8=_)]at m;rw[aE d,(x:F 13=_)]at l;rw[aE d,(R _ _ _ _ u).2]at k;have Z:fr.getD 1 none=some (pA f):=M.o.2 1 (by simp[ahw,Cl.dst])
 refine AN (fn:=.func 228) (caps:=#[.tmp 3,.tmp 6,.tmp 1,.tmp 4,.tmp 5]) (vs:=[pA (A 19),pA (A 22),pA (f),pA (A 20),pA (A 21)]) aX aX aX aX aX aX (by rw[M.o.1];exact(by decide:26<27)) (by rw[M.o.1];exact(by decide:2<27)) ?_ rfl ?_
 ·simp only[iF,ev,H,D,Z,G,E]
 ·refine y [A 19,A 22,f,A 20,A 21] (F 3) (F 18) (O 3) (P 3) (O 18) (P 18) h2 ⟨aq j M.g,rfl,λi a e=>?_,⟨N,by omega,Q⟩,⟨u,by omega,TA⟩,M.vv 3 18 _ _ _ _ rfl rfl d d bh⟩
  rcases i with _|_|_|_|_|i
  ·cases e;exact⟨by omega,M.av 19 18 _ _ _ _ _ _ _ rfl rfl d d,_,_,rfl,p⟩
  ·cases e;exact⟨by omega,M.av 22 18 _ _ _ _ _ _ _ rfl rfl d d,_,_,rfl,k⟩
  ·cases e;exact⟨by omega,λq=>by have:=t.lt;omega,_,_,rfl,(t.ai M.g)⟩
  ·cases e;exact⟨by omega,M.av 20 18 _ _ _ _ _ _ _ rfl rfl d d,_,_,rfl,m⟩
  ·cases e;exact⟨by omega,M.av 21 18 _ _ _ _ _ _ _ rfl rfl d d,_,_,rfl,l⟩
  ·simp at e
noncomputable def auI:Code:=Tryz.f244.body.getD .skip
def ahv(VB V2:lU)(b a1:Nat)(eM:Sl):List Cl:=[vb 5 b,vb 6 b,vc 7 (bB b),.vl 8 VB,vb 9 b,vb 10 b,vc 11 (.pointer (some ⟨b,16,none⟩)),vc 12 (Sl.v eM),vc 13 (ah (eM.n:Int)),.al 3 #[.nilFunc] 1 11 3,.al 4 #[ah 0] 3 12 8,.st 9 3,.st 10 8]
abbrev ayo(b a1:Nat):Fr:=([some (pA b),some (pA a1),some .nilFunc]++nn 12)
theorem Sw.mk{K:de}{B:lU}(E:∀{r:Hp}{X:Sl->Prop},aB h r->X eM->Ld r ⟨b,16,none⟩ Sl.v X)(I:lV h B)(cB:One B)(R:∀{z:Hp}{X:de},aB h z->(∀v r,aB z r->B v z.size r.size r->X v r)->qY (bD b) z X Kp)
  (y:∀caps G KF O H N u2 r,tu h r caps [#[G],#[pA b],#[ah (eM.n:Int)]] B JU G KF O H N u2->K (.func (.func 248) #[] (caps.map pA).toArray) r):Sw (bD b) h K Kp:=by
 refine Bo (bW:=[]) (zs:=[.nilFunc]) (Kv:=K) Tryz.func244 aX (S:=aL h #[pA b] 112 λd z=>A9 auI K Kp ([some (pA b),some (cU d),some .nilFunc]++nn 12) z) ?_ aX aX;refine aJ λd z e1 l m _=>zh (C:=ahv B JU b d eM) aX aX aX ⟨
  o0 1 (pA d) λK h g y=>jV (m.ai g) y,
  oE 0,
  oE 1,
  oF 2 (I.mo l.1) λK h g y=>R (aq l g) y,
  o0 1 (pA d) λK h g y=>jV (m.ai g) y,
  oE 4,
  oE 5,
  oX 6 λK h g y=>E (X:=λs=>K (some s.v) h) (aq l g) y,
  oE 7,
  oA,
  oA,
  oS true cB,
  oS false (ze _),
  trivial⟩ λfr p F A L P M=>?_
 have k:∀{i:Nat},i∉([]:cV):=nS;obtain⟨p3,w,W,u⟩:_/\_/\_/\_:=M.c 3 _ rfl k;obtain⟨Z,x,V,T⟩:_/\_/\_/\_:=M.c 8 _ rfl k;obtain⟨D,U,j⟩:_/\_/\_:=M.c 9 _ rfl k;obtain⟨t,Q,f⟩:_/\_/\_:=M.c 10 _ rfl k;rw[aE k,(cB _ _ _ _ w).2]at j;rw[aE k,(x:F 8=_)]at f;have J:fr.getD 1 none=some (pA d):=M.o.2 1 (by simp[ahv,Cl.dst])
 refine AN (fn:=.func 248) (caps:=#[.tmp 3,.tmp 1,.tmp 4]) (vs:=[pA (A 9),pA (d),pA (A 10)]) aX aX aX aX aX aX (by rw[M.o.1];exact(by decide:14<15)) (by rw[M.o.1];exact(by decide:2<15)) ?_ rfl ?_
 ·simp only[iF,ev,D,J,t]
 ·refine y [A 9,d,A 10] (F 3) (undef) (L 3) (P 3) p.size p.size p ⟨aq l M.g,rfl,λi a e=>?_,⟨w,by omega,u⟩,⟨trivial,by have:=M.g.1;omega,cr _⟩,.inl u⟩
  rcases i with _|_|_|i
  ·cases e;exact⟨by omega,λq=>by omega,_,_,rfl,j⟩
  ·cases e;exact⟨by omega,λq=>by omega,_,_,rfl,(m.ai M.g)⟩
  ·cases e;exact⟨by omega,λq=>by omega,_,_,rfl,f⟩
  ·simp at e
def yw(f:ak)(M:cO):Prop:=∀{h:Hp}{s:Sl}{K:de}{Kp:PK},kS h->cG h s f.cs->(∀v h',aB h h'->M (λc=>h.size<=c/\c<h'.size) h' v f.begun none->K v h')->GJ f.name f.au f.k f.w f.id f.ix s h K Kp
def wj(f:ak)(M:cO):Prop:=∀{T:aR}{h:Hp}{v:Value}{vs:aQ}{K:de}{Kp:PK},f.can vs->M T h v (f.st vs) none->
  (∀mm h',aB h h'->one mm.F=true->mm.F.cells=#[mm.F]->mm.r=f.st vs->M (Tr T h h') h' v (f.st vs) (some mm)->K mm.F h')->kU v h K Kp
def sk(f:ak)(b:Nat)(sf sn sb:Sl)(r:Rb):lU:=λF lo hi h=>(one F=true/\F.cells=#[F])/\qx (λc=>lo<=c/\c<hi) h b F f sf sn sb r
theorem sk.one{s u:Sl}{r:Rb}:One (sk f b s t u r):=λ_ _ _ _ q=>q.1
abbrev zL:=@sk.one
theorem sk.pX{s u S:Sl}{r:Rb}:lV H (sk f b s u S r):=λ_ _ _ _ _ _ q _ _ t e=>⟨q.1,q.2.fr t λc a _ d=>(e c d).2 a⟩
abbrev zK:=@sk.pX
theorem sk.call{s u:Sl}{r:Rb}{K:de}(B:mD T h b ty f s t u r C)(g:aB h H)
  (d:∀F h',aB H h'->sk f b s t u r F H.size h'.size h'->K F h'):qY (bD b) H K Kp:=
 aoq (B.fr (bx g) id λ_ _ _=>id) λF h' e oF a=>d F h' e ⟨⟨oF,a.cells⟩,a.lt⟩
abbrev xP:=@sk.call
def lI(M:cO)(A:aR)(w:Value)(rj:Raw):lU:=λF lo hi h=>(one F=true/\F.cells=#[F])/\∃mm:Mem,mm.F=F/\mm.r=rj/\M (λc=>A c\/(lo<=c/\c<hi)) h w rj (some mm)
theorem lI.one{M:cO}{w:Value}{R:Raw}:One (lI M A w R):=λ_ _ _ _ q=>q.1
theorem lI.pX{M:cO}{w:Value}{R:Raw}(KF:gz M)(l:∀c,A c->c<H.size):lV H (lI M A w R):=λ_ _ _ _ _ _⟨q,i,e,d,b⟩_ _ t k=>⟨q,i,e,d,KF b t λc a _ j=>by
 grind⟩
section
variable {KM:List cO} {M:cO} {h':Hp} {r:Raw} {w:Value}
theorem lI.call{G:Hp}{X:aQ}{K:de}(C:MC c M)(j:c.can X)(H:M A h w (c.st X) none)(g:aB h G)(d:∀F h',aB G h'->lI M A w (c.st X) F G.size h'.size h'->K F h'):kU w G K Kp:=
 C.mark j (C.fr H (bx g) λ_ _ _=>id) λa h' i b k e l=>d a.F h' i ⟨⟨b,k⟩,a,rfl,e,l⟩
theorem bU.Wu{cs:List (Array Value)}{v KF:Value}{l0 u0 C u2:Nat}{lo hi:Nat->Nat}{qj:List Mem}{sp:bg}(G:bU f KM T h r none g)(J:∀(j:Nat)M,KM[j]? =some M->gz M)
  (Q:tu h h' N cs (sk f g.b g.sf g.sn g.sb r.b) V2 v KF l0 u0 C u2) (H:∀j,j<KM.length->C<=lo j/\hi j<=u2) (hd:∀i j,i<KM.length->j<KM.length->i≠j->hi i<=lo j\/hi j<=lo i)
  (hk:∀(j:Nat)M A w,KM[j]? =some M->g.KT[j]? =some A->g.kv[j]? =some w->∃m,qj[j]? =some m/\m.r=r.aN j/\M (λc=>A c\/(lo j<=c/\c<hi j)) h' w (r.aN j) (some m)) (hl:qj.length=KM.length) (Y:KM.length=f.cs.length) (W:f.k≠1)
  (h1:f.k=15\/f.k=16\/f.k=19\/f.k=20->∃m0,qj=[m0]/\KF=m0.F) (Z:f.k=17\/f.k=18->Cn (λc=>C<=c/\c<u2/\∀j,j<KM.length->¬(lo j<=c/\c<hi j)) h' KF (qj.map Mem.F)) (V:eI f.k r.b r.b) (U:f.k=20->iJ 20 g.X h' sp r.b)
  (l:jq f.k g.b v KF (.mk (.func (.func (gA f.k)) #[] (N.map pA).toArray) r g.sb qj sp)=cs):
  cX f KM (Tr T h h') h' (.iface (bI f.k) (bB g.b)) r (some (.mk (.func (.func (gA f.k)) #[] (N.map pA).toArray) r g.sb qj sp)):=by
 have gr:=Q.g;have O:=G.fr J (bx gr) λ_ _ _=>id;have lk:=G.lk;obtain⟨⟨_,bm⟩,b1,b2⟩:=Q.b;have k1:=Q.k.2;have p:r.kids=qj.map Mem.r:=by
  refine si λj=>?_
  by_cases D:j<KM.length
  ·obtain⟨m,y,u,_⟩:=hk j _ _ _ (bL D) (bL ag) (bL ag);have e:r.kids[j]? =some (r.aN j):=by unfold Raw.aN;rw[gB,bL ag];rfl
   grind
  ·grind
 have l:jq f.k (g.mk' KM.length h h' lo hi).b v KF (.mk (.func (.func (gA f.k)) #[] (N.map pA).toArray) r g.sb qj sp)=cs:=l;have E:∀c,h.size<=c/\c<h'.size->¬(C<=c/\c<u2)->(g.mk' KM.length h h' lo hi).R c:=λc q u=>.inr ⟨q.1,q.2,λj D z=>bZ⟩
 refine⟨g.mk' KM.length h h' lo hi,rfl,G.marked J gr (λj D=>bZ) hd (λj M A w y u L=>?_) ⟨⟨v,KF,⟨bm.mono λc q=>E c ⟨ag,ag⟩ λz=>by have:=Q.d;omega,Old.of O.B.o,O.B.len,O.B.nl,O.B.rl⟩,h1,λq=>?_,λq=>absurd q W,λ_=>⟨_,rfl,?_,λi x P=>?_⟩⟩,V,⟨p,by rw[<-Y];exact hl⟩,U⟩⟩
 ·obtain⟨m,K,_,q5⟩:=hk j M A w y u L
  show M _ h' w (r.aN j) qj[j]?
  rw[K];exact q5
 ·obtain⟨a,t,s,e1,e2,e3,e4⟩:=Z q;have up:∀c,(C<=c/\c<u2/\∀j,j<KM.length->¬(lo j<=c/\c<hi j))->(g.mk' KM.length h h' lo hi).R c:=λc q=>.inr ⟨ag,ag,q.2.2⟩
  exact⟨a,t,s,e1,up a e2,e3,e4.fr (iW _ _) (λ_ _ _=>id) up⟩
 ·rw[l,cC];exact Q.n
 ·rw[l]at P;have I:i<N.length:=by rw[Q.n];exact(dy.1 P).1
  obtain⟨y,u,c',t,L,K⟩:=Q.c i _ (bL I);rw[P]at L;cases L;exact⟨N[i],t,aC,E _ ⟨y,K.lt⟩ u,K⟩
end
section
variable {M:cO} {s:Sl}
theorem avY{K:Option Addr->Int->HP}(d:¬bE f)(c:f.fQ)(j:kS h)(m:cG h s f.cs)(n:∀e,aB h e->K none 5 e):C0 f.name f.au f.k f.w f.id f.ix s h K Kp:=by
 refine C0.of (aJ λq p e1 a g _=>dM g (UA (j.ai a) c (m.gr a) λb l o i=>?_));have:b=false:=by
  cases b
  ·rfl
  ·exact absurd (i.1 rfl) d
 grind[bQ,aB.trans]
theorem avZ{K:Option Addr->Int->HP}(C:MC f M)(U:yw f M)(a:bE f)(o:f.fQ)(y:kS h)(z:cG h s f.cs)
  (N:∀p e,aB h e->sy f M (λc=>h.size<=c/\c<e.size) e p [] false->K (bD p) 0 e):C0 f.name f.au f.k f.w f.id f.ix s h K Kp:=by
 refine C0.of (aJ λa1 h1 e1 j x _=>dM x (UA (y.ai j) o (z.gr j) λb R n O=>?_));obtain rfl:b=true:=O.2 a;have s2:=n.1;have I:=aq j n;refine bu rfl (dM (x.ai n) (acE f (z.gr I) a.jC.cs.1 a.jC.cs.2 λu B F T=>aJ λa4 h4 e4 E L _=>pG L rfl λA J l=>dM l (dM l ?_)));have Z:=F.1;have m:=bK E J ag;have X:=m.1;have d:=vM (ck.lt _ T) m;have H:=aq (aq I F) m;refine U (y.ai H) (ck.h _ d) λv Q i G=>bR l i ⟨by obtain⟨_,_,rfl⟩:=C.na G;rfl,aJ λp P e7 g r _=>N p P (aq (aq H i) g) ?_⟩
 have W:=i.1;refine⟨u,v,λc=>A.size<=c/\c<Q.size,λc=>R.size<=c/\c<B.size,⟨ag,r.lt⟩,λc q=>q.2,λc q=>⟨⟨ag,ag⟩,ag,ag⟩,λc q=>⟨⟨ag,ag⟩,ag⟩,r,vM (vM d i) g,?_⟩
 rw[aa0];exact C.fr G (bx g) λ_ _ _=>id
def Good(f:ak)(l:aQ)(i:Nat):Prop:=∀j x,j<i->l[j]? =some x->iu f (l.take j) x=0
theorem ae7:∀f:ak,f.can []
  | .mk e au k w id ix cs=>by
    have b:∀c∈cs,c.can []:=λc _=>ae7 c;refine(gh _ _).2 ⟨aC,aC,by simp[bJ],aC,by simp[dR],λj o a=>?_⟩
    rw[XU];simp only[ak.cs,fy,uD]at a;obtain⟨c,d,rfl⟩:=a;grind
theorem Good.can(PF:jj f){l:aQ}:∀{i:Nat},i<=l.length->Good f l i->f.can (l.take i):=by
  intro i
  induction i with
  |zero=>intro _ _;exact ae7 f
  | succ i b=>
    intro e a;have c:l[i]? =some l[i]:=aC;rw[kP ag];exact(avz PF (b ag λj x d=>a j x ag) (a i _ ag c)).1
theorem m5.get:∀{l:aQ},m5 l->∀{i:Nat}{x:aD},l[i]? =some x->x.nH
 |[],_,i,x,h=>by simp at h
 |y::l,a,0,x,h=>by simp at h;subst h;exact a.1
 |y::l,a,i+1,x,h=>m5.get a.2 (by simpa using h)
theorem avV{l:aQ}{K:Int->Int->Int->Sl->Sl->Sl->Int->Int->HP}(d:¬bE f)(c:f.fQ)(q:kS h)(r:cG h s f.cs)
  (u:∀e,aB h e->K 0 0 0 bM bM bM 5 0 e):qw f.name f.au f.k f.w f.id f.ix s t h K Kp:=by
 refine qw.of (aJ λE A e1 j p _=>aJ λC z B i o _=>dM (p.ai i) ?_);have a:=aq j i;refine avY d c (q.ai a) (r.gr a) λy g=>bQ rfl (iH (o.ai g) rfl λv m n=>fB n (u v (bK (aq a g) m ag)))
theorem PS{l:aQ}{K:Int->Int->Int->Sl->Sl->Sl->Int->Int->HP}(C:MC f M)(MD:yw f M)(PF:jj f)(FC:mT f)(J:bE f)(I:f.fQ)(hr:m5 l)(hl:l.length<=9223372036854775807)(ht:kS h)(hu:jz h)(hs:cG h s f.cs)(hv:aS D h t l)
  (c':∀q d,aB h d->f.can l->Good f l l.length->eD (Nw h) (Nw h) d q (f.dn (f.st l))->K (f.dn (f.st l)).len (f.dn (f.st l)).off (f.dn (f.st l)).au q.1 q.2.1 q.2.2 0 0 d)
  (b':∀(i:Nat)x d,aB h d->Good f l i->l[i]? =some x->iu f (l.take i) x≠0->K 0 0 0 bM bM bM (iu f (l.take i) x) (i:Int) d):
  qw f.name f.au f.k f.w f.id f.ix s t h K Kp:=by
 refine qw.of (aJ λa2 h1 e1 g1 k1 _=>aJ λa4 F e2 g2 X _=>dM (k1.ai g2) ?_);have U:=aq g1 g2;have hn:=hv.n;refine avZ C MD J I (ht.ai U) (hs.gr U) λp h3 g3 B3=>bu rfl ?_;refine QJ.bC (λx d=>∃(i:Nat)(T:aR),x=i/\i<=l.length/\aB F d/\sy f M T d p (l.take i) false/\(∀c,T c->F.size<=c)/\Good f l i) (λx _=>l.length-x.toNat)
  ⟨0,_,rfl,eH _,g3,B3,λc q=>q.1,λj x hj=>ag⟩ ?_
 rintro x d ⟨i,T,rfl,hi,G,B,hT,Q⟩ N hN;have A:=aq U G;have R:=Q.can PF hi;have s3:=G.1;refine cE (λc=>?_) λc=>?_
 ·have E:l[i]? =some l[i]:=aC;have H:l.take (i+1)=l.take i++[l[i]]:=aC;generalize l[i]=x at E H;refine(eO (aS.lt _ hv) A).ix rfl E λa u cx a'=>ig cx (aJ λi' h4 e4 g4 v _=>mj v rfl λh5 o5 v=>eW v ?_);have s4:=g4.1;have g:=bK g4 o5 ag;have s5:=g.1;refine awS C PF FC J I (ht.ai (aq A g)) (hu.ai (aq A g)) (B.fr C (bx g) λ_ _=>id) R (hr.get E) (eO a' g) (λc q z=>by have:=hT c z;omega) λh6 t6 B6=>?_
  have G6:aB F h6:=((bx (aq G g):Tn No F h5).trans' t6 λc q L=>by have:=hT c q;omega).ai
  have r:=(X.ai G6);refine cE (λo=>?_) λo=>?_
  ·exact iH r rfl λZ P W=>fB W (b' i x Z (bK (aq U G6) P ag) Q E o)
  ·rw[aI o]at B6;refine aY ag ag (hN _ _ ⟨i+1,_,aC,ag,G6,H▸B6,λc q=>?_,λj y hj Y=>?_⟩ ag)
   ·rcases q with q|q
    ·exact hT c q
    ·omega
   ·by_cases e:j=i
    ·subst e;rw[E]at Y;cases Y;exact o
    ·exact Q j y ag Y
 ·have:i=l.length:=ag;subst this;rw[mO]at B R;have f':F.size<=p:=hT p B.choose_spec.choose_spec.choose_spec.choose_spec.tp;refine RY.of (awD C B R λq h4 V _ D4=>aJ λg' h5 e5 g m _=>iH m rfl λh6 o6 m=>fB m ?_);have g6:=bK g o6 ag;have r:=(V.bq (X.ai G) ag).ai g6;refine iH r rfl λZ P W=>fB W (c' q Z ?_ R Q ?_)
  ·exact((((bx A:Tn No h d).trans' V λc q L=>ag).trans (bx g6)).trans' P.fr λc q L=>ag).ai
  ·exact(D4.gr g6).fr P.fr (λc(q:d.size<=c)_ e=>ag) (λc(q:d.size<=c)_ e=>ag) (λc(q:d.size<=c)=>ag) λc(q:d.size<=c)=>ag
end
theorem aur{s:Sl}{K:fD}(H:Sr s t h K Kp):c8 aG (.func (.func 34) #[] #[]) [Sl.v s,Sl.v t] h (λr a=>∃t:Bool,r=.bool t/\K t a) Kp:=by
 unfold c8;exact cast aX H
theorem auE{x y w z b2:Int}{s u S c b a:Sl}{K:fD}(H:GN x y k s u S w z b2 c b a h K Kp):
  c8 aG (.func (.func 19) #[] #[]) [(.agg #[(ah x),(ah y),(ah k),(Sl.v s),(Sl.v u),(Sl.v S)]),(.agg #[(ah w),(ah z),(ah b2),(Sl.v c),(Sl.v b),(Sl.v a)])] h (λr d=>∃t:Bool,r=.bool t/\K t d) Kp:=by
 unfold c8;exact cast aX H
theorem zJ{s:Sl}{l:dw}{K:ByteArray->Prop}(v:Sv h s (bv l))(a:K (bs l)):sx h s K:=⟨l,by have:=v.AU v.na;rw[zS]at this;exact this,a⟩
section
variable {D' E':aR} {s1 s2:Sl}
theorem auV{f b2:ie}{K:fD}(p:fu D E h s1 f)(o:fu D' E' h s2 b2)(hl:f.length<=2^50)(k:∀b,(b=true↔f=b2)->K b h):KX s1 s2 (.func (.func 34) #[] #[]) h K Kp:=by
 have w:=p.n;have C:=o.n;refine KX.of (aK (λc=>k false ?_) λc=>?_)
 ·grind
 have c:=aU c;apply PX.bC (λx s=>s=h/\∃i:Nat,x=i/\i<=f.length/\∀j,j<i->dG f j=dG b2 j) (λx _=>f.length-x.toNat) ⟨rfl,0,rfl,eH _,λj y=>ag⟩
 rintro x s ⟨rfl,i,rfl,F,r⟩ N hN;refine aK (λg=>?_) λg=>k true ⟨λ_=>?_,λ_=>rfl⟩
 ·have g:=aU g;refine p.ix rfl ag λa t B u=>⟨t,B,o.ix rfl ag λG v m l=>⟨v,m,aur (Sr.of (zJ u.1 (zJ l.1 ?_)))⟩⟩;rw[BJ];refine aK (λd=>k false ⟨λe=>(by cases e),λe=>?_⟩) λd=>aY ag ag (hN _ _ ⟨rfl,i+1,aC,ag,λj y=>?_⟩ ag)
  all_goals grind
 ·have g:=aU g;apply YW
  ·omega
  ·intro j A z;have:=r j ag
   simpa[dG,gB,A,z]using this
mutual
def bH.lR:bH->Prop
 |.mk _ _ _ aZ cs ds=>aZ.length<=2^50/\(cs.length<=2^50/\xu cs)/\ds.length<=2^50/\xu ds
def xu:List bH->Prop
 |[]=>True
 |d::ds=>d.lR/\xu ds
end
theorem xu.get:∀{ds:kB},xu ds->∀d∈ds,d.lR
  |[],_,d,h=>by simp at h
  | x::b,a,d,h=>by
    rcases lT.1 h with rfl|h
    ·exact a.1
    ·exact xu.get a.2 d h
def JQ(d:bH):Prop:=∀{e:bH}{D E D' E':aR}{h:Hp}{p q:Sl×Sl×Sl}{K:fD}{Kp:PK},d.lR->eD D E h p d->eD D' E' h q e->(∀b h',aB h h'->(b=true↔d=e)->K b h')->
 GN d.len d.off d.au p.1 p.2.1 p.2.2 e.len e.off e.au q.1 q.2.1 q.2.2 h K Kp
theorem ac5{cs f:kB}{K:fD}(X:∀c∈cs,JQ c)(R:xu cs)(A:dD D E h s1 cs)(z:dD D' E' h s2 f)(hl:cs.length<=2^50)(w:∀b m,aB h m->(b=true↔cs=f)->K b m):Gg s1 s2 (.func (.func 19) #[] #[]) h K Kp:=by
 have P:=A.n;have n2:=z.n;refine Gg.of (aK (λc=>w false h (cW _) ?_) λc=>?_)
 ·grind
 have c:=aU c;apply PW.bC (λx m=>aB h m/\∃i:Nat,x=i/\i<=cs.length/\∀j,j<i->cs[j]? =f[j]?) (λx _=>cs.length-x.toNat) ⟨cW _,0,rfl,eH _,λj Q=>ag⟩
 rintro x m ⟨G,i,rfl,hi,B⟩ N hN;refine aK (λo=>?_) λo=>w true m G ⟨λ_=>?_,λ_=>rfl⟩
 ·have o:=aU o;have g:cs[i]? =some cs[i]:=aC;have k:f[i]? =some f[i]:=aC;have v:cs[i]∈cs:=aC;generalize cs[i]=d at g v;generalize f[i]=e at k;refine(A.gr G).ix rfl g λa p W vp=>bY.c W (aJ λa8 h1 e8 I r _=>iH r rfl λF O r=>?_);have t:=bK I O ag;refine((z.gr G).gr t).ix rfl k λa' q y L=>bY.c y (aJ λa9 h3 e9 H u _=>iH u rfl λT M u=>?_);have s:=bK H M ag;refine fB (r.ai s) (fB u (auE (X d v (R.get d v) ((vp.gr t).gr s) (L.gr s) λb S U C=>?_)));have J:=aq G (aq (aq t s) U);refine aK (λl=>w false S J ⟨λe=>(by cases e),λV=>?_⟩) λl=>aY ag ag (hN _ _ ⟨J,i+1,aC,ag,λj Q=>?_⟩ ag)
  ·have l:=aU l;rw[V,k]at g;have:=C.2 (by simpa using g.symm)
   rw[this]at l;cases l
  ·have l:=aU l
   by_cases q:j=i
   ·subst q;rw[g,k,C.1 l]
   ·exact B j ag
 ·apply si;grind
theorem alF{n y:Int}{aZ:ie}{cs ds:kB}(U:∀c∈cs,JQ c)(T:∀c∈ds,JQ c):JQ (.mk n y k aZ cs ds):=by
 intro e D E D' E' h p q K Kp z L J N;obtain⟨w,v,t,d,g,f⟩:=e;refine GN.of (aJ λI X e1 S j _=>aJ λH W Y O r _=>?_);have G:=aq S O;have j:=j.ai O;have M:∀a,aB h a->¬(bH.mk n y k aZ cs ds=bH.mk w v t d g f)->K false a:=λa i q=>N false a i ⟨λe=>(by cases e),λe=>absurd e q⟩
 have j4:∀a,aB h a->¬(bH.mk n y k aZ cs ds=bH.mk w v t d g f)->CB K Kp (aF I) (aF H) false a:=λa i q=>CB.of (bu rfl (M a i q));have j3:∀a,aB h a->¬(bH.mk n y k aZ cs ds=bH.mk w v t d g f)->CC K Kp (aF I) (aF H) false a:=λa i q=>CC.of (bu rfl (j4 a i q));have j2:∀a,aB h a->¬(bH.mk n y k aZ cs ds=bH.mk w v t d g f)->CD K Kp (aF I) (aF H) false a:=λa i q=>CD.of (bu rfl (j3 a i q));have j1:∀a,aB h a->¬(bH.mk n y k aZ cs ds=bH.mk w v t d g f)->CE K Kp (aF I) (aF H) false a:=λa i q=>CE.of (bu rfl (j2 a i q));refine aj j rfl (aj r rfl (aK (λc=>?_) λc=>j1 _ G ?_))
 ·have c:=aU c;simp only[bz,bX];refine aj j rfl (aj r rfl (CE.of (aK (λm=>?_) λm=>j2 _ G ?_)))
  ·have m:=aU m;simp only[bz,bX];refine aj j rfl (aj r rfl (CD.of (aK (λl=>?_) λl=>j3 _ G ?_)))
   ·have l:=aU l;simp only[bz,bX];refine aj j rfl (aj r rfl (auV (L.b.gr G) (J.b.gr G) z.1 λb B=>CC.of (aK (λF=>?_) λF=>j4 _ G ?_)))
    ·simp only[bz,bX];have B:=B.1 F;refine aj j rfl (aj r rfl (ac5 U z.2.1.2 (L.c.gr G) (J.c.gr G) z.2.1.1 λb V s A=>CB.of (aK (λC=>?_) λC=>M _ (aq G s) ?_)))
     ·have A:=A.1 C;simp only[bz,bX];refine aj (j.ai s) rfl (aj (r.ai s) rfl (ac5 T z.2.2.2 ((L.x.gr G).gr s) ((J.x.gr G).gr s) z.2.2.1 λb Q R P=>N b Q (aq (aq G s) R) ?_));rw[P];simp only[bH.aZ]at B;simp only[bH.cs,bH.ds]at A ⊢;simp only[bH.len,bH.off,bH.au]at c m l;grind
     ·intro e;cases e;rw[A.2 rfl]at C;cases C
    grind
   grind
  grind
 grind
theorem Uk:∀d:bH,JQ d
 |.mk n o u aZ cs ds=>alF (λc _=>Uk c) λc _=>Uk c
end
section
variable {M:cO} {s:Sl} {p:Sl×Sl×Sl}
theorem Dg{K:Int->Int->Int->Sl->Sl->Sl->HP}{g:Hp}{n m:Nat}{z:Array Value}{l:TypeId}{x y:Int}{u S:Sl}(o:aO g n Z e)(O:Z.size=6)(r:aO g m z l)(P:z.size=6)(ne:m≠n)
  (N:∀w,Tn (λc=>c=n\/c=m) g w->K x y k t u S w):
  cJ g (aF n) x y k t u S λi=>bY i (aF n) λF E C B l A=>cJ i (aF m) F E C B l A λa=>bY a (aF m) λr0 L J I H G=>K r0 L J I H G a:=
 iH o O λi j o=>fB o (iH (j.bq r ne) P λa v r=>fB r (N a ((j.fr.mono λc q _=>.inl q).trans (v.fr.mono λc q _=>.inr q))))
def ZH(f:ak)(d:bH)(D:aR)(h:Hp)(s:Sl)(p:Sl×Sl×Sl):Prop:=∀{h1:Hp}{K:Option Addr->Int->Sl->Int->HP}{Kp:PK},aB h h1->
 (∀b s' q' h',aB h1 h'->h1.size<=b->nC (λx=>(D x/\x<h1.size)\/h1.size<=x) h' b f d d.off d.len s' q'->K (bD b) 0 Sl.nil 0 h')->Ml f.name f.au f.k f.w f.id f.ix s d.len d.off d.au p.1 p.2.1 p.2.2 h1 K Kp
theorem aww{K:Int->Int->Int->Sl->Sl->Sl->Int->HP}(C:MC f M)(MD:yw f M)(PF:jj f)(FC:mT f)(U:bE f)(T:f.fQ)(ht:oL h)(hu:jz h)(hs:cG h s f.cs)(OP:ZH f d D h s p)(ow:Cf f)(ar:f.arr d){l:aQ}(el:l=jY f d d.off.toNat d.len.toNat)(hr:m5 l)
  (f':∀q g,aB h g->f.can l->Good f l l.length->eD (Nw h) (Nw h) g q (f.dn (f.st l))->K (f.dn (f.st l)).len (f.dn (f.st l)).off (f.dn (f.st l)).au q.1 q.2.1 q.2.2 0 g)
  (e':∀(i:Nat)x g,aB h g->Good f l i->l[i]? =some x->iu f (l.take i) x≠0->K 0 0 0 bM bM bM (iu f (l.take i) x) g):
  Ly f.name f.au f.k f.w f.id f.ix s d.len d.off d.au p.1 p.2.1 p.2.2 h K Kp:=by
 refine Ly.of (aJ λa2 h1 e1 g1 m _=>aJ λa3 h2 e2 g2 k3 _=>aJ λa4 Z e3 S B _=>dM ((m.ai g2).ai S) ?_);have G:=aq g1 (aq g2 S);have m:=(m.ai g2).ai S;have k3:=k3.ai S;refine UA (ht.k.ai G) T (hs.gr G) λb h4 R hb=>?_;obtain rfl:b=true:=hb.2 U;have s4:=R.1;refine bu rfl (dM (m.ai R) (fB (k3.ai R) (OP (aq G R) λbA s' q' h5 g5 lb A=>aJ λa7 h6 e6 g6 k7 _=>mN k7 rfl λY o7 k7=>aj k7 rfl (bu rfl ?_))));have s5:=g5.1;have O:=bK g6 o7 ag;have s7:=O.1;have P:=aq R (aq g5 O);have G7:=aq G P;have m:=m.ai P;have B:=B.ai P;have V:=Av.whole (A.gr O) ar;have hl:l.length<=9223372036854775807:=by rw[el,Pc];have:=V.bd;omega
 -- i' is j' of k' a'
 have of:∀{o:Hp}{t:Sl}{K':Int->Int->Int->Sl->Sl->Sl->Int->Int->HP}(E:aB h o)(H:aS (Nw Y) o t l)(c1:∀q g,aB o g->f.can l->Good f l l.length->eD (Nw o) (Nw o) g q (f.dn (f.st l))->K' (f.dn (f.st l)).len (f.dn (f.st l)).off (f.dn (f.st l)).au q.1 q.2.1 q.2.2 0 0 g)
   (c2:∀(i:Nat)x g,aB o g->Good f l i->l[i]? =some x->iu f (l.take i) x≠0->K' 0 0 0 bM bM bM (iu f (l.take i) x) (i:Int) g),qw f.name f.au f.k f.w f.id f.ix s t o K' Kp:=
  λE H c1 c2=>PS C MD PF FC U T hr hl (ht.k.ai E) (hu.ai E) (hs.gr E) H c1 c2
 have f1:∀{j:Hp}{q:Sl×Sl×Sl}{Q X v:Nat},aB h j->eD (λc=>Q<=c/\c<X) (λc=>Q<=c/\c<X) j q (f.dn (f.st l))->Z.size<=Q->Z.size<=v->(v<Q\/X<=v)->f.can l->Good f l l.length->∀g,Tn (λc=>c=v\/c=a4) j g->K (f.dn (f.st l)).len (f.dn (f.st l)).off (f.dn (f.st l)).au q.1 q.2.1 q.2.2 0 g:=by
  intro j q Q X v L D9 b1 b2 b3 J n g W;exact f' q g (((bx L:Tn No h j).trans' W λc q d'=>ag).ai) J n (D9.fr W (λc q _ z=>ag) (λc q _ z=>ag) (λc q=>ag) λc q=>ag)
 have f2:∀{j:Hp}{v:Nat}{i:Nat}{x:aD},aB h j->Z.size<=v->Good f l i->l[i]? =some x->iu f (l.take i) x≠0->∀g,Tn (λc=>c=v\/c=a4) j g->K 0 0 0 bM bM bM (iu f (l.take i) x) g:=
  λL b2 n I r g W=>e' _ _ g (((bx L:Tn No h _).trans' W λc q d'=>ag).ai) n I r
 have N:∀{o j:Hp}{q:Sl×Sl×Sl},eD (Nw o) (Nw o) j q (f.dn (f.st l))->eD (λc=>o.size<=c/\c<j.size) (λc=>o.size<=c/\c<j.size) j q (f.dn (f.st l)):=λD9=>D9.lt;refine dM m ⟨agQ ow V (hu.ai G7) λt o u H=>bR m u ?_,aJ λv o e8 u y _=>bR m u (agQ ow (V.gr u) (hu.ai (aq G7 u)) λt j e H=>bR (m.ai u) e ?_)⟩
 ·rw[<-el]at H;have E:=aq G7 u;have m:=m.ai u;have B:=B.ai u;have s8:=u.1;refine⟨of E H (λq j e J n D9=>aJ λv F g' a y _=>bR (m.ai e) a ?_) (λi x j e n I r=>aJ λv F g' a y _=>bR (m.ai e) a ?_),aJ λv j e9 e y _=>bR m e ?_⟩
  ·have s9:=e.1;have b':=a.1;exact Dg y rfl ((B.ai e).ai a) rfl ag (f1 (aq (aq E e) a) ((N D9).gr a) ag ag (.inr ag) J n)
  ·have s9:=e.1;exact Dg y rfl ((B.ai e).ai a) rfl ag (f2 (aq (aq E e) a) ag n I r)
  ·have s9:=e.1;have c':=y.lt;refine of (aq E e) (eO H e) (λq F a J n D9=>?_) λi x F a n I r=>?_
   ·exact Dg (y.ai a) rfl ((B.ai e).ai a) rfl ag (f1 (aq (aq E e) a) (N D9) ag ag (.inl ag) J n)
   ·exact Dg (y.ai a) rfl ((B.ai e).ai a) rfl ag (f2 (aq (aq E e) a) ag n I r)
 ·rw[<-el]at H;have s9:=e.1;have L:=aq (aq G7 u) e;refine of L (rY H λc(q:o.size<=c)=>ag) (λq F a J n D9=>?_) λi x F a n I r=>?_
  ·exact Dg ((y.ai e).ai a) rfl (((B.ai u).ai e).ai a) rfl ag (f1 (aq L a) (N D9) ag ag (.inl ag) J n)
  ·exact Dg ((y.ai e).ai a) rfl (((B.ai u).ai e).ai a) rfl ag (f2 (aq L a) ag n I r)
theorem awt{K:fD}(C:MC f M)(MD:yw f M)(PF:jj f)(FC:mT f)(B:bE f)(A:f.fQ)(Q:oL h)(P:jz h)(R:cG h s f.cs)(v0:eD D D h p d)(OP:ZH f d D h s p)(N:Cf f)(Y:f.arr d){l:aQ}(el:l=jY f d d.off.toNat d.len.toNat)(T:m5 l)(n:(f.dn (f.st l)).lR)
  (F:∀b I,aB h I->(b=true↔Good f l l.length/\f.dn (f.st l)=d)->K b I):Lx f.name f.au f.k f.w f.id f.ix s d.len d.off d.au p.1 p.2.1 p.2.2 h K Kp:=by
 refine Lx.of (aJ λa2 h1 e1 J O _=>aJ λa3 h2 e2 z u _=>dM (O.ai z) (fB u ?_));have G:=aq J z;refine aww C MD PF FC B A (Q.ai G) (P.ai G) (R.gr G) (λg=>OP (aq G g)) N Y el T (λq v j hc H D3=>aJ λZ V X y c _=>iH c rfl λo t c=>bQ rfl (fB c ?_)) λi x v j H E m=>aJ λZ V X y c _=>iH c rfl λo t c=>bu (by simpa using m) ?_
 ·have L:=j.1;have r:=bK y t ag;have a:=aq j r;refine fB (u.ai a) (Uk _ n (D3.gr r) ((v0.gr G).gr a) λb U W S=>F b U (aq (aq G a) W) ?_);grind
 ·have r:=bK y t ag;exact F false o (aq G (aq j r)) ⟨λe=>(by cases e),λq=>absurd (q.1 i x (dy.1 E).1 E) m⟩
end
def fA:ak:=.mk (bs [97]) true 4 0 0 0 []
def dA:bH:=.mk 2 0 1 [[1],[254,255,0,0]] [] []
section
variable {s wi:Sl} {p:Sl×Sl×Sl}
theorem aiF{G:eU}{w id:Int}{K:Sl->HP}(v:C6 h p dA)(H:∀t d,aB h d->Nv d t [16,16]->K t d):Me G au 4 w id ix s 2 0 1 p.1 p.2.1 p.2.2 wi h K Kp:=by
 refine Me.of (aJ λQ Y e1 N l _=>aJ λP I e2 u j _=>?_);simp only[bz];refine nh (TT (l.ai u)) (aJ λO X Z M m _=>pH m rfl λq F m=>?_);have r:=bK M F ag;have l:=(l.ai u).ai r;have j:=j.ai r;have E:=aq (aq N u) r;refine aj j rfl (E7 ag ag ag λt W L A S=>?_);have tn:t.n=2:=A.2.1;rw[tn];apply Q1.bC (λy a d=>∃i:Nat,y=0/\a=i/\i<=2/\Ws q d q.size t 2 (List.replicate i (ah 16)++List.replicate (2-i) (ah 0))) (λ_ a _=>2-a.toNat) ⟨0,rfl,rfl,ag,L,A,rfl,cr _⟩
 rintro y a V ⟨i,rfl,rfl,C,k⟩ R hN;refine cE (λc=>?_) λc=>?_
 ·have C:i<2:=ag;have e:(List.replicate i (ah 16)++List.replicate (2-i) (ah 0)).set i (ah 16)=List.replicate (i+1) (ah 16)++List.replicate (2-(i+1)) (ah 0):=by
   rcases i with _|_|i
   ·rfl
   ·rfl
   ·omega
  refine aj (j.ai k.g) rfl (aY ag ag (k.st rfl C λU f=>dM (l.ai f.g) (fB (j.ai f.g) ?_)));rw[e]at f;rw[show(0:Int)+(i:Int)=((i:Nat):Int) by omega]
  refine acJ ((v.gr E).b.gr f.g) (λ_=>by decide) ag λD J=>?_
  have z:=f.ai J;have B:aP ((i:Int)+1) λx=>R (Ik wi (aF Q) (aF P) (aF O) t 2 0 x) D:=aY ag ag (hN _ _ _ ⟨i+1,rfl,ag,ag,z⟩ ag)
  refine aK (λ_=>B) λ_=>aj (m.ai z.g) rfl (bu rfl (bu rfl (KJ.of (bu rfl (bu rfl (bu rfl (bu rfl (bu rfl (bu rfl (bu rfl (wF.of (Tj.of (bQ rfl (QZ.bC (λx d=>x=0/\d=D) (λ_ _=>0) ⟨rfl,rfl⟩ ?_))))))))))))));grind[bu]
 ·obtain rfl:i=2:=ag;exact H _ _ (aq E k.g) k.o.sv
theorem amd{g:eU}{w id x y:Int}{u S:Sl}{K:Int->Sl->Int->HP}(m:∀c,aB h c->K 0 Sl.nil 0 c):Mf g au 4 w id ix s x y k t u S h K Kp:=by
 refine Mf.of (aJ λb2 A e1 e l _=>aJ λE z C a q _=>aJ λD v B d j _=>?_);simp only[bz];exact aj ((l.ai a).ai d) rfl (bu rfl (bu rfl (F4.of (bu rfl (bu rfl (bu rfl (mN j rfl λr f i=>oB i (m _ (bK (aq e (aq a d)) f ag)))))))))
theorem auj{K:Int->Sl->Int->Sl->HP} (ht:oL h) (hs:cG h s []) (v:C6 h p dA) (ar:fA.arr dA) (hk:∀t a,aB h a->K 0 Sl.nil 0 t a):Az (bs [97]) true 4 0 0 0 s 2 0 1 p.1 p.2.1 p.2.2 h K Kp:=by
 refine Az.of (aJ λb2 h1 e1 T o _=>aJ λb3 h2 e2 E k _=>aJ λF hA e3 D u _ => ?_);have q:=aq T (aq E D);have M:h.size<=F:=ag;have o:=(o.ai E).ai D;have k:=k.ai D;have look:∀{a:Hp} {e m:Int} {l:Sl} {J:HP},aB hA a->e=0->(∀y,aB a y->J y) ->
   aL a kJ kG λG Q=>dS Q G e l m λj=>Ld j G mI λI=>If (I != 0) (eu j G λW V U=>dS j (aF F) W V U λC=>eu C (aF F) λr0 Y X=>K r0 Y X bM C) (J j):=by
  rintro a e m l J g rfl hJ;exact aJ λb6 Q e6 g5 B _=>mN B rfl λj Z B=>aj B rfl (bu rfl (hJ j (bK g5 Z ag)))
 refine dM o (fB k (ak7 (d:=dA) (cs:=[]) (ht.ai q) bh trivial (hs.gr q) (v.gr q) λe t m h4 S et he=>look S (he.2 ar.Dm) λj g6 => ?_));have A:=aq S g6;refine So.of (dM (o.ai A) (fB (k.ai A) (amd λC R=>look (aq A R) rfl λh8 g8 => ?_)));have H:=aq A (aq R g8);refine Sn.of (fB (k.ai H) (amZ (d:=dA) (v.gr (aq q H)) λL h9 g9 ds => ?_));have r:=aq H g9;have n0:=ds.n.1;rw[n0];apply Rg.bC (λO w a=>O=Sl.nil/\w=0/\a=h9) (λ_ _ _=>0) ⟨rfl,rfl,rfl⟩;rintro O w b' ⟨rfl,rfl,rfl⟩ N1 _;refine bu rfl (Sm.of ?_);simp only[bz];refine aj (o.ai r) rfl (bu rfl (KP.of (dM (o.ai r) (fB (k.ai r) (aiF (v.gr (aq q r)) λt N z P => ?_)))));have tn:t.n=2:=P.1;rw[tn];apply Rh.bC (λx f a=>∃i:Nat,x=16*i/\f=i/\i<=2/\a=N) (λ_ f _=>2 - f.toNat) ⟨0,rfl,rfl,ag,rfl⟩
 rintro x f a' ⟨i,rfl,rfl,hi,rfl⟩ N1 hN;have u:=u.ai (aq r z);refine aK (λc => ?_) λc=>bu bZ (mN u rfl λa o' u=>oB u (hk _ _ (bK (aq (aq q r) z) o' M)))
 have c:=aU c;have hg:([16,16]:cV)[i]? = some 16:=by
  rcases i with _ | _ | i
  ·rfl
  ·rfl
  ·omega
 rw[<-tn];refine P.ld rfl hg (aY ag ag (aY ag ag ?_));rw[tn];exact hN _ _ _ ⟨i+1,ag,ag,ag,rfl⟩ ag
theorem aoM{K:Int->Sl->Int->HP}(ok:bE fA)(q:fA.fQ)(u:oL h)(w:cG h s [])(v:C6 h p dA)(E:fA.arr dA)(B:∀x,aB h x->K 0 Sl.nil 0 x):KU (bs [97]) true 4 0 0 0 s 2 0 1 p.1 p.2.1 p.2.2 h K Kp:=by
 refine KU.of (aJ λb2 S e1 z f _=>aJ λY R V o i _=>aJ λX Q U n a _=>?_);have G:=aq z (aq o n);have f:=(f.ai o).ai n;have i:=i.ai n;refine dM f (OG (u.k.ai G) q (w.gr G) λe l m P c C=>?_);obtain rfl:e=0:=C.2 ok;have d:=aq G c;refine bu rfl (dM (f.ai c) (fB (i.ai c) (auj (u.ai d) (w.gr d) (v.gr d) E λt O j=>aJ λW N T y g _=>mN g rfl λM r g=>oB g ?_)));have H:=c.1;have F:=j.1;have a:=r.bq (((a.ai c).ai j).ai y) ag;exact mN a rfl λL A a=>oB a (B _ (bK (bK (aq (aq d j) y) r ag) A ag))
theorem arZ{g:eU}{w id:Int}{K:ByteArray->Bool->Int->Int->Int->Int->Sl->HP}(m:∀i,aB h i->K g au k w id ix Sl.nil i):Gf g au k w id ix Sl.nil h K Kp:=by
 refine Gf.of (aJ λy u e1 j a _=>aJ λb2 t v d c _=>?_);simp only[bz];refine aj (a.ai d) rfl (Th.of (bQ rfl (dN (a.ai d) aC rfl λn e a=>aj a rfl ?_)));have c:=e.bq c ag;apply PV.bC (λx f=>f=n/\x=0) (λ_ _=>0) ⟨rfl,rfl⟩;rintro x f ⟨rfl,rfl⟩ z _;exact bu rfl (dM a (pG c rfl λr l c=>dM c (m _ (bK (bK (aq j d) e ag) l ag))))
theorem aeZ{l:Sl}{K:Sl->HP}(d:l.n=0)(e:K Sl.nil h):GW l h K Kp:=by
 apply GW.of;rw[d];apply Rf.bC (λb a c=>b=Sl.nil/\a=0/\c=h) (λ_ _ _=>0) ⟨rfl,rfl,rfl⟩;grind[bu]
theorem atU{n0:Nat}{K:K6}(v:eD D E h p dA)(B:∀b,E b->b<n0)(J:n0<=h.size)(A:∀g o,aB h o->eD (Nw h) E o g dA->K 2 0 1 g.1 g.2.1 g.2.2 o):Ge 2 0 1 p.1 p.2.1 p.2.2 h K Kp:=by
 refine Ge.of (aJ λG Q e1 w a _=>aJ λb2 u R i d _=>?_);simp only[bz];have y:=aq w i;refine aj (a.ai i) rfl (aug y v.b bh λz F r vb=>dN ((a.ai i).ai r) aC rfl λP l a=>aj a rfl (aeZ v.c.n.1 (dN a aC rfl λO k a=>aj a rfl (aeZ v.x.n.1 (dN a aC rfl λN j a=>fB a (iH (j.bq (k.bq (l.bq (d.ai r) ag) ag) ag) rfl λC t d=>fB d (A (z,Sl.nil,Sl.nil) _ (bK (bK (bK (bK (aq y r) l ag) k ag) j ag) t ag) ?_)))))));have f:Tn (λc=>c=G\/c=b2) F C:=(((l.fr.mono λ_ q _=>.inl q).trans (k.fr.mono λ_ q _=>.inl q)).trans (j.fr.mono λ_ q _=>.inl q)).trans (t.fr.mono λ_ q _=>.inr q);exact⟨vb.fr f (λb(m:u.size<=b)_ e=>ag) (λb m _ e=>bZ) (λb(m:u.size<=b)=>ag) λ_ q=>q,jv _,jv _⟩
theorem anr(ok:bE fA)(w:fA.fQ)(I:oL h)(v0:eD D D h p dA)(R:fA.arr dA):ZH fA dA D h Sl.nil p:=by
 have J:∀{h:Hp},cG h Sl.nil []:=λ{h}=>by unfold cG;exact⟨rfl,cr _⟩
 intro n K Kp F L;have v0:=v0.gr F;have v:=v0.mo (λ_ _=>trivial) λ_ _=>trivial;refine Ml.of (aJ λb2 h1 e1 E j _=>aJ λb3 h2 e2 u c _=>aJ λQ O e3 t i _=>?_);have G:=aq E (aq u t);have j:=(j.ai u).ai t;have c:=c.ai t;refine dM j (fB c (aoM ok w (I.ai (aq F G)) J (v.gr G) R λh4 r=>aJ λb6 h5 e6 C q _=>mN q rfl λN y q=>aj q rfl (bu rfl ?_)));have Y:=r.1;have i:=y.bq ((i.ai r).ai C) ag;have a:=bK (aq r C) y ag;have o:=aq G a;have j:=j.ai a;have c:=c.ai a;refine Sf.of (dM j (fB c (arZ λM k=>bR c k ?_)));have S:=a.1;have W:=k.1;refine atU (v0.lt.gr (aq o k)) (λb z=>z.2) ((aq o k).1) λp' h8 B H=>?_;have V:=B.1;refine anp (d:=dA) (D:=λx=>x≠Q/\((D x/\x<n.size)\/n.size<=x)) (by show ck _ _ _ [];unfold ck;exact⟨rfl,cr _⟩) (H.mo (λx(g:M.size<=x)=>⟨ag,.inr ag⟩) λx g=>⟨ag,.inl g⟩) λb' h9 P z A=>?_
 have m:=aq (aq k B) P;exact mN (i.ai m) rfl λU l i=>oB i (L _ _ _ _ (bK (aq o m) l ag) ag (A.fr l.fr (λe=>ag) (λx g e=>g.1 e) λ_ g=>g.2))
end
theorem amt(j:f.k≠12/\f.k≠13/\f.k≠15/\f.k≠16/\f.k≠17/\f.k≠18/\f.k≠19/\f.k≠20){D:aR}{h:Hp}{b bl i:Nat}{d:bH}{o n r L:Int}{s:Sl}{q:Sl×Sl×Sl}{K:KV}{p:PK}(V:Vc D h b bl f d o n s q L i)(l:r=i)(c:jB f.k d.aZ i=false)(m:VK h bl L (f.val d i) K):
    fo aG (xw f.k) "colonnade/array.read" [bB b,ah r,bB bl] h (KI K) p:=by
  have e:xw f.k=.iface JN (.agg #[]):=by unfold xw;simp[j]
  rw[e];exact aui (arD V l j c m)
theorem aiS(y:f.k≠12/\f.k≠13/\f.k≠15/\f.k≠16/\f.k≠17/\f.k≠18/\f.k≠19/\f.k≠20):agS f:=by
 intro D h b bl i d o n r L s q K N V w l;have e:=V.kl.lt;refine Mb.of (aJ λM J e1 m j _=>anS (V.A.gr m) V.ar V.lo V.hi w λC g=>aK (λc=>?_) λc=>?_)
 all_goals have G:=aq m g
 all_goals have H:=m.1
 all_goals have F:=g.1
 all_goals have E:=j.lt
 ·have z:f.val d i=v0:=by rw[MG,oW,aI c]
  have p:=V.wl;rw[z]at l p;exact TH (V.kl.ai G) ag p V.lm λB v a=>l.fin ((bx G).trans v.fr) a (v.bq (j.ai g) ag) rfl ag e (oz _)
 ·simp only[n9,bz];refine aj (V.A.gr G).k rfl (amt y (V.gr G) w c ?_);intro t B u a x;exact l.fin ((bx G).trans u) a (u.bq (j.ai g) ag) rfl ag e (x.mo λc(I:C.size<=c)=>⟨ag,ag⟩)
theorem anh:Cf fA:=ani (aiS bh)
section
variable {KM:List cO} {M:cO} {h':Hp} {r:Raw} {w:Value}
theorem bU.Bc{s:Sl}{K:Sl->Prop}(G:bU f KM T h r none g)(a:∀(j:Nat)M,KM[j]? =some M->gz M)(gr:aB h h')(k:g.b=b)(d:g.SS[i]? =some s)(e:K s):Ld h' ⟨b,16+i,none⟩ Sl.v K:=
 (G.fr a (bx gr) λ_ _ _=>id).dI k d e
theorem Dl{x y:List Value×TypeId}{l:List (List Value×TypeId)}(h:g.SS.length=l.length/\g.ST.length=l.length)(e:l=[x,y]):∃j d,g.SS=[j,d]:=by
 rw[e]at h
 match i:g.SS,h.1 with
 |[a,b],_=>exact⟨a,b,rfl⟩
theorem ri{x:List Value×TypeId}{l:List (List Value×TypeId)}(h:g.SS.length=l.length/\g.ST.length=l.length)(e:l=[x]):∃b,g.SS=[b]:=by
 rw[e]at h
 match d:g.SS,h.1 with
 |[a],_=>exact⟨a,rfl⟩
theorem Uf{l:List (List Value×TypeId)}(h:g.SS.length=l.length/\g.ST.length=l.length)(e:l=[]):g.SS=[]:=by
 rw[e]at h;exact jw.1 h.1
theorem bU.ac0{cs:List (Array Value)}{v KF:Value}{n m d u2:Nat}{K:de}(G:bU f [] T h r none g)(Q:tu h h' N cs (sk f g.b g.sf g.sn g.sb r.b) JU v KF n m d u2)(o:f.cs=[])(l:f.k≠1/\f.k≠15/\f.k≠16/\f.k≠17/\f.k≠18/\f.k≠19/\f.k≠20)(e:eI f.k r.b r.b)
  (p:∀F,jq f.k g.b v KF (.mk F r g.sb [] [])=cs) (t:∀a h',aB h h'->one a.F=true->a.F.cells=#[a.F]->a.r=r->cX f [] (Tr T h h') h' (.iface (bI f.k) (bB g.b)) r (some a)->K a.F h'):K (.func (.func (gA f.k)) #[] (N.map pA).toArray) h':=
 t _ h' Q.g rfl rfl rfl (G.Wu (lo:=λ_=>0) (hi:=λ_=>0) qu Q (λj s=>by simp at s) (λi j hi=>by simp at hi) (λj M A w q=>by simp at q) rfl (by rw[o];rfl) l.1 (λq=>ag) (λq=>ag) e (λq=>ag) (p _))
theorem aow(a:f.k=1)(l:f.cs=[]):wj f (cX f []):=by
 intro T h v vs K s u H m;obtain⟨g,rfl,G⟩:=H;have p:bI f.k=nZ:=by unfold bI;rw[aI a]
 have q:kU (.iface nZ (bB g.b)) h K s:=by
  refine atf (S9.of ?_);simp only[n9];refine xP G.B (cW _) λF h' gr vb=>?_;have d:=G.fr qu (bx gr) λ_ _ _=>id;refine m (.mk F (f.st vs) g.sb [] []) h' gr vb.1.1 vb.1.2 rfl ⟨g.mk' 0 h h' (λ_=>0) (λ_=>0),rfl,G.marked qu gr (λj e=>by simp at e) (λi j n=>by simp at n) (λj M A w q=>by simp at q) ⟨⟨F,F,⟨vb.2.mono λc q=>.inr ⟨q.1,q.2,λj e=>by simp at e⟩,Old.of d.B.o,d.B.len,d.B.nl,d.B.rl⟩,λq=>ag,λq=>ag,λ_=>rfl,λq=>absurd a q⟩,?_,⟨?_,by rw[l];rfl⟩,λq=>ag⟩⟩
  ·unfold eI;rw[aA,aA,aA,aA,dU];trivial
  ·have:=G.lk.2.2;exact jw.1 this
 rw[<-p]at q;exact q
theorem aor(a:f.k=12\/f.k=13)(p:f.cs=[]):wj f (cX f []):=by
 intro T h v vs K E N H y;obtain⟨g,rfl,G⟩:=H;have C:bI f.k=nY:=by unfold bI;rw[aA,aI a]
 have D:gA f.k=196:=by unfold gA;rw[aI a]
 have o:∀e:Rb,cF f.k e=[(ints e.ends,Y6),(bv e.all,Y8)]:=λe=>by unfold cF;rw[aI a]
 obtain⟨l,j,d⟩:=Dl G.ls (o _);have x:l.n=(f.st vs).b.ends.length:=by have:=G.oq (i:=0) (s:=l) (by simp[d]) (by rw[o];rfl);rw[this,ints,cC]
 have u:j.n=(f.st vs).b.all.length:=by have:=G.oq (i:=1) (s:=j) (by simp[d]) (by rw[o];rfl);rw[this,fH]
 have q:kU (.iface nY (bB g.b)) h K E:=by
  refine ata (SW.mk (eM:=l) (AP:=j) (λgr m=>G.Bc (i:=0) qu gr rfl (by simp[d]) m) (λgr m=>G.Bc (i:=1) qu gr rfl (by simp[d]) m) zK zL (λgr z=>xP G.B gr z) λt O KF L I J u2 h' Q=>?_)
  have:=G.ac0 Q p ag (by unfold eI;rw[aI a];exact⟨jF _,jF _⟩) (λF=>?_) y
  ·rw[D]at this;exact this
  ·unfold jq;simp only;rw[aI a,x,u];rfl
 rw[<-C]at q;exact q
theorem aov(x:fE f.k=true)(u:f.cs=[]):wj f (cX f []):=by
 intro T h v vs K O X H I;obtain⟨g,rfl,G⟩:=H;obtain⟨D,R,P,j,m,l,a,e,d⟩:=zb x;have L:bI f.k=oH:=by unfold bI;rw[aE D,aA,aE j,aE m,aE l,aE a,aE e,aE d]
 have N:gA f.k=248:=by unfold gA;rw[aA,aE j,aE m,aE l,aE a,aE e,aE d]
 have y:∀p:Rb,cF f.k p=[(lp p.dQ,oK),(strs p.texts,qo)]:=λp=>by unfold cF;rw[aA,aA,aE a,aA]
 obtain⟨t,U,o⟩:=Dl G.ls (y _);have C:t.n=(f.st vs).b.dQ.length:=by have:=G.oq (i:=0) (s:=t) (by simp[o]) (by rw[y];rfl);rw[this,lp,cC]
 have q:kU (.iface oH (bB g.b)) h K O:=by
  refine ate (Sw.mk (eM:=t) (λgr E=>G.Bc (i:=0) qu gr rfl (by simp[o]) E) zK zL (λgr J=>xP G.B gr J) λz Y KF W S V u2 h' Q=>?_)
  have:=G.ac0 Q u ag ?_ (λF=>?_) I
  ·rw[N]at this;exact this
  ·unfold eI;rw[aA,aE j,aE e,aE a,aA,aE d];refine⟨jF _,jF _,?_⟩;rw[fC];simp only[aM,x,fY,cC]
  ·unfold jq;simp only;rw[aA,aE j,aA,aE a,aE e,aE d,C];rfl
 rw[<-L]at q;exact q
theorem bU.NG{cs:List (Array Value)}{v KF:Value}{n d a u2:Nat}{K:de}{sp:bg}(G:bU f [M] T h r none g)(D:∀(j:Nat)o,[M][j]? =some o->gz o)(t:f.cs=[c])(E:g.KT[0]? =some A)(z:g.kv[0]? =some w)
  (Q:tu h h' N cs (sk f g.b g.sf g.sn g.sb r.b) (lI M A w (r.aN 0)) v KF n d a u2) (J:f.k=15\/f.k=16\/f.k=19\/f.k=20) (s:eI f.k r.b r.b) (p:f.k=20->iJ 20 g.X h' sp r.b)
  (u:∀F m,jq f.k g.b v KF (.mk F r g.sb [m] sp)=cs) (B:∀e h',aB h h'->one e.F=true->e.F.cells=#[e.F]->e.r=r->cX f [M] (Tr T h h') h' (.iface (bI f.k) (bB g.b)) r (some e)->K e.F h'):K (.func (.func (gA f.k)) #[] (N.map pA).toArray) h':=by
 obtain⟨⟨_,m,rfl,H,I⟩,P,O⟩:=Q.k;refine B _ h' Q.g rfl rfl rfl (G.Wu D Q (λ_ _=>⟨cr _,cr _⟩) (λi j hi C ne=>?_) (λj o R L l y x=>?_) rfl (by rw[t];rfl) ag (λ_=>⟨m,rfl,rfl⟩) (λq=>ag) s p (u _ m))
 ·simp only[jy]at hi C;omega
 ·rcases j with _|j
  ·simp at l;subst l;rw[E]at y;cases y;rw[z]at x;cases x;exact⟨m,rfl,H,I⟩
  ·simp at l
theorem sM{KM:List cO}{m:fN}(G:bU f KM T h r m g)(hl:KM.length=1):∃A w,g.KT[0]? =some A/\g.kv[0]? =some w/\g.kv=[w]:=by
 have lk:=G.lk;have e:g.KT.length=1:=by rw[lk.2.1,hl]
 have d:g.kv.length=1:=by rw[lk.1,hl]
 match j:g.KT,i:g.kv,e,d with
 |[a],[b],_,_=>exact⟨a,b,rfl,rfl,rfl⟩
theorem aox(a:f.k=15)(j:f.cs=[c])(C:MC c M):wj f (cX f [M]):=by
 intro T h v vs K V P H O;obtain⟨g,rfl,G⟩:=H;have D:=ng C;have R:bI f.k=nW:=by unfold bI;rw[aA,aA,aI a]
 have U:gA f.k=201:=by unfold gA;rw[aA,aI a]
 have J:∀x:Rb,cF f.k x=[(ints x.ends,Y6)]:=λx=>by unfold cF;rw[aA,dU]
 obtain⟨u,e⟩:=ri G.ls (J _);obtain⟨A,w,E,z,W⟩:=sM G rfl;have o:f.cs[0]? =some c:=by rw[j];rfl
 have N:u.n=(f.st vs).b.ends.length:=by have:=G.oq (i:=0) (s:=u) (by simp[e]) (by rw[J];rfl);rw[this,ints,cC]
 have aN:=G.aN 0 M A w rfl E z;have d:=mM o vs;have I:∀c,A c->c<h.size:=λc q=>G.t.l (bS (g.fk E)) q;have q:kU (.iface nW (bB g.b)) h K V:=by
  rw[d]at aN;refine atg (SR.mk (eM:=u) (V2:=lI M A w ((f.st vs).aN 0)) (λgr y=>G.Bc (i:=0) D gr rfl (by simp[e]) y) (λgr y=>(G.fr D (bx gr) λ_ _ _=>id).lN (i:=1) rfl (.inl a) (by simp[e]) z y) zK zL (λgr p=>xP G.B gr p) (lI.pX C.fr I) lI.one (λgr p=>?_) λL F0 KF Z X Y u2 h' Q=>?_)
  ·rw[d]at p;exact lI.call C (fh o P) aN gr p
  ·have:=G.NG (sp:=[]) D j E z Q (.inl a) (by unfold eI;rw[aA,aI a];exact jF _) (λq=>ag) (λF m=>?_) O
   ·rw[U]at this;exact this
   ·unfold jq;simp only;rw[aA,aI a,N];rfl
 rw[<-R]at q;exact q
theorem aot(a:f.k=16)(e:f.cs=[c])(C:MC c M):wj f (cX f [M]):=by
 intro T h v vs K O I H E;obtain⟨g,rfl,G⟩:=H;have y:=ng C;have L:bI f.k=nt:=by unfold bI;rw[aA,aA,aA,aI a]
 have N:gA f.k=206:=by unfold gA;rw[aA,aA,aI a]
 have J:∀x:Rb,cF f.k x=[]:=λx=>by unfold cF;rw[aA,aA,aA,dU]
 have s:=Uf G.ls (J _);obtain⟨A,w,p,o,P⟩:=sM G rfl;have j:f.cs[0]? =some c:=by rw[e];rfl
 have aN:=G.aN 0 M A w rfl p o;have d:=mM j vs;have u:∀c,A c->c<h.size:=λc q=>G.t.l (bS (g.fk p)) q;have q:kU (.iface nt (bB g.b)) h K O:=by
  rw[d]at aN;refine atc (SO.mk (V2:=lI M A w ((f.st vs).aN 0)) (λgr D=>(G.fr y (bx gr) λ_ _ _=>id).lN (i:=0) rfl (.inr (.inl a)) (by simp[s]) o D) zK zL (λgr n=>xP G.B gr n) (lI.pX C.fr u) lI.one (λgr n=>?_) λz W KF V R U u2 h' Q=>?_)
  ·rw[d]at n;exact lI.call C (fh j I) aN gr n
  ·have:=G.NG (sp:=[]) y e p o Q (.inr (.inl a)) (by unfold eI;rw[aA,aA,aA,aA,dU];trivial) (λq=>ag) (λF m=>?_) E
   ·rw[N]at this;exact this
   ·unfold jq;simp only;rw[aA,aA,dU]
 rw[<-L]at q;exact q
end
end
end Go.Proofs.YtmjifnioaoamfaaGreatDoor
