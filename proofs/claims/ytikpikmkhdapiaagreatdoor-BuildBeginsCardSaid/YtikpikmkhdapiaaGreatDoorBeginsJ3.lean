import Derived.Test.YtikpikmkhdapiaaGreatDoorBeginsJ2
import Derived.Test.YtikpikmkhdapiaaGreatDoorBeginsShDeferH
import Derived.Test.YtikpikmkhdapiaaGreatDoorBeginsShMix
set_option linter.unusedSimpArgs false
set_option linter.unusedVariables false
set_option maxRecDepth 100000
set_option maxHeartbeats 1000000
namespace Go.Proofs.YtikpikmkhdapiaaGreatDoor
open Go Go.Sh Go.WideShapes
theorem Su {f:ai} (m:bp f) {vs:List ak} {i:Nat} {v:ak} (l:vs[i]? = some v):fR f.k (f.dn (f.st vs)).aH i=dI f.k v:=by
 have ks:=m.ks
 by_cases j:f.k=1
 ·unfold fR dI;simp[j]
 by_cases b:f.k=18
 ·unfold fR dI iD;simp[b]
 by_cases a:f.k=20
 ·unfold fR dI iD;simp[a]
 refine w5 (by unfold iD;simp[j,b,a]) ?_ l
 by_cases h:f.k=12\/f.k=13
 ·rw[ry h];rfl
 by_cases e:f.k=15
 ·rw[F3 e];rfl
 by_cases d:f.k=16\/f.k=17
 ·rw[yo d];rfl
 by_cases c:f.k=19
 ·rw[F2 c];rfl
 by_cases n:f.k=2
 ·rw[ym n];rfl
 by_cases g:f.k=14
 ·rw[yp g];rfl
 rw[vr ag];rfl
theorem aiV {p:Nat->Bool} {q:ak->Bool}:∀{vs:List ak},(∀i v,vs[i]? = some v->p i=q v)->(List.range vs.length).countP p=vs.countP q
  | vs,h=>by
    have e:(List.range vs.length).map p=vs.map q:=by
      refine List.ext_getElem? λi => ?_;rw[List.getElem?_map,List.getElem?_map]
      by_cases a:i < vs.length
      · have:=List.getElem?_eq_getElem (l:=vs) (i:=i) a;rw[List.getElem?_range a,this,Option.map_some,Option.map_some,h i _ this]
      · rw[List.getElem?_eq_none (by simpa using a),List.getElem?_eq_none (by simpa using a)];rfl
    have b:∀{α:Type} (p:α->Bool) (l:List α),l.countP p=(l.map p).countP id:=λp l=>by rw[List.countP_map];rfl
    rw[b p,b q,e]
theorem adr {f:ai} (g:bp f) {vs:List ak} (m:f.can vs):Ca f.aq f.k (f.dn (f.st vs)):=by
 have e:oL f.k (f.dn (f.st vs)).aH (f.dn (f.st vs)).off.toNat (f.dn (f.st vs)).len.toNat=vs.countP (dI f.k):=by
  rw[ru,pN];unfold oL;exact aiV (vs:=vs) λi v l=>by rw[show (0:Int).toNat+i=i from Nat.zero_add i];exact Su g l
 refine ⟨by rw[e,Ok],λa => ?_⟩
 rw[e] at a;obtain ⟨v,j,d⟩:=List.countP_pos_iff.1 a
 by_cases h:f.k=1
 ·exact g.right.2.1.1 h
 ·have c:f.k≠18/\f.k≠20:=by constructor <;> (intro q;unfold dI at d;simp[q] at d)
  rw[oo h c.1 c.2] at d;have b:=((ai.eC f vs).1 m).fit v j;rw[ai.c9] at b;have:=(jR b d).2
  rwa [qR f g] at this
theorem YR {k:Int} {vs:List ak}:(bZ (aG k vs)).length=0\/(bZ (aG k vs)).length=(vs.length+7) / 8:=by
 unfold bZ;split
 ·exact .inl rfl
 ·refine .inr ?_
  show (nx _).length=_
  rw[R7,List.length_map]
theorem QK (g:ak->Nat) (vs:List ak):(laidB (gH g vs) 4).length=(vs.length+1)*4:=by rw[Fh,Ez]
theorem adj {k:Int} (h:dU k=true) (vs:List ak):(aG k vs).cm=vs.map (λv=>(v.num % 2 ^ 64).toNat)/\(aG k vs).texts=vs.map ak.text:=by simp[aG,h]
theorem Fa {k w ix:Int} {n b:Nat} (a:k≠18) (h:b=0\/b=(n+7) / 8):fD k w ix 0 n b<=b:=by
 unfold fD;rw[if_neg a]
 by_cases c:b=0
 ·rw[if_pos (.inl ⟨rfl,c⟩)];omega
 ·rw[if_neg ag,if_pos (.inl rfl)];omega
theorem aaT {f:ai} (G:bp f) {vs:List ak} (S:f.can vs):((f.dn (f.st vs)).aH.length:Int)=gC f.k/\(∀j,j < (f.dn (f.st vs)).aH.length->(bQ (f.dn (f.st vs)).aH j).length<=65536) /\
    ∀j,j < (f.dn (f.st vs)).aH.length->fD f.k f.w f.ix j vs.length (bQ (f.dn (f.st vs)).aH j).length<=(bQ (f.dn (f.st vs)).aH j).length:=by
  have I:=(ai.eC f vs).1 S;have Q:=I.n4;have ks:=G.ks;have C:=YR (k:=f.k) (vs:=vs);have two:∀{a b:List UInt8} {P:Nat->Prop},(∀j,j < [a,b].length->P j)↔P 0/\P 1:=λ{a b P}=>⟨λh=>⟨h 0 aS,h 1 aS⟩,λh j d=>by
    match j,d with
    | 0,_=>exact h.1
    | 1,_=>exact h.2⟩
  by_cases D:f.k=1
  · rw[F4 D];exact ⟨by rw[D];rfl,λj d=>by simp[aJ.aH] at d,λj d=>by simp[aJ.aH] at d⟩
  by_cases o:f.k=20
  · rw[Ol o];exact ⟨by rw[o];rfl,λj d=>by simp[aJ.aH] at d,λj d=>by simp[aJ.aH] at d⟩
  by_cases p:f.k=16\/f.k=17
  · rw[yo p];refine ⟨by rcases p with q | q <;> rw[q] <;> rfl,λj d => ?_,λj d => ?_⟩
    · have:j=0:=by simp[aJ.aH] at d;exact d
      subst this
      show (bZ (aG f.k vs)).length<=_;omega
    · have:j=0:=by simp[aJ.aH] at d;exact d
      subst this
      show fD f.k f.w f.ix 0 vs.length (bZ (aG f.k vs)).length<=(bZ (aG f.k vs)).length
      exact Fa ag C
  by_cases g:f.k=12\/f.k=13
  · have s:(aG f.k vs).ends=gH (λv=>v.text.length) vs:=by simp[aG,g]
    have H:(aG f.k vs).all=vs.flatMap ak.text:=by simp[aG,g]
    have J:=I.tx g;rw[ry g,s,H];have F:=QK (λv=>v.text.length) vs;refine ⟨by rcases g with q | q <;> rw[q] <;> rfl,λj d => ?_,λj d => ?_⟩
    · match j,d with
      | 0,_=>show (bZ (aG f.k vs)).length<=_;omega
      | 1,_=>show (laidB _ 4).length<=_;omega
      | 2,_=>exact J
    · match j,d with
      | 0,_=>exact Fa ag C
      | 1,_ =>
        show fD f.k f.w f.ix 1 vs.length (laidB _ 4).length<=(laidB (gH (λv=>v.text.length) vs) 4).length
        unfold fD;rw[if_neg ag,if_neg ag,if_neg ag,if_pos ag];omega
      | 2,_=>unfold fD;rw[if_neg ag,if_pos (.inr rfl)];exact Nat.zero_le _
  by_cases m:f.k=15
  · have s:(aG f.k vs).ends=gH (λv=>v.items.length) vs:=by simp[aG,m]
    rw[F3 m,s];have F:=QK (λv=>v.items.length) vs;refine ⟨by rw[m];rfl,two.2 ⟨?_,?_⟩,two.2 ⟨?_,?_⟩⟩
    · show (bZ (aG f.k vs)).length<=_;omega
    · show (laidB _ 4).length<=_;omega
    · show fD f.k f.w f.ix 0 vs.length (bZ (aG f.k vs)).length<=(bZ (aG f.k vs)).length
      exact Fa ag C
    · show fD f.k f.w f.ix 1 vs.length (laidB _ 4).length<=(laidB (gH (λv=>v.items.length) vs) 4).length
      unfold fD;rw[if_neg ag,if_neg ag,if_neg ag,if_pos ag];omega
  by_cases c:f.k=18
  · have H:(aG f.k vs).all=vs.map λv=>UInt8.ofNat (dM v):=by simp[aG,c]
    have s:(aG f.k vs).ends.length=vs.length:=by simp[aG,c]
    rw[Om c];have F:=Fh (aG f.k vs).ends 4;rw[s] at F;have Y:(aG f.k vs).all.length=vs.length:=by rw[H,List.length_map]
    refine ⟨by rw[c];rfl,two.2 ⟨?_,?_⟩,two.2 ⟨?_,?_⟩⟩
    · show (aG f.k vs).all.length<=_;omega
    · show (laidB _ 4).length<=_;omega
    · show fD f.k f.w f.ix 0 vs.length (aG f.k vs).all.length<=(aG f.k vs).all.length
      unfold fD;rw[if_pos c];omega
    · show fD f.k f.w f.ix 1 vs.length (laidB _ 4).length<=(laidB (aG f.k vs).ends 4).length
      unfold fD;rw[if_pos c];omega
  -- L with a z X one E more
  have i:∀(b:List UInt8) (W:Nat),b.length<=65536->(f.k=2->b.length=(vs.length+7) / 8)->(f.k≠2->W=(ji f.k f.w f.ix).toNat/\b.length=vs.length*W) ->
      (([bZ (aG f.k vs),b].length:Nat):Int)=gC f.k/\(∀j,j < [bZ (aG f.k vs),b].length->(bQ [bZ (aG f.k vs),b] j).length<=65536)/\∀j,j < [bZ (aG f.k vs),b].length->fD f.k f.w f.ix j vs.length (bQ [bZ (aG f.k vs),b] j).length<=(bQ [bZ (aG f.k vs),b] j).length:=by
    intro b W T U K;refine ⟨by unfold gC;rw[if_neg ag,if_neg ag,if_neg ag];rfl,two.2 ⟨?_,T⟩,two.2 ⟨?_,?_⟩⟩
    · show (bZ (aG f.k vs)).length<=_;omega
    · show fD f.k f.w f.ix 0 vs.length (bZ (aG f.k vs)).length<=(bZ (aG f.k vs)).length
      exact Fa c C
    · show fD f.k f.w f.ix 1 vs.length b.length<=b.length
      unfold fD;rw[if_neg c,if_neg ag]
      by_cases r:f.k=2
      · rw[if_pos (.inr r),U r];exact Nat.le_refl _
      · obtain ⟨e1,A⟩:=K r;rw[if_neg ag,if_neg ag,A,e1];exact Nat.le_refl _
  by_cases e:f.k=19
  · have s:(aG f.k vs).ends.length=vs.length:=by simp[aG,e]
    have V:=G.right.1.2.2.2.2.2.1 e;obtain ⟨e1,A,_⟩:=Ei (k:=f.ix) ag;rw[F2 e];have l:=Fh (aG f.k vs).ends (wB f.ix);rw[s] at l;refine i _ (wB f.ix) ?_ (λq=>by omega) λ_=>⟨?_,l⟩
    · rw[l];rcases A with q | q | q | q <;> rw[q] <;> omega
    · unfold ji;rw[if_neg ag,if_pos e,e1]
  have O:dU f.k=true:=by
    simp only[not_or] at g p;simp[dU,D,g,m,p,c,e,o]
  obtain ⟨y,N⟩:=adj O vs
  by_cases r:f.k=2
  · rw[ym r];have l:=ajY (aG f.k vs).cm;rw[y,List.length_map] at l;refine i _ 0 (by rw[y,l];omega) (λ_=>by rw[y];exact l) λq=>absurd r q
  by_cases n:f.k=14
  · rw[yp n];have Z:=G.right.1.2.2.1 n;have l:(ju f.w.toNat (aG f.k vs).texts).length=vs.length*f.w.toNat:=by
      rw[FK,N,List.length_map];intro t M;rw[N] at M;obtain ⟨u,R,rfl⟩:=List.mem_map.1 M;have x:=I.fit u R;cases B:u.aq with
      | true=>rw[ai.c9] at x;rw[(jR x B).1];exact .inl rfl
      | false=>exact .inr (((FN ⟨D,m,by omega,by omega,c,e,o⟩ x B).2.1 ag).2.2 n)
    refine i _ f.w.toNat ?_ (λq=>by omega) λ_=>⟨by unfold ji;rw[if_pos n],l⟩
    rw[l];have:vs.length*f.w.toNat<=4096*16:=Nat.mul_le_mul Q ag;omega
  rw[vr ag];obtain ⟨e1,A,_⟩:=Ei (k:=f.k) ag;have l:=Fh (aG f.k vs).cm (wB f.k);rw[y,List.length_map] at l;refine i _ (wB f.k) ?_ (λq=>absurd q r) λ_=>⟨by unfold ji;rw[if_neg n,if_neg e,e1],by rw[y];exact l⟩
  rw[y,l];rcases A with q | q | q | q <;> rw[q] <;> omega
abbrev alf (c:ai):Prop:=∀us,c.can us->c.arr (c.dn (c.st us))
theorem Yw {f:ai} (c:bp f) {vs:List ak} (d:f.can vs):uy f.val (f.dn (f.st vs))=vs.map ak.aV:=by
 unfold uy;rw[pN]
 show (List.range vs.length).map _=_
 refine ET aS λi x a => ?_;rw[List.getElem?_map,Option.map_eq_some_iff] at a;obtain ⟨v,b,rfl⟩:=a;rw[vJ (SU f c) d b]
theorem ako {f:ai} (b:bp f) {vs:List ak} (d:f.can vs) (m:(f.dn (f.st vs)).cs.length=mZ f.k f.cs) (l:(f.dn (f.st vs)).ds.length=oI f.k)
  (r:∀(j:Nat) (c:aJ),(f.dn (f.st vs)).cs[j]? = some c->(f.k=16->(vs.length:Int)*f.w<=c.len)/\(f.k=17->(vs.length:Int)<=c.len)) (h:Pu f.k f.ix (f.dn (f.st vs)))
  (i:∀(j:Nat) (c:aJ),(qL (f.dn (f.st vs)))[j]? = some c->∃g,(mS f.k f.cs)[j]? = some g/\g.arr c) (p:f.k=20->Xp (f.dn (f.st vs))):f.arr (f.dn (f.st vs)):=by
 have e:=(ai.eC f vs).1 d;have u:=e.n4;obtain ⟨t,b2,s⟩:=aaT b d;have q:((f.dn (f.st vs)).off+(f.dn (f.st vs)).len).toNat=vs.length:=by rw[ru,pN];omega
 rw[ai.OU];refine ⟨⟨b.ty,t,m,l,by rw[pN];omega,by rw[ru];omega,by rw[Ok];omega,?_,by rw[pN];omega,by rw[ru];omega,by rw[ru,pN];omega,b2,λj a=>by rw[q];exact s j a,λj c a => ?_,adr b d⟩,h,λj c a => ?_,p,?_⟩
 ·rw[Ok,pN];have:=aiW (dI f.k) vs;omega
 ·rw[ru,pN];have:=r j c a
  simpa using this
 ·obtain ⟨g,n,o⟩:=i j c a;exact ⟨g.arr,by rw[List.getElem?_map,n];rfl,o⟩
 ·have:=Yw b d;rw[ai.oW] at this;rw[this,SR];exact e.wt
theorem abM {k ix:Int} {O:aJ} (h:¬(k=12\/k=13\/k=15\/k=18\/k=19)):Pu k ix O:=⟨λq=>absurd q ag,λq=>absurd q ag,λq=>absurd q ag⟩
theorem E7 {O:aJ} {g:ak->Nat} {vs:List ak} (b:O.off=0) (e:bQ O.aH 1=laidB (gH g vs) 4) (a:(vs.map g).sum < 2 ^ 31) {i:Nat} (c:i<=vs.length):og O i=((vs.take i).map g).sum:=by
 unfold og;rw[e,b]
 show i32 _ (0+i)=_
 rw[Nat.zero_add,QM a c]
theorem ade {O:aJ} {k:Int} {g:ak->Nat} {vs:List ak} (b:O.off=0) (hl:O.len=vs.length) (h:bQ O.aH 1=laidB (gH g vs) 4) (f:(vs.map g).sum < 2 ^ 31) (p:LX k O=(vs.map g).sum)
  (o:k=12->∀(i:Nat) v,vs[i]? = some v->fR k O.aH i=false->gh (((bQ O.aH 2).drop (((vs.take i).map g).sum)).take (g v))=true):Xb k O:=by
 refine ⟨λi m => ?_,λe i m n => ?_⟩
 ·have a:i<=vs.length:=by rw[hl] at m;omega
  rw[E7 b h f a,p];refine ⟨by omega,by have:=Et g vs i;omega,λj q => ?_⟩
  subst q;rw[E7 b h f ag];have c:=List.getElem?_eq_getElem (l:=vs) (i:=j) ag;rw[Aw g c];omega
 ·have a:i < vs.length:=by rw[hl] at m;omega
  have c:=List.getElem?_eq_getElem (l:=vs) (i:=i) a;rw[b] at n;have:=o e i _ c (by simpa using n)
  rw[E7 b h f ag,E7 b h f ag,Aw g c];have e1:((((vs.take i).map g).sum+g vs[i]:Nat):Int).toNat - ((((vs.take i).map g).sum:Nat):Int).toNat=g vs[i]:=ag;rw[e1];exact this
theorem akp {f:ai} (s:bp f) (C:f.k≠15/\f.k≠16/\f.k≠17/\f.k≠18/\f.k≠19/\f.k≠20):alf f:=by
 intro vs y;have A:=(ai.eC f vs).1 y;obtain ⟨l,p,o,h,d,b⟩:=C;have ks:=s.ks;have r:f.cs=[]:=List.length_eq_zero_iff.1 (s.right.1.2.2.2.2.2.2.2.2.2.2 ⟨l,p,d,b,o,h⟩);have n:(f.dn (f.st vs)).cs=[]/\(f.dn (f.st vs)).ds=[]:=by
  by_cases B:f.k=1
  ·rw[F4 B];exact ⟨rfl,rfl⟩
  by_cases a:f.k=12\/f.k=13
  ·rw[ry a];exact ⟨rfl,rfl⟩
  by_cases E:f.k=2
  ·rw[ym E];exact ⟨rfl,rfl⟩
  by_cases w:f.k=14
  ·rw[yp w];exact ⟨rfl,rfl⟩
  rw[vr ag];exact ⟨rfl,rfl⟩
 refine ako s y ?_ ?_ (λj c m=>by rw[n.1] at m;simp at m) ?_ (λj c m=>by unfold qL at m;rw[n.1,n.2] at m;simp at m) (λq=>absurd q b)
 ·rw[n.1,r];unfold mZ;rw[if_neg d,if_neg b];rfl
 ·rw[n.2];unfold oI;rw[if_neg d];rfl
 ·by_cases a:f.k=12\/f.k=13
  ·have u:=A.tx a;have D:(aG f.k vs).ends=gH (λv=>v.text.length) vs:=by simp[aG,a]
   have z:(aG f.k vs).all=vs.flatMap ak.text:=by simp[aG,a]
   refine ⟨λ_ => ?_,λq=>absurd q ag,λq=>absurd q ag⟩;refine ade (ru f _) (pN f vs) (g:=λv=>v.text.length) (by rw[ry a,D];rfl) (by rw[List.length_flatMap] at u;omega) ?_ λe i v t x => ?_
   ·unfold LX;rw[if_neg l,ry a,z]
    show ((vs.flatMap ak.text).length:Int)=_
    rw[List.length_flatMap]
   ·rw[Su s t,oo ag h b] at x;rw[ry a,z]
    show gh (((vs.flatMap ak.text).drop _).take v.text.length)=true
    rw[FJ ak.text t];exact ((FN ⟨by omega,l,p,o,h,d,b⟩ (A.fit v (List.mem_of_getElem? t)) x).2.1 ag).2.1 e
  ·exact abM ag
def bt (f:ai) (sf sn sb:Sl) (rows bu aW:Nat) (ex:List Value):List Value :=
 .string f.name::.bool f.aq::.int .i64 f.k::.int .i64 f.w::.int .i64 f.id::.int .i64 f.ix::Sl.v sf::.int .i64 rows::.int .i64 bu::Sl.v sb::.int .i64 aW ::
 .bool f.bO.aq::.int .i64 f.bO.num::.string (bs f.bO.text)::Sl.v sn::.bool f.small::ex
structure iQ (T:Nat->Prop) (h:Hp) (b:Nat) (ty:TypeId) (f:ai) (sf sn sb:Sl) (r:Rb) (ex:List Value):Prop where
 k:aB h b (bt f sf sn sb r.rows r.bu r.aW ex).toArray ty
 o:Os T h sb (bv r.bits) Y8
 nT:¬T b
 len:r.bits.length=(r.rows+7) / 8
 nl:r.bu<=r.rows
 rl:r.rows<=4096
section
variable {T S:Nat->Prop} {h h':Hp} {b:Nat} {ty:TypeId} {f:ai} {sf sn sb:Sl} {r:Rb} {ex:List Value} {Kp:PK}
theorem iQ.lt (B:iQ T h b ty f sf sn sb r ex):b < h.size:=B.k.lt
theorem iQ.fr (B:iQ T h b ty f sf sn sb r ex) (t:Tn S h h') (g:¬S b) (e:∀c,T c->c < h.size->¬S c):iQ T h' b ty f sf sn sb r ex :=
 ⟨t.aK B.k g,B.o.fr t e,B.nT,B.len,B.nl,B.rl⟩
theorem V5 (x y:Nat) (c:x < 2 ^ 8) (a:y < 2 ^ 8):dF .or .u8 (x:Int) (y:Int)=((x ||| y:Nat):Int):=by
 have h:x ||| y < 2 ^ 8:=Nat.or_lt_two_pow c a;have e:(BitVec.ofInt 8 (x:Int) ||| BitVec.ofInt 8 (y:Int)).toNat=x ||| y:=by
  rw[BitVec.toNat_or,BitVec.ofInt_natCast,BitVec.ofInt_natCast,BitVec.toNat_ofNat,BitVec.toNat_ofNat,Nat.mod_eq_of_lt c,Nat.mod_eq_of_lt a]
 show IntKind.u8.wrap ((BitVec.ofInt 8 (x:Int) ||| BitVec.ofInt 8 (y:Int)).toNat:Int)=_
 rw[e];simp only[IntKind.wrap,IntKind.signed,IntKind.bits];simp;omega
end
section
variable {h:Hp} {b:Nat} {ty:TypeId} {f:ai} {sf sn sb mg:Sl} {n u w m:Nat} {ex:List Value} {K:HP}
theorem BV.st7 (k:aB h b (bt f sf sn sb n u w ex).toArray ty) (c:∀h',aM b h h'->aB h' b (bt f sf sn sb m u w ex).toArray ty->K h'):St h ⟨b,7,none⟩ (.int .i64 (m:Int)) K :=
 cE k (by simp[bt]) rfl λh' o a=>c h' o (by simpa[bt] using a)
theorem BV.st8 (k:aB h b (bt f sf sn sb n u w ex).toArray ty) (c:∀h',aM b h h'->aB h' b (bt f sf sn sb n m w ex).toArray ty->K h'):St h ⟨b,8,none⟩ (.int .i64 (m:Int)) K :=
 cE k (by simp[bt]) rfl λh' o a=>c h' o (by simpa[bt] using a)
theorem BV.st9 (k:aB h b (bt f sf sn sb n u w ex).toArray ty) (c:∀h',aM b h h'->aB h' b (bt f sf sn mg n u w ex).toArray ty->K h'):St h ⟨b,9,none⟩ (Sl.v mg) K :=
 cE k (by simp[bt]) rfl λh' o a=>c h' o (by simpa[bt] using a)
theorem BV.aar (k:aB h b (bt f sf sn sb n u w ex).toArray ty) (c:∀h',aM b h h'->aB h' b (bt f sf sn sb n u m ex).toArray ty->K h'):St h ⟨b,10,none⟩ (.int .i64 (m:Int)) K :=
 cE k (by simp[bt]) rfl λh' o a=>c h' o (by simpa[bt] using a)
theorem BV.pH {K:Int->Prop} (k:aB h b (bt f sf sn sb n u w ex).toArray ty) (a:K (n:Int)):Ld h ⟨b,7,none⟩ mI K:=an k (by simp[bt]) a
theorem BV.M8 {K:Int->Prop} (k:aB h b (bt f sf sn sb n u w ex).toArray ty) (a:K (u:Int)):Ld h ⟨b,8,none⟩ mI K:=an k (by simp[bt]) a
theorem BV.qU {K:Sl->Prop} (k:aB h b (bt f sf sn sb n u w ex).toArray ty) (a:K sb):Ld h ⟨b,9,none⟩ Sl.v K:=an k (by simp[bt]) a
theorem BV.M9 {K:Int->Prop} (k:aB h b (bt f sf sn sb n u w ex).toArray ty) (a:K (w:Int)):Ld h ⟨b,10,none⟩ mI K:=an k (by simp[bt]) a
end
section
variable {T S:Nat->Prop} {h h':Hp} {b:Nat} {ty:TypeId} {f:ai} {sf sn sb:Sl} {r:Rb} {ex:List Value} {Kp:PK}
theorem Rx {n u w:Nat} {K:Int->HP} (k:aB h b (bt f sf sn sb n u w ex).toArray ty) (c:n < 4096) (a:∀h',aM b h h'->aB h' b (bt f sf sn sb (n+1) u w ex).toArray ty->K 0 h'):yL K Kp (some ⟨b,0,none⟩) h:=by
 refine yL.of ?_;refine bF ?_;exact BV.pH k (aP ag ag (BV.st7 (m:=n+1) k a))
theorem Ry {n u w:Nat} {bits:List UInt8} {aq:Bool} {K:Int->HP} (k:aB h b (bt f sf sn sb n u w ex).toArray ty) (o:Os T h sb (bv bits) Y8) (nT:¬T b) (hl:bits.length=n / 8+1) (hn:n < 4096) (hu:u<=n)
  (hk:∀h',Tn (λc=>c=b\/T c) h h'->aB h' b (bt f sf sn sb (n+1) (if aq then u+1 else u) w ex).toArray ty->Os T h' sb (bv (if aq then bits else kX bits n)) Y8 ->
   (∀{s0:Sl} {l0:List Value},Old T h sb s0 l0 Y8->Old T h' sb s0 l0 Y8)->K 0 h'):yM K Kp (some ⟨b,0,none⟩) aq h:=by
 refine yM.of (aA (λc => ?_) λc => ?_)
 ·subst c;refine bF ?_;refine BV.M8 k (aP ag ag (BV.st8 (m:=u+1) k λh1 o1 k1=>Rx k1 hn λh2 o2 k2 => ?_));have t:Tn (·=b) h h2:=o1.fr.trans o2.fr;exact hk h2 (t.mono λd hd _=>.inl hd) k2 (o.fr t λc q _ e=>nT (e ▸ q)) λq=>q.fr t λc q _ e=>nT (e ▸ q)
 ·subst c;refine bF ?_;have e1:Int.tdiv (n:Int) 8=((n / 8:Nat):Int):=rfl;have e2:Int.tmod (n:Int) 8=((n % 8:Nat):Int):=rfl;have KW:sb.n=n / 8+1:=by rw[o.n,eL,hl]
  obtain ⟨bb,tb,ow⟩:∃bb,T bb/\dX h sb bb (bv bits) Y8:=by
   rcases o with ⟨rfl,_⟩ | q
   ·simp[Sl.nil] at KW
   ·exact q
  have hb:=(bits.getD (n / 8) 0).toNat_lt;have hp:2 ^ (n % 8) < 2 ^ 8:=Nat.pow_lt_pow_right aL (Nat.mod_lt _ aL);have hg:bits[n / 8]? = some (bits.getD (n / 8) 0):=by rw[List.getD_eq_getElem?_getD];simp[hl]
  refine BV.qU k (BV.pH k (mM aL ?_));rw[e1];refine aP ag ag (ow.sR ag ag (ow.ld (i:=n / 8) (x:=((bits.getD (n / 8) 0).toNat:Int)) ag (by unfold bv;rw[List.getElem?_map,hg];rfl) ?_))
  refine BV.pH k (mM aL ?_);rw[e2];refine yH (fY ag ?_);have em:min (Int.toNat ((n % 8:Nat):Int)) (IntKind.bits .u8)=n % 8:=by
   rw[Int.toNat_natCast];have:=Nat.mod_lt n (show 8 > 0 by decide);show min (n % 8) 8=_;omega
  rw[em];have es:(1:Int)*2 ^ (n % 8)=((2 ^ (n % 8):Nat):Int):=by rw[Int.one_mul];norm_cast
  rw[es];refine lT rfl hp (yH ?_);rw[V5 _ _ hb hp];refine ow.sR ag ag ?_;have ei:(((n / 8:Nat):Int)).toNat=n / 8:=Int.toNat_natCast _;have fO:(bits.getD (n / 8) 0).toNat ||| 2 ^ (n % 8) < 2 ^ 8:=Nat.or_lt_two_pow hb hp;refine Os.KZ (T:=T) (.inr ⟨bb,tb,ow⟩) ag ⟨bb,ow.1,by rw[ei,KW];simp⟩ rfl λh1 t1 o1 q1=>Rx (t1.aK k nT) hn λh2 o2 k2 => ?_
  have t2:Tn (·=b) h1 h2:=o2.fr;refine hk h2 ((t1.mono λd hd _=>.inr hd).trans (t2.mono λd hd _=>.inl hd)) k2 ?_ λq=>(q1 q).fr t2 λc q _ e=>nT (e ▸ q);have e3:(bv bits).set (sb.n - 1) (.int .u8 (((bits.getD (n / 8) 0).toNat ||| 2 ^ (n % 8):Nat):Int))=bv (kX bits n):=by
   rw[KW,Nat.add_sub_cancel];simp only[bv,kX,List.map_set];rw[UInt8.toNat_ofNat',Nat.mod_eq_of_lt fO]
  rw[e3] at o1;exact o1.fr t2 λc q _ e=>nT (e ▸ q)
theorem abQ {aq:Bool} {K:Int->HP} (B:iQ T h b ty f sf sn sb r ex) (hT:∀c,T c->c < h.size) (p:4096<=r.rows->K 3 h)
  (H:r.rows < 4096->∀mg h',Tn (λc=>c=b\/T c) h h'->iQ (Or T h) h' b ty f sf sn mg (Rb.row aq r) ex->(∀{F:Sl} {G:List Value},Old T h sb F G Y8->Old (Or T h) h' mg F G Y8)->K 0 h') :
  jB (some ⟨b,0,none⟩) aq h K Kp:=by
 have bl:=B.lt;have hl:=B.len;have nl:=B.nl;refine jB.of ?_;refine bF ?_;refine BV.pH B.k (aA (λc=>p ?_) λc => ?_)
 ·have c:=ay c;omega
 ·have c:=ay c;have s:r.rows < 4096:=ag;refine BV.pH B.k (mM aL ?_);rw[show Int.tmod (r.rows:Int) 8=((r.rows % 8:Nat):Int) from rfl];refine yH (aA (λl => ?_) λl => ?_)
  ·have l:=ay l;have j:r.rows % 8=0:=ag;have U:sb.n=r.rows / 8:=by rw[B.o.n,eL,hl];omega
   refine BV.qU B.k (az λW J e1 a Q _=>(B.o.gr a).ap rfl rfl (iB Q rfl) ag ag λE R D O L => ?_);have g:¬Or T J b:=λq=>q.elim B.nT λq=>by have:=a.1;omega
   refine BV.st9 (D.aK (B.k.aj a) B.nT) λI N P => ?_;have v:Tn (·=b) R I:=N.fr;have C:Os (Or T J) I E (bv (r.bits++[0])) Y8:=by
    rw[OM];exact O.fr v λc q _ e=>g (e ▸ q)
   refine Ry P C g (by simp[hl];omega) s nl λA t z y x=>H s E A ?_ ⟨?_,?_,?_,?_,?_,?_⟩ λq => ?_
   ·refine ((Tn.aT a).trans (D.mono λd i _=>.inr i)).trans' ((v.mono λd i _=>.inl i).trans t) λd i V => ?_;rcases i with q | q | q
    ·exact .inl q
    ·exact .inr q
    ·have:=a.1;omega
   ·simp only[Rb.row];exact z
   ·simp only[Rb.row,if_pos j];exact y.mono λc q=>q.imp id λq=>by have:=a.1;omega
   ·exact λq=>q.elim B.nT λq=>by omega
   ·simp only[Rb.row,if_pos j];split <;> simp[xj,hl] <;> omega
   ·simp only[Rb.row];split <;> omega
   ·show r.rows+1<=4096;omega
   ·have M:=L (q.fr (S:=No) (Tn.aT a) λ_ _ _=>id);exact (x (M.fr v λc q _ e=>g (e ▸ q))).mono λc q=>q.imp id λq=>by have:=a.1;omega
  ·have l:=ay l;have j:¬r.rows % 8=0:=ag;refine Ry B.k B.o B.nT ag s nl λA t z y x=>H s sb A t ⟨?_,?_,?_,?_,?_,?_⟩ λq=>(x q).mono λc q=>.inl q
   ·simp only[Rb.row];exact z
   ·simp only[Rb.row,if_neg j];exact y.mono λc q=>.inl q
   ·exact λq=>q.elim B.nT λq=>by omega
   ·simp only[Rb.row,if_neg j];split <;> simp[xj,hl] <;> omega
   ·simp only[Rb.row];split <;> omega
   ·show r.rows+1<=4096;omega
theorem YI {x:Int} {n:Nat} {K:Int->HP} (B:iQ T h b ty f sf sn sb r ex) (i:x=n) (a:r.aW+n < 2 ^ 62)
  (j:∀h',aM b h h'->iQ T h' b ty f sf sn sb { r with aW:=r.aW+n } ex->K (if 4194304 < r.aW+n then 3 else 0) h'):iM (some ⟨b,0,none⟩) x h K Kp:=by
 subst i;refine iM.of ?_;refine bF ?_;refine BV.M9 B.k (aP ag ag (BV.aar (m:=r.aW+n) B.k λa d g=>BV.M9 g ?_));have l:iQ T a b ty f sf sn sb { r with aW:=r.aW+n } ex:=⟨g,B.o.fr d.fr λc q _ e=>B.nT (e ▸ q),B.nT,B.len,B.nl,B.rl⟩
 have:=j a d l;refine aA (λc => ?_) λc => ?_
 ·have c:=ay c;rw[if_pos ag] at this;exact this
 ·have c:=ay c;rw[if_neg ag] at this;exact this
theorem aj6 {K:Int->HP} (B:iQ T h b ty f sf sn sb r ex) (a:K (r.rows:Int) h):JL (some ⟨b,0,none⟩) h K Kp:=by
 refine JL.of ?_;refine bF ?_;exact BV.pH B.k a
theorem ajO {K:Int->HP} (B:iQ T h b ty f sf sn sb r ex) (a:K (r.aW:Int) h):JI (some ⟨b,0,none⟩) h K Kp:=by
 refine JI.of ?_;refine bF ?_;exact BV.M9 B.k a
end
section
variable {h:Hp} {b:Nat} {ty:TypeId} {f:ai} {sf sn sb mg:Sl} {n u w n' u' w':Nat} {ex:List Value}
theorem BV.all {K:ByteArray->Bool->Int->Int->Int->Int->Sl->Int->Int->Sl->Int->Bool->Int->ByteArray->Sl->Bool->Prop} (k:aB h b (bt f sf sn sb n u w ex).toArray ty)
  (a:K f.name f.aq f.k f.w f.id f.ix sf n u sb w f.bO.aq f.bO.num (bs f.bO.text) sn f.small):fZ h ⟨b,0,none⟩ K:=by
 unfold fZ;simp only[aI,Nat.zero_add];refine an k (by simp[bt]) (an k (by simp[bt]) (an k (by simp[bt]) (an k (by simp[bt]) (an k (by simp[bt]) (an k (by simp[bt]) (an k (by simp[bt]) (an k (by simp[bt]) (an k (by simp[bt]) (an k (by simp[bt]) (an k (by simp[bt]) (an k (by simp[bt]) (an k (by simp[bt]) (an k (by simp[bt]) (an k (by simp[bt]) (an k (by simp[bt]) a)))))))))))))))
theorem BV.put {K:HP} (k:aB h b (bt f sf sn sb n u w ex).toArray ty) (g:∀h',aM b h h'->aB h' b (bt f sf sn mg n' u' w' ex).toArray ty->K h') :
  mH h ⟨b,0,none⟩ f.name f.aq f.k f.w f.id f.ix sf n' u' mg w' f.bO.aq f.bO.num (bs f.bO.text) sn f.small K:=by
 refine mH.l (rL _ k (by simp[bt]) (by simp[one,Sl.v]) λh' cs d c m a=>g h' d ?_)
 have:cs=(bt f sf sn mg n' u' w' ex).toArray:=by
  apply Array.ext_getElem?;intro i;rw[a i,List.getElem?_toArray,List.getElem?_toArray];have e:∀n u w sb,bt f sf sn sb n u w ex=bt f sf sn sb n u w []++ex:=λ_ _ _ _=>rfl;rw[e,e n' u' w' mg];have l:∀n u w sb,(bt f sf sn sb n u w []).length=16:=λ_ _ _ _=>rfl
  by_cases j:i < 16
  ·rw[if_pos cC,List.getElem?_append_left (by rw[l];exact j)]
   simp[bt]
  ·rw[if_neg cC,List.getElem?_append_right (by rw[l];omega),List.getElem?_append_right (by rw[l];omega),l,l]
 exact this ▸ c
end
structure lX (M:Nat->Prop) (h:Hp) (b:Nat) (F:Value) (f:ai) (sf sn me:Sl) (r0:Rb):Prop where
 m:∃b3 b1 b4 x,M b3/\M b1/\M b4/\F=.func (.func CU) #[] #[.pointer (some ⟨b3,0,none⟩), .pointer (some ⟨b1,0,none⟩), .pointer (some ⟨b4,0,none⟩)] /\
  aB h b3 (bt f sf sn me r0.rows r0.bu r0.aW []).toArray GJ/\aB h b1 #[.pointer (some ⟨b,0,none⟩)] Ww/\aB h b4 #[.int .u8 x] Y8/\(0 < me.n->(bv r0.bits)[me.n - 1]? = some (.int .u8 x))
section
variable {T M S:Nat->Prop} {h h':Hp} {b:Nat} {ty:TypeId} {f:ai} {sf sn sb me:Sl} {r r0:Rb} {ex:List Value} {Kp:PK} {F:Value}
theorem lX.fr (m:lX M h b F f sf sn me r0) (t:Tn S h h') (g:∀c,M c->c < h.size->¬S c):lX M h' b F f sf sn me r0:=by
 obtain ⟨q,s,p,x,d,i,a,e,k,l,j,o⟩:=m;exact ⟨q,s,p,x,d,i,a,e,t.aK k (g _ d k.lt),t.aK l (g _ i l.lt),t.aK j (g _ a j.lt),o⟩
theorem lX.mono {D:Nat->Prop} (m:lX M h b F f sf sn me r0) (g:∀c,M c->D c):lX D h b F f sf sn me r0:=by
 obtain ⟨k,l,j,x,d,i,a,e⟩:=m;exact ⟨k,l,j,x,g _ d,g _ i,g _ a,e⟩
theorem adR {K:Value->HP} (B:iQ T h b ty f sf sn sb r ex) (I:∀F h',ah h h'->one F=true->lX (Nw h) h' b F f sf sn sb r->K F h'):mL (some ⟨b,0,none⟩) h K Kp:=by
 refine mL.of (az λj X e1 C z _=>an z rfl ?_);have hl:=B.len;have rl:=B.rl;have Z:sb.n=r.bits.length:=by rw[B.o.n,eL]
 refine bF ?_;have Y:=B.fr (S:=No) (Tn.aT C) id λ_ _ _=>id;refine BV.all Y.k (az λi h2 e2 O p _=>mH.b p rfl λJ Q p=>az λg h4 e4 L U _=>cE U aS rfl λs P H => ?_);have s1:=C.1;have s2:=O.1;have s4:=L.1;have b':=z.lt;have a':=p.lt;have N:ah X J:=aM.aj O Q ag;have A:ah J s:=aM.aj L P ag;have G:ah h s:=ah.trans (ah.trans C N) A;have a:=(z.aj N).aj A;have l:=p.aj A;have t:=B.fr (S:=No) (Tn.aT G) id λ_ _ _=>id;refine an a rfl ?_;refine bF ?_;have d:one (.func (.func CU) #[] #[(.pointer (some ⟨i,0,none⟩)),(.pointer (some ⟨j,0,none⟩)),(.pointer (some ⟨g,0,none⟩))])=true:=rfl;refine BV.qU t.k (aA (λc => ?_) λc => ?_)
 ·have c:=ay c;refine an a rfl ?_;refine bF ?_;refine BV.qU t.k (an a rfl ?_);refine bF ?_;refine BV.qU t.k (aP ag ag ?_);obtain ⟨D,tb,E⟩:∃D,T D/\dX s sb D (bv r.bits) Y8:=by
   rcases t.o with ⟨e,_⟩ | q
   ·rw[e] at c;simp[Sl.nil] at c
   ·exact q
  obtain ⟨y,V⟩:∃y,r.bits[sb.n - 1]? = some y:=⟨_,List.getElem?_eq_getElem ag⟩;have m:(bv r.bits)[sb.n - 1]? = some (.int .u8 (y.toNat:Int)):=by unfold bv;rw[List.getElem?_map,V];rfl
  refine E.sR ag ag (E.ld ag (x:=(y.toNat:Int)) (by rw[<-m];congr 1;omega) (cE H aS rfl λW v R=>I _ W (aM.aj G v ag) d ⟨i,j,g,(y.toNat:Int),?_,?_,?_,rfl,v.aK l ag,v.aK a ag,by simpa using R,λ_=>m⟩))
  ·show h.size<=i;omega
  ·show h.size<=j;omega
  ·show h.size<=g;omega
 ·have c:=ay c;refine I _ s G d ⟨i,j,g,0,?_,?_,?_,rfl,l,a,by simpa using H,λq=>by omega⟩
  ·show h.size<=i;omega
  ·show h.size<=j;omega
  ·show h.size<=g;omega
theorem ajB {c0 p q:Addr} {K:HP} (H:JH c0 p q h K Kp):bJ Tryz.prog (.func (.func CU) #[] #[.pointer (some c0), .pointer (some p), .pointer (some q)]) [] h (λr a=>r=.tuple #[]/\K a) Kp:=by
 unfold bJ;exact cast aF H
theorem akh {K:HP} (m:lX M h b F f sf sn me r0) (k:aB h b (bt f sf sn sb r.rows r.bu r.aW ex).toArray ty) (o:Old T h sb me (bv r0.bits) Y8) (s:¬T b) (B:∀c,M c->¬T c/\c≠b)
  (G:r0.bits.length=(r0.rows+7) / 8) (V:r0.bu<=r0.rows) (U:r0.rows<=4096)
  (D:∀h',Tn (λc=>c=b\/T c) h h'->iQ T h' b ty f sf sn me r0 ex->K h'):bJ Tryz.prog F [] h (λr G=>r=.tuple #[]/\K G) Kp:=by
 obtain ⟨X,Y,W,x,R,J,I,rfl,N,C,L,O⟩:=m;refine ajB (JH.of (an C rfl (fZ.b N ?_)));refine bF ?_;have Q:me.n=r0.bits.length:=by
  rcases o.old with ⟨e,P⟩ | ⟨_,_,_,_,e,_⟩
  ·have:=congrArg List.length P;rw[eL] at this;rw[e,this];rfl
  ·rw[e,eL]
 refine BV.put k λi y j => ?_;have t:Tn (·=b) h i:=y.fr;have g:=y.aK C (B _ J).2;have v:Old T i sb me (bv r0.bits) Y8:=o.fr t λc q _ e=>s (e ▸ q);refine an g rfl ?_;refine bF ?_;refine BV.qU j (aA (λc => ?_) λc => ?_)
 ·have c:=ay c;refine an g rfl ?_;refine bF ?_;refine BV.qU j (an g rfl ?_);refine bF ?_;refine BV.qU j (aP ag ag (an (y.aK L (B _ I).2) rfl ?_));obtain ⟨p,E⟩:∃p,me.a=some ⟨p,0,none⟩:=by
   rcases v.old with ⟨e,_⟩ | ⟨p,_,_,e,_⟩
   ·rw[e] at c;simp[Sl.nil] at c
   ·exact ⟨p,e⟩
  unfold Ix;rw[E];refine ⟨by omega,by omega,?_⟩
  rw[aI];refine v.back ag (O ag) ⟨p,E,?_⟩ rfl λz A H=>D z ((t.mono λd l _=>.inl l).trans (A.mono λd l _=>.inr l)) ⟨A.aK j s,H,s,by assumption,by assumption,by assumption⟩
  congr 1;omega
 ·have c:=ay c;exact D i (t.mono λd l _=>.inl l) ⟨j,v.aki ag,s,by assumption,by assumption,by assumption⟩
end
section
variable {T:Nat->Prop} {h h0:Hp} {b:Nat} {ty:TypeId} {f:ai} {sf sn sb:Sl} {r:Rb} {ex:List Value} {Kp:PK}
theorem lO {s:Sl} {K:Int->Int->Int->Sl->Sl->Sl->HP} (B:iQ T h b ty f sf sn sb r ex) (i:∀a,ah h a->K r.rows 0 r.bu s Sl.nil Sl.nil a):dY (some ⟨b,0,none⟩) s h K Kp:=by
 refine dY.of (az λm l e1 c g _ => ?_);refine bF ?_;have k:=B.k.aj c;refine BV.pH k (BV.M8 k (bw.b g rfl λj d e=>bq.b e (i j (aM.aj c d ag))))
theorem GG {s:Sl} {l:List UInt8} {K:Sl->HP} (o:Os T h s (bv l) Y8) (hl:l.length<=70000) (i:∀u g,ah h g->cV (Nw h) g u (bv l)->K u g):tZ s h K Kp:=by
 refine tZ.of (aA (λc => ?_) λc => ?_)
 ·rcases o with ⟨rfl,e⟩ | ⟨b,_,o⟩
  ·rw[e] at i;exact i Sl.nil h (ah.refl h) ⟨Sv.nil h,λq=>absurd rfl q⟩
  ·rw[o.1] at c;cases c
 ·refine az λy x e1 p k _ => ?_;have v:=(o.gr p).sv;have m:=v.1;rw[eL] at m;refine (cN.start k (Nat.le_refl y)).ap (by have:=k.lt;omega) rfl (new:=(bv l).map λv=>[v]) (by simp[eL,m]) (Sk _) (ajP l) (by rw[MQ];exact v.ES v.na) cC cC λt g f _ w=>i t g ?_ (by subst e1;exact cN.iS w)
  exact ((Tn.aT p:Tn No h x).trans' f λd j z=>by
   obtain ⟨a,n,j⟩:=j;simp only[Option.some.injEq] at n;subst n;simp only at j;omega).aj
theorem pR {K:Sl->HP} (B:iQ T h b ty f sf sn sb r ex) (a:∀u d,ah h d->cV (Nw h) d u (bv (bZ r))->K u d):mK (some ⟨b,0,none⟩) h K Kp:=by
 have hl:=B.len;have g:=B.rl;refine mK.of ?_;refine bF ?_;refine BV.M8 B.k (aA (λc => ?_) λc => ?_)
 ·have c:=ay c;have e:bZ r=[]:=by unfold bZ;rw[if_pos ag]
  rw[e] at a;exact a Sl.nil h (ah.refl h) ⟨Sv.nil h,λq=>absurd rfl q⟩
 ·have c:=ay c;have e:bZ r=r.bits:=by unfold bZ;rw[if_neg ag]
  rw[e] at a;exact BV.qU B.k (GG B.o ag a)
structure Gb (h0 h:Hp) (t:Sl) (out:List UInt8):Prop where
 g:ah h0 h
 o:cN h0.size 1 h t ((bv out).map λv=>[v]) Y8
theorem Gb.n {t:Sl} {out:List UInt8} (x:Gb h0 h t out):t.n=out.length:=by rw[x.o.n];simp[bv]
theorem Gb.Wj {t:Sl} {out:List UInt8} {y:UInt8} {v:Int} {K:Sl->HP} (x:Gb h0 h t out) (q:v=y.toNat) (hl:out.length<=1000000) (s:∀e j,Gb h0 j e (out++[y])->K e j) :
  aD h #[.int .u8 v] Y8 λa i=>Ap i Y8 #[(.int .u8 0)] 1 1 t 1 (rd i (some a) (1*1)) λe w=>K e w:=by
 subst q;have A:=x.n;have B:=x.g.1;refine az λC i e1 k p _=>(x.o.aj k).ap (by have:=k.1;omega) rfl (new:=[[.int .u8 (y.toNat:Int)]]) rfl (λr c=>by simp at c;subst c;rfl) (λr c=>by simp at c;subst c;simp[one]) (iB p rfl) ag ag λl j f _ m=>s l j ⟨?_,by simpa[bv] using m⟩
 exact ((Tn.aT (ah.trans x.g k):Tn No h0 i).trans' f λd u z=>by have:=((x.o.aj k).at u).1;omega).aj
theorem VX {x i:Nat} {X:Int->Prop} (hi:i < 8) (hk:X ((UInt8.ofNat (x / 2 ^ (8*i))).toNat:Int)) :
  Wr .i64 ((8:Int)*(i:Int)) λt27=>Nn t27<|Lt (Int.fdiv (x:Int) (2 ^ (min (Int.toNat t27) (IntKind.bits .u64)))) λt28=>Wr .u8 t28 X:=by
 refine aP ag ag (fY ag (yH ?_));have e1:min (Int.toNat ((8:Int)*(i:Int))) (IntKind.bits .u64)=8*i:=by
  have:Int.toNat ((8:Int)*(i:Int))=8*i:=ag;rw[this];show min (8*i) 64=_;omega
 rw[e1];have e2:Int.fdiv (x:Int) (2 ^ (8*i))=((x / 2 ^ (8*i):Nat):Int):=by
  rw[Int.fdiv_eq_ediv_of_nonneg _ (Int.le_of_lt (Int.pow_pos aL))];norm_cast
 rw[e2];refine GL ?_;rw[IntKind.wrap_u8];rw[UInt8.toNat_ofNat'] at hk;have e3:((x / 2 ^ (8*i):Nat):Int) % 256=((x / 2 ^ (8*i) % 2 ^ 8:Nat):Int):=by norm_cast
 rw[e3];exact hk
theorem Td (x n:Nat):jN x (n+1)=jN x n++[UInt8.ofNat (x / 2 ^ (8*n))]:=by simp[jN,List.range_succ]
end
section
variable {h h0:Hp} {Kp:PK}
theorem Gb.start {c:Int} {K:Sl->HP} (h0:0<=c) (f:c<=1000000) (d:∀t a,Gb h a t []->K t a):bI h Y8 #[(.int .u8 0)] 1 1 0 c K:=by
 refine ⟨Int.le_refl _,h0,by omega,by omega,d _ _ ⟨ah.push h _,λr b=>by simp[bv] at b,by simp[bv], .inr ⟨h.size,Nat.le_refl _,by simp,rfl,by simp[bv],zs #[.int .u8 0] (c.toNat*1),by simp[aB],by simp,by simp[zs],λi e=>by simp at e⟩⟩⟩
theorem Gb.iS {t:Sl} {out:List UInt8} (x:Gb h0 h t out):cV (Nw h0) h t (bv out):=cN.iS x.o
theorem Tj {l:List Nat} {i m n:Nat} (a:l[i]? = some m):laidB (l.take (i+1)) n=laidB (l.take i) n++jN m n:=by
 simp[laidB,List.take_add_one,a]
theorem Tk (l:List Nat) (n:Nat):(laidB l n).length=l.length*n:=by
 induction l with
 | nil=>simp[laidB]
 | cons x b a=>simp only[laidB,List.flatMap_cons,List.length_append,List.length_cons] at a ⊢;rw[a,sQ,Nat.succ_mul];omega
theorem qV {D:Nat->Prop} {s:Sl} {l:List Nat} {w:Nat} {K:Sl->HP} (o:Os D h s (l.map λx:Nat=>.int .i64 (x:Int)) Y6) (hl:l.length<=70000) (A:w<=8) (C:∀x∈l,x < 2 ^ 63)
  (G:∀t m,Gb h m t (laidB l w)->K t m):kS s (w:Int) h K Kp:=by
 have E:=o.n;rw[List.length_map] at E;have F:(w:Int)*(s.n:Int)=((w*s.n:Nat):Int):=by norm_cast
 have I:w*s.n<=8*70000:=Nat.mul_le_mul A ag;refine kS.of ?_;rw[F];refine aP ag ag (Gb.start ag ag λM P a=>Hz.bB (λt x f=>∃i:Nat,x=i/\i<=l.length/\Gb h f t (laidB (l.take i) w)) (λ_ x _=>l.length - x.toNat) ⟨0,rfl,by omega,by simpa[laidB] using a⟩ ?_)
 rintro t x f ⟨i,rfl,O,a⟩ R hN;refine aA (λc => ?_) λc => ?_
 ·have c:=ay c;have d:i < l.length:=ag;have j:l[i]? = some l[i]:=List.getElem?_eq_getElem d;have r:=C _ (List.getElem_mem d);generalize l[i]=y at j r;obtain ⟨p,L,z⟩:∃p,D p/\dX f s p (l.map λx:Nat=>.int .i64 (x:Int)) Y6:=by
   rcases o.gr a.g with ⟨e,_⟩ | q
   ·rw[e] at c;simp[Sl.nil] at c;omega
   ·exact q
  refine z.sR ag ag (z.ld ag (x:=(y:Int)) (by simp[j]) ?_)
  have H:(laidB (l.take i) w).length<=8*70000:=by rw[Tk,List.length_take];exact Nat.le_trans (Nat.mul_le_mul (Nat.min_le_left _ _) A) ag
  refine Hy.bB (λt x B=>∃k:Nat,x=k/\k<=w/\Gb h B t (laidB (l.take i) w++jN y k)) (λ_ x _=>w - x.toNat) ⟨0,rfl,by omega,by simpa[jN] using a⟩ ?_
  rintro t x B ⟨k,rfl,J,a⟩ Q u;refine aA (λb => ?_) λb => ?_
  ·have b:=ay b;refine lT rfl (by show y < 2 ^ 64;omega) (VX ag (a.Wj rfl (by rw[List.length_append,sQ];omega) λN m v=>aP ag ag (u _ _ _ ⟨k+1,by omega,by omega,by rw[Td,<-List.append_assoc];exact v⟩ ag)))
  ·have b:=ay b;obtain rfl:k=w:=ag;exact aP ag ag (hN _ _ _ ⟨i+1,by omega,by omega,by rw[Tj j];exact a⟩ ag)
 ·have c:=ay c;obtain rfl:i=l.length:=ag;rw[List.take_length] at a;exact G t f a
theorem aer {D:Nat->Prop} {s:Sl} {l:List Nat} {w:Nat} {K:Sl->HP} (o:Os D h s (l.map λx:Nat=>.int .u64 (x:Int)) kI) (hl:l.length<=70000) (A:w<=8) (C:∀x∈l,x < 2 ^ 64)
  (G:∀t m,Gb h m t (laidB l w)->K t m):C1 s (w:Int) h K Kp:=by
 have E:=o.n;rw[List.length_map] at E;have F:(w:Int)*(s.n:Int)=((w*s.n:Nat):Int):=by norm_cast
 have I:w*s.n<=8*70000:=Nat.mul_le_mul A ag;refine C1.of ?_;rw[F];refine aP ag ag (Gb.start ag ag λM P a=>G9.bB (λt x f=>∃i:Nat,x=i/\i<=l.length/\Gb h f t (laidB (l.take i) w)) (λ_ x _=>l.length - x.toNat) ⟨0,rfl,by omega,by simpa[laidB] using a⟩ ?_)
 rintro t x f ⟨i,rfl,O,a⟩ R hN;refine aA (λc => ?_) λc => ?_
 ·have c:=ay c;have d:i < l.length:=ag;have j:l[i]? = some l[i]:=List.getElem?_eq_getElem d;have r:=C _ (List.getElem_mem d);generalize l[i]=y at j r;obtain ⟨p,L,z⟩:∃p,D p/\dX f s p (l.map λx:Nat=>.int .u64 (x:Int)) kI:=by
   rcases o.gr a.g with ⟨e,_⟩ | q
   ·rw[e] at c;simp[Sl.nil] at c;omega
   ·exact q
  refine z.sR ag ag (z.ld ag (x:=(y:Int)) (by simp[j]) ?_)
  have H:(laidB (l.take i) w).length<=8*70000:=by rw[Tk,List.length_take];exact Nat.le_trans (Nat.mul_le_mul (Nat.min_le_left _ _) A) ag
  refine GZ.bB (λt x B=>∃k:Nat,x=k/\k<=w/\Gb h B t (laidB (l.take i) w++jN y k)) (λ_ x _=>w - x.toNat) ⟨0,rfl,by omega,by simpa[jN] using a⟩ ?_
  rintro t x B ⟨k,rfl,J,a⟩ Q u;refine aA (λb => ?_) λb => ?_
  ·have b:=ay b;refine VX ag (a.Wj rfl (by rw[List.length_append,sQ];omega) λN m v=>aP ag ag (u _ _ _ ⟨k+1,by omega,by omega,by rw[Td,<-List.append_assoc];exact v⟩ ag))
  ·have b:=ay b;obtain rfl:k=w:=ag;exact aP ag ag (hN _ _ _ ⟨i+1,by omega,by omega,by rw[Tj j];exact a⟩ ag)
 ·have c:=ay c;obtain rfl:i=l.length:=ag;rw[List.take_length] at a;exact G t f a
end
abbrev iZ (v:Value) (x0:Bool) (x1:Int) (x2:ByteArray) (x3:Sl) (h:Hp) (K:Int->HP) (Kp:PK):Prop :=
  cL Tryz.prog v "colonnade/build.take" [.agg #[.bool x0, .int .i64 x1, .string x2,Sl.v x3]] h (λr h'=>∃t:Int,r=.int .i64 t/\K t h') Kp
abbrev iO (v:Value) (h:Hp) (K:Int->HP) (Kp:PK):Prop:=cL Tryz.prog v "colonnade/build.zero" [] h (λr h'=>∃t:Int,r=.int .i64 t/\K t h') Kp
abbrev gE (v:Value) (h:Hp) (K:Value->HP) (Kp:PK):Prop:=cL Tryz.prog v "colonnade/build.mark" [] h (λr h'=>∃t:Value,r=t/\K t h') Kp
abbrev Xw (v:Value) (h:Hp) (K:Int->HP) (Kp:PK):Prop:=cL Tryz.prog v "colonnade/build.count" [] h (λr h'=>∃t:Int,r=.int .i64 t/\K t h') Kp
abbrev Xv (v:Value) (h:Hp) (K:Int->HP) (Kp:PK):Prop:=cL Tryz.prog v "colonnade/build.weight" [] h (λr h'=>∃t:Int,r=.int .i64 t/\K t h') Kp
abbrev iP (v:Value) (h:Hp) (K:Int->Int->Int->Sl->Sl->Sl->HP) (Kp:PK):Prop :=
  cL Tryz.prog v "colonnade/build.done" [] h (λr h'=>∃t0:Int,∃t1:Int,∃t2:Int,∃t3:Sl,∃t4:Sl,∃t5:Sl,r=.agg #[.int .i64 t0, .int .i64 t1, .int .i64 t2,Sl.v t3,Sl.v t4,Sl.v t5]/\K t0 t1 t2 t3 t4 t5 h') Kp
theorem dV {e:TypeId} {g:FuncId} {name:String} {v:Value} {C:List Value} {h:Hp} {K:Value->HP} {Kp:PK} (d:nB Tryz.prog e name=some (g,true)) (c:(uK Tryz.prog e true && fC Tryz.prog g)=true)
  (a:cr Tryz.prog g (v::C) h K Kp):cL Tryz.prog (.iface e v) name C h K Kp:=by
 unfold cL;simp only[d,c];exact a
theorem Vj {e:TypeId} {g:FuncId} {name:String} {b:Nat} {C:List Value} {h:Hp} {K:Value->HP} {Kp:PK} (f:nB Tryz.prog e name=none) (d:xJ Tryz.prog e name=some (g,0)) (c:fC Tryz.prog g=true)
  (a:cr Tryz.prog g (.pointer (some ⟨b,0,none⟩)::C) h K Kp):cL Tryz.prog (.iface e (.pointer (some ⟨b,0,none⟩))) name C h K Kp:=by
 unfold cL;simp only[f,d,c,EX,aI,Nat.add_zero];exact a
section
variable {b:Nat} {h:Hp} {Kp:PK}
theorem ah9 {B:Bool} {x:Int} {a:ByteArray} {s:Sl} {K:Int->HP} (H:zW (some ⟨b,0,none⟩) B x a s h K Kp):iZ (.iface jW (.pointer (some ⟨b,0,none⟩))) B x a s h K Kp:=dV (g:=al2) aF aF H
theorem ah0 {K:Int->HP} (H:Da (some ⟨b,0,none⟩) h K Kp):iO (.iface jW (.pointer (some ⟨b,0,none⟩))) h K Kp:=dV (g:=al0) aF aF H
theorem aij {K:Value->HP} (H:JJ (some ⟨b,0,none⟩) h K Kp):gE (.iface jW (.pointer (some ⟨b,0,none⟩))) h K Kp:=dV (g:=al3) aF aF H
theorem ais {K:Int->Int->Int->Sl->Sl->Sl->HP} (H:JK (some ⟨b,0,none⟩) h K Kp):iP (.iface jW (.pointer (some ⟨b,0,none⟩))) h K Kp:=dV (g:=al4) aF aF H
theorem ah4 {B:Bool} {x:Int} {a:ByteArray} {s:Sl} {K:Int->HP} (H:zV (some ⟨b,0,none⟩) B x a s h K Kp):iZ (.iface jV (.pointer (some ⟨b,0,none⟩))) B x a s h K Kp:=dV (g:=alX) aF aF H
theorem ahV {K:Int->HP} (H:C9 (some ⟨b,0,none⟩) h K Kp):iO (.iface jV (.pointer (some ⟨b,0,none⟩))) h K Kp:=dV (g:=alW) aF aF H
theorem aid {K:Value->HP} (H:JF (some ⟨b,0,none⟩) h K Kp):gE (.iface jV (.pointer (some ⟨b,0,none⟩))) h K Kp:=dV (g:=alY) aF aF H
theorem ain {K:Int->Int->Int->Sl->Sl->Sl->HP} (H:JG (some ⟨b,0,none⟩) h K Kp):iP (.iface jV (.pointer (some ⟨b,0,none⟩))) h K Kp:=dV (g:=alZ) aF aF H
theorem aia {B:Bool} {x:Int} {a:ByteArray} {s:Sl} {K:Int->HP} (H:zU (some ⟨b,0,none⟩) B x a s h K Kp):iZ (.iface jU (.pointer (some ⟨b,0,none⟩))) B x a s h K Kp:=dV (g:=alT) aF aF H
theorem ah1 {K:Int->HP} (H:C8 (some ⟨b,0,none⟩) h K Kp):iO (.iface jU (.pointer (some ⟨b,0,none⟩))) h K Kp:=dV (g:=alS) aF aF H
theorem aik {K:Value->HP} (H:JC (some ⟨b,0,none⟩) h K Kp):gE (.iface jU (.pointer (some ⟨b,0,none⟩))) h K Kp:=dV (g:=alU) aF aF H
theorem ait {K:Int->Int->Int->Sl->Sl->Sl->HP} (H:JD (some ⟨b,0,none⟩) h K Kp):iP (.iface jU (.pointer (some ⟨b,0,none⟩))) h K Kp:=dV (g:=alV) aF aF H
theorem ah6 {B:Bool} {x:Int} {a:ByteArray} {s:Sl} {K:Int->HP} (H:zT (some ⟨b,0,none⟩) B x a s h K Kp):iZ (.iface jy (.pointer (some ⟨b,0,none⟩))) B x a s h K Kp:=dV (g:=alP) aF aF H
theorem ahX {K:Int->HP} (H:C7 (some ⟨b,0,none⟩) h K Kp):iO (.iface jy (.pointer (some ⟨b,0,none⟩))) h K Kp:=dV (g:=alO) aF aF H
theorem aif {K:Value->HP} (H:Jz (some ⟨b,0,none⟩) h K Kp):gE (.iface jy (.pointer (some ⟨b,0,none⟩))) h K Kp:=dV (g:=alQ) aF aF H
theorem aip {K:Int->Int->Int->Sl->Sl->Sl->HP} (H:JA (some ⟨b,0,none⟩) h K Kp):iP (.iface jy (.pointer (some ⟨b,0,none⟩))) h K Kp:=dV (g:=alR) aF aF H
theorem ah5 {B:Bool} {x:Int} {a:ByteArray} {s:Sl} {K:Int->HP} (H:zS (some ⟨b,0,none⟩) B x a s h K Kp):iZ (.iface jw (.pointer (some ⟨b,0,none⟩))) B x a s h K Kp:=dV (g:=alL) aF aF H
theorem ahW {K:Int->HP} (H:C6 (some ⟨b,0,none⟩) h K Kp):iO (.iface jw (.pointer (some ⟨b,0,none⟩))) h K Kp:=dV (g:=alK) aF aF H
theorem aie {K:Value->HP} (H:Jv (some ⟨b,0,none⟩) h K Kp):gE (.iface jw (.pointer (some ⟨b,0,none⟩))) h K Kp:=dV (g:=alM) aF aF H
theorem aio {K:Int->Int->Int->Sl->Sl->Sl->HP} (H:Jw (some ⟨b,0,none⟩) h K Kp):iP (.iface jw (.pointer (some ⟨b,0,none⟩))) h K Kp:=dV (g:=alN) aF aF H
theorem aic {B:Bool} {x:Int} {a:ByteArray} {s:Sl} {K:Int->HP} (H:zO (some ⟨b,0,none⟩) B x a s h K Kp):iZ (.iface kH (.pointer (some ⟨b,0,none⟩))) B x a s h K Kp:=dV (g:=alH) aF aF H
theorem ah3 {K:Int->HP} (H:C5 (some ⟨b,0,none⟩) h K Kp):iO (.iface kH (.pointer (some ⟨b,0,none⟩))) h K Kp:=dV (g:=alG) aF aF H
theorem aim {K:Value->HP} (H:Jr (some ⟨b,0,none⟩) h K Kp):gE (.iface kH (.pointer (some ⟨b,0,none⟩))) h K Kp:=dV (g:=alI) aF aF H
theorem aiv {K:Int->Int->Int->Sl->Sl->Sl->HP} (H:Js (some ⟨b,0,none⟩) h K Kp):iP (.iface kH (.pointer (some ⟨b,0,none⟩))) h K Kp:=dV (g:=alJ) aF aF H
theorem aib {B:Bool} {x:Int} {a:ByteArray} {s:Sl} {K:Int->HP} (H:zM (some ⟨b,0,none⟩) B x a s h K Kp):iZ (.iface kG (.pointer (some ⟨b,0,none⟩))) B x a s h K Kp:=dV (g:=alD) aF aF H
theorem ah2 {K:Int->HP} (H:C4 (some ⟨b,0,none⟩) h K Kp):iO (.iface kG (.pointer (some ⟨b,0,none⟩))) h K Kp:=dV (g:=alC) aF aF H
theorem ail {K:Value->HP} (H:Jn (some ⟨b,0,none⟩) h K Kp):gE (.iface kG (.pointer (some ⟨b,0,none⟩))) h K Kp:=dV (g:=alE) aF aF H
theorem aiu {K:Int->Int->Int->Sl->Sl->Sl->HP} (H:Jo (some ⟨b,0,none⟩) h K Kp):iP (.iface kG (.pointer (some ⟨b,0,none⟩))) h K Kp:=dV (g:=alF) aF aF H
theorem ah7 {B:Bool} {x:Int} {a:ByteArray} {s:Sl} {K:Int->HP} (H:zJ (some ⟨b,0,none⟩) B x a s h K Kp):iZ (.iface jT (.pointer (some ⟨b,0,none⟩))) B x a s h K Kp:=dV (g:=alz) aF aF H
theorem ahY {K:Int->HP} (H:C2 (some ⟨b,0,none⟩) h K Kp):iO (.iface jT (.pointer (some ⟨b,0,none⟩))) h K Kp:=dV (g:=aly) aF aF H
theorem aih {K:Value->HP} (H:Jk (some ⟨b,0,none⟩) h K Kp):gE (.iface jT (.pointer (some ⟨b,0,none⟩))) h K Kp:=dV (g:=alA) aF aF H
theorem aiq {K:Int->Int->Int->Sl->Sl->Sl->HP} (H:Jl (some ⟨b,0,none⟩) h K Kp):iP (.iface jT (.pointer (some ⟨b,0,none⟩))) h K Kp:=dV (g:=alB) aF aF H
theorem ah8 {B:Bool} {x:Int} {a:ByteArray} {s:Sl} {K:Int->HP} (H:zI (some ⟨b,0,none⟩) B x a s h K Kp):iZ (.iface kF (.pointer (some ⟨b,0,none⟩))) B x a s h K Kp:=dV (g:=alv) aF aF H
theorem ahZ {K:Int->HP} (H:Jg (some ⟨b,0,none⟩) h K Kp):iO (.iface kF (.pointer (some ⟨b,0,none⟩))) h K Kp:=dV (g:=alu) aF aF H
theorem aii {K:Value->HP} (H:Jh (some ⟨b,0,none⟩) h K Kp):gE (.iface kF (.pointer (some ⟨b,0,none⟩))) h K Kp:=dV (g:=alw) aF aF H
theorem air {K:Int->Int->Int->Sl->Sl->Sl->HP} (H:Ji (some ⟨b,0,none⟩) h K Kp):iP (.iface kF (.pointer (some ⟨b,0,none⟩))) h K Kp:=dV (g:=alx) aF aF H
end
abbrev Tr (T:Nat->Prop) (h h':Hp):Nat->Prop:=λc=>T c\/(h.size<=c/\c < h'.size)
structure iq (T:Nat->Prop) (h:Hp) (b:Nat) (Ls:List (Nat->Prop)):Prop where
 tb:T b
 lt:∀c,T c->c < h.size
 sub:∀L∈Ls,∀c,L c->T c/\c≠b
 ap:Ls.Pairwise λA B=>∀c,A c->¬B c
section
variable {T L:Nat->Prop} {h h':Hp} {b:Nat} {Ls:List (Nat->Prop)}
theorem iq.step (t:iq T h b Ls) (i:Nat) (u:h.size<=h'.size):iq (Tr T h h') h' b (Ls.modify i λA=>Tr A h h'):=by
 refine ⟨.inl t.tb,λc g => ?_,λA s c g => ?_,?_⟩
 ·rcases g with q | q
  ·have:=t.lt c q;omega
  ·exact q.2
 ·obtain ⟨j,m,rfl⟩:=List.getElem_of_mem s;rw[List.getElem_modify] at g;have a:j < Ls.length:=by simpa using m
  split at g
  ·rcases g with q | q
   ·have:=t.sub _ (List.getElem_mem a) c q;exact ⟨.inl this.1,this.2⟩
   ·exact ⟨.inr q,λe=>by have:=t.lt b t.tb;omega⟩
  ·have:=t.sub _ (List.getElem_mem a) c g;exact ⟨.inl this.1,this.2⟩
 ·rw[List.pairwise_iff_getElem];intro j k m r n c;have a:j < Ls.length:=by simpa using m
  have l:k < Ls.length:=by simpa using r
  have d:=List.pairwise_iff_getElem.1 t.ap j k a l n c;have o:=λq=>t.lt c (t.sub _ (List.getElem_mem a) c q).1;have lk:=λq=>t.lt c (t.sub _ (List.getElem_mem l) c q).1;rw[List.getElem_modify,List.getElem_modify];split
  ·rw[if_neg ag];rintro (q | q) p
   ·exact d q p
   ·have:=lk p;omega
  ·split
   ·rintro q (p | p)
    ·exact d q p
    ·have:=o q;omega
   ·exact d
theorem iq.nb (t:iq T h b Ls) {A:Nat->Prop} (d:A∈Ls) {c:Nat} (a:A c):c≠b:=(t.sub A d c a).2
theorem iq.l (t:iq T h b Ls) {A:Nat->Prop} (q:A∈Ls) {c:Nat} (e:A c):c < h.size:=t.lt c (t.sub A q c e).1
theorem Os.tr {s:Sl} {vs:List Value} {el:TypeId} (o:Os (Or L h) h' s vs el):Os (Tr L h h') h' s vs el :=
 o.imp id λ⟨b,t,o⟩=>⟨b,t.imp id λq=>⟨q,o.lt⟩,o⟩
theorem Old.tr {s s0:Sl} {C:List Value} {el:TypeId} (o:Old (Or L h) h' s s0 C el):Old (Tr L h h') h' s s0 C el :=
 ⟨o.le,o.old.imp id λ⟨b,cs,t,e,d,a,c⟩=>⟨b,cs,t.imp id λq=>⟨q,a.lt⟩,e,d,a,c⟩⟩
theorem Tr.tr {g H:Hp} (a:h.size<=g.size) (e:g.size<=H.size) {c:Nat} (q:Tr (Tr L h g) g H c):Tr L h H c:=by
 rcases q with (q | q) | q
 ·exact .inl q
 ·exact .inr ⟨q.1,by omega⟩
 ·exact .inr ⟨by omega,q.2⟩
end
inductive Mem
 | mk (F:Value) (r:Raw) (s:Sl) (ks:List Mem) (sp:List Value)
def Mem.F:Mem->Value | .mk F _ _ _ _=>F
def Mem.r:Mem->Raw | .mk _ r _ _ _=>r
def Mem.s:Mem->Sl | .mk _ _ s _ _=>s
def Mem.ks:Mem->List Mem | .mk _ _ _ k _=>k
def Mem.sp:Mem->List Value | .mk _ _ _ _ l=>l
def gF (l:List Nat):List Value:=l.map λx:Nat=>.int .u64 (x:Int)
def ints (l:List Nat):List Value:=l.map λx:Nat=>.int .i64 (x:Int)
def strs (l:List (List UInt8)):List Value:=l.map λt=>.string (bs t)
structure D9 (R T0:Nat->Prop) (h:Hp) (b:Nat) (f:ai) (sf sn sb:Sl) (F0:Value) (s0:Sl) (r0:Rb):Prop where
 bm:lX R h b F0 f sf sn s0 r0
 o:Old T0 h sb s0 (bv r0.bits) Y8
 len:r0.bits.length=(r0.rows+7) / 8
 nl:r0.bu<=r0.rows
 rl:r0.rows<=4096
section
variable {R R' T0 T0' S:Nat->Prop} {h h':Hp} {b:Nat} {f:ai} {sf sn sb s0:Sl} {F0:Value} {r0:Rb}
theorem D9.fr (m:D9 R T0 h b f sf sn sb F0 s0 r0) (t:Tn S h h') (g:∀c,R c->c < h.size->¬S c) (e:∀c,T0 c->c < h.size->¬S c):D9 R T0 h' b f sf sn sb F0 s0 r0 :=
 ⟨m.bm.fr t g,m.o.fr t e,m.len,m.nl,m.rl⟩
end
theorem Y3 (x:Int):IntKind.u64.wrap x=(((x % 2 ^ 64).toNat:Nat):Int):=by
 simp only[IntKind.wrap,IntKind.signed,IntKind.bits];simp;omega
section
variable {T T':Nat->Prop} {h h':Hp} {b:Nat} {Ls:List (Nat->Prop)}
theorem iq.grow (t:iq T h b Ls) (a:h.size<=h'.size):iq T h' b Ls:=⟨t.tb,λc q=>Nat.lt_of_lt_of_le (t.lt c q) a,t.sub,t.ap⟩
theorem iq.mono (t:iq T h b Ls) (hT:∀c,T c->T' c) (hl:∀c,T' c->c < h.size):iq T' h b Ls:=⟨hT b t.tb,hl,λA a c q=>⟨hT c (t.sub A a c q).1,(t.sub A a c q).2⟩,t.ap⟩
theorem iq.ne (t:iq T h b Ls) {i j:Nat} {A B:Nat->Prop} (p:Ls[i]? = some A) (o:Ls[j]? = some B) (e:i≠j) (c:Nat) (m:A c):¬B c:=by
 obtain ⟨d,rfl⟩:=List.getElem?_eq_some_iff.1 p;obtain ⟨a,rfl⟩:=List.getElem?_eq_some_iff.1 o;rcases Nat.lt_or_gt_of_ne e with q | q
 ·exact List.pairwise_iff_getElem.1 t.ap i j d a q c m
 ·exact λg=>List.pairwise_iff_getElem.1 t.ap j i a d q c g m
theorem iq.gI (t:iq T h b Ls) {i:Nat} {A:Nat->Prop} (a:Ls[i]? = some A):¬A b:=λq=>t.nb (List.mem_of_getElem? a) q rfl
end
theorem fG (l:List UInt8):(bs l).size=l.length:=by simp[bs,ByteArray.size]
def acy (x:ak) (r:Rb):Rb:={ Rb.row x.aq r with aW:=r.aW+(16+x.text.length),cm:=r.cm++[(x.num % 2 ^ 64).toNat],texts:=r.texts++[x.text] }
def LF (r:Raw) (x:ak):Int × Raw:=if 4096<=r.b.rows then (3,r) else (if 4194304 < r.b.aW+(16+x.text.length) then 3 else 0,r.up (acy x))
section
variable {T:Nat->Prop} {h:Hp} {s:Sl} {vs:List Value} {el:TypeId}
theorem Os.cut {n:Nat} {x:Int} {K:Sl->Prop} (o:Os T h s vs el) (d:n<=s.n) (e:x=n) (g:∀s',s'.n=n->Os T h s' (vs.take n) el->K s'):gp s 1 none (some x) none K:=by
 subst e;have c:s.n<=s.c:=by
  rcases o with ⟨rfl,_⟩ | ⟨b,_,o⟩
  ·exact Nat.le_refl _
  ·obtain ⟨_,_,_,_,q,_⟩:=o;exact q
 refine ⟨Int.le_refl _,by simp,by simp;omega,by simp,?_⟩
 simp only[Option.getD_none,Option.getD_some,Int.toNat_zero,Int.toNat_natCast,Nat.sub_zero];have w:(0:Int).toNat=0:=rfl;rcases o with ⟨rfl,rfl⟩ | ⟨b,t,a,u,cs,l,p,k,j⟩
 ·have:n=0:=by simpa[Sl.nil] using d
  subst this;exact g _ rfl (.inl ⟨by simp[jH,Sl.nil],by simp⟩)
 ·refine g _ rfl (.inr ⟨b,t,?_,?_,cs,l,?_,?_,λi x => ?_⟩)
  ·simp only[jH];split
   ·exact a
   ·rw[a];simp[aI]
  ·simp only[List.length_take];omega
  ·exact Nat.le_trans d c
  ·exact k
  ·simp only at x;rw[j i ag,List.getElem?_take_of_lt x]
end
section
variable {T:Nat->Prop} {h:Hp} {f:ai} {r:Raw} {m:Option Mem} {v:Value} {Kp:PK}
theorem ajr {c0 p q:Addr} {K:HP} (H:Jf c0 p q h K Kp):bJ Tryz.prog (.func (.func zp) #[] #[.pointer (some c0), .pointer (some p), .pointer (some q)]) [] h (λr a=>r=.tuple #[]/\K a) Kp:=by
 unfold bJ;exact cast aF H
theorem BV.oK {b:Nat} {ty:TypeId} {f:ai} {t S c:Sl} {n j w:Nat} {C:List Value} (k:aB h b (bt f t S c n j w C).toArray ty) :
  Cs h ⟨b,11,none⟩ [.bool f.bO.aq, .int .i64 f.bO.num, .string (bs f.bO.text),Sl.v S]:=by
 intro i v a;rw[aI,eW k];rcases i with _ | _ | _ | _ | i
 ·simpa[bt] using a
 ·simpa[bt] using a
 ·simpa[bt] using a
 ·simpa[bt] using a
 ·simp at a
end
section
variable {T:Nat->Prop} {h h0:Hp} {Kp:PK}
theorem ajN {k:Int} {K:Int->HP} (hk:K (wB k:Int) h):qu k h K Kp:=by
 have e:=hk;unfold wB at e;refine qu.of ?_
 repeat' refine aA (λc => ?_) (λc => ?_)
 all_goals
  simp only[beq_iff_eq,beq_eq_false_iff_ne,ne_eq] at *
  simp_all
theorem pS {D:Nat->Prop} {s t:Sl} {m k:List UInt8} {K:Addr->HP} (o:cV D h s (bv m)) (n:cV D h t (bv k)) (y:D h.size) (q:∀a f,ah h f->cY D D f ⟨some a,2,2⟩ [m,k]->K a f) :
  aD h #[Sl.v s,Sl.v t] fH K:=by
 refine az λb w e1 g p _=>q _ w g ⟨[s,t],rfl,?_,λj u l c d => ?_⟩
 ·refine ⟨⟨rfl,Nat.le_refl _,λx z=>⟨_,rfl,λi v e => ?_⟩⟩,λ_ a r=>by cases r;exact e1 ▸ y⟩
  rw[aI,eW p];rcases i with _ | _ | i
  ·simpa using e
  ·simpa using e
  ·simp at e
 ·rcases j with _ | _ | j
  ·simp at c d;subst c d;exact o.gr g
  ·simp at c d;subst c d;exact n.gr g
  ·simp at c
theorem cV.mo {D D':Nat->Prop} {s:Sl} {vs:List Value} (v:cV D h s vs) (a:∀c,D c->D' c):cV D' h s vs:=v.fr (S:=No) (Tn.refl _ _) (λ_ _ _=>id) a
theorem BV.F7 {b:Nat} {ty:TypeId} {f:ai} {s t S:Sl} {n m w:Nat} {C:List Value} (k:aB h b (bt f s t S n m w C).toArray ty) :
  Cs h ⟨b,2,none⟩ [.int .i64 f.k, .int .i64 f.w, .int .i64 f.id, .int .i64 f.ix,Sl.v s]:=by
 intro i v a;rw[aI,eW k];rcases i with _ | _ | _ | _ | _ | i
 ·simpa[bt] using a
 ·simpa[bt] using a
 ·simpa[bt] using a
 ·simpa[bt] using a
 ·simpa[bt] using a
 ·simp at a
end
def Py (cs:List ai):Prop:=∀{n:ByteArray} {aq:Bool} {k w id ix:Int} {h:Hp} {s:Sl} {K:ByteArray->Bool->Int->Int->Int->Int->Sl->HP} {Kp:PK},bM h s cs->cs.length<=70000->fS cs ->
 (∀t h',ah h h'->bz (Nw h) h' t cs->K n aq k w id ix t h')->zY n aq k w id ix s h K Kp
theorem adg {cs:List ai} (IH:∀f∈cs,Py f.cs):Py cs:=by
  intro n aq k w k' ix U s K Kp O hl d' hk;have hn:=O.n;refine zY.of (az λa1 hy e1 gy k1 _=>az λa2 h e2 X k2 _ => ?_);have G0:ah U h:=ah.trans gy X;have sy:=gy.1;have sz:=X.1;have j':=k1.lt;have C:=k1.aj X;have g':=C.lt;have i':=k2.lt;simp only[aI,Nat.zero_add,Nat.reduceAdd];refine an C rfl ?_;refine HK.bB (λB x m=>∃(i:Nat) (G:List Sl),x=i/\i<=cs.length/\G.length=i/\ah h m/\cN h.size 7 m B (List.zipWith ai.row (cs.take i) G) fP /\
      ∀(j:Nat) (f:ai) (u:Sl),cs[j]? = some f->G[j]? = some u->bz (λb=>h.size<=b/\¬B.at b) m u f.cs)
    (λB x _=>cs.length - x.toNat) ⟨0,[],rfl,by omega,rfl,ah.refl _,cN.nil _ _ _ _,by simp⟩ ?_
  rintro B x m ⟨i,G,rfl,hi,z,y,A,hu⟩ N1 hN;have Z:=A.n;rw[List.length_zipWith,List.length_take] at Z;refine aA (λc => ?_) λc => ?_
  · have c:=ay c;have F:i < cs.length:=ag;have V:cs[i]? = some cs[i]:=List.getElem?_eq_getElem F;have N:cs.take (i+1)=cs.take i++[cs[i]]:=List.take_succ_eq_append_getElem F;have p:cs[i]∈cs:=List.getElem_mem F;generalize cs[i]=f at V N p;refine (O.gr G0).ix rfl V λa ha => ?_;obtain ⟨u,c,f'⟩:=ha.row;refine aN.c (c.aj y) (az λb5 hx eb gx kx _=>dW.b kx rfl λT J k5=>aN.b k5 ?_);have M:ah m T:=aM.aj gx J ag;have P:=(d'.get f p).cs;refine IH f p ((f'.gr y).gr M) P.1 P.2 λt h3 g3 ht=>az λn' R e5 g5 a' _ => ?_;have m':m.size<=b5:=ag;have I:ah m R:=ah.trans (ah.trans M g3) g5;have c':bz (Nw T) R t f.cs:=bz.gr ht g5;refine (A.aj I).ap (by have:=y.1;have:=I.1;omega) rfl (new:=[f.row t]) rfl (λr L=>by simp at L;subst L;rfl) (λr L=>by simp at L;subst L;exact row_one f t) (by simpa[ai.row,kj] using iB a' rfl) ag ag λs' h6 Y Q o6=>aP ag ag (hN _ _ _ ⟨i+1,G++[t],by simp,by omega,by simp[z],?_,?_,?_⟩ ag)
    · exact (((Tn.aT (ah.trans y I):Tn No h R)).trans' Y λd hd l'=>by have:=((A.aj I).at hd).1;omega).aj
    · rw[N,List.zipWith_append cC];exact o6
    · intro j g v W H;have h':=I.1
      by_cases e:j < i
      · rw[List.getElem?_append_left ag] at H;refine bz.fr Y (D:=λb=>(h.size<=b/\¬B.at b)/\b < m.size) (λb l=>l.1.2) (λb l=>⟨l.1.1,λq => ?_⟩) _ (bz.gr (bz.lt _ (hu j g v W H)) I);rcases Q b q with q | q
        · exact l.1.2 q
        · have:=l.2;omega
      · have e':=(List.getElem?_eq_some_iff.1 H).1;simp only[List.length_append,List.length_singleton] at e';have:j=i:=ag;subst this;rw[List.getElem?_append_right ag,z] at H;simp only[Nat.sub_self,List.getElem?_cons_zero,Option.some.injEq] at H;subst H;rw[V] at W;cases W;refine bz.fr Y (D:=λb=>Nw T b/\b < R.size) (λb l q=>by have:=(A.at q).2;have:=M.1;have:=l.1;omega) (λb l=>⟨by have:=y.1;have:=M.1;have:=l.1;omega,λq => ?_⟩) _ (bz.lt _ c')
        rcases Q b q with q | q
        · have:=(A.at q).2;have:=M.1;have:=l.1;omega
        · have:=l.2;omega
  · have c:=ay c;have:i=cs.length:=ag;subst this;rw[List.take_length] at A;have fin:bz (λb=>h.size<=b/\b < m.size) m B cs:=by
      refine bz.lt _ ?_;rcases A.cases with ⟨rfl,e⟩ | ⟨b,l,o⟩
      · have:cs=[]:=by
          cases cs with
          | nil=>rfl
          | cons f fs=>cases G with
            | nil=>simp at z
            | cons=>simp at e
        subst this;unfold bz;exact ⟨rfl,Nat.le_refl _⟩
      · exact bz.sub (bz.of (D:=Nw h) o z l λj f u hf b'=>bz.fr (S:=No) (Tn.refl _ _) (λ_ _=>id) (λb l=>l.1) _ (hu j f u hf b')) rfl rfl A.cap
    simp only[aI,Nat.zero_add,Nat.reduceAdd];have s1:=y.1;refine cE (C.aj y) aS rfl λT J k3=>aN.b k3 (dW.b (J.aK (k2.aj y) ag) rfl λh3 o3 k4=>aN.b k4 (hk B h3 ?_ ?_))
    · exact aM.aj (aM.aj (ah.trans G0 y) J ag) o3 ag
    · have f2:=bz.fr (E:=λb=>h.size<=b/\b < m.size) J.fr (λb l e=>by have:=l.1;omega) (λ_ q=>q) _ fin
      exact bz.fr (E:=Nw U) o3.fr (λb l e=>by have:=l.1;omega) (λb l=>by have:=l.1;show U.size<=b;omega) _ f2
theorem Sr:∀f:ai,Py f.cs
 | .mk _ _ _ _ _ _ cs=>adg (cs:=cs) λf _=>Sr f
open Classical in
theorem aea {L:HP} {mk:Fr} {T:(Fr->HP)->HP} (bB:PI L mk T) (P:Nat->HP) {h:Hp} (h0:∃n,P n h) (step:∀n h,P n h->∀N:Fr->HP,(∀m h',m < n->P m h'->N mk h')->T N h):L h:=by
 let μ:Hp->Nat:=λh=>if hh:∃n,P n h then Classical.choose (least (λn=>P n h) hh) else 0
 have sp:∀h,(∃n,P n h)->P (μ h) h/\∀m,m < μ h->¬P m h:=by
  intro h hh
  have:μ h=Classical.choose (least (λn=>P n h) hh):=by simp only[μ];rw[dif_pos hh]
  rw[this];exact Classical.choose_spec (least (λn=>P n h) hh)
 refine bB (λh=>∃n,P n h) μ h0 λh hI N hN=>step (μ h) h (sp h hI).1 N λm h' hm hP=>hN h' ⟨m,hP⟩ ?_
 have:=(sp h' ⟨m,hP⟩).2 m
 by_cases q:m < μ h'
 ·exact absurd hP (this q)
 ·omega
theorem ahS {f c:ai} (e:f.cs[0]? = some c):c.dep < f.dep:=by
 obtain ⟨b,aq,k,w,id,ix,cs⟩:=f;cases cs with
 | nil=>simp[ai.cs] at e
 | cons x a=>simp[ai.cs] at e;subst e;simp[ai.dep,Oo];omega
theorem MZ:∀cs:List ai,(ot cs).length=cs.length
 | []=>rfl
 | x::a=>by simp[ot,MZ a]
theorem Ba {f:ai} {h:Hp} {s:Sl} {K:Bool->HP} {y:PK} (F:bM h s f.cs) (t:∀d,ah h d->K f.lets d):wN f.name f.aq f.k f.w f.id f.ix s h K y:=by
  refine wN.of (az λa Q R v D _=>aea HC.bB (λn d=>∃(g:ai) (u:Sl),g.dep=n/\ah h d/\aB d a (g.row u).toArray fP/\bM h u g.cs/\g.lets=f.lets) ⟨f.dep,f,s,rfl,v,D,F,rfl⟩ ?_);rintro n j ⟨g,u,rfl,G,k,q,el⟩ N hN;have o:¬(g.k=20/\g.cs.length=1)->yP K y ⟨a,0,none⟩ j:=by
    intro r;have e:g.lets=(g.aq && decide (g.k≠18)):=by
      obtain ⟨B,aq,C,w,id,ix,cs⟩:=g;simp only[ai.lets,mw,ai.k,ai.cs,ai.aq] at r ⊢;rw[if_neg (by rw[MZ];exact r)]
      congr
    refine yP.of ?_;simp only[aI,Nat.zero_add];refine an k rfl (aA (λc=>an k rfl ?_) λc => ?_)
    · have:=t j G;rw[<-el,e,c] at this;have J:(g.k != 18)=(true && decide (g.k≠18)):=by rw[Bool.eq_iff_iff];simp
      rw[J];exact this
    · have:=t j G;rw[<-el,e,c] at this
      simpa using this
  simp only[aI,Nat.zero_add,Nat.reduceAdd];have M:=q.n;have P:=v.1;refine an k rfl (aA (λc => ?_) λc=>o ?_)
  · simp only[sm,reduceCtorEq] at c;refine an k rfl (aA (λl => ?_) λl=>o ?_)
    · simp only[sm,reduceCtorEq] at l;have hl:g.cs.length=1:=ag;have e:g.cs[0]? = some g.cs[0]:=List.getElem?_eq_getElem ag;generalize g.cs[0]=c0 at e;refine an k rfl (q.ix (x:=0) (i:=0) rfl e λp H => ?_);obtain ⟨z,L,m⟩:=H.row;refine aN.c (L.aj G) (dW.b k rfl λI A E=>hN c0.dep I (ahS e) ⟨c0,z,rfl,aM.aj G A ag,E,m,?_⟩);rw[<-el];obtain ⟨B,aq,C,w,id,ix,cs⟩:=g;simp only[ai.k,ai.cs] at c hl e;cases cs with
      | nil=>simp at e
      | cons x O =>
        simp at e;subst e;simp only[ai.lets,mw];rw[if_pos ⟨c,by rw[MZ];exact hl⟩]
        simp[ot]
    · simp only[sm,reduceCtorEq] at l;omega
  · simp only[sm,reduceCtorEq] at c;omega
theorem abT {c:ByteArray} {aq:Bool} {k w id ix:Int} {cs:List ai} {h:Hp} {s:Sl} {K:Bool->HP} {t:PK} (j:gK h) (f:(ai.mk c aq k w id ix cs).fy) (l:bM h s cs)
  (m:∀b g,ah h g->(b=true↔bp (.mk c aq k w id ix cs))->K b g):wP c aq k w id ix s h K t:=by
 refine wP.of (az λa u v d i _=>aN.b i (Gg (j.aj d) f (l.gr d) λe p n q r o=>m _ q (ah.trans d r) ?_));rw[<-o,beq_iff_eq]
theorem adQ {c:ByteArray} {aq:Bool} {k w id ix:Int} {cs:List ai} {h:Hp} {s:Sl} {K:Bool->HP} {t:PK} (j:gK h) (f:(ai.mk c aq k w id ix cs).fy) (l:bM h s cs)
  (m:∀b g,ah h g->(b=true↔bp (.mk c aq k w id ix cs))->K b g):wO c aq k w id ix s h K t:=by
 refine wO.of (az λa u v d i _=>aN.b i (Gg (j.aj d) f (l.gr d) λe p n q r o=>m _ q (ah.trans d r) ?_));rw[<-o,beq_iff_eq]
theorem sH {k:Int} (h:dU k=true):k≠1/\k≠12/\k≠13/\k≠15/\k≠16/\k≠17/\k≠18/\k≠19/\k≠20:=by
 simp[dU] at h;omega
theorem Zm {f:ai} (i:dU f.k=true) (r:Raw) (x:ak):f.tk r x=LF r x:=by
 obtain ⟨h,l,j,g,e,d,c,b,a⟩:=sH i;rw[ai.jF];unfold gY LF;rw[if_neg h,if_neg ag,if_neg g,if_neg e,if_neg d,if_neg c,if_neg b,if_neg a];unfold cR;split
 ·simp[bL]
 ·simp only[bL,if_true,cO]
  congr 1
theorem Qf (x:ak):16+x.text.length<=x.aV:=by rw[gO];omega
theorem lX.lt {D:Nat->Prop} {h:Hp} {b:Nat} {F:Value} {f:ai} {s t u:Sl} {r0:Rb} (m:lX D h b F f s t u r0):lX (λc=>D c/\c < h.size) h b F f s t u r0:=by
 obtain ⟨o,p,n,x,j,k,i,e,d,g,a,l⟩:=m;exact ⟨o,p,n,x,⟨j,d.lt⟩,⟨k,g.lt⟩,⟨i,a.lt⟩,e,d,g,a,l⟩
theorem lX.cells {D:Nat->Prop} {h:Hp} {b:Nat} {F:Value} {f:ai} {s t u:Sl} {r0:Rb} (m:lX D h b F f s t u r0):F.cells=#[F]:=by
 obtain ⟨i,j,g,x,c,d,a,e,_⟩:=m;rw[e];rfl
theorem Sy {f:ai} (b:bp f):f.bO.text.length<=4194304:=by
 by_cases a:f.small=true
 ·obtain ⟨_,_,d,c⟩:=ob b a;have:=gO f.bO;omega
 ·have:f.bO=sk:=by unfold ai.bO;rw[if_neg (by rw[EH] at a;exact a)]
  rw[this];exact Nat.zero_le _
def fo (f:ai):Prop:=∀v,f.fit v=true->cW f (λr=>f.tk r v) v
theorem SM {f:ai} {h:Hp} {s:Sl} {K:Bool->HP} {i:PK} (d:gK h) (a:f.fy) (e:bM h s f.cs) (g:∀b c,ah h c->(b=true↔bp f)->K b c):wO f.name f.aq f.k f.w f.id f.ix s h K i:=by
 obtain ⟨j,aq,k,w,id,ix,cs⟩:=f;exact adQ d a e g
theorem Ln {f:ai} {h:Hp} {s:Sl} {K:Bool->HP} {i:PK} (d:gK h) (a:f.fy) (e:bM h s f.cs) (g:∀b c,ah h c->(b=true↔bp f)->K b c):wP f.name f.aq f.k f.w f.id f.ix s h K i:=by
 obtain ⟨j,aq,k,w,id,ix,cs⟩:=f;exact abT d a e g
def vM (f:ai):Prop:=∀{h:Hp} {s:Sl} {K:Int->HP} {Kp:PK},bM h s f.cs->(∀h',ah h h'->K (f.wz:Int) h')->nV f.name f.aq f.k f.w f.id f.ix s h K Kp
def vK (f:ai):Prop:=∀{h:Hp} {s:Sl} {K:Bool->Int->ByteArray->Sl->HP} {Kp:PK},bM h s f.cs->(∀t h',ah h h'->au (Nw h) h' t f.zv.items->K f.zv.aq f.zv.num (bs f.zv.text) t h') ->
 nU f.name f.aq f.k f.w f.id f.ix s h K Kp
theorem Yu {f:ai} (hl:f.lets=true):f.wz=16:=by rw[ai.ux,hl];rfl
theorem P7 {f:ai} (hl:f.lets=true):f.zv=v0:=by rw[ai.Ec,hl];rfl
theorem YA {f:ai} (hl:f.lets=true):vM f:=by
 intro h s K l d e;refine nV.of (az λk j e1 a c _=>aN.b c (Ba (f:=f) (d.gr a) λg i=>bx hl ?_));have:=e g (ah.trans a i)
 rwa [Yu hl] at this
theorem XI {f:ai} (hl:f.lets=true):vK f:=by
 intro h s K v k l;refine nU.of (az λu q e1 c j _=>az λt p r a i _=>aN.b (j.aj a) (Ba (f:=f) ((k.gr c).gr a) λo d=>bx hl (bV.b (i.aj d) rfl λm e g=>aQ.b g ?_)));have n:=c.1;have:=l ⟨none,0,0⟩ m (aM.aj (ah.trans c (ah.trans a d)) e ag) (by rw[P7 hl];exact au.nil _)
 rwa [P7 hl] at this
theorem akH {f:ai} (J:vM f) (I:vK f) (v:bp f) (u:f.fy) {h:Hp} {s:Sl} {K:Bool->Int->ByteArray->Sl->Int->HP} {O:PK} (L:gK h) (n:bM h s f.cs)
  (y:∀t p,ah h p->au (Nw h) p t f.bO.items->K f.bO.aq f.bO.num (bs f.bO.text) t (if f.small then 0 else 3) p):Dd f.name f.aq f.k f.w f.id f.ix s h K O:=by
 refine Dd.of (az λX V e1 B m _=>az λW U i g l _=>aN.b (m.aj g) ?_);have S:=B.1;have r:=ah.trans B g;refine SM (f:=f) (L.aj r) u (n.gr r) λb T a M => ?_;obtain rfl:b=true:=M.2 v;have C:=ah.trans r a;refine aR rfl (aN.b ((m.aj g).aj a) (J (n.gr C) λo d => ?_));have j:=ah.trans C d;refine aA (λc => ?_) λc => ?_
 ·have c:=ay c;refine bV.b ((l.aj a).aj d) rfl λz F H=>aQ.b H ?_;have e1:f.bO=sk:=by unfold ai.bO;rw[if_neg ag]
  have i:f.small=false:=by unfold ai.small;simp;omega
  have:=y ⟨none,0,0⟩ z (aM.aj j F ag) (by rw[e1];exact au.nil _)
  rw[e1,i] at this;exact this
 ·have c:=ay c;refine aN.b (((m.aj g).aj a).aj d) (I (n.gr j) λt z A E=>bV.b (((l.aj a).aj d).aj A) rfl λN x G=>aQ.b G ?_);have e1:f.bO=f.zv:=by unfold ai.bO;rw[if_pos ag]
  have i:f.small=true:=by unfold ai.small;simp;omega
  have P:=l.lt;have R:=a.1;have Q:=d.1;have:=y t N (aM.aj (ah.trans j A) x ag) (by
   rw[e1];exact au.fr (D:=Nw o) x.fr (λc (q:o.size<=c) _ e=>by omega) (λc (q:o.size<=c)=>by have:=j.1;show h.size<=c;omega) _ E)
  rw[e1,i] at this;exact this
theorem aj7 {f:ai} (C:vM f) (B:vK f) (n:bp f) (m:f.fy) {h:Hp} {s:Sl} {K:ByteArray->Bool->Int->Int->Int->Int->Sl->Int->Int->Sl->Int->Bool->Int->ByteArray->Sl->Bool->HP} {M:PK} (E:gK h) (F:bM h s f.cs)
  (G:∀t l,ah h l->au (Nw h) l t f.bO.items->K f.name f.aq f.k f.w f.id f.ix s 0 0 ⟨none,0,0⟩ 0 f.bO.aq f.bO.num (bs f.bO.text) t f.small l):Df f.name f.aq f.k f.w f.id f.ix s h K M:=by
 refine Df.of (az λY T e1 u r _=>az λX j V g p _=>aN.b (r.aj g) ?_);have R:=u.1;have Q:=g.1;have i:=ah.trans u g;refine akH C B n m (E.aj i) (F.gr i) λt J d v=>az λW S U L A _=>bV.b A rfl λI x z => ?_;have P:=d.1;have a:ah J I:=aM.aj L x ag;refine aN.b (((r.aj g).aj d).aj a) (aQ.b z (mH.b ((p.aj d).aj a) rfl λH o y=>fZ.b y ?_));have N:=p.lt;have O:=a.1;have:=G t H (aM.aj (ah.trans i (ah.trans d a)) o ag) (au.fr (D:=Nw j) o.fr (λc (q:j.size<=c) _ e=>by omega) (λc (q:j.size<=c)=>by have:=i.1;show h.size<=c;omega) _ (au.gr v a))
 have e:((if f.small=true then (0:Int) else 3) == 0)=f.small:=by cases f.small <;> rfl
 rw[e];exact this
mutual
def ak.mq:ak->Prop
 | .mk _ n _ xs=>(-9223372036854775808<=n/\n<=9223372036854775807)/\ku xs
def ku:List ak->Prop
 | []=>True
 | x::xs=>x.mq/\ku xs
end
theorem ak.mq.num {v:ak} (h:v.mq) : -9223372036854775808<=v.num/\v.num<=9223372036854775807:=by
 obtain ⟨_,n,_,a⟩:=v;exact h.1
theorem YG {k:Int} {h:Hp} {K:Bool->HP} {Kp:PK} (a:K (decide (3<=k/\k<=10)) h):Db k h K Kp:=by
 refine Db.of (aA (λc => ?_) λc => ?_)
 ·have c:=ay c;have e:decide (3<=k/\k<=10)=decide (k<=10):=by rw[Bool.eq_iff_iff];simp;omega
  rw[<-e];exact a
 ·have c:=ay c;have e:decide (3<=k/\k<=10)=false:=by simp;omega
  rw[<-e];exact a
theorem ab2 {k n:Int} {h:Hp} {K:Bool->HP} {Kp:PK} (d:3<=k/\k<=10) (g : -9223372036854775808<=n/\n<=9223372036854775807) (a:K (iU k n) h):nS k n h K Kp:=by
 have e:k=3\/k=4\/k=5\/k=6\/k=7\/k=8\/k=9\/k=10:=ag;have fin:∀b,b=iU k n->K b h:=λb e=>e ▸ a;rcases e with rfl | rfl | rfl | rfl | rfl | rfl | rfl | rfl
 ·refine nS.of (oQ.of (bx rfl (bx rfl (aP aL aL (fY aL (aP aL aL (aR rfl (bx rfl (aP aL aL (fY aL (aP aL aL (show If (decide (n >= -128)) _ _ from aA (λc=>(aP aL aL (fY aL (fin (decide (n < 128)) ?_)))) λc=>fin _ ?_))))))))))))
  all_goals (simp only[sm,reduceCtorEq] at c;unfold iU;rw[Bool.eq_iff_iff];simp[cl];omega)
 ·refine nS.of (oQ.of (bx rfl (bx rfl (aP aL aL (fY aL (aP aL aL (aR rfl (bx rfl (aP aL aL (fY aL (aP aL aL (show If (decide (n >= -32768)) _ _ from aA (λc=>(aP aL aL (fY aL (fin (decide (n < 32768)) ?_)))) λc=>fin _ ?_))))))))))))
  all_goals (simp only[sm,reduceCtorEq] at c;unfold iU;rw[Bool.eq_iff_iff];simp[cl];omega)
 ·refine nS.of (oQ.of (bx rfl (bx rfl (aP aL aL (fY aL (aP aL aL (aR rfl (bx rfl (aP aL aL (fY aL (aP aL aL (show If (decide (n >= -2147483648)) _ _ from aA (λc=>(aP aL aL (fY aL (fin (decide (n < 2147483648)) ?_)))) λc=>fin _ ?_))))))))))))
  all_goals (simp only[sm,reduceCtorEq] at c;unfold iU;rw[Bool.eq_iff_iff];simp[cl];omega)
 ·refine nS.of (oQ.of (bx rfl (bx rfl (aP aL aL (fY aL (aP aL aL (bx rfl (fin _ ?_))))))));unfold iU;simp;omega
 ·refine nS.of (oQ.of (bx rfl (aR rfl (aP aL aL (fY aL (aP aL aL (aR rfl (aR rfl (aA (λc=>(fY aL (aP aL aL (fin (decide (n < 256)) ?_)))) λc=>fin _ ?_)))))))))
  all_goals (simp only[sm,reduceCtorEq] at c;unfold iU;rw[Bool.eq_iff_iff];simp[cl];omega)
 ·refine nS.of (oQ.of (bx rfl (aR rfl (aP aL aL (fY aL (aP aL aL (aR rfl (aR rfl (aA (λc=>(fY aL (aP aL aL (fin (decide (n < 65536)) ?_)))) λc=>fin _ ?_)))))))))
  all_goals (simp only[sm,reduceCtorEq] at c;unfold iU;rw[Bool.eq_iff_iff];simp[cl];omega)
 ·refine nS.of (oQ.of (bx rfl (aR rfl (aP aL aL (fY aL (aP aL aL (aR rfl (aR rfl (aA (λc=>(fY aL (aP aL aL (fin (decide (n < 4294967296)) ?_)))) λc=>fin _ ?_)))))))))
  all_goals (simp only[sm,reduceCtorEq] at c;unfold iU;rw[Bool.eq_iff_iff];simp[cl];omega)
 ·refine nS.of (oQ.of (bx rfl (aR rfl (aP aL aL (fY aL (aP aL aL (bx rfl (fin _ ?_))))))));unfold iU;simp;omega
def iN (f:ai):Prop:=∀{D:Nat->Prop} {h:Hp} {x left:Nat} {v:ak} {s t:Sl} {K:Bool->HP} {Kp:PK},fW h->aB h x #[.int .i64 (left:Int)] mF->left<=4194304->bz D h s f.cs->au D h t v.items->¬D x->v.mq ->
 (∀b h',Tn (·=x) h h'->(b=true↔v.aV<=left/\f.fit v=true)->(b=true->aB h' x #[.int .i64 ((left - v.aV:Nat):Int)] mF)->K b h')->qv (some ⟨x,0,none⟩) f.name f.aq f.k f.w f.id f.ix s v.aq v.num (bs v.text) t h K Kp
theorem BS (l m:List UInt8):((bs l).toList == (bs m).toList)=decide (l=m):=by
 rw[Bool.eq_iff_iff,BP,decide_eq_true_eq];constructor
 ·intro h;have:=congrArg tx h;simpa only [KN] using this
 ·intro h;rw[h]
theorem GB (l:List UInt8):((bs l).toList == (bs []).toList)=decide (l.length=0):=by
 rw[BS,Bool.eq_iff_iff];simp
section
variable {f:ai} {D:Nat->Prop} {h:Hp} {x left:Nat} {v:ak} {s t:Sl} {K:Bool->HP} {Kp:PK}
theorem Uz (k:aB h x #[.int .i64 (left:Int)] mF) (hl:left<=4194304) (Y:bz D h s f.cs) (U:¬D x) (X:au D h t v.items)
  (a:∀i,Tn (·=x) h i->¬(v.aV<=left/\f.fit v=true)->K false i)
  (gJ:∀i,Tn (·=x) h i->aB i x #[.int .i64 ((left - v.aV:Nat):Int)] mF->v.aV<=left->f.fit v=true->K true i)
  (r:∀i u z,Tn (·=x) h i->aB i x #[.int .i64 ((left - 16 - v.text.length:Nat):Int)] mF->16+v.text.length<=left->v.items.length<=4096->v.aq=false->aB i u (f.row s).toArray fP ->
   aB i z #[.bool v.aq, .int .i64 v.num, .string (bs v.text),Sl.v t] bW->h.size<=u->h.size<=z->yR K Kp (some ⟨x,0,none⟩) ⟨u,0,none⟩ ⟨z,0,none⟩ i) :
  qv (some ⟨x,0,none⟩) f.name f.aq f.k f.w f.id f.ix s v.aq v.num (bs v.text) t h K Kp:=by
 refine qv.of (az λu h1 e1 M m _=>az λz h2 e2 I g _ => ?_);have hn:=X.n;have xl:=k.lt;have s1:=M.1;have s2:=I.1;have W:=gO v;have d:=(k.aj M).aj I;have m:=m.aj I;refine bF ?_;refine an d rfl (aP ag ag (cE d aS rfl λh3 G d=>an d rfl ?_));have s3:=G.1;have C:Tn (·=x) h h3:=((Tn.aT (ah.trans M I)).trans G.fr);have m:=G.aK m ag;have g:=G.aK g ag;have A:f.fit v=true->v.items.length<=4096:=λq=>by rw[ai.c9] at q;exact Oc q
 refine aA (λc=>a _ C ?_) λc => ?_
 ·have c:=ay c;omega
 have c:=ay c;refine an g rfl (an d rfl (aA (λp=>a _ C ?_) λp => ?_))
 ·have p:=ay p;rw[fG] at p;omega
 have p:=ay p;rw[fG] at p;refine an g rfl (aA (λy=>a _ C ?_) λy => ?_)
 ·have y:=ay y;intro q;have:=A q.2;omega
 have y:=ay y;refine IG.of ?_;refine bF ?_;refine an d rfl (an g rfl (aP (by rw[fG];omega) (by rw[fG];omega) (cE d aS rfl λH F d=>IF.of ?_)))
 have s4:=F.1;have B:Tn (·=x) h H:=C.trans F.fr;have m:=F.aK m ag;have g:=F.aK g ag;rw[fG] at d;have ex:(left:Int) - 16 - (v.text.length:Int)=((left - 16 - v.text.length:Nat):Int):=ag;have d:aB H x #[.int .i64 ((left - 16 - v.text.length:Nat):Int)] mF:=by simpa[ex] using d
 simp only[aI,Nat.zero_add];refine an g rfl (aA (λO => ?_) λO=>r H u z B d ag ag O m g ag ag);have N:f.fit v=(decide (v.items.length<=4096) && (decide (v.num=0) && decide (v.text.length=0) && decide (v.items.length=0) && f.lets)):=by
  rw[ai.c9];unfold dr;rw[if_pos O]
 have l:∀b,(b=true->v.num=0/\v.text.length=0/\v.items.length=0)->(b=false->¬(v.num=0/\v.text.length=0/\v.items.length=0))->yS K Kp ⟨u,0,none⟩ b H:=by
  intro b Q P;refine yS.of (aA (λj => ?_) λj=>a _ B ?_)
  ·obtain ⟨T,L,J⟩:=Q j;refine aN.b m (Ba (f:=f) (bz.h _ (bz.fr (E:=D) B (λb q e=>U (e ▸ q)) (λ_ q=>q) _ Y)) λZ S => ?_)
   ·have d:=d.aj S;have R:Tn (·=x) h Z:=B.trans (Tn.aT S);have V:v.aV=16:=by
     have:v.items=[]:=List.length_eq_zero_iff.1 J;rw[W,this,L];rfl
    cases hl:f.lets with
    | true=>exact gJ _ R (by rw[V];simpa[L] using d) ag (by rw[N];simp[T,L,J,hl])
    | false=>exact a _ R λq=>by rw[N,hl] at q;simp at q
  ·intro q;have:=q.2;rw[N] at this;simp at this;exact P j ⟨this.2.1.1.1,by simp[this.2.1.1.2],by simp[this.2.1.2]⟩
 refine an g rfl (aA (λj => ?_) λj => ?_)
 ·have j:=ay j;refine an g rfl ?_;rw[GB];refine yT.of (aA (λo => ?_) λo => ?_)
  ·have o:=ay o;simp only[aI,Nat.zero_add];refine an g rfl (l _ (λq => ?_) λq => ?_)
   ·have q:=ay q;exact ⟨j,o,by omega⟩
   ·have q:=ay q;rintro ⟨_,_,J⟩;omega
  ·have o:=ay o;exact l _ (λq=>by cases q) λ_ q=>o q.2.1
 ·have j:=ay j;exact yT.of (aR rfl (l _ (λq=>by cases q) λ_ q=>j q.1))
theorem UG {f:ai} (hf:1<=f.k/\f.k<=11):iN f:=by
 intro D h x left v s t K Kp hu k hl R g O E A;have r:=gO v;refine Uz k hl R O g (λB y q=>A false B y (by simpa using q) (λe=>by cases e)) (λB y P M L=>A true B y (by simp[M,L]) λ_=>P) λF U a5 J z b1 b2 gJ C l l4 l5=>yR.of ?_
 have Y:=k.lt;have d:f.fit v=(decide (v.text.length=0) && (decide (v.items.length=0) && (if f.k=2 then decide (v.num=0\/v.num=1) else decide (3<=f.k/\f.k<=11) && iU f.k v.num))):=by
  rw[ai.c9];unfold dr;rw[if_neg (by simp[gJ]),if_neg ag,if_neg ag,if_neg ag,if_neg ag,if_neg ag,if_neg ag]
  simp[b2]
 have T:Cs F ⟨U,2,none⟩ [.int .i64 f.k, .int .i64 f.w, .int .i64 f.id, .int .i64 f.ix,Sl.v s]:=by
  intro i v g;rw[aI,eW C];rcases i with _ | _ | _ | _ | _ | i
  ·simpa[ai.row,kj] using g
  ·simpa[ai.row,kj] using g
  ·simpa[ai.row,kj] using g
  ·simpa[ai.row,kj] using g
  ·simpa[ai.row,kj] using g
  ·simp at g
 simp only[aI,Nat.zero_add];refine dH.c T (az λa7 h4 e7 H j _=>jz.b j rfl λu N j=>an j rfl ?_);have Z:=H.1;have X:=C.lt;have W:=l.lt;have V:=j.lt;have G:ah F u:=aM.aj H N ag;have l:=l.aj G;have z:=z.aj G;have I:Tn (·=x) h u:=J.trans (Tn.aT G);refine aR cC (qq.of (aR cC (aR cC (aR cC (aR cC (rV.of (aR cC (aR cC (aR cC (tQ.of (aR cC (IE.of ?_))))))))))));simp only[aI,Nat.zero_add];have fin:∀b,b=f.fit v->K b u:=λb e=>A b u I ⟨λq => ?_,λq=>by rw[e];exact q.2⟩ λq => ?_
 rotate_left
 ·have q:=e ▸ q;rw[d] at q;simp only[Bool.and_eq_true,decide_eq_true_eq] at q;have:v.items=[]:=List.length_eq_zero_iff.1 q.2.1;rw[this] at r;exact ⟨by rw[r];simp[bg];omega,by rw[<-e];assumption⟩
 ·have q:=e ▸ q;rw[d] at q;simp only[Bool.and_eq_true,decide_eq_true_eq] at q;have:v.items=[]:=List.length_eq_zero_iff.1 q.2.1;rw[this] at r;have S:left - v.aV=left - 16 - v.text.length:=by rw[r];simp[bg];omega
  rw[S];exact z
 refine an l rfl ?_;rw[GB];refine aA (λc=>fin _ ?_) λc => ?_
 ·have c:=ay c;rw[d];simp[c]
 have c:=ay c;refine an l rfl (aA (λp=>fin _ ?_) λp=>ID.of ?_)
 ·have p:=ay p;have:=g.n;rw[d];simp;intro _ q;rw[q] at this;simp at this;omega
 have p:=ay p;have Q:v.items.length=0:=by have:=g.n;omega
 have d:f.fit v=(if f.k=2 then decide (v.num=0\/v.num=1) else decide (3<=f.k/\f.k<=11) && iU f.k v.num):=by
  rw[d];simp[c,Q]
 simp only[aI,Nat.zero_add];refine an j rfl (aA (λm => ?_) λm => ?_)
 ·have m:=ay m;rw[if_pos m] at d;refine an l rfl (aA (λa=>fin _ ?_) λa=>an l rfl (fin _ ?_))
  ·have a:=ay a;rw[d];simp[a]
  ·have a:=ay a;rw[d,Bool.eq_iff_iff];simp[a]
 ·have m:=ay m;rw[if_neg m] at d;refine an j rfl (aA (λa=>fin _ ?_) λa=>IC.of ?_)
  ·have a:=ay a;rw[d,a];have:=E.num;simp[iU];omega
  have a:=ay a;refine an j rfl (YG (aA (λo => ?_) λo=>fin _ ?_))
  ·have o:=ay o;simp only[aI,Nat.zero_add];refine an j rfl (an l rfl (ab2 o E.num (fin _ ?_)));rw[d];have:decide (3<=f.k/\f.k<=11)=true:=by simp;omega
   rw[this];simp
  ·have o:=ay o;rw[d];have:decide (3<=f.k/\f.k<=11)=false:=by simp;omega
   rw[this];simp
end
theorem ags {f:ai} (y:iN f) {D E:Nat->Prop} {h:Hp} {v:ak} {s t:Sl} {K:Bool->HP} {Kp:PK} (o:fW h) (p:bz D h s f.cs) (n:au E h t v.items) (r:v.mq)
  (u:∀b e,ah h e->(b=true↔v.aV<=4194304/\f.fit v=true)->K b e):De f.name f.aq f.k f.w f.id f.ix s v.aq v.num (bs v.text) t h K Kp:=by
 refine De.of (az λQ L e1 g m _=>az λP J N d l _=>az λO B M a j _=>aN.b ((m.aj d).aj a) (aQ.b (l.aj a) ?_));have I:=g.1;have H:=d.1;have F:=a.1;have G:=ah.trans g (ah.trans d a);refine y (D:=λc=>(D c\/E c)/\c < h.size) (left:=4194304) (o.aj G) j (Nat.le_refl _) ?_ ?_ (λq=>by have:=q.2;omega) r λb A i z _=>u b A (((Tn.aT G:Tn No h B)).trans' i λc q C=>by omega).aj z
 ·exact bz.fr (S:=No) (Tn.aT G) (λ_ _=>id) (λc q=>⟨.inl q.1,q.2⟩) _ (bz.lt _ p)
 ·exact au.fr (S:=No) (Tn.aT G) (λ_ _ _=>id) (λc q=>⟨.inr q.1,q.2⟩) _ (au.lt _ n)
theorem ame {f:ai} (A:iN f) (j:bp f) (i:f.fy) {D E:Nat->Prop} {h:Hp} {v:ak} {s t:Sl} {K:Int->HP} {Kp:PK} (u:gK h) (r:fW h) (m:bz D h s f.cs) (p:au E h t v.items) (y:v.mq)
  (z:∀n,ah h n->K (if v.aV<=4194304/\f.fit v=true then 0 else 7) n):Dh f.name f.aq f.k f.w f.id f.ix s v.aq v.num (bs v.text) t h K Kp:=by
 refine Dh.of (az λN J e1 F l _=>az λM I L g o _=>aN.b (l.aj g) ?_);have G:=ah.trans F g;refine SM (f:=f) (u.aj G) i ((bz.h _ m).gr G) λb H e a => ?_;obtain rfl:b=true:=a.2 j;refine aR rfl (aN.b ((l.aj g).aj e) (aQ.b (o.aj e) ?_));have d:=ah.trans G e;refine ags A (r.aj d) (bz.gr m d) (au.gr p d) y λb B C a => ?_;have:=z B (ah.trans d C);refine aA (λc => ?_) λc => ?_
 ·have c:=ay c;rw[if_neg (λq=>by rw[a.2 q] at c;cases c)] at this;exact this
 ·have c:=ay c;rw[if_pos (a.1 (by simpa using c))] at this;exact this
noncomputable def vC:Code:=Tryz.f16.body.getD .skip
noncomputable def ai2:Code:=Tryz.f24.body.getD .skip
def Sc:pZ:=[(3,(OT.l [0,1,2,3,4,5,6] .fin),[0,1,3,7,0,31,63])]
def Qa:List Value:=[.int .i64 0]
def Tp (K:Int->HP):Value->HP:=λv h=>rI v λr0=>K r0 h
theorem ami {c0 c1:Addr} {h:Hp} {K:HP} (H:Ld h c0 mI λi=>If (i != 0) (Ld h c1 id λf=>bJ Tryz.prog f [] h (λr b=>r=(.tuple #[])/\(K b)) (λ_ _=>False)) (K h)) :
  ∀w,aE w=h->jZ Tryz.prog zD [.pointer (some c0), .pointer (some c1)] .returning w λu2 a=>u2=.returning/\aY w a/\K (aE a):=by
 intro w j;have:=ahU (P:=Tryz.prog) (aZ:=[]) (D:=gD Tryz.prog []) (tA _) (g:=zD) (fn:=Tryz.f24) (c:=ai2) (caps:=[.pointer (some c0), .pointer (some c1)]) (h:=h) (zs:=[]) (Kv:=λ_ h=>K h)
  Tryz.func24 aF aF (cast aF H) w j
 refine this.mono ?_;rintro e u2 a ⟨k,b,l,v,d⟩;refine ⟨k,b,l,?_⟩;simp only[dK,uC] at d;exact d.2
def Xe (b:Option Addr) (a3 a4 a5:Addr) (K:Int->HP) (h:Hp):Prop :=
  NN b λp13 =>
  Ld h (p13.add 7) id λt15 =>
  aQ h a3 λZZ ZY ZX ZW =>
  cL Tryz.prog t15 "colonnade/build.take" [(.agg #[(.bool ZZ),(.int .i64 ZY),(.string ZX),(Sl.v ZW)])] h (λr h1=>∃t17:Int,r=(.int .i64 t17)/\(
    St h1 a4 (.int .i64 t17) λh2 =>
    ∀w,aE w=h2->jZ Tryz.prog zD [.pointer (some a4), .pointer (some a5)] .returning w λu' w'=>u'=.returning/\aY w w'/\Ld (aE w') a4 mI λr0=>K r0 (aE w'))) (λ_ _=>False)
abbrev N9 (b:Option Addr) (Ar:Bool) (Aq:Int) (Ao:ByteArray) (An:Sl) (a3 a4 a5 p7:Addr) (t9 t10:Value):Fr :=
 [some (.pointer b),some (.agg #[(.bool Ar),(.int .i64 Aq),(.string Ao),(Sl.v An)]),none,some (.pointer (some a3)),some (.pointer (some a4)),some (.pointer (some a5)),some (.pointer b),some (.pointer (some p7)),some (.pointer (some (p7.add 7))),some t9,some t10,none,none,none,none,none,none,none]
abbrev JS (b:Option Addr) (Ar:Bool) (Aq:Int) (Ao:ByteArray) (An:Sl) (a3 a4 a5 p7:Addr) (t9 t10:Value) (K:Int->HP) (h:Hp):Prop :=
 ∃(caps:List Value),Nat.blt 11 (N9 b Ar Aq Ao An a3 a4 a5 p7 t9 t10).length=true/\eV (ev (N9 b Ar Aq Ao An a3 a4 a5 p7 t9 t10)) [.tmp 4, .tmp 5]=some caps /\
  c8 Tryz.prog [] (gD Tryz.prog Sc) none (sub [1,1,1] vC) (BD Tryz.prog zD caps Tryz.f16.results.toList Qa (Tp K)) (λ_ _=>False) ((N9 b Ar Aq Ao An a3 a4 a5 p7 t9 t10).set 11 (some (.func (.func zD) #[] caps.toArray))) h
theorem JS.of {b:Option Addr} {B:Bool} {x:Int} {e:ByteArray} {s:Sl} {p q c g:Addr} {v V:Value} {K:Int->HP} {h:Hp} (H:Xe b p q c K h):JS b B x e s p q c g v V K h :=
 ⟨[.pointer (some q), .pointer (some c)],by kernel_rfl,by kernel_rfl,cast aF H⟩
theorem Dg.of {b:Option Addr} {B:Bool} {x:Int} {c:ByteArray} {s:Sl} {h:Hp} {K:Int->HP} {Kp:PK} (H :
    iJ h B x c s λJ C =>
    aD C #[(.int .i64 0)] BW λI u =>
    NN b λt =>
    Ld u (t.add 7) id λq =>
    cL Tryz.prog q "colonnade/build.mark" [] u (λr A=>∃e:Value,r=e/\(
      aD A #[(.nilFunc)] Y4 λw z =>
      NA e <|
      St z w e λy =>
      JS b B x c s J I w t q e K y)) (λ_ _=>False)):Dg b B x c s h K Kp:=by
  have:=agL (P:=Tryz.prog) (aZ:=[]) (D:=gD Tryz.prog Sc) (tA _) (f:=al6) (g:=zD) (fn:=Tryz.f16) (pre:=[sub [0] vC,sub [1,0] vC]) (c2:=sub [1,1,1] vC) (id:=2) (o1:=sJ (sub [1,1] vC) 0) (o2:=sJ (sub [1,1] vC) 1) (tc:=11) (BI:=#[.tmp 4, .tmp 5]) (call:=Oz (sJ (sub [1,1] vC) 1))
    (zs:=Qa) (args:=[(.pointer b),(.agg #[(.bool B),(.int .i64 x),(.string c),(Sl.v s)])]) (h:=h) (Kv:=Tp K) (Kp:=Kp) Tryz.func16 aF aF aF aF aF aF aF aF aF aF aF aF (cast aF H)
  exact cast aF this
def hB (x c:Int):Int:=IntKind.u64.wrap (dF .xor .u64 x (IntKind.u64.wrap c)*1099511628211)
def hN:Nat->Int->Int->Int
 | 0,x,_=>x
 | k+1,x,n=>hN k (hB x (IntKind.u8.wrap n)) (Int.fdiv n (2 ^ 8))
def hT (x:Int) (l:List UInt8):Int:=l.foldl (λx b=>hB x (b.toNat:Int)) x
mutual
def ak.jr:ak->Int->Int
 | .mk aq num text items,x=>oB items (hN 8 (hT (hN 8 (hN 8 (hB x (if aq then 1 else 0)) (IntKind.u64.wrap num)) (IntKind.u64.wrap (text.length:Int))) text) (IntKind.u64.wrap (items.length:Int)))
def oB:List ak->Int->Int
 | [],x=>x
 | v::vs,x=>oB vs (v.jr x)
end
def ak.hash (v:ak):Int:=v.jr 14695981039346656037
def hl (vals:List ak) (n:Nat) (u:Int):List Nat:=(List.range n).filter λi=>decide ((vals.getD i v0).hash=u)
structure jC (es:List MapEntry) (P:Int->Prop) (S:Int->Sl):Prop where
 a:∀e∈es,∃u:Int,e.key=.int .u64 u/\e.val=Sl.v (S u)/\P u
 b:∀u,P u->∃e∈es,e.key=.int .u64 u
 c:es.Pairwise λx y=>x.key≠y.key
theorem Lj {m i:Nat} {D:Nat->Prop} {h g:Hp} {s:Sl} {rows:List (List Value)} {el:TypeId} (o:cN m i h s rows el) (f:Tn D h g) (k:∀c,s.at c->¬D c):cN m i g s rows el:=by
 rcases o.cases with ⟨j,e⟩ | ⟨b,l,r⟩
 ·rw[j,e];exact cN.nil _ _ _ _
 ·have d:=r.fr f (k b ⟨_,r.a,rfl⟩);exact ⟨d.len,d.n, .inr ⟨b,l,d.lt,d.own⟩⟩
structure di (X:Nat->Prop) (h:Hp) (sv:Sl) (mr:Nat) (vals:List ak) (n:Nat):Prop where
 ex:∃(Xi:Nat->Prop) (ts:List Sl) (S:Int->Sl) (bk:Int->Nat),((∀c,Xi c->X c/\¬sv.at c/\c≠mr/\∀u,hl vals n u≠[]->c≠bk u)/\(∀c,sv.at c->X c/\c≠mr/\∀u,hl vals n u≠[]->c≠bk u)/\X mr /\
  (∀u,hl vals n u≠[]->X (bk u)/\bk u≠mr/\dX h (S u) (bk u) (ints (hl vals n u)) Y6)/\∀u v,hl vals n u≠[]->hl vals n v≠[]->u≠v->bk u≠bk v) /\
  (ts.length=vals.length/\cN 0 4 h sv (List.zipWith ak.row vals ts) bW/\∀(j:Nat) (v:ak) (t:Sl),vals[j]? = some v->ts[j]? = some t->au Xi h t v.items)/\∃es c,h[mr]? = some (.map es c)/\jC es.toList (λu=>hl vals n u≠[]) S
theorem di.fr {D S:Nat->Prop} {h g:Hp} {sv:Sl} {m n:Nat} {b:List ak} (d:di D h sv m b n) (t:Tn S h g) (f:∀c,D c->c < h.size->¬S c):di D g sv m b n:=by
 obtain ⟨M,z,N,y,⟨r,p,o,C,B⟩,⟨F,s,E⟩,K,c,e1,L⟩:=d;have x:=(Array.getElem?_eq_some_iff.1 e1).1;refine ⟨M,z,N,y,⟨r,p,o,λu G => ?_,B⟩,⟨F,?_,λj v w J I=>au.fr t (λc e hl=>f c (r c e).1 hl) (λ_ q=>q) _ (E j v w J I)⟩,K,c,(t.2 m x (f m o x)).trans e1,L⟩
 ·obtain ⟨l,A,i⟩:=C u G;have:y u < h.size:=by obtain ⟨_,_,cs,k,_⟩:=i;exact k.lt
  exact ⟨l,A,i.fr t (f _ l this)⟩
 ·exact Lj s t λc e=>f c (p c e).1 (by obtain ⟨a,H,rfl⟩:=e;exact (s.at ⟨a,H,rfl⟩).2)
theorem di.mono {D E:Nat->Prop} {h:Hp} {sv:Sl} {m n:Nat} {b:List ak} (d:di D h sv m b n) (f:∀c,D c->E c):di E h sv m b n:=by
 obtain ⟨s,l,t,r,⟨j,i,q,g,o⟩,p,e⟩:=d;exact ⟨s,l,t,r,⟨λc a=>⟨f c (j c a).1,(j c a).2⟩,λc a=>⟨f c (i c a).1,(i c a).2⟩,f _ q,λu k=>⟨f _ (g u k).1,(g u k).2⟩,o⟩,p,e⟩
def aU (k:Int):TypeId:=if k=1 then jW else if k=12\/k=13 then jV else if k=15 then jU else if k=16 then jy else if k=17 then jw else if k=18 then kH else if k=19 then kG else if k=20 then jT else kF
def eM (k:Int):TypeId:=if k=1 then Pd else if k=12\/k=13 then Pc else if k=15 then Pb else if k=16 then Pa else if k=17 then O9 else if k=18 then O8 else if k=19 then O7 else if k=20 then O6 else O5
def bC (k:Int) (r:Rb):List (List Value × TypeId) :=
 if k=12\/k=13 then [(ints r.ends,Y6),(bv r.all,Y8)] else if k=15\/k=19\/k=20 then [(ints r.ends,Y6)] else if k=18 then [(bv r.all,Y8),(ints r.ends,Y6)] else if k=1\/k=16\/k=17 then [] else [(gF r.cm,kI),(strs r.texts,lS)]
def jG (k:Int) (kv:List Value) (ks:Sl) (sp:List Value):List Value:=if k=15\/k=16\/k=19\/k=20 then kv++sp else if k=17\/k=18 then Sl.v ks::sp else sp
abbrev dB (k:Int) (SS:List Sl) (kv:List Value) (ks:Sl) (sp:List Value):List Value:=SS.map Sl.v++jG k kv ks sp
structure bI where
 b:Nat
 sf:Sl
 sn:Sl
 sb:Sl
 ks:Sl
 SS:List Sl
 ST:List (Nat->Prop)
 KT:List (Nat->Prop)
 kv:List Value
 sp:List Value
 T0:Nat->Prop
 R:Nat->Prop
 X:Nat->Prop
def bI.Ls (g:bI):List (Nat->Prop):=g.T0::g.R::g.X::(g.ST++g.KT)
abbrev bD:=(Nat->Prop)->Hp->Value->Raw->Option Mem->Prop
def fN (r:Rb):ak:=r.vals.getLast?.getD sk
def eY (k:Int) (X:Nat->Prop) (h:Hp) (sp:List Value) (r:Rb):Prop :=
 if k=19 then ∃sv mr,sp=[Sl.v sv, .map (some mr)]/\di X h sv mr r.vals r.vals.length else if k=20 then ∃t,sp=[.bool (fN r).aq, .int .i64 (fN r).num, .string (bs (fN r).text),Sl.v t]/\au X h t (fN r).items else sp=[]
def tN (R:Nat->Prop) (h:Hp) (caps:List Value) (cs:List (Array Value)):Prop :=
 caps.length=cs.length/\∀(i:Nat) c,cs[i]? = some c->∃a t,caps[i]? = some (.pointer (some ⟨a,0,none⟩))/\R a/\aB h a c t
def vX (R:Nat->Prop) (h:Hp) (KF:Value) (Fs:List Value):Prop :=
 ∃a t s,KF=.func (.func PO) #[] #[.pointer (some ⟨a,0,none⟩)]/\R a/\aB h a #[Sl.v s] t/\cV R h s Fs
def pI (n:Nat):Array Value:=#[.int .i64 (n:Int)]
def fF (k:Int) (b:Nat) (F0 KF:Value) (mm:Mem):List (Array Value) :=
 let m:Array Value:=#[.pointer (some ⟨b,0,none⟩)]
 if k=12\/k=13 then [#[F0],m,pI mm.r.b.ends.length,pI mm.r.b.all.length]
 else if k=15 then [#[F0],#[KF],m,pI mm.r.b.ends.length]
 else if k=16\/k=17 then [#[F0],#[KF]]
 else if k=18 then [#[F0],#[KF],m,pI mm.r.b.all.length]
 else if k=19 then [#[F0],#[KF],m,pI mm.r.b.ends.length,pI mm.r.b.vals.length]
 else if k=20 then [#[F0],#[KF],m,pI mm.r.b.ends.length,mm.sp.toArray,pI (mm.r.b.ends.getLastD 0)]
 else [#[F0],m,pI mm.r.b.cm.length]
def cz (k:Int) (r m:Rb):Prop :=
 if k=12\/k=13 then m.ends <+: r.ends/\m.all <+: r.all else if k=15 then m.ends <+: r.ends else if k=19 then m.ends <+: r.ends/\m.vals <+: r.vals/\r.vals.length<=5000/\∀v∈r.vals,v.aV<=4194304
 else if k=18 then m.ends <+: r.ends/\m.all <+: r.all/\m.ends.length=m.all.length
 else if k=1\/k=16\/k=17 then True else if k=20 then m.ends.length<=r.ends.length/\m.ends.dropLast <+: r.ends/\m.ends.length<=4096 else m.cm <+: r.cm/\m.texts <+: r.texts/\m.cm.length=m.texts.length
structure Ce (f:ai) (bk:FuncId) (h:Hp) (r:Raw) (mm:Mem) (g:bI):Prop where
 c:∃F0 KF,D9 g.R g.T0 h g.b f g.sf g.sn g.sb F0 mm.s mm.r.b/\(f.k=15\/f.k=16\/f.k=19\/f.k=20->∃m0,mm.ks=[m0]/\KF=m0.F)/\(f.k=17\/f.k=18->vX g.R h KF (mm.ks.map Mem.F)) /\
  (f.k=1->mm.F=F0)/\(f.k≠1->∃caps:List Value,mm.F=.func (.func bk) #[] caps.toArray/\tN g.R h caps (fF f.k g.b F0 KF mm))
 pr:cz f.k r.b mm.r.b
 ks:mm.r.kids=mm.ks.map Mem.r/\mm.ks.length=f.cs.length
 sp:f.k=20->eY 20 g.X h mm.sp mm.r.b
def dG (k:Int):FuncId:=if k=12\/k=13 then zC else if k=15 then zA else if k=16 then zy else if k=17 then zw else if k=18 then zu else if k=19 then zq else if k=20 then rY else zp
structure bh (f:ai) (KM:List bD) (T:Nat->Prop) (h:Hp) (r:Raw) (m:Option Mem) (g:bI):Prop where
 t:iq T h g.b g.Ls
 B:iQ g.T0 h g.b (eM f.k) f g.sf g.sn g.sb r.b (dB f.k g.SS g.kv g.ks g.sp)
 ls:g.SS.length=(bC f.k r.b).length/\g.ST.length=(bC f.k r.b).length
 sl:∀(i:Nat) s A x,g.SS[i]? = some s->g.ST[i]? = some A->(bC f.k r.b)[i]? = some x->Os A h s x.1 x.2
 lk:g.kv.length=KM.length/\g.KT.length=KM.length/\r.kids.length=KM.length
 aC:∀(j:Nat) (M:bD) A w,KM[j]? = some M->g.KT[j]? = some A->g.kv[j]? = some w->M A h w (r.aC j) (m.bind λmm=>mm.ks[j]?)
 no:au g.R h g.sn f.bO.items
 kl:f.k=17\/f.k=18->cV g.R h g.ks g.kv
 sp:eY f.k g.X h g.sp r.b
 mm:∀mm,m=some mm->Ce f (dG f.k) h r mm g
def bE (f:ai) (KM:List bD):bD:=λT h v r m=>∃g:bI,v=.iface (aU f.k) (.pointer (some ⟨g.b,0,none⟩))/\bh f KM T h r m g
def dD (M:bD):Prop:=∀{T S:Nat->Prop} {h h':Hp} {v:Value} {r:Raw} {m:Option Mem},M T h v r m->Tn S h h'->(∀c,T c->c < h.size->¬S c)->M T h' v r m
section
variable {f:ai} {KM:List bD} {T R X S:Nat->Prop} {h h':Hp} {r:Raw} {m:Option Mem} {g:bI}
theorem eY.fr {k:Int} {sp:List Value} {b:Rb} (s:eY k X h sp b) (t:Tn S h h') (o:∀c,X c->c < h.size->¬S c):eY k X h' sp b:=by
 unfold eY at s ⊢;split
 ·rename_i q
  rw[if_pos q] at s;obtain ⟨u,w,e,v⟩:=s;exact ⟨u,w,e,v.fr t o⟩
 ·rename_i q
  rw[if_neg q] at s;split
  ·rename_i a
   rw[if_pos a] at s;obtain ⟨u,e,v⟩:=s;exact ⟨u,e,au.fr t o (λ_ z=>z) _ v⟩
  ·rename_i a;rw[if_neg a] at s;exact s
theorem eY.eq {k:Int} {sp:List Value} {r a:Rb} (s:eY k X h sp r) (e:a.vals=r.vals):eY k X h sp a:=by
 unfold eY fN at *;rw[e];exact s
theorem eY.mono {D:Nat->Prop} {k:Int} {sp:List Value} {r:Rb} (s:eY k X h sp r) (b:∀c,X c->D c):eY k D h sp r:=by
 unfold eY at s ⊢;split
 ·rename_i q
  rw[if_pos q] at s;obtain ⟨u,w,e,v⟩:=s;exact ⟨u,w,e,v.mono b⟩
 ·rename_i q
  rw[if_neg q] at s;split
  ·rename_i a
   rw[if_pos a] at s;obtain ⟨u,e,v⟩:=s;exact ⟨u,e,au.mo v b⟩
  ·rename_i a;rw[if_neg a] at s;exact s
theorem tN.fr {caps:List Value} {cs:List (Array Value)} (c:tN R h caps cs) (t:Tn S h h') (o:∀c,R c->c < h.size->¬S c):tN R h' caps cs :=
 ⟨c.1,λi x d=>by obtain ⟨a,y,e,b,k⟩:=c.2 i x d;exact ⟨a,y,e,b,t.aK k (o a b k.lt)⟩⟩
theorem vX.fr {KF:Value} {C:List Value} (c:vX R h KF C) (t:Tn S h h') (o:∀c,R c->c < h.size->¬S c):vX R h' KF C:=by
 obtain ⟨a,y,s,e,b,k,v⟩:=c;exact ⟨a,y,s,e,b,t.aK k (o a b k.lt),v.fr t o λ_ z=>z⟩
theorem bI.dz (g:bI):g.Ls[0]? = some g.T0:=rfl
theorem bI.cU (g:bI):g.Ls[1]? = some g.R:=rfl
theorem bI.fe (g:bI):g.Ls[2]? = some g.X:=rfl
theorem bI.gT (g:bI) {i:Nat} {A:Nat->Prop} (b:g.ST[i]? = some A):g.Ls[3+i]? = some A:=by
 have a:=(List.getElem?_eq_some_iff.1 b).1;have e:3+i=i+1+1+1:=ag;unfold bI.Ls;rw[e,List.getElem?_cons_succ,List.getElem?_cons_succ,List.getElem?_cons_succ,List.getElem?_append_left a];exact b
theorem bI.dy (g:bI) {j:Nat} {A:Nat->Prop} (a:g.KT[j]? = some A):g.Ls[3+g.ST.length+j]? = some A:=by
 have e:3+g.ST.length+j=g.ST.length+j+1+1+1:=ag;unfold bI.Ls;rw[e,List.getElem?_cons_succ,List.getElem?_cons_succ,List.getElem?_cons_succ,List.getElem?_append_right ag];rw[show g.ST.length+j - g.ST.length=j by omega];exact a
theorem Ce.fr {k:FuncId} {mm:Mem} (M:Ce f k h r mm g) (t:Tn S h h') (b:∀c,g.R c->c < h.size->¬S c) (p:∀c,g.T0 c->c < h.size->¬S c) (o:∀c,g.X c->c < h.size->¬S c):Ce f k h' r mm g:=by
 obtain ⟨⟨u,KF,s,n,l,j,i⟩,d,ks,sp⟩:=M;exact ⟨⟨u,KF,s.fr t b p,n,λq=>(l q).fr t b,j,λq=>by obtain ⟨a,e,mc⟩:=i q;exact ⟨a,e,mc.fr t b⟩⟩,d,ks,λq=>(sp q).fr t o⟩
theorem bh.fr (G:bh f KM T h r m g) (KF:∀(j:Nat) M,KM[j]? = some M->dD M) (t:Tn S h h') (o:∀c,T c->c < h.size->¬S c):bh f KM T h' r m g:=by
 have q:∀{A:Nat->Prop} (i:Nat),g.Ls[i]? = some A->∀c,A c->c < h.size->¬S c:=λi p c k hl=>o c (G.t.sub _ (List.mem_of_getElem? p) c k).1 hl;exact ⟨G.t.grow t.1,G.B.fr t (o g.b G.t.tb (G.t.lt _ G.t.tb)) (q 0 g.dz),G.ls,λi s A x d a l=>(G.sl i s A x d a l).fr t (q _ (g.gT a)),G.lk,
  λj M A w d a l=>KF j M d (G.aC j M A w d a l) t λc k hl=>q _ (g.dy a) c k hl,au.fr t (q 1 g.cU) (λ_ z=>z) _ G.no,λz=>(G.kl z).fr t (q 1 g.cU) λ_ z=>z,G.sp.fr t (q 2 g.fe),λn e=>(G.mm n e).fr t (q 1 g.cU) (q 0 g.dz) (q 2 g.fe)⟩
theorem bE.fr {v:Value} (KF:∀(j:Nat) M,KM[j]? = some M->dD M):dD (bE f KM):=by
 rintro T S h h' v r m ⟨g,e,G⟩ t a;exact ⟨g,e,G.fr KF t a⟩
theorem bh.mono {D:Nat->Prop} (G:bh f KM T h r m g) (hT:∀c,T c->D c) (hl:∀c,D c->c < h.size):bh f KM D h r m g :=
 ⟨G.t.mono hT hl,G.B,G.ls,G.sl,G.lk,G.aC,G.no,G.kl,G.sp,G.mm⟩
end
theorem SG {α:Type} {l:List α} {i:Nat} {a:α} {F:α->α} (h:l[i]? = some a):l.modify i F=l.set i (F a):=by
 apply List.ext_getElem?;intro j;rw[List.getElem?_modify,List.getElem?_set];split
 ·rename_i e
  subst e;rw[h];have:=(List.getElem?_eq_some_iff.1 h).1;simp[this]
 ·simp
theorem bI.Rh (g:bI) {i:Nat} {B:Nat->Prop} (a:i < g.ST.length):g.Ls.set (3+i) B={ g with ST:=g.ST.set i B }.Ls:=by
 have e:3+i=i+1+1+1:=ag;unfold bI.Ls;rw[e,List.set_cons_succ,List.set_cons_succ,List.set_cons_succ,List.set_append_left _ _ a]
theorem bI.Ri (g:bI) {j:Nat} {B:Nat->Prop}:g.Ls.set (3+g.ST.length+j) B={ g with KT:=g.KT.set j B }.Ls:=by
 have e:3+g.ST.length+j=g.ST.length+j+1+1+1:=ag;unfold bI.Ls;rw[e,List.set_cons_succ,List.set_cons_succ,List.set_cons_succ,List.set_append_right _ _ ag,show g.ST.length+j - g.ST.length=j by omega]
section
variable {f:ai} {KM:List bD} {T S A:Nat->Prop} {h h':Hp} {r:Raw} {m:Option Mem} {g:bI} {Kp:PK}
theorem bh.av (G:bh f KM T h r m g) {i j:Nat} {A B:Nat->Prop} (l:g.Ls[i]? = some A) (o:∀c,S c->c < h.size->c=g.b\/A c) (a:g.Ls[j]? = some B) (ne:i≠j):∀c,B c->c < h.size->¬S c :=
 λc d hl k=>(o c k hl).elim (λe=>G.t.gI a (e ▸ d)) λn=>G.t.ne l a ne c n d
theorem bh.jO (G:bh f KM T h r m g) {i:Nat} {A:Nat->Prop} (a:g.Ls[i]? = some A) {c:Nat} (b:A c):T c:=(G.t.sub _ (List.mem_of_getElem? a) c b).1
theorem bh.bl (G:bh f KM T h r m g):g.b < h.size:=G.t.lt _ G.t.tb
theorem abP {aq:Bool} {K:Int->HP} (G:bh f KM T h r m g) (KF:∀(j:Nat) M,KM[j]? = some M->dD M) (v:4096<=r.b.rows->K 3 h)
  (J:r.b.rows < 4096->∀a h',Tn (λc=>c=g.b\/g.T0 c) h h'->bh f KM (Tr T h h') h' (r.up (Rb.row aq)) m { g with sb:=a,T0:=Tr g.T0 h h' }->K 0 h'):jB (some ⟨g.b,0,none⟩) aq h K Kp:=by
 refine abQ G.B (λc q=>G.t.l (by simp[bI.Ls]) q) v λu a h' t p q => ?_
 have N:∀c,(c=g.b\/g.T0 c)->c < h.size->c=g.b\/g.T0 c:=λc q _=>q;have av:∀{j:Nat} {B:Nat->Prop},g.Ls[j]? = some B->0≠j->∀c,B c->c < h.size->¬(c=g.b\/g.T0 c):=λL ne=>G.av g.dz N L ne;refine J u a h' t ⟨G.t.step 0 t.1,⟨p.k,p.o.tr,λq => ?_,p.len,p.nl,p.rl⟩,G.ls,λi s A x C d D=>(G.sl i s A x C d D).fr t (av (g.gT d) ag),G.lk,
  λj M A w C d D=>KF j M C (G.aC j M A w C d D) t (av (g.dy d) ag),au.fr t (av g.cU ag) (λ_ z=>z) _ G.no,λz=>(G.kl z).fr t (av g.cU ag) λ_ z=>z,G.sp.fr t (av g.fe ag),λI e => ?_⟩
 ·rcases q with q | q
  ·exact G.t.gI g.dz q
  ·have q:h.size<=g.b/\g.b < h'.size:=q;have:=G.bl;omega
 ·obtain ⟨⟨U,F,n,R,Q,P,O⟩,H,ks,sp⟩:=G.mm I e;have E:=av g.cU ag;exact ⟨⟨U,F,⟨n.bm.fr t E,(q n.o).tr,n.len,n.nl,n.rl⟩,R,λz=>(Q z).fr t E,P,λz=>by obtain ⟨y,e,mc⟩:=O z;exact ⟨y,e,mc.fr t E⟩⟩,H,ks,λz=>(sp z).fr t (av g.fe ag)⟩
theorem bh.base {a:Rb} (G:bh f KM T h r m g) (KF:∀(j:Nat) M,KM[j]? = some M->dD M) (o:aM g.b h h') (C:iQ g.T0 h' g.b (eM f.k) f g.sf g.sn g.sb a (dB f.k g.SS g.kv g.ks g.sp))
  (e1:bC f.k a=bC f.k r.b) (B:a.vals=r.b.vals) (y:∀x,cz f.k r.b x->cz f.k a x):bh f KM T h' (.mk a r.kids) m g:=by
 have q:∀{A:Nat->Prop} (i:Nat),g.Ls[i]? = some A->∀c,A c->c < h.size->¬c=g.b:=λi u c v hl e=>G.t.gI u (e ▸ v);have t:=o.fr;refine ⟨G.t.grow (Nat.le_of_eq o.1.symm),C,by rw[show (Raw.mk a r.kids).b=a from rfl,e1];exact G.ls,λi s A x n d l => ?_,G.lk,λj M A w n d l=>KF j M n (G.aC j M A w n d l) t (q _ (g.dy d)),
  au.fr t (q 1 g.cU) (λ_ z=>z) _ G.no,λz=>(G.kl z).fr t (q 1 g.cU) λ_ z=>z,?_,λp e => ?_⟩
 ·rw[show (Raw.mk a r.kids).b=a from rfl,e1] at l;exact (G.sl i s A x n d l).fr t (q _ (g.gT d))
 ·exact (G.sp.fr t (q 2 g.fe)).eq B
 ·have M:=(G.mm p e).fr t (q 1 g.cU) (q 0 g.dz) (q 2 g.fe);exact ⟨M.c,y _ M.pr,M.ks,M.sp⟩
theorem YK {x:Int} {n:Nat} {K:Int->HP} (G:bh f KM T h r m g) (KF:∀(j:Nat) M,KM[j]? = some M->dD M) (a:x=n) (d:r.b.aW+n < 2 ^ 62)
  (c:∀h',aM g.b h h'->bh f KM T h' (cO n r).2 m g->K (cO n r).1 h'):iM (some ⟨g.b,0,none⟩) x h K Kp:=by
 exact YI G.B a d λh' o e=>c h' o (G.base KF o e rfl rfl λ_ z=>z)
theorem bh.slot {i:Nat} {u:Sl} {A:Nat->Prop} {R:Raw} {C:List Value × TypeId} {H:Hp} (G:bh f KM T h r m g) (KF:∀(j:Nat) M,KM[j]? = some M->dD M) (E:g.ST[i]? = some A) (t:Tn A h H) (J:Os (Tr A h H) H u C.1 C.2)
  (o:aM g.b H h') (K:aB h' g.b (bt f g.sf g.sn g.sb r.b.rows r.b.bu r.b.aW (dB f.k (g.SS.set i u) g.kv g.ks g.sp)).toArray (eM f.k))
  (l:R.b.rows=r.b.rows/\R.b.bu=r.b.bu/\R.b.bits=r.b.bits/\R.b.aW=r.b.aW) (e1:bC f.k R.b=(bC f.k r.b).set i C) (I:R.kids=r.kids) (O:R.b.vals=r.b.vals) (N:∀v,m=some v->cz f.k r.b v.r.b->cz f.k R.b v.r.b) :
  bh f KM (Tr T h H) h' R m { g with SS:=g.SS.set i u,ST:=g.ST.set i (Tr A h H) }/\Tn (λc=>A c\/c=g.b) h h':=by
 have y:=(List.getElem?_eq_some_iff.1 E).1;have U:∀c,A c->c < h.size->c=g.b\/A c:=λc q _=>.inr q;have D:=g.gT E;have nb:¬A g.b:=G.t.gI D;have bl:=G.bl;have n:Tn (λc=>A c\/c=g.b) h h':=(t.mono λc q _=>.inl q).trans (o.fr.mono λc q _=>.inr q);have F:∀c,(A c\/c=g.b)->c < h.size->c=g.b\/A c:=λc q _=>q.symm;have av:∀{j:Nat} {B:Nat->Prop},g.Ls[j]? = some B->3+i≠j->∀c,B c->c < h.size->¬(A c\/c=g.b):=λL ne=>G.av D F L ne;refine ⟨⟨?_,?_,?_,λj s B x d a p => ?_,by rw[I];exact G.lk,λj M B w d a p => ?_,au.fr n (av g.cU ag) (λ_ z=>z) _ G.no,λz=>(G.kl z).fr n (av g.cU ag) λ_ z=>z,?_,λv e => ?_⟩,n⟩
 ·have:=(G.t.step (3+i) t.1).grow (Nat.le_of_eq o.1.symm);rw[SG D,g.Rh y] at this;exact this
 ·refine ⟨by rw[l.1,l.2.1,l.2.2.2];exact K,by rw[l.2.2.1];exact G.B.o.fr n (av g.dz ag),G.B.nT,by rw[l.2.2.1,l.1];exact G.B.len,by rw[l.2.1,l.1];exact G.B.nl,by rw[l.1];exact G.B.rl⟩
 ·simp only[List.length_set,e1];exact G.ls
 ·dsimp only at d a;rw[e1] at p;rw[List.getElem?_set] at d a p
  by_cases e:i=j
  ·subst e;have Q:=G.ls.1;have P:=G.ls.2;rw[if_pos rfl,if_pos ag] at d p;rw[if_pos rfl,if_pos y] at a;cases d;cases a;cases p;refine J.fr o.fr λc q _ e => ?_;rcases q with q | q
   ·exact nb (e ▸ q)
   ·omega
  ·rw[if_neg e] at d a p;exact (G.sl j s B x d a p).fr n (av (g.gT a) ag)
 ·have:=KF j M d (G.aC j M B w d a p) n (av (g.dy a) (by have:=(List.getElem?_eq_some_iff.1 E).1;omega))
  unfold Raw.aC at this ⊢;rw[I];exact this
 ·exact (G.sp.fr n (av g.fe ag)).eq O
 ·have M:=(G.mm v e).fr n (av g.cU ag) (av g.dz ag) (av g.fe ag);exact ⟨M.c,N v e M.pr,M.ks,M.sp⟩
theorem bh.aez {j:Nat} {A:Nat->Prop} {R:Raw} (G:bh f KM T h r m g) (KF:∀(j:Nat) M,KM[j]? = some M->dD M) (p:g.KT[j]? = some A) (t:Tn A h h')
  (y:∀M w,KM[j]? = some M->g.kv[j]? = some w->M (Tr A h h') h' w R (m.bind λl=>l.ks[j]?)):bh f KM (Tr T h h') h' (r.cK j R) m { g with KT:=g.KT.set j (Tr A h h') }:=by
 have o:=(List.getElem?_eq_some_iff.1 p).1;have v:∀c,A c->c < h.size->c=g.b\/A c:=λc q _=>.inr q;have n:=g.dy p;have nb:¬A g.b:=G.t.gI n;have av:∀{i:Nat} {B:Nat->Prop},g.Ls[i]? = some B->3+g.ST.length+j≠i->∀c,B c->c < h.size->¬A c:=λu ne=>G.av n v u ne;have lk:=G.lk;refine ⟨?_,G.B.fr t nb (av g.dz ag),G.ls,λi s B x d a k=>(G.sl i s B x d a k).fr t (av (g.gT a) (by have:i < g.ST.length:=(List.getElem?_eq_some_iff.1 a).1;omega)),⟨lk.1,by simp only[List.length_set];exact lk.2.1,by rw[qH];exact lk.2.2⟩,λi M B w d a k => ?_,
  au.fr t (av g.cU ag) (λ_ z=>z) _ G.no,λz=>(G.kl z).fr t (av g.cU ag) λ_ z=>z,G.sp.fr t (av g.fe ag),λl e=>(G.mm l e).fr t (av g.cU ag) (av g.dz ag) (av g.fe ag) |> λM=>⟨M.c,M.pr,M.ks,M.sp⟩⟩
 ·have:=G.t.step (3+g.ST.length+j) t.1;rw[SG n,g.Ri] at this;exact this
 ·dsimp only at a;rw[List.getElem?_set] at a
  by_cases e:j=i
  ·subst e;rw[if_pos rfl,if_pos o] at a;cases a;rw[iA ag];exact y M w d k
  ·rw[if_neg e] at a;rw[uD e];exact KF i M d (G.aC i M B w d a k) t (av (g.dy a) ag)
def Out (g:bI) (c:Nat):Prop:=c≠g.b/\∀(i:Nat) A,g.Ls[i]? = some A->i≠1->¬A c
theorem bh.out (G:bh f KM T h r m g) {c:Nat} (a:¬T c):Out g c:=⟨λe=>a (e ▸ G.t.tb),λi A b _ q=>a (G.jO b q)⟩
theorem bh.xD (G:bh f KM T h r m g) {c:Nat} (a:g.R c):Out g c:=⟨λe=>G.t.gI g.cU (e ▸ a),λi A b ne q=>G.t.ne b g.cU ne c q a⟩
theorem Out.not {c:Nat} (G:bh f KM T h r m g) (b:¬Out g c):T c:=by
 by_cases q:T c
 ·exact q
 ·exact absurd (G.out q) b
theorem Out.set {a:bI} {i c:Nat} {A:Nat->Prop} (o:Out g c) (l:a.b=g.b) (p:a.Ls=g.Ls.set i (Tr A h h')) (k:g.Ls[i]? = some A) (s:c < h.size):Out a c:=by
 refine ⟨by rw[l];exact o.1,λj B hB ne q => ?_⟩
 rw[p,List.getElem?_set] at hB;have d:=(List.getElem?_eq_some_iff.1 k).1
 by_cases e:i=j
 ·subst e;rw[if_pos rfl,if_pos d] at hB;cases hB;rcases q with q | q
  ·exact o.2 i A k ne q
  ·omega
 ·rw[if_neg e] at hB;exact o.2 j B hB ne q
end
section
variable {T:Nat->Prop} {h:Hp} {s:Sl} {vs:List Value} {el:TypeId}
theorem Os.Wi {bytes n:Nat} {news:List Value} {e:List Value->Prop} {z:Array Value} {K:Sl->HP} (o:Os T h s vs el) (P:z.size=1) (Q:∀x∈news,one x=true) (hl:news.length=n) (w:e news)
  (F:(s.n+n+(s.n+n) / 4+192)*bytes<=2 ^ 48) (R:s.n+n < 2 ^ 63)
  (y:∀G h',Tn T h h'->Os (Or T h) h' G (vs++news) el->K G h'):Ap h el z 1 bytes s n e K:=by
 have j:∀old:List Value,rd h s.a (s.n*1) old->old=vs->s.c < s.n+n->Ap h el z 1 bytes s n e K:=by
  intro old A q p;subst q;have k:=o.n;refine ⟨news,w, .inr ⟨p,?_,R,old,A,?_⟩⟩
  ·have:=nextslicecap_le_wide (need:=s.n+n) (old:=s.c) p;have Y:=Nat.mul_le_mul_right bytes this;omega
  ·intro u B X;refine y _ _ (Tn.aT (ah.push h _)) (.inr ⟨h.size, .inr (Nat.le_refl _),rfl,?_,_,by simp only[aB,Array.getElem?_push_size];rfl,B,?_,λi l => ?_⟩)
   ·simp[k,hl]
   ·simp[Builtin.zeroCells,k,hl,P];omega
   ·simp only at l;rw[Array.getElem?_append_left (by simp[<-k,hl];omega),List.getElem?_toArray]
 rcases o with ⟨rfl,rfl⟩ | ⟨b,t,J,W,cs,I,Z,V,H⟩
 ·by_cases h0:n=0
  ·subst h0;have:news=[]:=List.length_eq_zero_iff.1 hl;subst this;exact ⟨[],w, .inl ⟨Nat.le_refl _,y Sl.nil h (Tn.refl _ _) (.inl ⟨rfl,rfl⟩)⟩⟩
  ·exact j [] rfl rfl (by simp only[Sl.nil];omega)
 ·by_cases p:s.n+n<=s.c
  ·refine ⟨news,w, .inl ⟨p,?_⟩⟩;rw[J]
   show fI h ((Addr.mk b 0 none).add (s.n*1)) 0 news _
   rw[aI];refine rL news I (by simp only[hl];omega) Q λh' D O N M L=>y _ h' (O.fr.mono λd U _=>U ▸ t) (.inr ⟨b, .inl t,rfl,by simp[W,hl],D,N,p,by rw[M,V],λi l => ?_⟩)
   rw[L i];simp only at l
   by_cases C:i < s.n
   ·rw[if_neg ag,H i C,List.getElem?_append_left ag]
   ·rw[if_pos ag,List.getElem?_append_right ag]
    congr 1;omega
  ·refine j vs ?_ rfl ag;rw[J];refine ⟨by omega,λi v l => ?_⟩
   have:i < vs.length:=(List.getElem?_eq_some_iff.1 l).1;rw[aI,Nat.zero_add,eW I,H i ag];exact l
end
structure bT (f:ai) (KM:List bD) (T:Nat->Prop) (h0 h:Hp) (r:Raw) (m:Option Mem) (g:bI) (E:Nat->Prop):Prop where
 t:Tn T h0 h
 G:bh f KM (Tr T h0 h) h r m g
 e:∀c,E c->c < h.size/\Out g c
section
variable {f:ai} {KM:List bD} {T S E:Nat->Prop} {h0 h h':Hp} {r r':Raw} {m:Option Mem} {g g':bI} {Kp:PK}
theorem bT.of (G:bh f KM T h r m g) (e:∀c,E c->c < h.size/\Out g c):bT f KM T h h r m g E :=
 ⟨Tn.refl _ _,G.mono (λc q=>.inl q) λc q=>q.elim (λq=>G.t.lt c q) λq=>by omega,e⟩
theorem bT.next (s:bT f KM T h0 h r m g E) (G:bh f KM (Tr (Tr T h0 h) h h') h' r' m g') (t:Tn S h h') (d:∀c,S c->c < h.size->¬Out g c) (j:∀c,c < h.size->Out g c->Out g' c):bT f KM T h0 h' r' m g' E/\Tn (λc=>¬E c) h h':=by
 have i:=s.t.1;have b:=t.1;refine ⟨⟨s.t.trans' t λc q a=>(Out.not s.G (d c q ag)).elim id λq=>by omega,G.mono (λc q=>Tr.tr i b q) λc q => ?_,λc q => ?_⟩,t.mono λc q a z=>d c q a (s.e c z).2⟩
 ·rcases q with q | q
  ·have:=s.G.t.lt c (.inl q);omega
  ·exact q.2
 ·have:=s.e c q;exact ⟨by omega,j c this.1 this.2⟩
theorem bT.aj (KF:∀(j:Nat) M,KM[j]? = some M->dD M) (s:bT f KM T h0 h r m g E) (gr:ah h h'):bT f KM T h0 h' r m g (λc=>E c\/(h.size<=c/\c < h'.size)):=by
 have d:=s.t.1;have b:=gr.1;have a:=s.G.fr (S:=No) KF (Tn.aT gr) λ_ _ _=>id;refine ⟨s.t.trans (Tn.aT gr),a.mono (λc q=>q.imp id λq=>⟨q.1,by omega⟩) λc q => ?_,λc q => ?_⟩
 ·rcases q with q | q
  ·have:=s.G.t.lt c (.inl q);omega
  ·exact q.2
 ·rcases q with q | q
  ·have:=s.e c q;exact ⟨by omega,this.2⟩
  ·exact ⟨q.2,s.G.out λz=>by have:=s.G.t.lt c z;omega⟩
theorem bT.only (s:bT f KM T h0 h r m g E) (o:aM g.b h h') (G:bh f KM (Tr T h0 h) h' r' m g):bT f KM T h0 h' r' m g E/\Tn (λc=>¬E c) h h' :=
 s.next (G.mono (λc q=>.inl q) λc q=>q.elim (λq=>G.t.lt c q) λq=>q.2) o.fr (λc q _ z=>z.1 q) λc _ o=>o
theorem bT.fE {a:Nat} {cs:Array Value} {ty:TypeId} (t:Tn (λc=>¬E c) h h') (k:aB h a cs ty) (b:E a):aB h' a cs ty:=t.aK k λq=>q b
theorem mQ {n:Bool} {F:Raw->Int × Raw} (h:4096<=r.b.rows):bL (cR n r) F=(3,r):=by
 unfold cR;rw[if_pos h];rfl
theorem mP {n:Bool} {F:Raw->Int × Raw} (h:r.b.rows < 4096):bL (cR n r) F=F (r.up (Rb.row n)):=by
 unfold cR;rw[if_neg ag];rfl
theorem bh.dL {T:Nat->Prop} {i b:Nat} {s:Sl} {K:Sl->Prop} (G:bh f KM T h r m g) (l:g.b=b) (a:g.SS[i]? = some s) (d:K s):Ld h ⟨b,16+i,none⟩ Sl.v K:=by
 subst l;have j:=(List.getElem?_eq_some_iff.1 a).1;refine an G.B.k ?_ d;rw[List.getElem?_toArray];have e:∀c,bt f g.sf g.sn g.sb r.b.rows r.b.bu r.b.aW c=bt f g.sf g.sn g.sb r.b.rows r.b.bu r.b.aW []++c:=λ_=>rfl;rw[e,List.getElem?_append_right (by show 16<=_;omega)]
 show (List.map Sl.v g.SS++_)[16+i - 16]? = _
 rw[show 16+i - 16=i by omega,List.getElem?_append_left (by simpa using j),List.getElem?_map,a];rfl
theorem bh.pg {T:Nat->Prop} {i:Nat} {s s':Sl} {K:HP} {H:Hp} (G:bh f KM T h r m g) (j:g.SS[i]? = some s) (k:aB H g.b (bt f g.sf g.sn g.sb r.b.rows r.b.bu r.b.aW (dB f.k g.SS g.kv g.ks g.sp)).toArray (eM f.k))
  (l:∀h',aM g.b H h'->aB h' g.b (bt f g.sf g.sn g.sb r.b.rows r.b.bu r.b.aW (dB f.k (g.SS.set i s') g.kv g.ks g.sp)).toArray (eM f.k)->K h'):St H ⟨g.b,16+i,none⟩ (Sl.v s') K:=by
 have n:=(List.getElem?_eq_some_iff.1 j).1;have e:∀d,bt f g.sf g.sn g.sb r.b.rows r.b.bu r.b.aW d=bt f g.sf g.sn g.sb r.b.rows r.b.bu r.b.aW []++d:=λ_=>rfl;have a:(bt f g.sf g.sn g.sb r.b.rows r.b.bu r.b.aW []).length=16:=rfl;refine cE k ?_ rfl λh' o c=>l h' o ?_
 ·rw[e];simp only[List.size_toArray,List.length_append,a,dB,List.length_map];omega
 ·have:(bt f g.sf g.sn g.sb r.b.rows r.b.bu r.b.aW (dB f.k g.SS g.kv g.ks g.sp)).toArray.setIfInBounds (16+i) (Sl.v s')=(bt f g.sf g.sn g.sb r.b.rows r.b.bu r.b.aW (dB f.k (g.SS.set i s') g.kv g.ks g.sp)).toArray:=by
   rw[e,e (dB f.k (g.SS.set i s') g.kv g.ks g.sp),List.setIfInBounds_toArray,List.set_append_right _ _ (by rw[a];omega),a,show 16+i - 16=i by omega,dB,List.set_append_left _ _ (by simpa using n)]
   simp only[dB,List.map_set]
  rw[this] at c;exact c
theorem bT.app {i n bytes b:Nat} {s:Sl} {x x':List Value × TypeId} {news:List Value} {a:List Value->Prop} {z:Array Value} {K:HP} (KF:∀(j:Nat) M,KM[j]? = some M->dD M) (S:bT f KM T h0 h r m g E) (X:g.b=b) (y:g.SS[i]? = some s) (N:(bC f.k r.b)[i]? = some x)
  (L:z.size=1) (P:∀v∈news,one v=true) (hl:news.length=n) (O:a news) (d:(s.n+n+(s.n+n) / 4+192)*bytes<=2 ^ 48) (Q:s.n+n < 2 ^ 63) (W:x'=(x.1++news,x.2))
  (V:r'.b.rows=r.b.rows/\r'.b.bu=r.b.bu/\r'.b.bits=r.b.bits/\r'.b.aW=r.b.aW) (e1:bC f.k r'.b=(bC f.k r.b).set i x') (e0:r'.kids=r.kids) (Z:r'.b.vals=r.b.vals) (Y:∀w,m=some w->cz f.k r.b w.r.b->cz f.k r'.b w.r.b)
  (R:∀e A' h',Tn (λc=>¬E c) h h'->bT f KM T h0 h' r' m { g with SS:=g.SS.set i e,ST:=g.ST.set i A' } E->K h'):Ap h x.2 z 1 bytes s n a λe p=>St p ⟨b,16+i,none⟩ (Sl.v e) K:=by
 subst X;have ls:=S.G.ls;have hi:=(List.getElem?_eq_some_iff.1 y).1;have l:g.ST[i]? = some g.ST[i]:=List.getElem?_eq_getElem ag;generalize g.ST[i]=A at l;refine (S.G.sl i s A x y l N).Wi L P hl O d Q λe p t H => ?_;have nb:¬A g.b:=S.G.t.gI (g.gT l);refine S.G.pg y (t.aK S.G.B.k nb) λh' o I => ?_;have C:Os (Tr A h p) p e x'.1 x'.2:=by rw[W];exact H.tr
 obtain ⟨G',F⟩:=S.G.slot KF l t C o I V e1 e0 Z Y;have so:=o.1;have u:=g.gT l;have J:i < g.ST.length:=(List.getElem?_eq_some_iff.1 l).1;obtain ⟨S',D⟩:=S.next (G'.mono (λc q=>q.imp id λq=>⟨q.1,by omega⟩) λc q=>by rcases q with q | q;(have:=S.G.t.lt c q;have:=t.1;omega);exact q.2) F (λc q _ z=>q.elim (z.2 _ A u ag) z.1) λc U z=>z.set (h:=h) (h':=p) rfl (g.Rh J).symm u U
 exact R e _ h' D S'
theorem bT.row {b:Nat} {aq:Bool} {K:Int->HP} (KF:∀(j:Nat) M,KM[j]? = some M->dD M) (S:bT f KM T h0 h r m g E) (o:g.b=b) (d:4096<=r.b.rows->K 3 h)
  (n:r.b.rows < 4096->∀a u h',Tn (λc=>¬E c) h h'->bT f KM T h0 h' (r.up (Rb.row aq)) m { g with sb:=a,T0:=u } E->K 0 h'):jB (some ⟨b,0,none⟩) aq h K Kp:=by
 subst o;refine abP S.G KF d λc a h' k t => ?_;obtain ⟨p,e⟩:=S.next t k (λc q _ z=>q.elim z.1 (z.2 0 _ g.dz aL)) λc l z=>z.set (i:=0) (h:=h) (h':=h') rfl rfl g.dz l;exact n c a _ h' e p
theorem bT.lI {b:Nat} {x:Int} {n:Nat} {K:Int->HP} (KF:∀(j:Nat) M,KM[j]? = some M->dD M) (S:bT f KM T h0 h r m g E) (l:g.b=b) (d:x=n) (k:r.b.aW+n < 2 ^ 62)
  (e:∀h',Tn (λc=>¬E c) h h'->bT f KM T h0 h' (cO n r).2 m g E->K (cO n r).1 h'):iM (some ⟨b,0,none⟩) x h K Kp:=by
 subst l;refine YK S.G KF d k λh' o p => ?_;obtain ⟨i,a⟩:=S.only o p;exact e h' a i
theorem bT.aC {j:Nat} {A:Nat->Prop} {rj:Raw} (KF:∀(j:Nat) M,KM[j]? = some M->dD M) (S:bT f KM T h0 h r m g E) (b:g.KT[j]? = some A) (t:Tn A h h')
  (l:∀M w,KM[j]? = some M->g.kv[j]? = some w->M (Tr A h h') h' w rj (m.bind λe=>e.ks[j]?)):bT f KM T h0 h' (r.cK j rj) m { g with KT:=g.KT.set j (Tr A h h') } E/\Tn (λc=>¬E c) h h':=by
 have a:=g.dy b;exact S.next (S.G.aez KF b t l) t (λc q _ z=>z.2 _ A a ag q) λc d z=>z.set (h:=h) (h':=h') rfl g.Ri.symm a d
theorem bh.ia {T:Nat->Prop} {i b:Nat} {w:Value} {K:Value->Prop} (G:bh f KM T h r m g) (l:g.b=b) (a:f.k=15\/f.k=16\/f.k=19\/f.k=20) (hl:g.SS.length=i) (c:g.kv[0]? = some w) (j:K w):Ld h ⟨b,16+i,none⟩ id K:=by
 subst l;refine an G.B.k ?_ j;rw[List.getElem?_toArray];have e:∀d,bt f g.sf g.sn g.sb r.b.rows r.b.bu r.b.aW d=bt f g.sf g.sn g.sb r.b.rows r.b.bu r.b.aW []++d:=λ_=>rfl;rw[e,List.getElem?_append_right (by show 16<=_;omega)]
 show (List.map Sl.v g.SS++_)[16+i - 16]? = _
 rw[List.getElem?_append_right cC,List.length_map,show 16+i - 16 - g.SS.length=0 by omega]
 unfold jG;rw[if_pos a];have:=(List.getElem?_eq_some_iff.1 c).1;rw[List.getElem?_append_left this];exact c
end
structure MC (f:ai) (M:bD):Prop where
 fr:dD M
 lt:∀{T:Nat->Prop} {h:Hp} {v:Value} {r:Raw} {m:Option Mem},M T h v r m->∀c,T c->c < h.size
 na:∀{T:Nat->Prop} {h:Hp} {v:Value} {r:Raw} {m:Option Mem},M T h v r m->∃k b,v=.iface (aU k) (.pointer (some ⟨b,0,none⟩))
 mono:∀{T T':Nat->Prop} {h:Hp} {v:Value} {r:Raw} {m:Option Mem},M T h v r m->(∀c,T c->T' c)->(∀c,T' c->c < h.size)->M T' h v r m
 drop:∀{T:Nat->Prop} {h:Hp} {v:Value} {r:Raw} {m:Option Mem},M T h v r m->M T h v r none
 take:∀{T D:Nat->Prop} {h:Hp} {v:Value} {vs:List ak} {m:Option Mem} {x:ak} {s:Sl} {K:Int->HP} {Kp:PK},f.can vs->f.fit x=true->x.aV<=4194304->M T h v (f.st vs) m->au D h s x.items->(∀c,D c->¬T c) ->
  (∀h',Tn T h h'->M (Tr T h h') h' v (f.tk (f.st vs) x).2 m->K (f.tk (f.st vs) x).1 h')->iZ v x.aq x.num (bs x.text) s h K Kp
 zero:∀{T:Nat->Prop} {h:Hp} {v:Value} {vs:List ak} {m:Option Mem} {K:Int->HP} {Kp:PK},f.can vs->M T h v (f.st vs) m ->
  (∀h',Tn T h h'->M (Tr T h h') h' v (f.zk (f.st vs)).2 m->K (f.zk (f.st vs)).1 h')->iO v h K Kp
 mark:∀{T:Nat->Prop} {h:Hp} {v:Value} {vs:List ak} {K:Value->HP} {Kp:PK},f.can vs->M T h v (f.st vs) none ->
  (∀mm h',ah h h'->one mm.F=true->mm.F.cells=#[mm.F]->mm.r=f.st vs->M (Tr T h h') h' v (f.st vs) (some mm)->K mm.F h')->gE v h K Kp
 back:∀{T:Nat->Prop} {h:Hp} {v:Value} {r:Raw} {mm:Mem} {K:HP} {Kp:PK},M T h v r (some mm) ->
  (∀h',Tn T h h'->M T h' v mm.r (some mm)->K h')->bJ Tryz.prog mm.F [] h (λr h1=>r=.tuple #[]/\K h1) Kp
 done:∀{T:Nat->Prop} {h:Hp} {v:Value} {vs:List ak} {m:Option Mem} {K:Int->Int->Int->Sl->Sl->Sl->HP} {Kp:PK},f.can vs->M T h v (f.st vs) m ->
  (∀p h',ah h h'->c7 (Nw h) (Nw h) h' p (f.dn (f.st vs))->K (f.dn (f.st vs)).len (f.dn (f.st vs)).off (f.dn (f.st vs)).aq p.1 p.2.1 p.2.2 h')->iP v h K Kp
 count:∀{T:Nat->Prop} {h:Hp} {v:Value} {r:Raw} {m:Option Mem} {K:Int->HP} {Kp:PK},M T h v r m->K (r.b.rows:Int) h->Xw v h K Kp
 weight:∀{T:Nat->Prop} {h:Hp} {v:Value} {r:Raw} {m:Option Mem} {K:Int->HP} {Kp:PK},M T h v r m->K (r.b.aW:Int) h->Xv v h K Kp
section
variable {f:ai} {KM:List bD} {T D:Nat->Prop} {h:Hp} {v:Value} {r:Raw} {m:Option Mem} {x:ak} {s:Sl} {K:Int->HP} {Kp:PK}
theorem bh.kq {g:bI} {i:Nat} {s:Sl} {x:List Value × TypeId} (G:bh f KM T h r m g) (a:g.SS[i]? = some s) (c:(bC f.k r.b)[i]? = some x):s.n=x.1.length:=by
 have d:=G.ls;have e:=(List.getElem?_eq_some_iff.1 a).1;exact (G.sl i s _ x a (List.getElem?_eq_getElem ag) c).n
theorem Zn (a:f.k=1) (r:Raw) (x:ak):f.tk r x=bL (cR true r) (cO 16):=by
 rw[ai.jF];unfold gY;rw[if_pos a]
theorem QF {g:bI} (e:f.k=1) (KF:∀(j:Nat) M,KM[j]? = some M->dD M) (G:bh f KM T h r m g) (I:r.b.aW<=2 ^ 50) (d:∀i,Tn T h i->bE f KM (Tr T h i) i (.iface (aU f.k) (.pointer (some ⟨g.b,0,none⟩))) (f.tk r x).2 m->K (f.tk r x).1 i):zW (some ⟨g.b,0,none⟩) x.aq x.num (bs x.text) s h K Kp:=by
 have l:aU f.k=jW:=by unfold aU;rw[if_pos e]
 rw[l] at d;rw[Zn e] at d;refine zW.of (az λa u H w C _ => ?_);simp only[kO];have n:=(bT.of (E:=λ_=>False) G λ_ q=>q.elim).aj KF w;refine n.row KF rfl (λc=>bx rfl ?_) λc z J F B y=>aR rfl ?_
 ·rw[mQ c] at d;exact d u n.t ⟨g,by rw[l],n.G⟩
 ·rw[mP c] at d;refine y.lI KF rfl rfl (by show r.b.aW+16 < 2 ^ 62;omega) λp A o=>d p o.t ⟨_,by rw[l],o.G⟩
theorem Zh (c:f.k=12\/f.k=13) (r:Raw) (x:ak):f.tk r x=bL (cR x.aq r) λa=>if 65536 < a.b.all.length+x.text.length then (4,a) else cO (16+x.text.length) (a.up λb=>{ b with all:=b.all++x.text,ends:=b.ends++[b.all.length+x.text.length] }):=by
 rw[ai.jF];unfold gY;rw[if_neg ag,if_pos c]
theorem Qz {g:bI} (A:f.k=12\/f.k=13) (KF:∀(j:Nat) M,KM[j]? = some M->dD M) (G:bh f KM T h r m g) (b1:r.b.ends.length<=70000) (b2:r.b.all.length<=2 ^ 40) (b3:r.b.aW<=2 ^ 50) (b4:x.text.length<=2 ^ 40)
  (o:∀J,Tn T h J->bE f KM (Tr T h J) J (.iface (aU f.k) (.pointer (some ⟨g.b,0,none⟩))) (f.tk r x).2 m->K (f.tk r x).1 J):zV (some ⟨g.b,0,none⟩) x.aq x.num (bs x.text) s h K Kp:=by
 have L:aU f.k=jV:=by unfold aU;rw[if_neg ag,if_pos A]
 rw[L] at o;rw[Zh A] at o;have l:∀I:Rb,bC f.k I=[(ints I.ends,Y6),(bv I.all,Y8)]:=λI=>by unfold bC;rw[if_pos A]
 have U:∀a b:Rb,cz f.k a b↔b.ends <+: a.ends/\b.all <+: a.all:=λa b=>by unfold cz;rw[if_pos ag]
 obtain ⟨C,p,d⟩:∃C p,g.SS=[C,p]:=by
  have:=G.ls.1;rw[l] at this
  match hg:g.SS,this with
  | [a,b],_=>exact ⟨a,b,rfl⟩
 refine zV.of (az λa S ea g1 e _ => ?_);refine bF ?_;have O:=(bT.of (E:=λ_=>False) G λ_ q=>q.elim).aj KF g1;have bl:=G.bl;have P:(λc=>False\/(h.size<=c/\c < S.size)) a:=.inr ⟨by omega,e.lt⟩
 refine an e rfl (O.row KF rfl (λc=>bx rfl ?_) λc a' A' h2 Y w=>aR rfl ?_)
 ·rw[mQ c] at o;exact o S O.t ⟨g,by rw[L],O.G⟩
 ·rw[mP c] at o;have e:=bT.fE Y e P;have n1:p.n=r.b.all.length:=by have:=w.G.kq (i:=1) (s:=p) (by simp[d]) (by rw[l];rfl);rw[this,eL];rfl
  have n0:C.n=r.b.ends.length:=by have:=w.G.kq (i:=0) (s:=C) (by simp[d]) (by rw[l];rfl);rw[this,ints,List.length_map];rfl
  refine w.G.dL (i:=1) (s:=p) rfl (by simp[d]) (an e rfl (aP (by rw[fG];omega) (by rw[fG];omega) (aA (λu => ?_) λu => ?_)))
  ·have u:=ay u;rw[fG] at u;rw[if_pos (by show 65536 < r.b.all.length+_;omega)] at o
   exact o h2 w.t ⟨_,by rw[L],w.G⟩
  ·have u:=ay u;rw[fG] at u;rw[if_neg (by show ¬65536 < r.b.all.length+_;omega)] at o
   refine w.G.dL (i:=1) (s:=p) rfl (by simp[d]) (an e rfl ?_)
   refine w.app (i:=1) (s:=p) (x:=(bv r.b.all,Y8)) (x':=(bv (r.b.all++x.text),Y8)) (r':=(r.up (Rb.row x.aq)).up λb=>{ b with all:=b.all++x.text }) (news:=bv x.text) KF rfl (by simp[d]) (by rw[l];rfl) rfl ?_ (by rw[eL,fG]) ?_ (by rw[fG];omega) (by rw[fG];omega) (by rw[OM])
    ⟨rfl,rfl,rfl,rfl⟩ (by rw[l,l];rfl) rfl rfl (λZ _ q => ?_) λz A1 h3 X H => ?_
   ·intro v F;simp only[bv,List.mem_map] at F;obtain ⟨y,_,rfl⟩:=F;rfl
   ·rfl
   ·rw[U] at q ⊢;exact ⟨q.1,q.2.trans (List.prefix_append _ _)⟩
   have e:=bT.fE X e P;have Q:z.n=r.b.all.length+x.text.length:=by have:=H.G.kq (i:=1) (s:=z) (by simp[d]) (by rw[l];rfl);rw[this,eL];exact List.length_append
   refine H.G.dL (i:=0) (s:=C) rfl (by simp[d]) (H.G.dL (i:=1) (s:=z) rfl (by simp[d]) (az λa5 h4 e5 N R _=>bK H.G.B.k N ?_))
   rw[Q] at R;refine (H.aj KF N).app (i:=0) (s:=C) (x:=(ints r.b.ends,Y6)) (x':=(ints (r.b.ends++[r.b.all.length+x.text.length]),Y6)) (r':=(r.up (Rb.row x.aq)).up λb=>{ b with all:=b.all++x.text,ends:=b.ends++[b.all.length+x.text.length] }) (news:=[.int .i64 ((r.b.all.length+x.text.length:Nat):Int)]) KF rfl (by simp[d]) (by rw[l];rfl) rfl ?_ rfl (iB R rfl) ag ag (by simp[ints])
    ⟨rfl,rfl,rfl,rfl⟩ (by rw[l,l];rfl) rfl rfl (λZ _ q => ?_) λb' A0 h5 W S5=>IB.of ?_
   ·intro v F;simp only[List.mem_singleton] at F;subst F;rfl
   ·rw[U] at q ⊢;exact ⟨q.1.trans (List.prefix_append _ _),q.2⟩
   have e:=bT.fE W (e.aj N) (.inl P);refine bF ?_;refine an e rfl (aP (by rw[fG];omega) (by rw[fG];omega) (S5.lI KF rfl (n:=16+x.text.length) (by rw[fG];omega) (by show r.b.aW+_ < 2 ^ 62;omega) λh6 t6 V=>o h6 V.t ⟨_,by rw[L],V.G⟩))
end
theorem AD {g:Raw->Int × Raw} {a:List (Raw->Int × Raw)} {r:Raw} {F:Raw->Int × Raw} (h:(g r).1≠0):bL (cX (g::a) r) F=g r:=by
 show bL (bL (g r) (cX a)) F=g r
 unfold bL;rw[if_neg h,if_neg h]
theorem AA {g:Raw->Int × Raw} {a:List (Raw->Int × Raw)} {r:Raw} {F:Raw->Int × Raw} (h:(g r).1=0):bL (cX (g::a) r) F=bL (cX a (g r).2) F:=by
 show bL (bL (g r) (cX a)) F=_
 unfold bL;rw[if_pos h]
theorem AB {r:Raw} {F:Raw->Int × Raw}:bL (cX [] r) F=F r:=by
 unfold bL cX;rw[if_pos rfl]
theorem nh {Y:ak}:∀{l:List ak},Y∈l->Y.aV<=bg l
  | [],h=>by simp at h
  | z::l,h=>by
    rcases List.mem_cons.1 h with rfl | h
    · simp[bg]
    · have:=nh h;simp[bg];omega
theorem eB {c:ai} {X:List ak} (h:c.can X):(c.st X).b.aW<=4194304/\(c.st X).b.aW=bg X:=by
 rw[cQ];exact ⟨((ai.eC c X).1 h).wt,rfl⟩
theorem UE {f c:ai} (d:f.cs=[c]) (b:f.k=15\/f.k=16) {x:ak} (a:f.fit x=true):∀y∈x.items,c.fit y=true:=by
 rw[ai.c9] at a;unfold dr at a;have e:(f.cs.map ai.fit).getD 0 om=c.fit:=by rw[d];rfl
 rw[e] at a;simp only[Bool.and_eq_true] at a;obtain ⟨_,a⟩:=a;split at a
 ·simp only[Bool.and_eq_true,decide_eq_true_eq] at a;have:x.items=[]:=List.length_eq_zero_iff.1 a.1.2;rw[this];simp
 ·rw[if_neg ag,if_neg ag] at a;rcases b with b | b
  ·rw[if_pos b] at a;simp only[Bool.and_eq_true,List.all_eq_true] at a;exact a.2.2
  ·rw[if_neg ag,if_pos b] at a;simp only[Bool.and_eq_true,List.all_eq_true] at a;exact a.2.2.2
section
variable {f c:ai} {M:bD} {T D:Nat->Prop} {h:Hp} {v:Value} {vs:List ak} {m:Option Mem} {x:ak} {s:Sl} {K:Int->HP} {Kp:PK}
theorem js (C:MC c M):∀(j:Nat) b,[M][j]? = some b->dD b:=by
 intro j b a;rcases j with _ | j
 ·simp at a;subst a;exact C.fr
 ·simp at a
theorem Zo (d:f.k=15) (e:f.cs=[c]) (r:Raw) (x:ak):f.tk r x=bL (cR x.aq r) λg=>bL (cX (x.items.map λy=>bY 0 λq=>c.tk q y) g) λa=>cO (16+(cG a 0 - cG g 0)) (a.up λb=>{ b with ends:=b.ends++[(a.aC 0).b.rows] }):=by
 rw[ai.jF];unfold gY;rw[if_neg ag,if_neg ag,if_pos d,e];rfl
theorem QG {g:bI} (o:f.k=15) (f':f.cs=[c]) (C:MC c M) (PC:fo c) (hc:f.can vs) (Q:f.fit x=true) (hw:x.aV<=4194304) (G:bh f [M] T h (f.st vs) m g) (hv:au D h s x.items) (hD:∀c,D c->c < h.size->Out g c)
  (S:∀h',Tn T h h'->bE f [M] (Tr T h h') h' (.iface (aU f.k) (.pointer (some ⟨g.b,0,none⟩))) (f.tk (f.st vs) x).2 m->K (f.tk (f.st vs) x).1 h'):zU (some ⟨g.b,0,none⟩) x.aq x.num (bs x.text) s h K Kp:=by
 have KF:=js C;have ed:aU f.k=jU:=by unfold aU;rw[if_neg ag,if_neg ag,if_pos o]
 rw[ed] at S;rw[Zo o f'] at S;have es:∀rb:Rb,bC f.k rb=[(ints rb.ends,Y6)]:=λrb=>by unfold bC;rw[if_neg ag,if_pos ag]
 have ep:∀a b:Rb,cz f.k a b↔b.ends <+: a.ends:=λa b=>by unfold cz;rw[if_neg ag,if_pos o]
 obtain ⟨s0,F⟩:∃s0,g.SS=[s0]:=by
  have:=G.ls.1;rw[es] at this
  match hg:g.SS,this with
  | [a],_=>exact ⟨a,rfl⟩
 obtain ⟨w,l⟩:∃w,g.kv=[w]:=by
  have:=G.lk.1
  match hg:g.kv,this with
  | [a],_=>exact ⟨a,rfl⟩
 have s':f.cs[0]? = some c:=by rw[f'];rfl
 have b':=ai.iz s' vs;have e':=ai.de s' hc;generalize cg f.k f.w (cj f.cs) 0 vs=d at b' e';have p':=UE f' (.inl o) Q;have TI:=gO x;have hil:x.items.length<=4096:=by rw[ai.c9] at Q;exact Oc Q
 have hn:=hv.n;refine zU.of (az λa h1 ea g1 ka _ => ?_);refine bF ?_;have s1:=g1.1;have S1:=(bT.of (E:=λc=>D c/\c < h.size) G λc q=>⟨q.2,hD c q.1 q.2⟩).aj KF g1;generalize hE:(λc=>(D c/\c < h.size)\/(h.size<=c/\c < h1.size))=E at S1;have E1:E a:=by rw[<-hE];exact .inr ⟨by omega,ka.lt⟩
 have i':∀c,D c/\c < h.size->E c:=λc q=>by rw[<-hE];exact .inl q
 have qY:au (λc=>D c/\c < h.size) h1 s x.items:=au.gr (au.lt _ hv) g1;have P:(f.st vs).b.ends.length<=5000:=by
  have:=((ai.eC f vs).1 hc).n4;rw[cQ];simp only[aG];rw[if_neg ag,if_pos o,Ez];omega
 refine an ka rfl (S1.row KF rfl (λq=>bx rfl ?_) λq mg A' h2 t2 S2=>aR rfl ?_)
 ·rw[mQ q] at S;exact S h1 S1.t ⟨g,by rw[ed],S1.G⟩
 rw[mP q] at S;have ka:=bT.fE t2 ka E1;have z':au (λc=>D c/\c < h.size) h2 s x.items:=au.fr t2 (λc q _ z=>z (i' c q)) (λ_ z=>z) _ qY;generalize l':(f.st vs).up (Rb.row x.aq)=R at S S2;have k1:R.aC 0=c.st d:=by rw[<-l',eZ];exact b'
 have b1:R.b.ends=(f.st vs).b.ends/\R.b.aW=(f.st vs).b.aW:=by rw[<-l'];exact ⟨rfl,rfl⟩
 have u':=S2.G.aC 0 M _ w rfl (List.getElem?_eq_getElem (by have:=G.lk.2.1;simp only[List.length_singleton] at this;show 0 < g.KT.length;omega)) (by simp[l])
 refine S2.G.ia (i:=1) (w:=w) rfl (.inl o) (by simp[F]) (by simp[l]) (C.weight u' (an ka rfl ?_))
 rw[k1];have n':=eB e';refine Hx.bB (λy h'=>∃(i:Nat) (L:bI) (r':Raw),y=i/\i<=x.items.length/\bT f [M] T h h' r' m L E/\L.b=g.b/\L.SS=g.SS/\L.kv=g.kv/\r'.b=R.b/\r'.aC 0=c.st (d++x.items.take i)/\c.can (d++x.items.take i) /\
   au (λc=>D c/\c < h.size) h' s x.items/\(bL (cX (x.items.map λy=>bY 0 λq=>c.tk q y) R) λr2=>cO (16+(cG r2 0 - cG R 0)) (r2.up λb=>{ b with ends:=b.ends++[(r2.aC 0).b.rows] })) =
    bL (cX ((x.items.drop i).map λy=>bY 0 λq=>c.tk q y) r') λr2=>cO (16+(cG r2 0 - cG R 0)) (r2.up λb=>{ b with ends:=b.ends++[(r2.aC 0).b.rows] }))
  (λy _=>x.items.length - y.toNat) ⟨0,_,R,rfl,Nat.zero_le _,S2,rfl,rfl,rfl,rfl,by simpa using k1,by simpa using e',z',rfl⟩ ?_
 rintro y h3 ⟨i,L,r',rfl,hi,S3,j,I,r,d',H,V,k',O⟩ N hN;have NH:0 < L.KT.length:=by have:=S3.G.lk.2.1;simp only[List.length_singleton] at this;omega
 have hA:L.KT[0]? = some L.KT[0]:=List.getElem?_eq_getElem NH;generalize L.KT[0]=A at hA;refine aA (λY => ?_) λY => ?_
 ·have Y:=ay Y;have W:i < x.items.length:=ag;have hx:x.items[i]? = some x.items[i]:=List.getElem?_eq_getElem W;have c':x.items.take (i+1)=x.items.take i++[x.items[i]]:=List.take_succ_eq_append_getElem W;have q':x.items.drop i=x.items[i]::x.items.drop (i+1):=List.drop_eq_getElem_cons W;have J:x.items[i]∈x.items:=List.getElem_mem W;generalize x.items[i]=z at hx c' q' J;rw[q',List.map_cons] at O;refine k'.ix rfl hx λp u cx hz=>aQ.c cx (az λa8 h4 e4 g4 k8 _=>bV.b k8 rfl λh5 o5 k8 => ?_);refine bF ?_;have s4:=g4.1;have g5:ah h3 h5:=aM.aj g4 o5 ag;have U:=S3.aj KF g5;have lf:=U.G.aC 0 M A w rfl hA (by rw[r,l];rfl)
  rw[H] at lf;refine U.G.ia (i:=1) (w:=w) j (.inl o) (by rw[I,F];rfl) (by rw[r,l];rfl) (aQ.b k8 (C.take (D:=λc=>D c/\c < h.size) V (p' z J) (by have:=nh J;omega) lf (au.gr hz g5) (λY q z=>(U.e Y (.inl (i' Y q))).2.2 _ A (L.dy hA) ag z) λh6 t6 M6 => ?_))
  obtain ⟨S6,v'⟩:=U.aC KF hA t6 λM' w' q1 q2=>by
   simp at q1;subst q1;rw[r,l] at q2;simp at q2;subst q2;exact M6
  have hE6:Tn (λc=>¬E c) h3 h6:=(Tn.aT g5).trans (v'.mono λc q _ z=>q (.inl z));have X:(bY 0 (λq=>c.tk q z) r')=((c.tk (c.st (d++x.items.take i)) z).1,r'.cK 0 (c.tk (c.st (d++x.items.take i)) z).2):=by unfold bY;rw[H]
  refine aA (λZ => ?_) λZ => ?_
  ·have Z:=ay Z;rw[O,AD (by rw[X];exact Z),X] at S
   exact S h6 S6.t ⟨_,by rw[ed];simp only[j],S6.G⟩
  ·have Z:=ay Z;have m':=PC z (p' z J) _ V Z;rw[AA (by rw[X];exact Z),X] at O
   refine aP ag ag (hN _ _ ⟨i+1,_,_,by simp,by omega,⟨S6.t,S6.G,λc q=>S6.e c (.inl q)⟩,j,I,r,by rw[kr];exact d',?_,?_,au.fr hE6 (λc q _ z=>z (i' c q)) (λ_ z=>z) _ k',O⟩ ag)
   ·rw[iA (by have:=U.G.lk.2.2;simp only[List.length_singleton] at this;omega),m'.2,c',List.append_assoc]
   ·rw[c',<-List.append_assoc];exact m'.1
 ·have Y:=ay Y;have:i=x.items.length:=ag;subst this;rw[List.drop_length,List.map_nil,AB] at O;rw[List.take_length] at H V;rw[O] at S;refine IA.of ?_;refine bF ?_;have a':=S3.G.aC 0 M A w rfl hA (by rw[r,l];rfl)
  rw[H] at a';have n0:s0.n=r'.b.ends.length:=by have:=S3.G.kq (i:=0) (s:=s0) (by rw[I,F];rfl) (by rw[es];rfl);rw[this,ints,List.length_map]
  have n0':s0.n<=5000:=by rw[n0,d',b1.1];exact P
  have j':aB h3 g.b _ _:=j ▸ S3.G.B.k;refine S3.G.dL (i:=0) (s:=s0) j (by rw[I,F];rfl) (S3.G.ia (i:=1) (w:=w) j (.inl o) (by rw[I,F];rfl) (by rw[r,l];rfl) (C.count a' (bK j' (ah.refl _) (az λa5 h4 e4 g4 k5 _=>bK j' g4 ?_))))
  refine (S3.aj KF g4).app (i:=0) (s:=s0) (x:=(ints r'.b.ends,Y6)) (x':=(ints (r'.b.ends++[(c.st (d++x.items)).b.rows]),Y6)) (r':=r'.up λb=>{ b with ends:=b.ends++[(r'.aC 0).b.rows] }) (news:=[.int .i64 ((c.st (d++x.items)).b.rows:Int)]) KF j (by rw[I,F];rfl) (by rw[es];rfl) rfl ?_ rfl (iB k5 rfl) ag ag (by simp[ints])
   ⟨rfl,rfl,rfl,rfl⟩ (by rw[es,es,eT,H];rfl) (gu) rfl (λmm _ q => ?_) λy' A0 h5 t5 U=>Iz.of ?_
  ·intro v hv;simp only[List.mem_singleton] at hv;subst hv;rfl
  ·rw[ep] at q ⊢;exact q.trans (List.prefix_append _ _)
  refine bF ?_;have lf:=U.G.aC 0 M A w rfl hA (by show L.kv[0]? = _;rw[r,l];rfl)
  rw[eZ,H] at lf;have o':=eB V;have t':=lZ d x.items;have NL:cG R 0=bg d:=by unfold cG;rw[k1];exact n'.2
  have NK:cG r' 0=bg d+bg x.items:=by unfold cG;rw[H,o'.2,t']
  have TK:r'.b.aW<=4194304:=by rw[d',b1.2];exact (eB hc).1
  refine U.G.ia (i:=1) (w:=w) j (.inl o) (by show (L.SS.set 0 y').length=1;rw[List.length_set,I,F];rfl) (by show L.kv[0]? = _;rw[r,l];rfl) (C.weight lf (aP ag ag (aP ag ag (U.lI KF j (n:=16+(cG r' 0 - cG R 0)) (by rw[NL,NK,o'.2,t',n'.2];omega) (by show r'.b.aW+_ < 2 ^ 62;omega) λh6 t6 S6=>S h6 S6.t ⟨_,by rw[ed];simp only[j],S6.G⟩))))
end
theorem ads {e:TypeId} {b:Nat} {K:Value->Prop} (a:K (.iface e (.pointer (some ⟨b,0,none⟩)))):m9 Tryz.prog (.iface e (.pointer (some ⟨b,0,none⟩))) K:=by
 unfold m9 rN;exact a
def qk (t:TypeId):Prop:=match nB Tryz.prog t "colonnade/build.take" with | some (_,true)=>True | _=>False
theorem adH:qk jW:=cast aF trivial
theorem adG:qk jV:=cast aF trivial
theorem adF:qk jU:=cast aF trivial
theorem adE:qk jy:=cast aF trivial
theorem adD:qk jw:=cast aF trivial
theorem adC:qk kH:=cast aF trivial
theorem adB:qk kG:=cast aF trivial
theorem adA:qk jT:=cast aF trivial
theorem adz:qk kF:=cast aF trivial
theorem ady (k:Int):qk (aU k):=by
 unfold aU
 by_cases tF:k=1
 ·rw[if_pos tF];exact adH
 rw[if_neg tF]
 by_cases rE:k=12\/k=13
 ·rw[if_pos rE];exact adG
 rw[if_neg rE]
 by_cases vE:k=15
 ·rw[if_pos vE];exact adF
 rw[if_neg vE]
 by_cases a:k=16
 ·rw[if_pos a];exact adE
 rw[if_neg a]
 by_cases rD:k=17
 ·rw[if_pos rD];exact adD
 rw[if_neg rD]
 by_cases tD:k=18
 ·rw[if_pos tD];exact adC
 rw[if_neg tD]
 by_cases rC:k=19
 ·rw[if_pos rC];exact adB
 rw[if_neg rC]
 by_cases tC:k=20
 ·rw[if_pos tC];exact adA
 rw[if_neg tC];exact adz
theorem SF {k:Int} {b:Nat} {X:Prop} (e:X):vW Tryz.prog (.iface (aU k) (.pointer (some ⟨b,0,none⟩))) "colonnade/build.take" X:=⟨ady k,e⟩
section
variable {f c:ai} {M:bD} {T D:Nat->Prop} {h:Hp} {v:Value} {vs:List ak} {m:Option Mem} {x:ak} {s:Sl} {K:Int->HP} {Kp:PK}
noncomputable def jj (f c:ai) (x:ak):List ak:=if x.aq then List.replicate f.w.toNat c.bO else x.items
noncomputable def lK (f c:ai) (x:ak):List (Raw->Int × Raw):=if x.aq then List.replicate f.w.toNat (bY 0 c.zk) else x.items.map λy=>bY 0 λq=>c.tk q y
theorem Zj (a:f.k=16) (b:f.cs=[c]) (r:Raw) (x:ak):f.tk r x=bL (cR x.aq r) λe=>bL (cX (lK f c x) e) λd=>cO (if x.aq then 16 else 16+(cG d 0 - cG e 0)) d:=by
 rw[ai.jF];unfold gY;rw[if_neg ag,if_neg ag,if_neg ag,if_pos a,b];rfl
theorem aaw (f c:ai) (x:ak):(jj f c x).length=(lK f c x).length:=by
 unfold jj lK;split <;> simp
theorem aau (b:f.k=16) (e:f.cs=[c]) (a:f.fit x=true):(lK f c x).length=f.w.toNat:=by
 unfold lK;split
 ·simp
 ·rename_i d
  rw[ai.c9] at a;unfold dr at a;simp only[Bool.and_eq_true] at a;have:=a.2;rw[if_neg d,if_neg ag,if_neg ag,if_neg ag,if_pos b] at this;simp only[Bool.and_eq_true,decide_eq_true_eq] at this;rw[List.length_map];exact this.2.2.1
theorem aat {c:ai} {x:ak} (n:fo c) (l:cW c c.zk c.bO) (e:x.aq=false->∀y∈x.items,c.fit y=true) {i:Nat} {g:Raw->Int × Raw} {y:ak} (b:(lK f c x)[i]? = some g) (a:(jj f c x)[i]? = some y) :
    ∃G:Raw->Int × Raw,g=bY 0 G/\cW c G y/\(x.aq=true->G=c.zk)/\(x.aq=false->x.items[i]? = some y/\G=λq=>c.tk q y):=by
  unfold lK at b;unfold jj at a;cases d:x.aq with
  | true =>
    rw[d] at b a;simp only[if_true] at b a;have k:=List.mem_of_getElem? b;have j:=List.mem_of_getElem? a;rw[List.mem_replicate] at k j;obtain ⟨_,rfl⟩:=k;obtain ⟨_,rfl⟩:=j;exact ⟨c.zk,rfl,l,λ_=>rfl,λq=>(by cases q)⟩
  | false =>
    rw[d] at b a;simp only[Bool.false_eq_true,if_false] at b a;rw[List.getElem?_map,a] at b;simp only[Option.map_some,Option.some.injEq] at b;subst b;exact ⟨_,rfl,n y (e d y (List.mem_of_getElem? a)),λq=>(by cases q),λ_=>⟨a,rfl⟩⟩
theorem QB {g:bI} (gB:bp f) (l:f.k=16) (Z:f.cs=[c]) (C:MC c M) (PC:fo c) (PZ:cW c c.zk c.bO) (hc:f.can vs) (c':f.fit x=true) (hw:x.aV<=4194304) (G:bh f [M] T h (f.st vs) m g) (hv:au D h s x.items) (hD:∀c,D c->c < h.size->Out g c)
  (r:∀h',Tn T h h'->bE f [M] (Tr T h h') h' (.iface (aU f.k) (.pointer (some ⟨g.b,0,none⟩))) (f.tk (f.st vs) x).2 m->K (f.tk (f.st vs) x).1 h'):zT (some ⟨g.b,0,none⟩) x.aq x.num (bs x.text) s h K Kp:=by
 have KF:=js C;have ed:aU f.k=jy:=by unfold aU;rw[if_neg ag,if_neg ag,if_neg ag,if_pos l]
 rw[ed] at r;rw[Zj l Z] at r;have Fl:=gB.right.1.2.2.2.1 l;have es:∀rb:Rb,bC f.k rb=[]:=λrb=>by unfold bC;rw[if_neg ag,if_neg ag,if_neg ag,if_pos ag]
 have V:g.SS=[]:=by
  have:=G.ls.1;rw[es] at this;exact List.length_eq_zero_iff.1 this
 obtain ⟨w,I⟩:∃w,g.kv=[w]:=by
  have:=G.lk.1
  match hg:g.kv,this with
  | [a],_=>exact ⟨a,rfl⟩
 have x':f.cs[0]? = some c:=by rw[Z];rfl
 have b':=ai.iz x' vs;have f':=ai.de x' hc;generalize cg f.k f.w (cj f.cs) 0 vs=d at b' f';have u':∀y∈x.items,c.fit y=true:=UE Z (.inr l) c';have hlen:=aau l Z c';have hYG:=aaw f c x;have TI:=gO x;have hn:=hv.n;refine zT.of (az λa h1 ea g1 ka _ => ?_);refine bF ?_;have kal:=ka.lt;have s1:=g1.1;have S1:=(bT.of (E:=λc=>D c/\c < h.size) G λc q=>⟨q.2,hD c q.1 q.2⟩).aj KF g1;generalize hE:(λc=>(D c/\c < h.size)\/(h.size<=c/\c < h1.size))=E at S1;have E1:E a:=by rw[<-hE];exact .inr ⟨by omega,kal⟩
 have i':∀c,D c/\c < h.size->E c:=λc q=>by rw[<-hE];exact .inl q
 have qY:au (λc=>D c/\c < h.size) h1 s x.items:=au.gr (au.lt _ hv) g1;refine an ka rfl (S1.row KF rfl (λq=>bx rfl ?_) λq mg A' h2 t2 S2=>aR rfl ?_)
 ·rw[mQ q] at r;exact r h1 S1.t ⟨g,by rw[ed],S1.G⟩
 rw[mP q] at r;have ka:=bT.fE t2 ka E1;have Bi:au (λc=>D c/\c < h.size) h2 s x.items:=au.fr t2 (λc q _ z=>z (i' c q)) (λ_ z=>z) _ qY;generalize o':(f.st vs).up (Rb.row x.aq)=r1 at r S2;have k1:r1.aC 0=c.st d:=by rw[<-o',eZ];exact b'
 have b1:r1.b.aW=(f.st vs).b.aW:=by rw[<-o'];rfl
 have z':=S2.G.aC 0 M _ w rfl (List.getElem?_eq_getElem (by have:=G.lk.2.1;simp only[List.length_singleton] at this;show 0 < g.KT.length;omega)) (by simp[I])
 have kb2:aB h2 g.b _ _:=S2.G.B.k;refine S2.G.ia (i:=0) (w:=w) rfl (.inr (.inl l)) (by simp[V]) (by simp[I]) (C.weight z' (an kb2 (by simp[bt];rfl) ?_))
 rw[k1];have q':=eB f';generalize hF:(λr2:Raw=>cO (if x.aq then 16 else 16+(cG r2 0 - cG r1 0)) r2)=F at r
 refine Hw.bB (λy h'=>∃(i:Nat) (Q:bI) (P:Raw),y=i/\i<=f.w.toNat/\bT f [M] T h h' P m Q E/\Q.b=g.b/\Q.SS=g.SS/\Q.kv=g.kv/\P.b=r1.b/\P.aC 0=c.st (d++(jj f c x).take i)/\c.can (d++(jj f c x).take i) /\
   au (λc=>D c/\c < h.size) h' s x.items/\aB h' a #[.bool x.aq, .int .i64 x.num, .string (bs x.text),Sl.v s] bW/\bL (cX (lK f c x) r1) F=bL (cX ((lK f c x).drop i) P) F)
  (λy _=>f.w.toNat - y.toNat) ⟨0,_,r1,rfl,Nat.zero_le _,S2,rfl,rfl,rfl,rfl,by simpa using k1,by simpa using f',Bi,ka,rfl⟩ ?_
 rintro y h3 ⟨i,Q,P,rfl,hi,R,o,X,J,e',W,O,n',U,L⟩ N hN;have NH:0 < Q.KT.length:=by have:=R.G.lk.2.1;simp only[List.length_singleton] at this;omega
 have hA:Q.KT[0]? = some Q.KT[0]:=List.getElem?_eq_getElem NH;generalize Q.KT[0]=A at hA;have j:=R.G.aC 0 M A w rfl hA (by rw[J,I];rfl)
 rw[W] at j;refine aA (λcc => ?_) λcc => ?_
 ·have cc:=ay cc;have jP:i < f.w.toNat:=ag;have t':(lK f c x)[i]? = some (lK f c x)[i]:=List.getElem?_eq_getElem ag;have l':(jj f c x)[i]? = some (jj f c x)[i]:=List.getElem?_eq_getElem ag;have d':(jj f c x).take (i+1)=(jj f c x).take i++[(jj f c x)[i]]:=List.take_succ_eq_append_getElem ag;have v':(lK f c x).drop i=(lK f c x)[i]::(lK f c x).drop (i+1):=List.drop_eq_getElem_cons ag;generalize (lK f c x)[i]=gi at t' v';generalize (jj f c x)[i]=yi at l' d';rw[v'] at L;obtain ⟨Gi,rfl,j',hz,hnz⟩:=aat PC PZ (λ_=>u') t' l';have Y:bY 0 Gi P=((Gi (c.st (d++(jj f c x).take i))).1,P.cK 0 (Gi (c.st (d++(jj f c x).take i))).2):=by unfold bY;rw[W]
  -- behind the kid's call
  have fin:∀H,Tn A h3 H->M (Tr A h3 H) H w (Gi (c.st (d++(jj f c x).take i))).2 (m.bind λmm=>mm.ks[0]?) ->
    If ((Gi (c.st (d++(jj f c x).take i))).1 != 0) (K (Gi (c.st (d++(jj f c x).take i))).1 H) (Wr .i64 ((i:Int)+1) λt55=>N (A6 (some ⟨g.b,0,none⟩) ⟨a,0,none⟩ ((c.st d).b.aW:Int) f.w t55) H):=by
   intro H t6 M6;obtain ⟨S,k'⟩:=R.aC KF hA t6 λM' w' q1 q2=>by
    simp at q1;subst q1;rw[J,I] at q2;simp at q2;subst q2;exact M6
   refine aA (λc2 => ?_) λc2 => ?_
   ·have c2:=ay c2;rw[L,AD (by rw[Y];exact c2),Y] at r
    exact r H S.t ⟨_,by rw[ed];simp only[o],S.G⟩
   ·have c2:=ay c2;have p':=j' _ O c2;rw[AA (by rw[Y];exact c2),Y] at L
    refine aP ag ag (hN _ _ ⟨i+1,_,_,by simp,by omega,S,o,X,J,by rw[kr];exact e',?_,?_,au.fr k' (λc q _ z=>z (i' c q)) (λ_ z=>z) _ n',bT.fE k' U E1,L⟩ ag)
    ·rw[iA (by have:=R.G.lk.2.2;simp only[List.length_singleton] at this;omega),p'.2,d',List.append_assoc]
    ·rw[d',<-List.append_assoc];exact p'.1
  refine an U rfl (aA (λcn => ?_) λcn => ?_)
  ·refine bF ?_;have:=hz cn;subst this;exact R.G.ia (i:=0) (w:=w) o (.inr (.inl l)) (by rw[X,V];rfl) (by rw[J,I];rfl) (C.zero O j λH t6 M6=>fin H t6 M6)
  ·refine bF ?_;obtain ⟨m',rfl⟩:=hnz cn;have a':=List.mem_of_getElem? m';obtain ⟨kk,bb,rfl⟩:=C.na j;refine R.G.ia (i:=0) o (.inr (.inl l)) (by rw[X,V];rfl) (by rw[J,I];rfl) (an U rfl (n'.ix rfl m' λp u cx Bh=>aQ.c cx (ads (C.take (D:=λc=>D c/\c < h.size) O (u' yi a') (by have:=nh a';omega) j Bh (λcc q z=>(R.e cc (i' cc q)).2.2 _ A (Q.dy hA) ag z) λH t6 M6=>fin H t6 M6))))
 ·have cc:=ay cc;have:i=f.w.toNat:=ag;subst this;rw[<-hlen,List.drop_length,AB] at L;rw[List.take_of_length_le ag] at W O j;rw[L,<-hF] at r;refine Iy.of (an U rfl (aA (λcn => ?_) λcn => ?_))
  ·simp only[kO];dsimp only at r;rw[cn] at r;simp only[if_true] at r;refine R.lI KF o (n:=16) rfl (by rw[e',b1];have:=(eB hc).1;omega) λH t6 S=>r H S.t ⟨_,by rw[ed];simp only[o],S.G⟩
  ·refine bF ?_;dsimp only at r;rw[cn] at r;simp only[Bool.false_eq_true,if_false] at r;have s':=eB O;have y':=lZ d (jj f c x);have NL:cG r1 0=bg d:=by unfold cG;rw[k1];exact q'.2
   have NK:cG P 0=bg d+bg (jj f c x):=by unfold cG;rw[W,s'.2,y']
   have TK:P.b.aW<=4194304:=by rw[e',b1];exact (eB hc).1
   refine R.G.ia (i:=0) (w:=w) o (.inr (.inl l)) (by rw[X,V];rfl) (by rw[J,I];rfl) (C.weight j (aP ag ag (aP ag ag (R.lI KF o (n:=16+(cG P 0 - cG r1 0)) (by rw[NL,NK,s'.2,y',q'.2];omega) ag λH t6 S=>r H S.t ⟨_,by rw[ed];simp only[o],S.G⟩))))
end
def gw (cs:List ai) (KM:List bD):Prop:=KM.length=cs.length/\∀(j:Nat) c M,cs[j]? = some c->KM[j]? = some M->MC c M
theorem gw.mB {cs:List ai} {KM:List bD} (C:gw cs KM):∀(j:Nat) M,KM[j]? = some M->dD M:=by
 intro j M a;have d:=(List.getElem?_eq_some_iff.1 a).1;have b:j < cs.length:=by have:=C.1;omega
 have q:=C.2 j _ M (List.getElem?_eq_getElem b) a;intro T S h e v r m;exact q.fr
section
variable {f c:ai} {KM:List bD} {T D:Nat->Prop} {h:Hp} {v:Value} {vs:List ak} {r:Raw} {m:Option Mem} {g:bI} {x:ak} {s:Sl} {K:Int->HP} {Kp:PK}
def oa (r:Raw) (i:Nat):Nat:=((List.range i).map λj=>(r.aC j).b.aW).sum
theorem xb (r:Raw) (i:Nat):oa r (i+1)=oa r i+(r.aC i).b.aW:=by
 unfold oa;rw[List.range_succ,List.map_append,List.sum_append];simp
theorem xd {r:Raw} {n:Nat} (a:∀j,(r.aC j).b.aW<=n):∀i,oa r i<=i*n
 | 0=>by simp[oa]
 | i+1=>by rw[xb];have:=xd a i;have:=a i;rw[Nat.add_mul];omega
theorem Es (G:bh f KM T h r m g) (C:gw f.cs KM) (p:f.k=17\/f.k=18) (u:∀j,(r.aC j).b.aW<=2 ^ 40) (M:KM.length<=4096) (E:K (total r:Int) h):ua g.ks h K Kp:=by
 have q:=G.kl p;have lk:=G.lk;have L:g.ks.n=KM.length:=by rw[q.1.1,lk.1]
 have B:total r=oa r KM.length:=by rw[mN,lk.2.2];rfl
 refine ua.of (Hq.bB (λy z A=>A=h/\∃i:Nat,z=i/\i<=KM.length/\y=(oa r i:Int)) (λ_ z _=>KM.length - z.toNat) ⟨rfl,0,rfl,Nat.zero_le _,rfl⟩ ?_);rintro y z A ⟨rfl,i,rfl,O,rfl⟩ N hN;refine aA (λd => ?_) λd => ?_
 ·have d:=ay d;have l:i < KM.length:=ag;have e:i < f.cs.length:=by have:=C.1;omega
  have w:KM[i]? = some KM[i]:=List.getElem?_eq_getElem l;have t:g.kv[i]? = some g.kv[i]:=List.getElem?_eq_getElem ag;have F:g.KT[i]? = some g.KT[i]:=List.getElem?_eq_getElem ag;have o:f.cs[i]? = some f.cs[i]:=List.getElem?_eq_getElem e;have I:=xd u i;have J:=u i;have:i*2 ^ 40<=4096*2 ^ 40:=Nat.mul_le_mul_right _ ag;refine q.1.ix ag ag (by rw[Int.toNat_natCast];exact t) λa H=>⟨_,H,(C.2 i _ _ o w).weight (G.aC i _ _ _ w F t) (aP ag ag (aP ag ag (hN _ _ _ ⟨rfl,i+1,by simp,by omega,?_⟩ ag)))⟩
  rw[xb];simp
 ·have d:=ay d;have:i=KM.length:=ag;subst this;rw[<-B];exact E
theorem bh.ou {i b:Nat} {K:Sl->Prop} (G:bh f KM T h r m g) (l:g.b=b) (a:f.k=17\/f.k=18) (hl:g.SS.length=i) (j:K g.ks):Ld h ⟨b,16+i,none⟩ Sl.v K:=by
 subst l;refine an G.B.k ?_ j;rw[List.getElem?_toArray];have e:∀d,bt f g.sf g.sn g.sb r.b.rows r.b.bu r.b.aW d=bt f g.sf g.sn g.sb r.b.rows r.b.bu r.b.aW []++d:=λ_=>rfl;rw[e,List.getElem?_append_right (by show 16<=_;omega)]
 show (List.map Sl.v g.SS++_)[16+i - 16]? = _
 rw[List.getElem?_append_right cC,List.length_map,show 16+i - 16 - g.SS.length=0 by omega]
 unfold jG;rw[if_neg ag,if_pos a];rfl
def EC (x:ak) (j:Nat) (c:ai):ak:=if x.aq then c.bO else x.items.getD j v0
noncomputable def lJ (x:ak) (j:Nat) (c:ai):Raw->Int × Raw:=if x.aq then c.zk else λq=>c.tk q (x.items.getD j v0)
noncomputable def oZ (f:ai) (x:ak):List (Raw->Int × Raw):=(List.range f.cs.length).map λi=>bY i (if x.aq then (f.cs.map ai.zk).getD i iR else λc=>((f.cs.map ai.tk).getD i kW) c (x.items.getD i v0))
theorem Z9 {j:Nat} (a:f.cs[j]? = some c):(oZ f x)[j]? = some (bY j (lJ x j c)):=by
 have b:=(List.getElem?_eq_some_iff.1 a).1;unfold oZ lJ;rw[List.getElem?_map,List.getElem?_range b];simp only[Option.map_some,kB a]
theorem QU:(oZ f x).length=f.cs.length:=by simp[oZ]
theorem Zi (a:f.k=17) (r:Raw) (x:ak):f.tk r x=bL (cR x.aq r) λd=>bL (cX (oZ f x) d) λb=>cO (if x.aq then 16 else 16+(total b - total d)) b:=by
 rw[ai.jF];unfold gY oZ;rw[if_neg ag,if_neg ag,if_neg ag,if_neg ag,if_pos a,List.length_map]
theorem QA (gB:bp f) (S:f.k=17) (C:gw f.cs KM) (PC:∀c∈f.cs,fo c/\cW c c.zk c.bO) (hc:f.can vs) (i':f.fit x=true) (hw:x.aV<=4194304) (G:bh f KM T h (f.st vs) m g) (hv:au D h s x.items) (hD:∀c,D c->c < h.size->Out g c)
    (I:∀h',Tn T h h'->bE f KM (Tr T h h') h' (.iface (aU f.k) (.pointer (some ⟨g.b,0,none⟩))) (f.tk (f.st vs) x).2 m->K (f.tk (f.st vs) x).1 h'):zS (some ⟨g.b,0,none⟩) x.aq x.num (bs x.text) s h K Kp:=by
  have KF:=C.mB;have CL:=C.1;have W:f.k=17\/f.k=18:=.inl S;have ed:aU f.k=jw:=by unfold aU;rw[if_neg ag,if_neg ag,if_neg ag,if_neg ag,if_pos S]
  rw[ed] at I;rw[Zi S] at I;have z':=gB.right.1.2.2.2.2.2.2.2.2.1 S;have es:∀rb:Rb,bC f.k rb=[]:=λrb=>by unfold bC;rw[if_neg ag,if_neg ag,if_neg ag,if_pos ag]
  have j':g.SS=[]:=by
    have:=G.ls.1;rw[es] at this;exact List.length_eq_zero_iff.1 this
  have Z:=λ(j:Nat) (c:ai) (d:f.cs[j]? = some c)=>ai.iz d vs;have X:=λ(j:Nat) (c:ai) (d:f.cs[j]? = some c)=>ai.de d hc;generalize f':(λj=>cg f.k f.w (cj f.cs) j vs)=l;have Z:∀(j:Nat) (c:ai),f.cs[j]? = some c->(f.st vs).aC j=c.st (l j):=λj c d=>by rw[<-f'];exact Z j c d
  have X:∀(j:Nat) (c:ai),f.cs[j]? = some c->c.can (l j):=λj c d=>by rw[<-f'];exact X j c d
  have hfy:∀(j:Nat) (c:ai),f.cs[j]? = some c->cW c (lJ x j c) (EC x j c)/\(x.aq=false->c.fit (x.items.getD j v0)=true):=by
    intro j c d;have hm:=List.mem_of_getElem? d;unfold lJ EC;cases hn:x.aq with
    | true=>exact ⟨(PC c hm).2,λq=>(by cases q)⟩
    | false=>have q:=(FM S i' hn).2.2 j c d;exact ⟨(PC c hm).1 _ q,λ_=>q⟩
  have hlen:x.aq=false->x.items.length=f.cs.length:=λhn=>(FM S i' hn).2.1;have TI:=gO x;have hn:=hv.n;have out:∀(B:Raw),B.kids.length=f.cs.length->(∀(j:Nat) (c:ai),f.cs[j]? = some c->∃us,B.aC j=c.st us/\c.can us)->∀j,(B.aC j).b.aW<=2 ^ 40:=by
    intro B hl hr j
    by_cases d:j < f.cs.length
    · obtain ⟨us,e,hu⟩:=hr j _ (List.getElem?_eq_getElem d);rw[e];have:=(eB hu).1;omega
    · unfold Raw.aC;rw[List.getD_eq_getElem?_getD,List.getElem?_eq_none ag];exact Nat.zero_le _
  refine zS.of (az λa h1 ea g1 ka _ => ?_);refine bF ?_;have s1:=g1.1;have S1:=(bT.of (E:=λc=>D c/\c < h.size) G λc q=>⟨q.2,hD c q.1 q.2⟩).aj KF g1;generalize hE:(λc=>(D c/\c < h.size)\/(h.size<=c/\c < h1.size))=E at S1;have E1:E a:=by rw[<-hE];exact .inr ⟨by omega,ka.lt⟩
  have k':∀c,D c/\c < h.size->E c:=λc q=>by rw[<-hE];exact .inl q
  have qY:au (λc=>D c/\c < h.size) h1 s x.items:=au.gr (au.lt _ hv) g1;refine an ka rfl (S1.row KF rfl (λq=>bx rfl ?_) λq mg A' h2 t2 S2=>aR rfl ?_)
  · rw[mQ q] at I;exact I h1 S1.t ⟨g,by rw[ed],S1.G⟩
  rw[mP q] at I;have ka:=bT.fE t2 ka E1;have Bi:au (λc=>D c/\c < h.size) h2 s x.items:=au.fr t2 (λc q _ z=>z (k' c q)) (λ_ z=>z) _ qY;generalize u':(f.st vs).up (Rb.row x.aq)=P at I S2;have k1:∀(j:Nat) (c:ai),f.cs[j]? = some c->P.aC j=c.st (l j):=λj c d=>by rw[<-u',eZ];exact Z j c d
  have b1:P.b.aW=(f.st vs).b.aW:=by rw[<-u'];rfl
  have l1:P.kids.length=f.cs.length:=by rw[S2.G.lk.2.2];exact CL
  have o1:=out P l1 λj c d=>⟨l j,k1 j c d,X j c d⟩;refine S2.G.ou (i:=0) rfl W (by simp[j']) (Es S2.G C W o1 ag (S2.G.ou (i:=0) rfl W (by simp[j']) ?_))
  generalize hF:(λr2:Raw=>cO (if x.aq then 16 else 16+(total r2 - total P)) r2)=F at I
  refine Hu.bB (λy h'=>∃(i:Nat) (Q:bI) (B:Raw),y=i/\i<=f.cs.length/\bT f KM T h h' B m Q E/\Q.b=g.b/\Q.SS=g.SS/\Q.kv=g.kv/\Q.ks=g.ks/\B.b=P.b /\
      (∀(j:Nat) (c:ai),f.cs[j]? = some c->B.aC j=c.st (l j++if j < i then [EC x j c] else [])/\c.can (l j++if j < i then [EC x j c] else [])) /\
      au (λc=>D c/\c < h.size) h' s x.items/\aB h' a #[.bool x.aq, .int .i64 x.num, .string (bs x.text),Sl.v s] bW/\bL (cX (oZ f x) P) F=bL (cX ((oZ f x).drop i) B) F)
    (λy _=>f.cs.length - y.toNat) ⟨0,_,P,rfl,Nat.zero_le _,S2,rfl,rfl,rfl,rfl,rfl,λj c d=>by simpa using ⟨k1 j c d,X j c d⟩,Bi,ka,rfl⟩ ?_
  rintro y h3 ⟨i,Q,B,rfl,hi,S3,L,y',hgk,o,t',R,s',a',U⟩ N hN;have n':=S3.G.lk;have o':=S3.G.kl W;have ns:g.ks.n=f.cs.length:=by rw[<-o,o'.1.1,n'.1,CL]
  refine aA (λcc => ?_) λcc => ?_
  · have cc:=ay cc;have x':i < f.cs.length:=ag;have V:f.cs[i]? = some f.cs[i]:=List.getElem?_eq_getElem x';have d':KM[i]? = some KM[i]:=List.getElem?_eq_getElem ag;have e':Q.KT[i]? = some Q.KT[i]:=List.getElem?_eq_getElem ag;have b':Q.kv[i]? = some Q.kv[i]:=List.getElem?_eq_getElem ag;generalize f.cs[i]=H at V;generalize KM[i]=Mi at d';generalize Q.KT[i]=A at e';generalize Q.kv[i]=w at b';have Ci:=C.2 i H Mi V d';have M:=S3.G.aC i Mi A w d' e' b';obtain ⟨Y,O⟩:=R i H V;rw[if_neg ag,List.append_nil] at Y O;rw[Y] at M;have hdr:(oZ f x).drop i=bY i (lJ x i H)::(oZ f x).drop (i+1):=by
      rw[List.drop_eq_getElem_cons (by rw[QU];exact x')]
      congr 1
      have:=List.getElem?_eq_some_iff.1 (Z9 (x:=x) V);exact this.2
    rw[hdr] at U;obtain ⟨l',hfi⟩:=hfy i H V;have c':bY i (lJ x i H) B=((lJ x i H (H.st (l i))).1,B.cK i (lJ x i H (H.st (l i))).2):=by unfold bY;rw[Y]
    have fin:∀J,Tn A h3 J->Mi (Tr A h3 J) J w (lJ x i H (H.st (l i))).2 (m.bind λmm=>mm.ks[i]?) ->
        If ((lJ x i H (H.st (l i))).1 != 0) (K (lJ x i H (H.st (l i))).1 J) (Wr .i64 ((i:Int)+1) λt51=>N (A5 (some ⟨g.b,0,none⟩) ⟨a,0,none⟩ (total P:Int) g.ks (g.ks.n:Int) t51) J):=by
      intro J t6 M6;obtain ⟨S6,m'⟩:=S3.aC KF e' t6 λM' w' q1 q2=>by
        rw[d'] at q1;cases q1;rw[b'] at q2;cases q2;exact M6
      refine aA (λc2 => ?_) λc2 => ?_
      · have c2:=ay c2;rw[U,AD (by rw[c'];exact c2),c'] at I
        exact I J S6.t ⟨_,by rw[ed];simp only[L],S6.G⟩
      · have c2:=ay c2;have v':=l' _ O c2;rw[AA (by rw[c'];exact c2),c'] at U
        refine aP ag ag (hN _ _ ⟨i+1,_,_,by simp,by omega,S6,L,y',hgk,o,by rw[kr];exact t',λj c d => ?_,au.fr m' (λc q _ z=>z (k' c q)) (λ_ z=>z) _ s',bT.fE m' a' E1,U⟩ ag)
        by_cases e:i=j
        · subst e;rw[V] at d;cases d;rw[iA ag,if_pos ag];exact ⟨v'.2,v'.1⟩
        · rw[uD e];have:=R j c d
          by_cases q:j < i
          · rw[if_pos q] at this;rw[if_pos ag];exact this
          · rw[if_neg q] at this;rw[if_neg ag];exact this
    rw[<-o];refine o'.1.ix ag (by rw[o];omega) (by rw[Int.toNat_natCast];exact b') λp cp=>⟨_,cp,an a' rfl (aA (λcn => ?_) λcn => ?_)⟩
    · rw[o];have eg:lJ x i H=H.zk:=by unfold lJ;rw[cn];rfl
      rw[eg] at fin;exact Ci.zero O M λJ t6 M6=>fin J t6 M6
    · rw[o];have eg:lJ x i H=λq=>H.tk q (x.items.getD i v0):=by unfold lJ;rw[cn];rfl
      rw[eg] at fin;have hl:=hlen cn;have q':x.items[i]? = some (x.items.getD i v0):=by rw[List.getD_eq_getElem?_getD,List.getElem?_eq_getElem ag];rfl
      obtain ⟨kk,bb,rfl⟩:=Ci.na M;simp only[aI,Nat.zero_add];refine an a' rfl (s'.ix rfl q' λp' u cx Bh=>aQ.c cx (SF (Ci.take (D:=λc=>D c/\c < h.size) O (hfi cn) (by have:=nh (List.mem_of_getElem? q');omega) M Bh (λcc q z=>(S3.e cc (k' cc q)).2.2 _ A (Q.dy e') ag z) λJ t6 M6=>fin J t6 M6)))
  · have cc:=ay cc;have:i=f.cs.length:=ag;subst this;rw[<-QU (f:=f) (x:=x),List.drop_length,AB] at U;rw[U,<-hF] at I;have TK:B.b.aW<=4194304:=by rw[t',b1];exact (eB hc).1
    refine Iv.of (an a' rfl (aA (λcn => ?_) λcn => ?_))
    · simp only[kO];dsimp only at I;rw[cn] at I;simp only[if_true] at I;refine S3.lI KF L (n:=16) rfl ag λJ t6 S6=>I J S6.t ⟨_,by rw[ed];simp only[L],S6.G⟩
    · refine bF ?_;dsimp only at I;rw[cn] at I;simp only[Bool.false_eq_true,if_false] at I;have l3:B.kids.length=f.cs.length:=by rw[n'.2.2];exact CL
      have o3:=out B l3 λj c d=>⟨_,(R j c d).1,(R j c d).2⟩;have hle:total P<=total B:=by
        rw[mN,mN,l1,l3];have:∀n,n<=f.cs.length->oa P n<=oa B n:=by
          intro n
          induction n with
          | zero=>intro _;exact Nat.le_refl _
          | succ n ih =>
            intro hn;have d:f.cs[n]? = some f.cs[n]:=List.getElem?_eq_getElem ag;have q1:=(eB (R n _ d).2).2;have q2:=(eB (X n _ d)).2;rw[xb,xb,k1 n _ d,(R n _ d).1,q1,q2,lZ];have:=ih ag;omega
        exact this _ (Nat.le_refl _)
      have q7:total P<=32*2 ^ 40:=by rw[mN,l1];exact Nat.le_trans (xd o1 _) (Nat.mul_le_mul_right _ z')
      have ht3:total B<=32*2 ^ 40:=by rw[mN,l3];exact Nat.le_trans (xd o3 _) (Nat.mul_le_mul_right _ z')
      refine S3.G.ou (i:=0) L W (by rw[y',j'];rfl) (Es S3.G C W o3 ag (aP ag ag (aP ag ag (S3.lI KF L (n:=16+(total B - total P)) ag ag λJ t6 S6=>I J S6.t ⟨_,by rw[ed];simp only[L],S6.G⟩))))
end
theorem aju {k:Value} {p:Addr} {h:Hp} {K:Int->HP} {Kp:PK} (H:Jp k p h K Kp):bJ Tryz.prog (.func (.func Xk) #[] #[.pointer (some p)]) [k] h (λr a=>∃t:Int,r=.int .i64 t/\K t a) Kp:=by
 unfold bJ;exact cast aF H
theorem ajp {k:Value} {h:Hp} {K:Int->HP} {Kp:PK} (H:iO k h K Kp):bJ Tryz.prog (.func (.methodOf BX "colonnade/build.zero") #[] #[]) [k] h (λr d=>∃t:Int,r=.int .i64 t/\K t d) Kp:=by
  unfold bJ;exact cast aF H
section
variable {f c:ai} {KM:List bD} {T D E:Nat->Prop} {h h0:Hp} {v:Value} {vs:List ak} {m:Option Mem} {g:bI} {x:ak} {s:Sl} {K:Int->HP} {Kp:PK}
theorem Tf {j:Nat} {V:Value} {F:Raw->Int × Raw} {b:Nat} (H:f.k=18) (C:gw f.cs KM) (hc:f.can vs) (hj:f.cs[j]? = some c) (p':j < 32) (S:bT f KM T h0 h (f.st vs) m g E) (y:g.b=b)
  (hF:∀I,c.can I->(F (c.st I)).1=0->(F (c.st I)).2.b.aW<=4194304/\(c.st I).b.aW<=(F (c.st I)).2.b.aW)
  (HT:∀{Q:Hp} {A:Nat->Prop} {M:bD} {w:Value} {mo:Option Mem} {I:List ak} {K':Int->HP},KM[j]? = some M->c.can I->M A Q w (c.st I) mo->Tn (λc=>¬E c) h Q->(∀c,E c->¬A c) ->
   (∀P,Tn A Q P->M (Tr A Q P) P w (F (c.st I)).2 mo->K' (F (c.st I)).1 P)->bJ Tryz.prog V [w] Q (λr h1=>∃t:Int,r=.int .i64 t/\K' t h1) Kp)
  (o:∀Q g',g'.b=b->bT f KM T h0 Q (mT j F (f.st vs)).2 m g' E->K (mT j F (f.st vs)).1 Q):zN (some ⟨b,0,none⟩) (j:Int) V h K Kp:=by
 have KF:=C.mB;have CL:=C.1;have j':f.k=17\/f.k=18:=.inr H;have L:∀rb:Rb,bC f.k rb=[(bv rb.all,Y8),(ints rb.ends,Y6)]:=λrb=>by unfold bC;rw[if_neg ag,if_neg ag,if_pos H]
 have ep:∀a b:Rb,cz f.k a b↔b.ends <+: a.ends/\b.all <+: a.all/\b.ends.length=b.all.length:=λa b=>by unfold cz;rw[if_neg ag,if_neg ag,if_neg ag,if_pos H]
 obtain ⟨s0,s1,l⟩:∃s0 s1,g.SS=[s0,s1]:=by
  have:=S.G.ls.1;rw[L] at this
  match hg:g.SS,this with
  | [a,b],_=>exact ⟨a,b,rfl⟩
 have y':=(List.getElem?_eq_some_iff.1 hj).1;have Y:=ai.iz hj vs;have O:=ai.de hj hc;generalize cg f.k f.w (cj f.cs) j vs=u at Y O;have n4:=((ai.eC f vs).1 hc).n4;have al:(f.st vs).b.all.length<=4096:=by rw[cQ];simp only[aG];rw[if_neg ag,if_pos H,List.length_map];exact n4
 have el:(f.st vs).b.ends.length<=4096:=by rw[cQ];simp only[aG];rw[if_neg ag,if_neg ag,if_pos H,List.length_map,List.length_range];exact n4
 refine zN.of ?_;refine bF ?_;unfold mT at o;refine S.row KF y (λq=>bx rfl ?_) λq s' A' h2 t2 N=>aR rfl ?_
 ·rw[mQ q] at o;exact o h g y S
 rw[mP q] at o;generalize e':(f.st vs).up (Rb.row false)=d at o N;have k1:d.aC j=c.st u:=by rw[<-e',eZ];exact Y
 have a1:d.b.all=(f.st vs).b.all/\d.b.ends=(f.st vs).b.ends/\d.b.aW=(f.st vs).b.aW:=by rw[<-e'];exact ⟨rfl,rfl,rfl⟩
 have b':=N.G.kl j';have a':=N.G.lk;have m':j < g.kv.length:=by have:g.kv.length=KM.length:=a'.1;omega
 have n':j < g.KT.length:=by have:g.KT.length=KM.length:=a'.2.1;omega
 have Z:KM[j]? = some KM[j]:=List.getElem?_eq_getElem ag;have hw:g.kv[j]? = some g.kv[j]:=List.getElem?_eq_getElem m';have hA:g.KT[j]? = some g.KT[j]:=List.getElem?_eq_getElem n';generalize KM[j]=M at Z;generalize g.kv[j]=w at hw;generalize g.KT[j]=A at hA;have Cj:=C.2 j c M hj Z;have ns:g.ks.n=KM.length:=by have:=b'.1.1;rw[a'.1] at this;exact this
 have X:=N.G.aC j M A w Z hA hw;rw[k1] at X;have v':=eB O;refine N.G.ou (i:=2) y j' (by simp[l]) (b'.1.ix ag (by show (j:Int) < g.ks.n;omega) (by rw[Int.toNat_natCast];exact hw) λp cp=>⟨_,cp,Cj.weight X ?_⟩)
 have n0:s0.n=(f.st vs).b.all.length:=by have:=N.G.kq (i:=0) (s:=s0) (by simp[l]) (by rw[L];rfl);rw[this,eL,a1.1]
 have n1:s1.n=(f.st vs).b.ends.length:=by have:=N.G.kq (i:=1) (s:=s1) (by simp[l]) (by rw[L];rfl);rw[this,ints,List.length_map,a1.2.1]
 refine N.G.dL (i:=0) (s:=s0) y (by simp[l]) (lT rfl (by omega:j < 2 ^ 8) (az λa3 h3 e3 g3 k3 _ => ?_))
 have k':(UInt8.ofNat j).toNat=j:=by rw[UInt8.toNat_ofNat'];omega
 refine (N.aj KF g3).app (i:=0) (s:=s0) (x:=(bv d.b.all,Y8)) (x':=(bv (d.b.all++[UInt8.ofNat j]),Y8)) (r':=d.up λb=>{ b with all:=b.all++[UInt8.ofNat j] }) (news:=[.int .u8 (j:Int)]) KF y (by simp[l]) (by rw[L];rfl) rfl ?_ rfl (iB k3 rfl) ag ag (by rw[OM];simp[bv,k'])
  ⟨rfl,rfl,rfl,rfl⟩ (by rw[L,L];rfl) rfl rfl (λmm _ q => ?_) λu' A0 h4 t4 S4 => ?_
 ·intro v hv;simp only[List.mem_singleton] at hv;subst hv;rfl
 ·rw[ep] at q ⊢;exact ⟨q.1,q.2.1.trans (List.prefix_append _ _),q.2.2⟩
 have W:=S4.G.aC j M A w Z hA hw;rw[eZ,k1] at W;have c':aB h4 b _ _:=y ▸ S4.G.B.k;refine S4.G.dL (i:=1) (s:=s1) y (by simp[l]) (Cj.count W (bK c' (ah.refl _) (az λa5 h5 e5 g5 k5 _=>bK c' g5 ?_)))
 refine (S4.aj KF g5).app (i:=1) (s:=s1) (x:=(ints d.b.ends,Y6)) (x':=(ints (d.b.ends++[(c.st u).b.rows]),Y6)) (r':=d.up λb=>{ b with all:=b.all++[UInt8.ofNat j],ends:=b.ends++[(d.aC j).b.rows] }) (news:=[.int .i64 ((c.st u).b.rows:Int)]) KF y (by simp[l]) (by rw[L];rfl) rfl ?_ rfl (iB k5 rfl) ag ag (by simp[ints])
  ⟨rfl,rfl,rfl,rfl⟩ (by rw[L,L,eT,k1];rfl) rfl rfl (λmm _ q => ?_) λt' A1 h6 t6 S6 => ?_
 ·intro v hv;simp only[List.mem_singleton] at hv;subst hv;rfl
 ·rw[ep] at q ⊢;exact ⟨q.1.trans (List.prefix_append _ _),q.2.1,q.2.2⟩
 have U:=S6.G.aC j M A w Z hA hw;rw[eZ,k1] at U;have tE:Tn (λc=>¬E c) h h6:=(((t2.trans (Tn.aT g3)).trans (t4.mono λc q _ z=>q (.inl z))).trans (Tn.aT g5)).trans (t6.mono λc q _ z=>q (.inl (.inl z)));generalize d':(d.up λb=>{ b with all:=b.all++[UInt8.ofNat j],ends:=b.ends++[(d.aC j).b.rows] })=J at o S6
 have k2:J.aC j=c.st u:=by rw[<-d',eZ];exact k1
 have b2:J.b.aW=(f.st vs).b.aW:=by rw[<-d'];exact a1.2.2
 have o':bY j F J=((F (c.st u)).1,J.cK j (F (c.st u)).2):=by unfold bY;rw[k2]
 rw[o'] at o;refine HT Z O U tE (λcc q z=>(S6.e cc (.inl (.inl q))).2.2 _ A (bI.dy _ hA) ag z) λh7 t7 M7 => ?_;obtain ⟨S7,q'⟩:=S6.aC KF hA t7 λM' w' q1 q2=>by
  rw[Z] at q1;cases q1;have q2:g.kv[j]? = some w':=q2;rw[hw] at q2;cases q2;exact M7
 have S7:bT f KM T h0 h7 (J.cK j (F (c.st u)).2) m _ E:=⟨S7.t,S7.G,λc q=>S7.e c (.inl (.inl q))⟩;refine aA (λR => ?_) λR => ?_
 ·have R:=ay R;unfold bL at o;rw[if_neg R] at o;exact o h7 _ (by exact y) S7
 ·have R:=ay R;unfold bL at o;rw[if_pos R] at o;obtain ⟨q1,q2⟩:=hF u O R;have l':j < J.kids.length:=by have:J.kids.length=KM.length:=S6.G.lk.2.2;omega
  have i':cG d j=(c.st u).b.aW:=by unfold cG;rw[k1]
  have f':cG (J.cK j (F (c.st u)).2) j=(F (c.st u)).2.b.aW:=by unfold cG;rw[iA l']
  refine Cj.weight M7 (aP ag ag (aP ag ag (S7.lI KF y (n:=16+(cG (J.cK j (F (c.st u)).2) j - cG d j)) (by rw[i',f'];omega) ?_ λh8 t8 S8=>o h8 _ (by exact y) S8)))
  rw[kr,b2,i',f'];have:=(eB hc).1;omega
end
section
variable {f c:ai} {KM:List bD} {M:bD} {T D E:Nat->Prop} {h h0:Hp} {v:Value} {vs:List ak} {r:Raw} {m:Option Mem} {g:bI} {x:ak} {s:Sl} {K:Int->HP} {Kp:PK}
theorem agV (b:f.k=18) (a:f.fit x=true):x.aq=false/\0<=x.num/\x.num < f.cs.length/\x.items.length=1/\∀c,f.cs[x.num.toNat]? = some c->c.fit (x.items.getD 0 v0)=true:=by
  rw[ai.c9] at a;have hl:f.lets=false:=by rw[ai.Fg];unfold mw;rw[if_neg ag];simp[b]
  rw[hl] at a;unfold dr at a;simp only[Bool.and_eq_true] at a;obtain ⟨_,a⟩:=a;cases d:x.aq with
  | true=>rw[d] at a;simp at a
  | false =>
    rw[d,if_neg aS,if_neg ag,if_pos b] at a;simp only[Bool.and_eq_true,decide_eq_true_eq,List.length_map] at a;obtain ⟨_,n,l,j,e⟩:=a;exact ⟨rfl,n,l,j,λc i=>by rw[kB i] at e;exact e⟩
theorem Zq (a:f.k=18) (b:f.cs[x.num.toNat]? = some c) (r:Raw):f.tk r x=mT x.num.toNat (λq=>c.tk q (x.items.getD 0 v0)) r:=by
 rw[ai.jF];unfold gY;rw[if_neg ag,if_neg ag,if_neg ag,if_neg ag,if_neg ag,if_pos a,kB b]
theorem QI (S:bp f) (e:f.k=18) (C:gw f.cs KM) (PC:∀c∈f.cs,fo c) (hc:f.can vs) (J:f.fit x=true) (hw:x.aV<=4194304) (G:bh f KM T h (f.st vs) m g) (hv:au D h s x.items) (hD:∀c,D c->c < h.size->Out g c)
  (O:∀j,Tn T h j->bE f KM (Tr T h j) j (.iface (aU f.k) (.pointer (some ⟨g.b,0,none⟩))) (f.tk (f.st vs) x).2 m->K (f.tk (f.st vs) x).1 j):zO (some ⟨g.b,0,none⟩) x.aq x.num (bs x.text) s h K Kp:=by
 obtain ⟨_,h1,h2,h3,h4⟩:=agV e J;have b':=(S.right.1.2.2.2.2.2.2.2.2.2.1 e).2;have o:f.cs[x.num.toNat]? = some f.cs[x.num.toNat]:=List.getElem?_eq_getElem ag;generalize f.cs[x.num.toNat]=c at o;have n:=h4 c o;have B:=PC c (List.mem_of_getElem? o) _ n;have l:x.items[0]? = some (x.items.getD 0 v0):=by rw[List.getD_eq_getElem?_getD,List.getElem?_eq_getElem ag];rfl
 have a':=gO x;have i:=List.mem_of_getElem? l;rw[Zq e o] at O;generalize x.items.getD 0 v0=y at l O n B i;refine zO.of (az λa I ea P N _ => ?_);refine bF ?_;have s1:=P.1;have Z:=(bT.of (E:=λc=>D c/\c < h.size) G λc q=>⟨q.2,hD c q.1 q.2⟩).aj C.mB P;generalize X:(λc=>(D c/\c < h.size)\/(h.size<=c/\c < I.size))=E at Z;have E1:E a:=by rw[<-X];exact .inr ⟨by omega,N.lt⟩
 have H:∀c,D c/\c < h.size->E c:=λc q=>by rw[<-X];exact .inl q
 have R:au (λc=>D c/\c < h.size) I s x.items:=au.gr (au.lt _ hv) P;have en:x.num=(x.num.toNat:Int):=ag;refine an N rfl ?_;rw[en];refine Tf e C hc o ag Z rfl (F:=λq=>c.tk q y) (λL d hz => ?_) (λ{j A M w mo L K'} hM d W t V U => ?_) λj g' eg S'=>O j S'.t ⟨g',by rw[eg],S'.G⟩
 ·obtain ⟨q1,q2⟩:=B L d hz;rw[q2];have:=eB q1;have:=eB d;have:=lZ L [y];exact ⟨by omega,by omega⟩
 ·have Cj:=C.2 _ c M o hM;obtain ⟨kk,bb,rfl⟩:=Cj.na W;refine aju (Jp.of ?_);simp only[aI,Nat.zero_add];refine an (bT.fE t N E1) rfl ((au.fr t (λc q _ z=>z (H c q)) (λ_ z=>z) _ R).ix rfl l λp u cx Q=>aQ.c cx (SF (Cj.take (D:=λc=>D c/\c < h.size) d n (by have:=nh i;omega) W Q (λY q z=>V Y (H Y q) z) U)))
end
section
variable {f c:ai} {KM:List bD} {M:bD} {T:Nat->Prop} {h:Hp} {v:Value} {vs:List ak} {r:Raw} {m:Option Mem} {g:bI} {K:Int->HP} {Kp:PK}
theorem qA (a:f.small=true\/¬(16<=f.k/\f.k<=20)) (r:Raw):f.zk r=f.tk r f.bO:=by
 rw[ai.qB];unfold ng;rw[if_pos a]
theorem bh.oK (G:bh f KM T h r m g):Cs h ⟨g.b,11,none⟩ [.bool f.bO.aq, .int .i64 f.bO.num, .string (bs f.bO.text),Sl.v g.sn]:=BV.oK G.B.k
theorem XV (d:f.k=1) (KF:∀(j:Nat) M,KM[j]? = some M->dD M) (G:bh f KM T h r m g) (i:r.b.aW<=2 ^ 50) (e:∀a,Tn T h a->bE f KM (Tr T h a) a (.iface (aU f.k) (.pointer (some ⟨g.b,0,none⟩))) (f.zk r).2 m->K (f.zk r).1 a):Da (some ⟨g.b,0,none⟩) h K Kp:=by
 rw[qA (.inr ag)] at e;refine Da.of ?_;refine bF ?_;exact aQ.c G.oK (QF d KF G i e)
theorem XR (d:bp f) (e:f.k=12\/f.k=13) (KF:∀(j:Nat) M,KM[j]? = some M->dD M) (G:bh f KM T h r m g) (n:r.b.ends.length<=70000) (b2:r.b.all.length<=2 ^ 40) (l:r.b.aW<=2 ^ 50)
  (i:∀a,Tn T h a->bE f KM (Tr T h a) a (.iface (aU f.k) (.pointer (some ⟨g.b,0,none⟩))) (f.zk r).2 m->K (f.zk r).1 a):C9 (some ⟨g.b,0,none⟩) h K Kp:=by
 rw[qA (.inr ag)] at i;have:=Sy d;refine C9.of ?_;refine bF ?_;exact aQ.c G.oK (Qz e KF G n b2 l ag i)
theorem XW (a:bp f) (e:f.k=15) (i:f.cs=[c]) (C:MC c M) (o:fo c) (l:f.can vs) (G:bh f [M] T h (f.st vs) m g)
  (j:∀d,Tn T h d->bE f [M] (Tr T h d) d (.iface (aU f.k) (.pointer (some ⟨g.b,0,none⟩))) (f.zk (f.st vs)).2 m->K (f.zk (f.st vs)).1 d):C8 (some ⟨g.b,0,none⟩) h K Kp:=by
 rw[qA (.inr ag)] at j;obtain ⟨_,n,s,p⟩:=ob a (Re a ag);refine C8.of ?_;refine bF ?_;exact aQ.c G.oK (QG e i C o l n ag G G.no (λc q _=>G.xD q) j)
end
section
variable {f c:ai} {KM:List bD} {M:bD} {T:Nat->Prop} {h:Hp} {v:Value} {vs:List ak} {r:Raw} {m:Option Mem} {g:bI} {K:Int->HP} {Kp:PK}
theorem XL (i:¬f.small=true) (a:f.k=16) (b:f.cs=[c]) (r:Raw):f.zk r=bL (cR false r) λe=>bL (cX (List.replicate f.w.toNat (bY 0 c.zk)) e) λd=>cO (16+(cG d 0 - cG e 0)) d:=by
 rw[ai.qB];unfold ng;rw[if_neg (by intro q;rcases q with q | q;exact i q;omega),if_pos a,b];rfl
theorem XT (S:bp f) (j:f.k=16) (W:f.cs=[c]) (C:MC c M) (PC:fo c) (PZ:cW c c.zk c.bO) (hc:f.can vs) (G:bh f [M] T h (f.st vs) m g)
  (e:∀X,Tn T h X->bE f [M] (Tr T h X) X (.iface (aU f.k) (.pointer (some ⟨g.b,0,none⟩))) (f.zk (f.st vs)).2 m->K (f.zk (f.st vs)).1 X):C7 (some ⟨g.b,0,none⟩) h K Kp:=by
 refine C7.of ?_;refine bF ?_;refine an G.B.k (by simp[bt];rfl) ?_
 by_cases hs:f.small=true
 ·rw[qA (.inl hs)] at e;obtain ⟨_,h2,h3,h4⟩:=ob S hs;exact bx hs (aQ.c G.oK (QB S j W C PC PZ hc h2 ag G G.no (λc q _=>G.xD q) e))
 rw[XL hs j W] at e;refine aR (by simpa using hs) ?_
 have KF:=js C;have ed:aU f.k=jy:=by unfold aU;rw[if_neg ag,if_neg ag,if_neg ag,if_pos j]
 rw[ed] at e;have v':=S.right.1.2.2.2.1 j;have es:∀rb:Rb,bC f.k rb=[]:=λrb=>by unfold bC;rw[if_neg ag,if_neg ag,if_neg ag,if_pos ag]
 have P:g.SS=[]:=by
  have:=G.ls.1;rw[es] at this;exact List.length_eq_zero_iff.1 this
 obtain ⟨w,l⟩:∃w,g.kv=[w]:=by
  have:=G.lk.1
  match hg:g.kv,this with
  | [a],_=>exact ⟨a,rfl⟩
 have i':f.cs[0]? = some c:=by rw[W];rfl
 have J:=ai.iz i' vs;have U:=ai.de i' hc;generalize cg f.k f.w (cj f.cs) 0 vs=d at J U;have S1:=bT.of (E:=λ_=>False) G λ_ q=>q.elim;refine S1.row KF rfl (λq=>bx rfl ?_) λq u' A' h2 t2 S2=>aR rfl ?_
 ·rw[mQ q] at e;exact e h S1.t ⟨g,by rw[ed],S1.G⟩
 rw[mP q] at e;generalize b':(f.st vs).up (Rb.row false)=H at e S2;have k1:H.aC 0=c.st d:=by rw[<-b',eZ];exact J
 have b1:H.b.aW=(f.st vs).b.aW:=by rw[<-b'];rfl
 have k':=S2.G.aC 0 M _ w rfl (List.getElem?_eq_getElem (by have:=G.lk.2.1;simp only[List.length_singleton] at this;show 0 < g.KT.length;omega)) (by simp[l])
 have l':aB h2 g.b _ _:=S2.G.B.k;refine S2.G.ia (i:=0) (w:=w) rfl (.inr (.inl j)) (by simp[P]) (by simp[l]) (C.weight k' (an l' (by simp[bt];rfl) ?_))
 rw[k1];have d':=eB U;generalize hF:(λr2:Raw=>cO (16+(cG r2 0 - cG H 0)) r2)=F at e;generalize f':List.replicate f.w.toNat (bY 0 c.zk)=Y at e;have q':Y.length=f.w.toNat:=by rw[<-f'];simp
 refine Hv.bB (λy X=>∃(i:Nat) (z:bI) (x:Raw),y=i/\i<=f.w.toNat/\bT f [M] T h X x m z (λ_=>False)/\z.b=g.b/\z.SS=g.SS/\z.kv=g.kv/\x.b=H.b/\x.aC 0=c.st (d++List.replicate i c.bO)/\c.can (d++List.replicate i c.bO) /\
   bL (cX Y H) F=bL (cX (Y.drop i) x) F)
  (λy _=>f.w.toNat - y.toNat) ⟨0,_,H,rfl,Nat.zero_le _,S2,rfl,rfl,rfl,rfl,by simpa using k1,by simpa using U,rfl⟩ ?_
 rintro y h3 ⟨i,z,x,rfl,hi,O,o,V,s,a',Q,R,p⟩ N hN;have m':0 < z.KT.length:=by have:=O.G.lk.2.1;simp only[List.length_singleton] at this;omega
 have hA:z.KT[0]? = some z.KT[0]:=List.getElem?_eq_getElem m';generalize z.KT[0]=A at hA;have u:=O.G.aC 0 M A w rfl hA (by rw[s,l];rfl)
 rw[Q] at u;refine aA (λcc => ?_) λcc => ?_
 ·have cc:=ay cc;refine bF ?_;have n':i < Y.length:=ag;have s':Y.drop i=bY 0 c.zk::Y.drop (i+1):=by
   rw[List.drop_eq_getElem_cons n']
   congr 1
   simp[<-f']
  rw[s'] at p;have D:bY 0 c.zk x=((c.zk (c.st (d++List.replicate i c.bO))).1,x.cK 0 (c.zk (c.st (d++List.replicate i c.bO))).2):=by unfold bY;rw[Q]
  refine O.G.ia (i:=0) (w:=w) o (.inr (.inl j)) (by rw[V,P];rfl) (by rw[s,l];rfl) (C.zero R u λh6 t6 M6 => ?_)
  obtain ⟨Z,t'⟩:=O.aC KF hA t6 λM' w' q1 q2=>by
   simp at q1;subst q1;rw[s,l] at q2;simp at q2;subst q2;exact M6
  refine aA (λI => ?_) λI => ?_
  ·have I:=ay I;rw[p,AD (by rw[D];exact I),D] at e
   exact e h6 Z.t ⟨_,by rw[ed];simp only[o],Z.G⟩
  ·have I:=ay I;have c':=PZ _ R I;rw[AA (by rw[D];exact I),D] at p
   have L:List.replicate (i+1) c.bO=List.replicate i c.bO++[c.bO]:=List.replicate_succ';refine aP ag ag (hN _ _ ⟨i+1,_,_,by simp,by omega,Z,o,V,s,by rw[kr];exact a',?_,?_,p⟩ ag)
   ·rw[iA (by have:=O.G.lk.2.2;simp only[List.length_singleton] at this;omega),c'.2,L,List.append_assoc]
   ·rw[L,<-List.append_assoc];exact c'.1
 ·have cc:=ay cc;have:i=f.w.toNat:=ag;subst this;rw[<-q',List.drop_length,AB] at p;rw[p,<-hF] at e;refine Iw.of ?_;refine bF ?_;dsimp only at e;have e':=eB R;have j':=lZ d (List.replicate f.w.toNat c.bO);have p':cG H 0=bg d:=by unfold cG;rw[k1];exact d'.2
  have o':cG x 0=bg d+bg (List.replicate f.w.toNat c.bO):=by unfold cG;rw[Q,e'.2,j']
  have x':x.b.aW<=4194304:=by rw[a',b1];exact (eB hc).1
  refine O.G.ia (i:=0) (w:=w) o (.inr (.inl j)) (by rw[V,P];rfl) (by rw[s,l];rfl) (C.weight u (aP ag ag (aP ag ag (O.lI KF o (n:=16+(cG x 0 - cG H 0)) (by rw[p',o',e'.2,j',d'.2];omega) ag λh6 t6 Z=>e h6 Z.t ⟨_,by rw[ed];simp only[o],Z.G⟩))))
end
section
variable {f c:ai} {KM:List bD} {M:bD} {T:Nat->Prop} {h:Hp} {v:Value} {vs:List ak} {r:Raw} {m:Option Mem} {g:bI} {K:Int->HP} {Kp:PK}
noncomputable def oV (f:ai):List (Raw->Int × Raw):=(List.range (f.cs.map ai.zk).length).map λi=>bY i ((f.cs.map ai.zk).getD i iR)
theorem XZ {j:Nat} (a:f.cs[j]? = some c):(oV f)[j]? = some (bY j c.zk):=by
 have b:=(List.getElem?_eq_some_iff.1 a).1;unfold oV;rw[List.getElem?_map,List.getElem?_range (by simpa using b)]
 simp only[Option.map_some,kB a]
theorem P9:(oV f).length=f.cs.length:=by simp[oV]
theorem XK (e:¬f.small=true) (a:f.k=17) (r:Raw):f.zk r=bL (cR false r) λd=>bL (cX (oV f) d) λb=>cO (16+(total b - total d)) b:=by
 rw[ai.qB];unfold ng oV;rw[if_neg (by intro q;rcases q with q | q;exact e q;omega),if_neg ag,if_pos a]
theorem XS (b':bp f) (L:f.k=17) (C:gw f.cs KM) (PC:∀c∈f.cs,fo c/\cW c c.zk c.bO) (hc:f.can vs) (G:bh f KM T h (f.st vs) m g)
    (s:∀h',Tn T h h'->bE f KM (Tr T h h') h' (.iface (aU f.k) (.pointer (some ⟨g.b,0,none⟩))) (f.zk (f.st vs)).2 m->K (f.zk (f.st vs)).1 h'):C6 (some ⟨g.b,0,none⟩) h K Kp:=by
  refine C6.of ?_;refine bF ?_;refine an G.B.k (by simp[bt];rfl) ?_
  by_cases hs:f.small=true
  · rw[qA (.inl hs)] at s;obtain ⟨_,h2,h3,h4⟩:=ob b' hs;exact bx hs (aQ.c G.oK (QA b' L C PC hc h2 ag G G.no (λc q _=>G.xD q) s))
  rw[XK hs L] at s;refine aR (by simpa using hs) ?_
  have KF:=C.mB;have CL:=C.1;have D:f.k=17\/f.k=18:=.inl L;have ed:aU f.k=jw:=by unfold aU;rw[if_neg ag,if_neg ag,if_neg ag,if_neg ag,if_pos L]
  rw[ed] at s;have m':=b'.right.1.2.2.2.2.2.2.2.2.1 L;have es:∀rb:Rb,bC f.k rb=[]:=λrb=>by unfold bC;rw[if_neg ag,if_neg ag,if_neg ag,if_pos ag]
  have a':g.SS=[]:=by
    have:=G.ls.1;rw[es] at this;exact List.length_eq_zero_iff.1 this
  have R:=λ(j:Nat) (c:ai) (a:f.cs[j]? = some c)=>ai.iz a vs;have J:=λ(j:Nat) (c:ai) (a:f.cs[j]? = some c)=>ai.de a hc;generalize Z:(λj=>cg f.k f.w (cj f.cs) j vs)=l;have R:∀(j:Nat) (c:ai),f.cs[j]? = some c->(f.st vs).aC j=c.st (l j):=λj c a=>by rw[<-Z];exact R j c a
  have J:∀(j:Nat) (c:ai),f.cs[j]? = some c->c.can (l j):=λj c a=>by rw[<-Z];exact J j c a
  have out:∀(d:Raw),d.kids.length=f.cs.length->(∀(j:Nat) (c:ai),f.cs[j]? = some c->∃us,d.aC j=c.st us/\c.can us)->∀j,(d.aC j).b.aW<=2 ^ 40:=by
    intro d hl hr j
    by_cases a:j < f.cs.length
    · obtain ⟨us,e,hu⟩:=hr j _ (List.getElem?_eq_getElem a);rw[e];have:=(eB hu).1;omega
    · unfold Raw.aC;rw[List.getD_eq_getElem?_getD,List.getElem?_eq_none ag];exact Nat.zero_le _
  have S1:=bT.of (E:=λ_=>False) G λ_ q=>q.elim;refine S1.row KF rfl (λq=>bx rfl ?_) λq q' A' h2 t2 S2=>aR rfl ?_
  · rw[mQ q] at s;exact s h S1.t ⟨g,by rw[ed],S1.G⟩
  rw[mP q] at s;generalize i':(f.st vs).up (Rb.row false)=H at s S2;have k1:∀(j:Nat) (c:ai),f.cs[j]? = some c->H.aC j=c.st (l j):=λj c a=>by rw[<-i',eZ];exact R j c a
  have b1:H.b.aW=(f.st vs).b.aW:=by rw[<-i'];rfl
  have l1:H.kids.length=f.cs.length:=by rw[S2.G.lk.2.2];exact CL
  have o1:=out H l1 λj c a=>⟨l j,k1 j c a,J j c a⟩;refine S2.G.ou (i:=0) rfl D (by simp[a']) (Es S2.G C D o1 ag (S2.G.ou (i:=0) rfl D (by simp[a']) ?_))
  generalize hF:(λr2:Raw=>cO (16+(total r2 - total H)) r2)=F at s;refine Ht.bB (λy h'=>∃(i:Nat) (I:bI) (d:Raw),y=i/\i<=f.cs.length/\bT f KM T h h' d m I (λ_=>False)/\I.b=g.b/\I.SS=g.SS/\I.kv=g.kv/\I.ks=g.ks/\d.b=H.b /\
      (∀(j:Nat) (c:ai),f.cs[j]? = some c->d.aC j=c.st (l j++if j < i then [c.bO] else [])/\c.can (l j++if j < i then [c.bO] else []))/\bL (cX (oV f) H) F=bL (cX ((oV f).drop i) d) F)
    (λy _=>f.cs.length - y.toNat) ⟨0,_,H,rfl,Nat.zero_le _,S2,rfl,rfl,rfl,rfl,rfl,λj c a=>by simpa using ⟨k1 j c a,J j c a⟩,rfl⟩ ?_
  rintro y h3 ⟨i,I,d,rfl,hi,S3,O,l',n',o,f',u,x⟩ N hN;have d':=S3.G.lk;have e':=S3.G.kl D;have ns:g.ks.n=f.cs.length:=by rw[<-o,e'.1.1,d'.1,CL]
  refine aA (λcc => ?_) λcc => ?_
  · have cc:=ay cc;have k':i < f.cs.length:=ag;have z:f.cs[i]? = some f.cs[i]:=List.getElem?_eq_getElem k';have W:KM[i]? = some KM[i]:=List.getElem?_eq_getElem ag;have c':I.KT[i]? = some I.KT[i]:=List.getElem?_eq_getElem ag;have U:I.kv[i]? = some I.kv[i]:=List.getElem?_eq_getElem ag;generalize f.cs[i]=S at z;generalize KM[i]=Mi at W;generalize I.KT[i]=A at c';generalize I.kv[i]=w at U;have Y:=S3.G.aC i Mi A w W c' U;obtain ⟨P,Q⟩:=u i S z;rw[if_neg ag,List.append_nil] at P Q;rw[P] at Y;have o':(oV f).drop i=bY i S.zk::(oV f).drop (i+1):=by
      rw[List.drop_eq_getElem_cons (by rw[P9];exact k')]
      congr 1
      exact (List.getElem?_eq_some_iff.1 (XZ z)).2
    rw[o'] at x;have V:bY i S.zk d=((S.zk (S.st (l i))).1,d.cK i (S.zk (S.st (l i))).2):=by unfold bY;rw[P]
    rw[<-o];refine e'.1.ix ag (by rw[o];omega) (by rw[Int.toNat_natCast];exact U) λp cp=>⟨_,cp,(C.2 i S Mi z W).zero Q Y λh6 t6 M6 => ?_⟩
    rw[o];obtain ⟨S6,p'⟩:=S3.aC KF c' t6 λM' w' q1 q2=>by
      rw[W] at q1;cases q1;rw[U] at q2;cases q2;exact M6
    refine aA (λX => ?_) λX => ?_
    · have X:=ay X;rw[x,AD (by rw[V];exact X),V] at s
      exact s h6 S6.t ⟨_,by rw[ed];simp only[O],S6.G⟩
    · have X:=ay X;have j':=((PC S (List.mem_of_getElem? z)).2) _ Q X;rw[AA (by rw[V];exact X),V] at x
      refine aP ag ag (hN _ _ ⟨i+1,_,_,by simp,by omega,S6,O,l',n',o,by rw[kr];exact f',λj c a => ?_,x⟩ ag)
      by_cases e:i=j
      · subst e;rw[z] at a;cases a;rw[iA ag,if_pos ag];exact ⟨j'.2,j'.1⟩
      · rw[uD e];have:=u j c a
        by_cases q:j < i
        · rw[if_pos q] at this;rw[if_pos ag];exact this
        · rw[if_neg q] at this;rw[if_neg ag];exact this
  · have cc:=ay cc;have:i=f.cs.length:=ag;subst this;rw[<-P9 (f:=f),List.drop_length,AB] at x;rw[x,<-hF] at s;have s':d.b.aW<=4194304:=by rw[f',b1];exact (eB hc).1
    refine Iu.of ?_;refine bF ?_;dsimp only at s;have l3:d.kids.length=f.cs.length:=by rw[d'.2.2];exact CL
    have o3:=out d l3 λj c a=>⟨_,(u j c a).1,(u j c a).2⟩;have v':total H<=total d:=by
      rw[mN,mN,l1,l3];have:∀n,n<=f.cs.length->oa H n<=oa d n:=by
        intro n
        induction n with
        | zero=>intro _;exact Nat.le_refl _
        | succ n ih =>
          intro hn;have a:f.cs[n]? = some f.cs[n]:=List.getElem?_eq_getElem ag;have q1:=(eB (u n _ a).2).2;have q2:=(eB (J n _ a)).2;rw[xb,xb,k1 n _ a,(u n _ a).1,q1,q2,lZ];have:=ih ag;omega
      exact this _ (Nat.le_refl _)
    have u':total H<=32*2 ^ 40:=by rw[mN,l1];exact Nat.le_trans (xd o1 _) (Nat.mul_le_mul_right _ m')
    have t':total d<=32*2 ^ 40:=by rw[mN,l3];exact Nat.le_trans (xd o3 _) (Nat.mul_le_mul_right _ m')
    refine S3.G.ou (i:=0) O D (by rw[l',a'];rfl) (Es S3.G C D o3 ag (aP ag ag (aP ag ag (S3.lI KF O (n:=16+(total d - total H)) ag ag λh6 t6 S6=>s h6 S6.t ⟨_,by rw[ed];simp only[O],S6.G⟩))))
theorem XQ (b:¬f.small=true) (a:f.k=18) (d:f.cs[0]? = some c) (r:Raw):f.zk r=mT 0 c.zk r:=by
 rw[ai.qB];unfold ng;rw[if_neg (by intro q;rcases q with q | q;exact b q;omega),if_neg ag,if_neg ag,if_pos a,kB d]
theorem XY (i:bp f) (d:f.k=18) (C:gw f.cs KM) (y:∀c∈f.cs,fo c/\cW c c.zk c.bO) (p:f.can vs) (G:bh f KM T h (f.st vs) m g)
  (o:∀e,Tn T h e->bE f KM (Tr T h e) e (.iface (aU f.k) (.pointer (some ⟨g.b,0,none⟩))) (f.zk (f.st vs)).2 m->K (f.zk (f.st vs)).1 e):C5 (some ⟨g.b,0,none⟩) h K Kp:=by
 refine C5.of ?_;refine bF ?_;refine an G.B.k (by simp[bt];rfl) ?_
 by_cases l:f.small=true
 ·rw[qA (.inl l)] at o;obtain ⟨_,L,S,R⟩:=ob i l;exact bx l (aQ.c G.oK (QI i d C (λc p=>(y c p).1) p L ag G G.no (λc q _=>G.xD q) o))
 have U:=(i.right.1.2.2.2.2.2.2.2.2.2.1 d).1;have n:f.cs[0]? = some f.cs[0]:=List.getElem?_eq_getElem ag;generalize f.cs[0]=c at n;rw[XQ l d n] at o;refine aR (by simpa using l) ?_
 have P:=bT.of (E:=λ_=>False) G λ_ q=>q.elim;refine Tf (j:=0) d C p n ag P rfl (F:=c.zk) (λs a H => ?_) (λ{e A M w mo s V} I a J t Q u=>ajp ((C.2 0 c M n I).zero a J u)) λe N O x=>o e x.t ⟨N,by rw[O],x.G⟩
 obtain ⟨D,z⟩:=(y c (List.mem_of_getElem? n)).2 s a H;rw[z];have:=eB D;have:=eB a;have:=lZ s [c.bO];exact ⟨by omega,by omega⟩
end
section
variable {f c:ai} {KM:List bD} {T:Nat->Prop} {h:Hp} {r:Raw} {m:Option Mem} {g:bI} {x:ak} {s:Sl} {K:Int->HP} {Kp:PK}
theorem Zl (p:dU f.k=true) (r:Raw) (x:ak):f.tk r x=bL (cR x.aq r) λn=>cO (16+x.text.length) (n.up λb=>{ b with cm:=b.cm++[(x.num % 2 ^ 64).toNat],texts:=b.texts++[x.text] }):=by
 obtain ⟨o,t,q,l,j,i,e,d,a⟩:=sH p;rw[ai.jF];unfold gY;rw[if_neg o,if_neg ag,if_neg l,if_neg j,if_neg i,if_neg e,if_neg d,if_neg a]
theorem QE (P:dU f.k=true) (KF:∀(j:Nat) M,KM[j]? = some M->dD M) (G:bh f KM T h r m g) (b1:r.b.cm.length<=70000) (b2:r.b.texts.length<=70000) (b3:r.b.aW<=2 ^ 50) (b4:x.text.length<=2 ^ 50)
  (w:∀C,Tn T h C->bE f KM (Tr T h C) C (.iface (aU f.k) (.pointer (some ⟨g.b,0,none⟩))) (f.tk r x).2 m->K (f.tk r x).1 C):zI (some ⟨g.b,0,none⟩) x.aq x.num (bs x.text) s h K Kp:=by
 obtain ⟨k1,g',f',O,e',d',z,N,L⟩:=sH P;rw[Zl P] at w;have l:∀A:Rb,bC f.k A=[(gF A.cm,kI),(strs A.texts,lS)]:=λA=>by unfold bC;rw[if_neg ag,if_neg ag,if_neg z,if_neg ag]
 have S:∀a b:Rb,cz f.k a b↔b.cm <+: a.cm/\b.texts <+: a.texts/\b.cm.length=b.texts.length:=λa b=>by unfold cz;rw[if_neg ag,if_neg O,if_neg N,if_neg z,if_neg ag,if_neg L]
 obtain ⟨p,o,d⟩:∃p o,g.SS=[p,o]:=by
  have:=G.ls.1;rw[l] at this
  match hg:g.SS,this with
  | [a,b],_=>exact ⟨a,b,rfl⟩
 refine zI.of (az λa Q ea R e _ => ?_);refine bF ?_;have I:=(bT.of (E:=λ_=>False) G λ_ q=>q.elim).aj KF R;have bl:=G.bl;have b':=R.1;have J:(λc=>False\/(h.size<=c/\c < Q.size)) a:=.inr ⟨by omega,e.lt⟩
 refine an e rfl (I.row KF rfl (λc=>bx rfl ?_) λc a' A' h2 Y y=>aR rfl ?_)
 ·rw[mQ c] at w;exact w Q I.t ⟨g,rfl,I.G⟩
 rw[mP c] at w;have e:=bT.fE Y e J;have n0:p.n=r.b.cm.length:=by have:=y.G.kq (i:=0) (s:=p) (by simp[d]) (by rw[l];rfl);rw[this,gF,List.length_map];rfl
 have n1:o.n=r.b.texts.length:=by have:=y.G.kq (i:=1) (s:=o) (by simp[d]) (by rw[l];rfl);rw[this,strs,List.length_map];rfl
 refine y.G.dL (i:=0) (s:=p) rfl (by simp[d]) (an e rfl (GL ?_))
 rw[Y3];refine az λi' h3 e3 F k3 _=>bK y.G.B.k F ?_;refine (y.aj KF F).app (i:=0) (s:=p) (x:=(gF r.b.cm,kI)) (x':=(gF (r.b.cm++[(x.num % 2 ^ 64).toNat]),kI)) (r':=(r.up (Rb.row x.aq)).up λb=>{ b with cm:=b.cm++[(x.num % 2 ^ 64).toNat] }) (news:=[.int .u64 (((x.num % 2 ^ 64).toNat:Nat):Int)]) KF rfl (by simp[d]) (by rw[l];rfl) rfl ?_ rfl (iB k3 rfl) ag ag (by simp[gF])
  ⟨rfl,rfl,rfl,rfl⟩ (by rw[l,l];rfl) rfl rfl (λZ _ q => ?_) λc' A0 h4 X H=>Il.of ?_
 ·intro v u;simp only[List.mem_singleton] at u;subst u;rfl
 ·rw[S] at q ⊢;exact ⟨q.1.trans (List.prefix_append _ _),q.2⟩
 have e:=bT.fE X (e.aj F) (.inl J);refine bF ?_;refine H.G.dL (i:=1) (s:=o) rfl (by simp[d]) (an e rfl (az λb6 h5 e5 D k5 _=>bK H.G.B.k D ?_))
 refine (H.aj KF D).app (i:=1) (s:=o) (x:=(strs r.b.texts,lS)) (x':=(strs (r.b.texts++[x.text]),lS)) (r':=(r.up (Rb.row x.aq)).up λb=>{ b with cm:=b.cm++[(x.num % 2 ^ 64).toNat],texts:=b.texts++[x.text] }) (news:=[.string (bs x.text)]) KF rfl (by simp[d]) (by rw[l];rfl) rfl ?_ rfl (iB k5 rfl) ag ag (by simp[strs])
  ⟨rfl,rfl,rfl,rfl⟩ (by rw[l,l];rfl) rfl rfl (λZ _ q => ?_) λV A1 h6 W S6=>Ik.of ?_
 ·intro v u;simp only[List.mem_singleton] at u;subst u;rfl
 ·rw[S] at q ⊢;exact ⟨q.1,q.2.1.trans (List.prefix_append _ _),q.2.2⟩
 have e:=bT.fE W (e.aj D) (.inl (.inl J));refine bF ?_;exact an e rfl (aP (by rw[fG];omega) (by rw[fG];omega) (S6.lI KF rfl (n:=16+x.text.length) (by rw[fG];omega) (by show r.b.aW+_ < 2 ^ 62;omega) λh7 t7 U=>w h7 U.t ⟨_,by rfl,U.G⟩))
end
section
variable {f c:ai} {KM:List bD} {M:bD} {T S:Nat->Prop} {h h':Hp} {r r':Raw} {m:Option Mem} {mm:Mem} {g:bI} {K:HP} {Kp:PK}
theorem bh.Be {j:Nat} {A:Nat->Prop} {rj:Raw} (G:bh f KM T h r m g) (KF:∀(j:Nat) M,KM[j]? = some M->dD M) (l:g.KT[j]? = some A) (t:Tn A h h')
  (u:∀M w,KM[j]? = some M->g.kv[j]? = some w->M A h' w rj (m.bind λmm=>mm.ks[j]?)):bh f KM T h' (r.cK j rj) m g:=by
 have v:=(List.getElem?_eq_some_iff.1 l).1;have p:∀c,A c->c < h.size->c=g.b\/A c:=λc q _=>.inr q;have n:=g.dy l;have nb:¬A g.b:=G.t.gI n;have av:∀{i:Nat} {B:Nat->Prop},g.Ls[i]? = some B->3+g.ST.length+j≠i->∀c,B c->c < h.size->¬A c:=λo ne=>G.av n p o ne;have lk:=G.lk;refine ⟨G.t.grow t.1,G.B.fr t nb (av g.dz ag),G.ls,λi s B x d a k=>(G.sl i s B x d a k).fr t (av (g.gT a) (by have:i < g.ST.length:=(List.getElem?_eq_some_iff.1 a).1;omega)),⟨lk.1,lk.2.1,by rw[qH];exact lk.2.2⟩,λi M B w d a k => ?_,
  au.fr t (av g.cU ag) (λ_ z=>z) _ G.no,λz=>(G.kl z).fr t (av g.cU ag) λ_ z=>z,G.sp.fr t (av g.fe ag),λmm e=>(G.mm mm e).fr t (av g.cU ag) (av g.dz ag) (av g.fe ag) |> λM=>⟨M.c,M.pr,M.ks,M.sp⟩⟩
 by_cases e:j=i
 ·subst e;rw[l] at a;cases a;rw[iA ag];exact u M w d k
 ·rw[uD e];exact KF i M d (G.aC i M B w d a k) t (av (g.dy a) ag)
theorem bh.qG {i:Nat} {s':Sl} {A:Nat->Prop} {x':List Value × TypeId} (G:bh f KM T h r m g) (KF:∀(j:Nat) M,KM[j]? = some M->dD M) (p:g.ST[i]? = some A) (v:Os A h s' x'.1 x'.2)
  (o:aM g.b h h') (y:aB h' g.b (bt f g.sf g.sn g.sb r.b.rows r.b.bu r.b.aW (dB f.k (g.SS.set i s') g.kv g.ks g.sp)).toArray (eM f.k))
  (d:r'.b.rows=r.b.rows/\r'.b.bu=r.b.bu/\r'.b.bits=r.b.bits/\r'.b.aW=r.b.aW) (e1:bC f.k r'.b=(bC f.k r.b).set i x') (u:r'.kids=r.kids) (F:r'.b.vals=r.b.vals) (E:∀mm,m=some mm->cz f.k r.b mm.r.b->cz f.k r'.b mm.r.b) :
  bh f KM T h' r' m { g with SS:=g.SS.set i s' }:=by
 have H:=(List.getElem?_eq_some_iff.1 p).1;have q:∀{A:Nat->Prop} (i:Nat),g.Ls[i]? = some A->∀c,A c->c < h.size->¬c=g.b:=λi C c D hl e=>G.t.gI C (e ▸ D);have t:=o.fr;refine ⟨G.t.grow (Nat.le_of_eq o.1.symm),⟨by rw[d.1,d.2.1,d.2.2.2];exact y,by rw[d.2.2.1];exact G.B.o.fr t (q 0 g.dz),G.B.nT,by rw[d.2.2.1,d.1];exact G.B.len,by rw[d.2.1,d.1];exact G.B.nl,by rw[d.1];exact G.B.rl⟩,?_,λj s B x a n l => ?_,by rw[u];exact G.lk,λj M B w a n l => ?_,
  au.fr t (q 1 g.cU) (λ_ z=>z) _ G.no,λz=>(G.kl z).fr t (q 1 g.cU) λ_ z=>z,?_,λmm e => ?_⟩
 ·simp only[List.length_set,e1];exact G.ls
 ·dsimp only at a n;rw[e1] at l;rw[List.getElem?_set] at a l
  by_cases e:i=j
  ·subst e;have J:=G.ls.1;have I:=G.ls.2;rw[if_pos rfl,if_pos ag] at a l;rw[p] at n;cases a;cases n;cases l;exact v.fr t (q _ (g.gT p))
  ·rw[if_neg e] at a l;exact (G.sl j s B x a n l).fr t (q _ (g.gT n))
 ·have:=KF j M a (G.aC j M B w a n l) t (q _ (g.dy n));unfold Raw.aC at this ⊢;rw[u];exact this
 ·exact (G.sp.fr t (q 2 g.fe)).eq F
 ·have M:=(G.mm mm e).fr t (q 1 g.cU) (q 0 g.dz) (q 2 g.fe);exact ⟨M.c,E mm e M.pr,M.ks,M.sp⟩
theorem bh.conv (G:bh f KM T h r m g) (a:r'.b.rows=r.b.rows/\r'.b.bu=r.b.bu/\r'.b.bits=r.b.bits/\r'.b.aW=r.b.aW) (e1:bC f.k r'.b=bC f.k r.b) (p:r'.kids=r.kids) (v:f.k=19\/f.k=20->r'.b.vals=r.b.vals) (u:∀mm,m=some mm->cz f.k r.b mm.r.b->cz f.k r'.b mm.r.b) :
  bh f KM T h r' m g:=by
 refine ⟨G.t,⟨by rw[a.1,a.2.1,a.2.2.2];exact G.B.k,by rw[a.2.2.1];exact G.B.o,G.B.nT,by rw[a.2.2.1,a.1];exact G.B.len,by rw[a.2.1,a.1];exact G.B.nl,by rw[a.1];exact G.B.rl⟩,by rw[e1];exact G.ls,λi s A x n l d=>G.sl i s A x n l (e1 ▸ d),by rw[p];exact G.lk,λj M A w n l d => ?_,G.no,G.kl,?_,λmm e => ?_⟩
 ·have:=G.aC j M A w n l d;unfold Raw.aC at this ⊢;rw[p];exact this
 ·by_cases q:f.k=19\/f.k=20
  ·exact G.sp.eq (v q)
  ·have:=G.sp;unfold eY at this ⊢;rw[if_neg ag,if_neg ag] at this ⊢;exact this
 ·have M:=G.mm mm e;exact ⟨M.c,u mm e M.pr,M.ks,M.sp⟩
def Raw.mb (r m:Raw):Raw:=.mk { r.b with rows:=m.b.rows,bu:=m.b.bu,bits:=m.b.bits,aW:=m.b.aW } r.kids
theorem rH {v:Value} (G:bh f KM T h r (some mm) g) (KF:∀(j:Nat) M,KM[j]? = some M->dD M) (d:D9 g.R g.T0 h g.b f g.sf g.sn g.sb v mm.s mm.r.b)
  (I:∀h',Tn (λc=>c=g.b\/g.T0 c) h h'->bh f KM T h' (r.mb mm.r) (some mm) { g with sb:=mm.s }->K h'):bJ Tryz.prog v [] h (λr D=>r=.tuple #[]/\K D) Kp:=by
 refine akh d.bm G.B.k d.o G.B.nT (λc q=>⟨G.t.ne (i:=1) (j:=0) g.cU g.dz aL c q,λe=>G.t.gI g.cU (e ▸ q)⟩) d.len d.nl d.rl λD a l => ?_;have L:∀c,(c=g.b\/g.T0 c)->c < h.size->c=g.b\/g.T0 c:=λc q _=>q;have av:∀{j:Nat} {B:Nat->Prop},g.Ls[j]? = some B->0≠j->∀c,B c->c < h.size->¬(c=g.b\/g.T0 c):=λJ ne=>G.av g.dz L J ne;have p:=av g.cU ag;refine I D a ⟨G.t.grow a.1,⟨l.k,l.o,l.nT,l.len,l.nl,l.rl⟩,G.ls,λi s A x y n C=>(G.sl i s A x y n C).fr a (av (g.gT n) ag),G.lk,λj M A w y n C=>KF j M y (G.aC j M A w y n C) a (av (g.dy n) ag),
  au.fr a p (λ_ z=>z) _ G.no,λz=>(G.kl z).fr a p λ_ z=>z,G.sp.fr a (av g.fe ag),λV e => ?_⟩
 cases e;obtain ⟨⟨U,F,E,Q,P,O,N⟩,H,ks,sp⟩:=G.mm mm rfl;exact ⟨⟨U,F,⟨E.bm.fr a p,Old.of l.o,d.len,d.nl,d.rl⟩,Q,λz=>(P z).fr a p,O,λz=>by obtain ⟨u,e,mc⟩:=N z;exact ⟨u,e,mc.fr a p⟩⟩,H,ks,λz=>(sp z).fr a (av g.fe ag)⟩
end
theorem ajA {c0 p q a:Addr} {h:Hp} {K:HP} {Kp:PK} (H:JE c0 p q a h K Kp):bJ Tryz.prog (.func (.func zC) #[] #[.pointer (some c0), .pointer (some p), .pointer (some q), .pointer (some a)]) [] h (λr b=>r=.tuple #[]/\K b) Kp:=by
 unfold bJ;exact cast aF H
theorem ajy {c0 p:Addr} {h:Hp} {K:HP} {Kp:PK} (H:Jy c0 p h K Kp):bJ Tryz.prog (.func (.func zy) #[] #[.pointer (some c0), .pointer (some p)]) [] h (λr a=>r=.tuple #[]/\K a) Kp:=by
 unfold bJ;exact cast aF H
theorem ajz {c0 p q a:Addr} {h:Hp} {K:HP} {Kp:PK} (H:JB c0 p q a h K Kp):bJ Tryz.prog (.func (.func zA) #[] #[.pointer (some c0), .pointer (some p), .pointer (some q), .pointer (some a)]) [] h (λr b=>r=.tuple #[]/\K b) Kp:=by
 unfold bJ;exact cast aF H
section
variable {R:Nat->Prop} {h:Hp} {caps:List Value}
theorem SL {Z d:Array Value} (mc:tN R h caps [Z,d]):∃b a i e,caps=[.pointer (some ⟨b,0,none⟩), .pointer (some ⟨a,0,none⟩)]/\(R b/\aB h b Z i)/\(R a/\aB h a d e):=by
  obtain ⟨b,i,j,l⟩:=mc.2 0 Z rfl;obtain ⟨a,e,e1,k⟩:=mc.2 1 d rfl
  match caps,mc.1 with
  | [u,v],_ =>
    simp at j e1;subst j e1;exact ⟨b,a,i,e,rfl,l,k⟩
theorem MK {Z k j i:Array Value} (mc:tN R h caps [Z,k,j,i]):∃e d b a o n m l,caps=[.pointer (some ⟨e,0,none⟩), .pointer (some ⟨d,0,none⟩), .pointer (some ⟨b,0,none⟩), .pointer (some ⟨a,0,none⟩)] /\
    (R e/\aB h e Z o)/\(R d/\aB h d k n)/\(R b/\aB h b j m)/\(R a/\aB h a i l):=by
  obtain ⟨e,o,s,A⟩:=mc.2 0 Z rfl;obtain ⟨d,n,e1,y⟩:=mc.2 1 k rfl;obtain ⟨b,m,q,x⟩:=mc.2 2 j rfl;obtain ⟨a,l,p,t⟩:=mc.2 3 i rfl
  match caps,mc.1 with
  | [u,v,w,z],_ =>
    simp at s e1 q p;subst s e1 q p;exact ⟨e,d,b,a,o,n,m,l,rfl,A,y,x,t⟩
end
section
variable {f c:ai} {KM:List bD} {M:bD} {T:Nat->Prop} {h:Hp} {r:Raw} {mm:Mem} {g:bI} {K:HP} {Kp:PK}
theorem aka (v:f.k=16) (b':f.cs=[c]) (C:MC c M) (G:bh f [M] T h r (some mm) g) (X:∀u,Tn T h u->bE f [M] T u (.iface (aU f.k) (.pointer (some ⟨g.b,0,none⟩))) mm.r (some mm)->K u) :
  bJ Tryz.prog mm.F [] h (λr p=>r=.tuple #[]/\K p) Kp:=by
 have KF:=js C;obtain ⟨⟨P,c',bm,c1,c2,c3,c4⟩,pr,ks⟩:=G.mm mm rfl;obtain ⟨caps,eF,mc⟩:=c4 ag;obtain ⟨d,L,rfl⟩:=c1 ag;have x:fF f.k g.b P d.F mm=[#[P],#[d.F]]:=by unfold fF;simp only;rw[if_neg ag,if_neg ag,if_pos ag]
 rw[x] at mc;obtain ⟨a0,a1,t0,t1,ec,⟨r0,W⟩,⟨S,I⟩⟩:=SL mc;have z:dG f.k=zy:=by unfold dG;rw[if_neg ag,if_neg ag,if_pos v]
 have J:∀E:Rb,bC f.k E=[]:=λE=>by unfold bC;rw[if_neg ag,if_neg ag,if_neg ag,if_pos ag]
 have ep:∀a b:Rb,cz f.k a b:=λa b=>by unfold cz;rw[if_neg ag,if_neg ag,if_neg ag,if_neg ag,if_pos ag];trivial
 rw[eF,ec,z];have Z:∀c,(c=g.b\/g.T0 c)->c < h.size->c=g.b\/g.T0 c:=λc q _=>q;have av:∀{j:Nat} {B:Nat->Prop},g.Ls[j]? = some B->0≠j->∀c,B c->c < h.size->¬(c=g.b\/g.T0 c):=λY ne=>G.av g.dz Z Y ne;refine ajy (Jy.of (an W rfl (rH G KF bm λp D O=>an (D.aK I (av g.cU ag _ S I.lt)) rfl ?_)));have lk:=G.lk;have V:0 < g.KT.length:=by have:=lk.2.1;simp only[List.length_singleton] at this;omega
 have U:0 < g.kv.length:=by have:=lk.1;simp only[List.length_singleton] at this;omega
 have m:g.KT[0]? = some g.KT[0]:=List.getElem?_eq_getElem V;have n:g.kv[0]? = some g.kv[0]:=List.getElem?_eq_getElem U;generalize g.KT[0]=A at m;generalize g.kv[0]=w at n;have i:=O.aC 0 M A w rfl m n;have N:((some mm).bind λmm=>mm.ks[0]?)=some d:=by show mm.ks[0]? = some d;rw[L];rfl
 rw[N] at i
 show bJ Tryz.prog d.F [] p _ _
 refine C.back i λh2 u2 M2=>X h2 ?_ ⟨{ g with sb:=mm.s },rfl,(O.Be (rj:=d.r) KF m u2 λM' Q H l => ?_).conv ⟨rfl,rfl,rfl,rfl⟩ (by rw[J,J]) ?_ (λq=>by omega) λa' _ _=>ep _ _⟩
 ·exact (D.mono λc q _=>q.elim (λe=>e ▸ G.t.tb) λq=>G.jO g.dz q).trans (u2.mono λc q _=>G.jO (g.dy m) q)
 ·simp at H;subst H;have l:g.kv[0]? = some Q:=l;rw[n] at l;cases l;rw[N];exact M2
 ·have hl:=lk.2.2;have e1:mm.r.kids=[d.r]:=by rw[ks.1,L];rfl
  rw[e1]
  show [d.r]=((r.mb mm.r).cK 0 d.r).kids
  have:r.kids.length=1:=hl
  match o:r.kids,this with
  | [y],_=>simp[Raw.cK,Raw.mb,Raw.kids,o] <;> (unfold Raw.kids at o;simp[o])
end
theorem Ni {a b:List Nat} (p:a <+: b):(ints b).take a.length=ints a:=by
 unfold ints;rw[<-List.map_take,<-List.prefix_iff_eq_take.1 p]
theorem V0 {a b:List UInt8} (p:a <+: b):(bv b).take a.length=bv a:=by
 unfold bv;rw[<-List.map_take,<-List.prefix_iff_eq_take.1 p]
section
variable {f c:ai} {KM:List bD} {M:bD} {T:Nat->Prop} {h:Hp} {r:Raw} {mm:Mem} {g:bI} {K:HP} {Kp:PK}
theorem aj8 (J:f.k=12\/f.k=13) (Z:f.cs=[]) (G:bh f [] T h r (some mm) g) (hk:∀U,Tn T h U->bE f [] T U (.iface (aU f.k) (.pointer (some ⟨g.b,0,none⟩))) mm.r (some mm)->K U) :
  bJ Tryz.prog mm.F [] h (λr h1=>r=.tuple #[]/\K h1) Kp:=by
 have KF:∀(j:Nat) (M:bD),([]:List bD)[j]? = some M->dD M:=λj M q=>by simp at q
 obtain ⟨⟨W,c',bm,c1,c2,c3,c4⟩,C,ks⟩:=G.mm mm rfl;obtain ⟨d',eF,mc⟩:=c4 ag;have a':fF f.k g.b W c' mm=[#[W],#[.pointer (some ⟨g.b,0,none⟩)],pI mm.r.b.ends.length,pI mm.r.b.all.length]:=by unfold fF;simp only;rw[if_pos ag]
 rw[a'] at mc;obtain ⟨a0,a1,a2,a3,t0,t1,t2,t3,ec,⟨r0,k0⟩,⟨r1,o⟩,⟨r2,O⟩,⟨r3,w⟩⟩:=MK mc;have b':dG f.k=zC:=by unfold dG;rw[if_pos J]
 have m:∀N:Rb,bC f.k N=[(ints N.ends,Y6),(bv N.all,Y8)]:=λN=>by unfold bC;rw[if_pos J]
 have P:∀a b:Rb,cz f.k a b↔b.ends <+: a.ends/\b.all <+: a.all:=λa b=>by unfold cz;rw[if_pos ag]
 rw[P] at C;obtain ⟨z,y,d⟩:∃z y,g.SS=[z,y]:=by
  have:=G.ls.1;rw[m] at this
  match hg:g.SS,this with
  | [a,b],_=>exact ⟨a,b,rfl⟩
 obtain ⟨S,Q,l⟩:∃S Q,g.ST=[S,Q]:=by
  have:=G.ls.2;rw[m] at this
  match hg:g.ST,this with
  | [a,b],_=>exact ⟨a,b,rfl⟩
 rw[eF,ec,b'];have hS:∀c,(c=g.b\/g.T0 c)->c < h.size->c=g.b\/g.T0 c:=λc q _=>q;have v:∀c,g.R c->c < h.size->¬(c=g.b\/g.T0 c):=G.av g.dz hS g.cU ag;have nR:∀{c:Nat},g.R c->c≠g.b:=λq e=>G.t.gI g.cU (e ▸ q);refine ajA (JE.of (an k0 rfl ?_))
 show bJ Tryz.prog W [] h _ _
 refine rH G KF bm λh1 L u => ?_;have o:=L.aK o (v _ r1 o.lt);have O:=L.aK O (v _ r2 O.lt);have w:=L.aK w (v _ r3 w.lt);have o0:=u.sl 0 z S (ints r.b.ends,Y6) (by simp[d]) (by simp[l]) (by rw[m];rfl)
 have o1:=u.sl 1 y Q (bv r.b.all,Y8) (by simp[d]) (by simp[l]) (by rw[m];rfl)
 have n0:=o0.n;have n1:=o1.n;have p0:=C.1.length_le;have p1:=C.2.length_le;simp only[ints,List.length_map] at n0;rw[eL] at n1;refine an o rfl (an o rfl (an o rfl ?_));refine bF ?_;refine u.dL (i:=0) (s:=z) rfl (by simp[d]) (an O rfl (o0.cut (n:=mm.r.b.ends.length) ag rfl λE e0 I=>an o rfl ?_))
 refine bF ?_;refine u.dL (i:=1) (s:=y) rfl (by simp[d]) (an w rfl (o1.cut (n:=mm.r.b.all.length) ag rfl λD e1 H => ?_))
 rw[Ni C.1] at I;rw[V0 C.2] at H;refine u.pg (i:=0) (s:=z) (s':=E) (by simp[d]) u.B.k λh2 x Y => ?_
 have V:=u.qG (i:=0) (s':=E) (A:=S) (x':=(ints mm.r.b.ends,Y6)) (r':=(r.mb mm.r).up λb=>{ b with ends:=mm.r.b.ends }) KF (by simp[l]) I x Y ⟨rfl,rfl,rfl,rfl⟩ (by rw[m,m];rfl) rfl rfl λp _ q=>by rw[P] at q ⊢;cases ‹some mm=some p›;exact ⟨List.prefix_refl _,q.2⟩
 refine iY w (x.aK w (nR r3)) (iY o (x.aK o (nR r1)) (V.pg (i:=1) (s:=y) (s':=D) (by simp[d]) V.B.k λh3 w3 X => ?_))
 have G3:=V.qG (i:=1) (s':=D) (A:=Q) (x':=(bv mm.r.b.all,Y8)) (r':=(r.mb mm.r).up λb=>{ b with ends:=mm.r.b.ends,all:=mm.r.b.all }) KF (by simp[l]) (H.fr x.fr λc q _ e=>G.t.gI (g.gT (i:=1) (by simp[l])) (e ▸ q)) w3 X ⟨rfl,rfl,rfl,rfl⟩ (by rw[m,m];rfl) rfl rfl λp _ q=>by rw[P] at q ⊢;cases ‹some mm=some p›;exact ⟨q.1,List.prefix_refl _⟩
 refine hk h3 ?_ ⟨_,by rfl,G3.conv (r':=mm.r) ⟨rfl,rfl,rfl,rfl⟩ (by rw[m,m];rfl) ?_ (λq=>by omega) λp e q => ?_⟩
 ·exact ((L.mono λc q _=>q.elim (λe=>e ▸ G.t.tb) λq=>G.jO g.dz q).trans (x.fr.mono λc q _=>q ▸ G.t.tb)).trans (w3.fr.mono λc q _=>q ▸ G.t.tb)
 ·have e1:mm.r.kids=[]:=by
   rw[ks.1];have:=ks.2;rw[Z] at this;rw[List.length_eq_zero_iff.1 this];rfl
  have e2:r.kids=[]:=List.length_eq_zero_iff.1 G.lk.2.2;rw[e1];exact e2.symm
 ·cases e;rw[P];exact ⟨List.prefix_refl _,List.prefix_refl _⟩
end
section
variable {f c:ai} {KM:List bD} {M:bD} {T:Nat->Prop} {h:Hp} {r:Raw} {mm:Mem} {g:bI} {K:HP} {Kp:PK}
theorem ac6 {r m:Raw} {k:Raw} (hl:r.kids.length=1):((r.mb m).cK 0 k).kids=[k]:=by
 obtain ⟨b,ks⟩:=r
 match ks,hl with
 | [y],_=>rfl
theorem ake (u:f.k=15) (d':f.cs=[c]) (C:MC c M) (G:bh f [M] T h r (some mm) g) (hk:∀V,Tn T h V->bE f [M] T V (.iface (aU f.k) (.pointer (some ⟨g.b,0,none⟩))) mm.r (some mm)->K V) :
  bJ Tryz.prog mm.F [] h (λr U=>r=.tuple #[]/\K U) Kp:=by
 have KF:=js C;obtain ⟨⟨X,f',bm,c1,c2,c3,c4⟩,Q,ks⟩:=G.mm mm rfl;obtain ⟨c',eF,mc⟩:=c4 ag;obtain ⟨j,em,rfl⟩:=c1 ag;have a':fF f.k g.b X j.F mm=[#[X],#[j.F],#[.pointer (some ⟨g.b,0,none⟩)],pI mm.r.b.ends.length]:=by unfold fF;simp only;rw[if_neg ag,if_pos u]
 rw[a'] at mc;obtain ⟨a0,a1,a2,a3,t0,t1,t2,t3,ec,⟨r0,k0⟩,⟨r1,N⟩,⟨r2,l⟩,⟨r3,x⟩⟩:=MK mc;have b':dG f.k=zA:=by unfold dG;rw[if_neg ag,if_pos u]
 have o:∀P:Rb,bC f.k P=[(ints P.ends,Y6)]:=λP=>by unfold bC;rw[if_neg ag,if_pos ag]
 have W:∀a b:Rb,cz f.k a b↔b.ends <+: a.ends:=λa b=>by unfold cz;rw[if_neg ag,if_pos u]
 rw[W] at Q;obtain ⟨y,p⟩:∃y,g.SS=[y]:=by
  have:=G.ls.1;rw[o] at this
  match hg:g.SS,this with
  | [a],_=>exact ⟨a,rfl⟩
 obtain ⟨O,I⟩:∃O,g.ST=[O]:=by
  have:=G.ls.2;rw[o] at this
  match hg:g.ST,this with
  | [a],_=>exact ⟨a,rfl⟩
 have lk:=G.lk;have l1:0 < g.KT.length:=by have:=lk.2.1;simp only[List.length_singleton] at this;omega
 have l2:0 < g.kv.length:=by have:=lk.1;simp only[List.length_singleton] at this;omega
 have z:g.KT[0]? = some g.KT[0]:=List.getElem?_eq_getElem l1;have S:g.kv[0]? = some g.kv[0]:=List.getElem?_eq_getElem l2;generalize g.KT[0]=A at z;generalize g.kv[0]=w at S;rw[eF,ec,b'];have hS:∀c,(c=g.b\/g.T0 c)->c < h.size->c=g.b\/g.T0 c:=λc q _=>q;have v:∀c,g.R c->c < h.size->¬(c=g.b\/g.T0 c):=G.av g.dz hS g.cU ag;have nA:∀c,g.R c->¬A c:=λc q=>G.t.ne g.cU (g.dy z) ag c q;refine ajz (JB.of (an k0 rfl ?_))
 show bJ Tryz.prog X [] h _ _
 refine rH G KF bm λU J G1 => ?_;have N:=J.aK N (v _ r1 N.lt);have l:=J.aK l (v _ r2 l.lt);have x:=J.aK x (v _ r3 x.lt);have d:=G1.aC 0 M A w rfl z S;have e0:((some mm).bind λmm=>mm.ks[0]?)=some j:=by show mm.ks[0]? = some j;rw[em];rfl
 rw[e0] at d;refine an N rfl ?_
 show bJ Tryz.prog j.F [] U _ _
 refine C.back d λh2 u2 M2 => ?_;have D:=G1.Be (rj:=j.r) KF z u2 λM' w' q1 L=>by
  simp at q1;subst q1;have L:g.kv[0]? = some w':=L;rw[S] at L;cases L;rw[e0];exact M2
 have l:=u2.aK l (nA _ r2);have x:=u2.aK x (nA _ r3);have o0:=D.sl 0 y O (ints r.b.ends,Y6) (by simp[p]) (by simp[I]) (by rw[o];rfl)
 have n0:=o0.n;have p0:=Q.length_le;simp only[ints,List.length_map] at n0;refine an l rfl (an l rfl ?_);refine bF ?_;refine D.dL (i:=0) (s:=y) rfl (by simp[p]) (an x rfl (o0.cut (n:=mm.r.b.ends.length) ag rfl λE e' H => ?_))
 rw[Ni Q] at H;refine D.pg (i:=0) (s:=y) (s':=E) (by simp[p]) D.B.k λh3 w3 Z => ?_
 have G3:=D.qG (i:=0) (s':=E) (A:=O) (x':=(ints mm.r.b.ends,Y6)) (r':=((r.mb mm.r).cK 0 j.r).up λb=>{ b with ends:=mm.r.b.ends }) KF (by simp[I]) H w3 Z ⟨rfl,rfl,rfl,rfl⟩ (by rw[o,o];rfl) rfl rfl λY e _=>by rw[W];cases e;exact List.prefix_refl _
 refine hk h3 ?_ ⟨_,by rfl,G3.conv (r':=mm.r) ⟨rfl,rfl,rfl,rfl⟩ (by rw[o,o];rfl) ?_ (λq=>by omega) λY e _=>by cases e;rw[W];exact List.prefix_refl _⟩
 ·exact ((J.mono λc q _=>q.elim (λe=>e ▸ G.t.tb) λq=>G.jO g.dz q).trans (u2.mono λc q _=>G.jO (g.dy z) q)).trans (w3.fr.mono λc q _=>q ▸ G.t.tb)
 ·rw[ks.1,em];exact (ac6 (m:=mm.r) lk.2.2).symm
end
theorem ajw {c0:Addr} {h:Hp} {K:HP} {Kp:PK} (H:Jt c0 h K Kp):bJ Tryz.prog (.func (.func PO) #[] #[.pointer (some c0)]) [] h (λr a=>r=.tuple #[]/\K a) Kp:=by
 unfold bJ;exact cast aF H
theorem ajx {c0 p:Addr} {h:Hp} {K:HP} {Kp:PK} (H:Ju c0 p h K Kp):bJ Tryz.prog (.func (.func zw) #[] #[.pointer (some c0), .pointer (some p)]) [] h (λr a=>r=.tuple #[]/\K a) Kp:=by
 unfold bJ;exact cast aF H
section
variable {f c:ai} {KM:List bD} {T:Nat->Prop} {h:Hp} {r:Raw} {mm:Mem} {g:bI} {K:HP} {Kp:PK}
def Ih (g:bI):Nat->Prop:=λc=>∃(j:Nat) (A:Nat->Prop),g.KT[j]? = some A/\A c
theorem Wc {v:Value} (C:gw f.cs KM) (G:bh f KM T h r (some mm) g) (kf:vX g.R h v (mm.ks.map Mem.F)) (hl:mm.ks.length=f.cs.length) (a':f.cs.length<=32)
  (hk:∀r' d,Tn (Ih g) h d->bh f KM T d r' (some mm) g->r'.b=r.b->r'.kids=mm.ks.map Mem.r->K d):bJ Tryz.prog v [] h (λr h1=>r=.tuple #[]/\K h1) Kp:=by
 have CL:=C.1;obtain ⟨a,t,s,rfl,ra,ka,sv⟩:=kf;have nR:∀c,g.R c->¬Ih g c:=λc q z=>by
  obtain ⟨j,A,m,z⟩:=z;exact G.t.ne g.cU (g.dy m) ag c q z
 have hn:s.n=mm.ks.length:=by have:=sv.1.1;rw[List.length_map] at this;exact this
 refine ajw (Jt.of (an ka rfl ?_));refine Ho.bB (λy d=>∃(i:Nat) (r':Raw),y=i/\i<=mm.ks.length/\Tn (Ih g) h d/\bh f KM T d r' (some mm) g/\r'.b=r.b/\∀j B,j < i->mm.ks[j]? = some B->r'.aC j=B.r) (λy _=>mm.ks.length - y.toNat)
  ⟨0,r,rfl,Nat.zero_le _,Tn.refl _ _,G,rfl,λj _ D=>by omega⟩ ?_
 rintro y d ⟨i,r',rfl,hi,I,H,Z,Y⟩ N hN;have lk:=H.lk;refine aA (λo => ?_) λo => ?_
 ·have o:=ay o;have V:i < mm.ks.length:=ag;have S:i < g.KT.length:=ag;have P:i < g.kv.length:=ag;have Q:i < KM.length:=ag;have U:i < f.cs.length:=ag;have k:mm.ks[i]? = some mm.ks[i]:=List.getElem?_eq_getElem V;have m:g.KT[i]? = some g.KT[i]:=List.getElem?_eq_getElem S;have L:g.kv[i]? = some g.kv[i]:=List.getElem?_eq_getElem P;have E:KM[i]? = some KM[i]:=List.getElem?_eq_getElem Q;have x:f.cs[i]? = some f.cs[i]:=List.getElem?_eq_getElem U;generalize mm.ks[i]=J at k;generalize g.KT[i]=A at m;generalize g.kv[i]=w at L;generalize KM[i]=M at E;generalize f.cs[i]=ci at x;have aC:=H.aC i M A w E m L;have e0:((some mm).bind λmm=>mm.ks[i]?)=some J:=k;rw[e0] at aC;have O:=sv.fr I (λc q _=>nR c q) λ_ z=>z;refine O.1.ix ag ag (by rw[Int.toNat_natCast,List.getElem?_map,k];rfl) λp cp=>⟨_,cp,?_⟩
  show bJ Tryz.prog J.F [] d _ _
  refine (C.2 i ci M x E).back aC λh2 u2 M2=>aP ag ag (hN _ _ ⟨i+1,_,by simp,by omega,I.trans (u2.mono λc q _=>⟨i,A,m,q⟩),H.Be (rj:=J.r) C.mB m u2 λM' w' X W => ?_,by rw[kr];exact Z,λj B D l => ?_⟩ ag)
  ·rw[E] at X;cases X;rw[L] at W;cases W;rw[e0];exact M2
  ·by_cases e:i=j
   ·subst e;rw[k] at l;cases l;rw[iA ag]
   ·rw[uD e];exact Y j B ag l
 ·have o:=ay o;have:i=mm.ks.length:=ag;subst this;refine hk r' d I H Z (List.ext_getElem? λj => ?_)
  by_cases D:j < mm.ks.length
  ·have k:mm.ks[j]? = some mm.ks[j]:=List.getElem?_eq_getElem D;have u:j < r'.kids.length:=ag;have:=Y j _ D k;unfold Raw.aC at this;rw[List.getD_eq_getElem?_getD,List.getElem?_eq_getElem u,Option.getD_some] at this;rw[List.getElem?_map,k,List.getElem?_eq_getElem u,this];rfl
  ·rw[List.getElem?_map,List.getElem?_eq_none ag,List.getElem?_eq_none ag];rfl
theorem aj9 (u:bp f) (d:f.k=17) (C:gw f.cs KM) (G:bh f KM T h r (some mm) g) (I:∀p,Tn T h p->bE f KM T p (.iface (aU f.k) (.pointer (some ⟨g.b,0,none⟩))) mm.r (some mm)->K p) :
  bJ Tryz.prog mm.F [] h (λr o=>r=.tuple #[]/\K o) Kp:=by
 obtain ⟨⟨s,i,U,c1,S,c3,Q⟩,pr,ks⟩:=G.mm mm rfl;obtain ⟨D,P,mc⟩:=Q ag;have w:fF f.k g.b s i mm=[#[s],#[i]]:=by unfold fF;simp only;rw[if_neg ag,if_neg ag,if_pos ag]
 rw[w] at mc;obtain ⟨a0,a1,Z,Y,O,⟨r0,H⟩,⟨E,z⟩⟩:=SL mc;have x:dG f.k=zw:=by unfold dG;rw[if_neg ag,if_neg ag,if_neg ag,if_pos d]
 have B:∀y:Rb,bC f.k y=[]:=λy=>by unfold bC;rw[if_neg ag,if_neg ag,if_neg ag,if_pos ag]
 have N:∀a b:Rb,cz f.k a b:=λa b=>by unfold cz;rw[if_neg ag,if_neg ag,if_neg ag,if_neg ag,if_pos ag];trivial
 rw[P,O,x];have J:∀c,(c=g.b\/g.T0 c)->c < h.size->c=g.b\/g.T0 c:=λc q _=>q;have l:∀c,g.R c->c < h.size->¬(c=g.b\/g.T0 c):=G.av g.dz J g.cU ag;refine ajx (Ju.of (an H rfl ?_))
 show bJ Tryz.prog s [] h _ _
 refine rH G C.mB U λo n W=>an (n.aK z (l _ E z.lt)) rfl ?_
 show bJ Tryz.prog i [] o _ _
 refine Wc C W ((S (.inl d)).fr n l) ks.2 (u.right.1.2.2.2.2.2.2.2.2.1 d) λr' M u2 V m v=>I M ?_ ⟨_,by rfl,V.conv (r':=mm.r) ⟨by rw[m];rfl,by rw[m];rfl,by rw[m];rfl,by rw[m];rfl⟩ (by rw[B,B]) (by rw[v];exact ks.1) (λq=>by omega) λX _ _=>N _ _⟩
 exact (n.mono λc q _=>q.elim (λe=>e ▸ G.t.tb) λq=>G.jO g.dz q).trans (u2.mono λc q _=>by obtain ⟨j,A,L,q⟩:=q;exact G.jO (g.dy L) q)
end
theorem ajv {c0 p q a:Addr} {h:Hp} {K:HP} {Kp:PK} (H:Jq c0 p q a h K Kp):bJ Tryz.prog (.func (.func zu) #[] #[.pointer (some c0), .pointer (some p), .pointer (some q), .pointer (some a)]) [] h (λr b=>r=.tuple #[]/\K b) Kp:=by
 unfold bJ;exact cast aF H
section
variable {f c:ai} {KM:List bD} {T:Nat->Prop} {h:Hp} {r:Raw} {mm:Mem} {g:bI} {K:HP} {Kp:PK}
theorem akg (c':bp f) (l:f.k=18) (C:gw f.cs KM) (G:bh f KM T h r (some mm) g) (hk:∀h',Tn T h h'->bE f KM T h' (.iface (aU f.k) (.pointer (some ⟨g.b,0,none⟩))) mm.r (some mm)->K h') :
  bJ Tryz.prog mm.F [] h (λr h1=>r=.tuple #[]/\K h1) Kp:=by
 have KF:=C.mB;obtain ⟨⟨F0,x,bm,c1,c2,c3,c4⟩,pr,ks⟩:=G.mm mm rfl;obtain ⟨g',eF,mc⟩:=c4 ag;have e':fF f.k g.b F0 x mm=[#[F0],#[x],#[.pointer (some ⟨g.b,0,none⟩)],pI mm.r.b.all.length]:=by unfold fF;simp only;rw[if_neg ag,if_neg ag,if_neg ag,if_pos l]
 rw[e'] at mc;obtain ⟨a0,a1,a2,a3,t0,t1,t2,t3,ec,⟨r0,k0⟩,⟨r1,k1⟩,⟨Z,p⟩,⟨Y,v⟩⟩:=MK mc;have f':dG f.k=zu:=by unfold dG;rw[if_neg ag,if_neg ag,if_neg ag,if_neg ag,if_pos l]
 have o:∀U:Rb,bC f.k U=[(bv U.all,Y8),(ints U.ends,Y6)]:=λU=>by unfold bC;rw[if_neg ag,if_neg ag,if_pos l]
 have V:∀a b:Rb,cz f.k a b↔b.ends <+: a.ends/\b.all <+: a.all/\b.ends.length=b.all.length:=λa b=>by unfold cz;rw[if_neg ag,if_neg ag,if_neg ag,if_pos l]
 rw[V] at pr;obtain ⟨O,N,M⟩:=pr;obtain ⟨H,E,d⟩:∃H E,g.SS=[H,E]:=by
  have:=G.ls.1;rw[o] at this
  match hg:g.SS,this with
  | [a,b],_=>exact ⟨a,b,rfl⟩
 obtain ⟨X,W,m⟩:∃X W,g.ST=[X,W]:=by
  have:=G.ls.2;rw[o] at this
  match hg:g.ST,this with
  | [a,b],_=>exact ⟨a,b,rfl⟩
 rw[eF,ec,f'];have hS:∀c,(c=g.b\/g.T0 c)->c < h.size->c=g.b\/g.T0 c:=λc q _=>q;have u:∀c,g.R c->c < h.size->¬(c=g.b\/g.T0 c):=G.av g.dz hS g.cU ag;have nR:∀{c:Nat},g.R c->c≠g.b:=λq e=>G.t.gI g.cU (e ▸ q);have nK:∀c,g.R c->¬Ih g c:=λc q z=>by
  obtain ⟨j,A,hA,z⟩:=z;exact G.t.ne g.cU (g.dy hA) ag c q z
 refine ajv (Jq.of (an k0 rfl ?_))
 show bJ Tryz.prog F0 [] h _ _
 refine rH G KF bm λh1 D G1=>an (D.aK k1 (u _ r1 k1.lt)) rfl ?_
 show bJ Tryz.prog x [] h1 _ _
 refine Wc C G1 ((c2 (.inr l)).fr D u) ks.2 ((c'.right.1.2.2.2.2.2.2.2.2.2.1 l).2) λr' h2 u2 w I d' => ?_;have p:=u2.aK (D.aK p (u _ Z p.lt)) (nK _ Z);have v:=u2.aK (D.aK v (u _ Y v.lt)) (nK _ Y);have ea:r'.b.all=r.b.all/\r'.b.ends=r.b.ends:=by rw[I];exact ⟨rfl,rfl⟩
 have o0:=w.sl 0 H X (bv r.b.all,Y8) (by simp[d]) (by simp[m]) (by rw[o,ea.1];rfl)
 have o1:=w.sl 1 E W (ints r.b.ends,Y6) (by simp[d]) (by simp[m]) (by rw[o,ea.2];rfl)
 have n0:=o0.n;have n1:=o1.n;have p0:=O.length_le;have p1:=N.length_le;simp only[ints,List.length_map] at n1;rw[eL] at n0;refine an p rfl (an p rfl (an p rfl ?_));refine bF ?_;refine w.dL (i:=0) (s:=H) rfl (by simp[d]) (an v rfl (o0.cut (n:=mm.r.b.all.length) ag rfl λL e0 Q=>an p rfl ?_))
 refine bF ?_;refine w.dL (i:=1) (s:=E) rfl (by simp[d]) (an v rfl (o1.cut (n:=mm.r.b.all.length) ag rfl λJ e1 P => ?_))
 rw[V0 N] at Q;rw[<-M,Ni O] at P;refine w.pg (i:=0) (s:=H) (s':=L) (by simp[d]) w.B.k λh3 y b' => ?_
 have G3:=w.qG (i:=0) (s':=L) (A:=X) (x':=(bv mm.r.b.all,Y8)) (r':=r'.up λb=>{ b with all:=mm.r.b.all }) KF (by simp[m]) Q y b' ⟨rfl,rfl,rfl,rfl⟩ (by rw[o,o];rfl) rfl rfl λS e q=>by rw[V] at q ⊢;cases e;exact ⟨q.1,List.prefix_refl _,q.2.2⟩
 refine iY v (y.aK v (nR Y)) (iY p (y.aK p (nR Z)) (G3.pg (i:=1) (s:=E) (s':=J) (by simp[d]) G3.B.k λh4 w4 a' => ?_))
 have G4:=G3.qG (i:=1) (s':=J) (A:=W) (x':=(ints mm.r.b.ends,Y6)) (r':=r'.up λb=>{ b with all:=mm.r.b.all,ends:=mm.r.b.ends }) KF (by simp[m]) (P.fr y.fr λc q _ e=>G.t.gI (g.gT (i:=1) (by simp[m])) (e ▸ q)) w4 a' ⟨rfl,rfl,rfl,rfl⟩ (by rw[o,o];rfl) rfl rfl λS e q=>by rw[V] at q ⊢;cases e;exact ⟨List.prefix_refl _,q.2.1,q.2.2⟩
 refine hk h4 ?_ ⟨_,by rfl,G4.conv (r':=mm.r) ⟨by show _=r'.b.rows;rw[I];rfl,by show _=r'.b.bu;rw[I];rfl,by show _=r'.b.bits;rw[I];rfl,by show _=r'.b.aW;rw[I];rfl⟩ (by rw[o,o];rfl) (by rw[gu,d'];exact ks.1) (λq=>by omega) λS e q=>by cases e;rw[V];exact ⟨List.prefix_refl _,List.prefix_refl _,M⟩⟩
 exact (((D.mono λc q _=>q.elim (λe=>e ▸ G.t.tb) λq=>G.jO g.dz q).trans (u2.mono λc q _=>by obtain ⟨j,A,hA,q⟩:=q;exact G.jO (g.dy hA) q)).trans (y.fr.mono λc q _=>q ▸ G.t.tb)).trans (w4.fr.mono λc q _=>q ▸ G.t.tb)
end
section
variable {f c:ai} {KM:List bD} {T:Nat->Prop} {h:Hp} {r:Raw} {m:Option Mem} {mm:Mem} {g:bI} {v:Value} {Kp:PK}
theorem akd {K:HP} (l:f.k=1) (n:f.cs=[]) (G:bh f [] T h r (some mm) g) (u:∀i,Tn T h i->bE f [] T i (.iface (aU f.k) (.pointer (some ⟨g.b,0,none⟩))) mm.r (some mm)->K i) :
  bJ Tryz.prog mm.F [] h (λr d=>r=.tuple #[]/\K d) Kp:=by
 have KF:∀(j:Nat) (M:bD),([]:List bD)[j]? = some M->dD M:=λj M q=>by simp at q
 obtain ⟨⟨J,C,z,I,H,y,E⟩,D,ks⟩:=G.mm mm rfl;have p:∀o:Rb,bC f.k o=[]:=λo=>by unfold bC;rw[if_neg ag,if_neg ag,if_neg ag,if_pos ag]
 have w:∀a b:Rb,cz f.k a b:=λa b=>by unfold cz;rw[if_neg ag,if_neg ag,if_neg ag,if_neg ag,if_pos ag];trivial
 rw[y l];refine rH G KF z λd s A=>u d (s.mono λc q _=>q.elim (λe=>e ▸ G.t.tb) λq=>G.jO g.dz q) ⟨_,by rfl,A.conv (r':=mm.r) ⟨rfl,rfl,rfl,rfl⟩ (by rw[p,p]) ?_ (λq=>by omega) λB _ _=>w _ _⟩
 have e1:mm.r.kids=[]:=by
  rw[ks.1];have:=ks.2;rw[n] at this;rw[List.length_eq_zero_iff.1 this];rfl
 have x:r.kids=[]:=List.length_eq_zero_iff.1 G.lk.2.2;rw[e1];exact x.symm
theorem bE.drop (i:∀(j:Nat) M,KM[j]? = some M->∀{T:Nat->Prop} {h:Hp} {v:Value} {r:Raw} {m:Option Mem},M T h v r m->M T h v r none) (H:bE f KM T h v r m):bE f KM T h v r none:=by
 obtain ⟨g,e,G⟩:=H;exact ⟨g,e,G.t,G.B,G.ls,G.sl,G.lk,λj M A w a d b=>i j M a (G.aC j M A w a d b),G.no,G.kl,G.sp,λ_ q=>by cases q⟩
theorem bE.lt (H:bE f KM T h v r m):∀c,T c->c < h.size:=by
 obtain ⟨g,e,G⟩:=H;exact G.t.lt
theorem bE.na (H:bE f KM T h v r m):∃k b,v=.iface (aU k) (.pointer (some ⟨b,0,none⟩)):=by
 obtain ⟨g,e,G⟩:=H;exact ⟨_,_,e⟩
theorem bE.mono {D:Nat->Prop} (H:bE f KM T h v r m) (hT:∀c,T c->D c) (hl:∀c,D c->c < h.size):bE f KM D h v r m:=by
 obtain ⟨g,e,G⟩:=H;exact ⟨g,e,G.mono hT hl⟩
def qz (t:TypeId):Prop:=(nB Tryz.prog t "colonnade/build.count" = none/\xJ Tryz.prog t "colonnade/build.count" = some (al5,0))/\nB Tryz.prog t "colonnade/build.weight" = none/\xJ Tryz.prog t "colonnade/build.weight" = some (al1,0)
theorem ajd:qz jW:=⟨⟨by kernel_rfl,by kernel_rfl⟩,by kernel_rfl,by kernel_rfl⟩
theorem ajc:qz jV:=⟨⟨by kernel_rfl,by kernel_rfl⟩,by kernel_rfl,by kernel_rfl⟩
theorem ajb:qz jU:=⟨⟨by kernel_rfl,by kernel_rfl⟩,by kernel_rfl,by kernel_rfl⟩
theorem aja:qz jy:=⟨⟨by kernel_rfl,by kernel_rfl⟩,by kernel_rfl,by kernel_rfl⟩
theorem ai9:qz jw:=⟨⟨by kernel_rfl,by kernel_rfl⟩,by kernel_rfl,by kernel_rfl⟩
theorem ai8:qz kH:=⟨⟨by kernel_rfl,by kernel_rfl⟩,by kernel_rfl,by kernel_rfl⟩
theorem ai7:qz kG:=⟨⟨by kernel_rfl,by kernel_rfl⟩,by kernel_rfl,by kernel_rfl⟩
theorem ai6:qz jT:=⟨⟨by kernel_rfl,by kernel_rfl⟩,by kernel_rfl,by kernel_rfl⟩
theorem ai5:qz kF:=⟨⟨by kernel_rfl,by kernel_rfl⟩,by kernel_rfl,by kernel_rfl⟩
theorem U9 (k:Int):qz (aU k):=by
 unfold aU
 by_cases tF:k=1
 ·rw[if_pos tF];exact ajd
 rw[if_neg tF]
 by_cases rE:k=12\/k=13
 ·rw[if_pos rE];exact ajc
 rw[if_neg rE]
 by_cases vE:k=15
 ·rw[if_pos vE];exact ajb
 rw[if_neg vE]
 by_cases a:k=16
 ·rw[if_pos a];exact aja
 rw[if_neg a]
 by_cases rD:k=17
 ·rw[if_pos rD];exact ai9
 rw[if_neg rD]
 by_cases tD:k=18
 ·rw[if_pos tD];exact ai8
 rw[if_neg tD]
 by_cases rC:k=19
 ·rw[if_pos rC];exact ai7
 rw[if_neg rC]
 by_cases tC:k=20
 ·rw[if_pos tC];exact ai6
 rw[if_neg tC];exact ai5
theorem bE.count {K:Int->HP} (H:bE f KM T h v r m) (a:K (r.b.rows:Int) h):Xw v h K Kp:=by
 obtain ⟨g,rfl,G⟩:=H;have q:=U9 f.k;exact Vj q.1.1 q.1.2 aF (aj6 G.B a)
theorem bE.weight {K:Int->HP} (H:bE f KM T h v r m) (a:K (r.b.aW:Int) h):Xv v h K Kp:=by
 obtain ⟨g,rfl,G⟩:=H;have q:=U9 f.k;exact Vj q.2.1 q.2.2 aF (ajO G.B a)
end
def pW (f:ai) (M:bD):Prop:=∀{T D:Nat->Prop} {h:Hp} {v:Value} {vs:List ak} {m:Option Mem} {x:ak} {s:Sl} {K:Int->HP} {Kp:PK},f.can vs->f.fit x=true->x.aV<=4194304->M T h v (f.st vs) m->au D h s x.items->(∀c,D c->¬T c) ->
  (∀h',Tn T h h'->M (Tr T h h') h' v (f.tk (f.st vs) x).2 m->K (f.tk (f.st vs) x).1 h')->iZ v x.aq x.num (bs x.text) s h K Kp
def pU (f:ai) (M:bD):Prop:=∀{T:Nat->Prop} {h:Hp} {v:Value} {vs:List ak} {m:Option Mem} {K:Int->HP} {Kp:PK},f.can vs->M T h v (f.st vs) m ->
  (∀h',Tn T h h'->M (Tr T h h') h' v (f.zk (f.st vs)).2 m->K (f.zk (f.st vs)).1 h')->iO v h K Kp
section
variable {f c:ai} {KM:List bD} {M:bD}
theorem lV:∀(j:Nat) (M:bD),([]:List bD)[j]? = some M->dD M:=λj M q=>by simp at q
theorem Au (a:f.k=12\/f.k=13) {vs:List ak} (d:f.can vs):(f.st vs).b.ends.length<=70000/\(f.st vs).b.all.length<=2 ^ 40:=by
 have c:=(ai.eC f vs).1 d;have g:=c.n4;have e:=c.tx a;rw[cQ];simp only[aG];rw[if_pos a,if_pos a,Ez];exact ⟨by omega,by omega⟩
theorem Zx (a:f.k=1):pW f (bE f []):=by
 intro T D h v vs m x s K l i d n H o p e;obtain ⟨g,rfl,G⟩:=H;have j:aU f.k=jW:=by unfold aU;rw[if_pos a]
 have q:iZ (.iface jW (.pointer (some ⟨g.b,0,none⟩))) x.aq x.num (bs x.text) s h K l:=ah9 (QF a lV G (by have:=(eB i).1;omega) e)
 rw[<-j] at q;exact q
theorem X5 (a:f.k=1):pU f (bE f []):=by
 intro T h v vs m K j e H d;obtain ⟨g,rfl,G⟩:=H;have i:aU f.k=jW:=by unfold aU;rw[if_pos a]
 have q:iO (.iface jW (.pointer (some ⟨g.b,0,none⟩))) h K j:=ah0 (XV a lV G (by have:=(eB e).1;omega) d)
 rw[<-i] at q;exact q
theorem Zs (n:bp f) (a:f.k=12\/f.k=13):pW f (bE f []):=by
 intro T D h v vs m x s K l d e o H p r i;obtain ⟨g,rfl,G⟩:=H;have j:aU f.k=jV:=by unfold aU;rw[if_neg ag,if_pos a]
 have q:iZ (.iface jV (.pointer (some ⟨g.b,0,none⟩))) x.aq x.num (bs x.text) s h K l:=ah4 (Qz a lV G (Au a d).1 (Au a d).2 (by have:=(eB d).1;omega) (by have:=Qf x;omega) i)
 rw[<-j] at q;exact q
theorem X0 (e:bp f) (a:f.k=12\/f.k=13):pU f (bE f []):=by
 intro T h v vs m K l d H i;obtain ⟨g,rfl,G⟩:=H;have j:aU f.k=jV:=by unfold aU;rw[if_neg ag,if_pos a]
 have q:iO (.iface jV (.pointer (some ⟨g.b,0,none⟩))) h K l:=ahV (XR e a lV G (Au a d).1 (Au a d).2 (by have:=(eB d).1;omega) i)
 rw[<-j] at q;exact q
theorem Zy (u:bp f) (a:f.k=15) (e:f.cs=[c]) (C:MC c M) (r:fo c):pW f (bE f [M]):=by
 intro T D h v vs m x s K t n d i H j o l;obtain ⟨g,rfl,G⟩:=H;have p:aU f.k=jU:=by unfold aU;rw[if_neg ag,if_neg ag,if_pos a]
 have q:iZ (.iface jU (.pointer (some ⟨g.b,0,none⟩))) x.aq x.num (bs x.text) s h K t:=aia (QG a e C r n d i G j (λc q _=>G.out (o c q)) l);rw[<-p] at q;exact q
theorem X6 (d:bp f) (a:f.k=15) (e:f.cs=[c]) (C:MC c M) (n:fo c):pU f (bE f [M]):=by
 intro T h v vs m K o j H i;obtain ⟨g,rfl,G⟩:=H;have l:aU f.k=jU:=by unfold aU;rw[if_neg ag,if_neg ag,if_pos a]
 have q:iO (.iface jU (.pointer (some ⟨g.b,0,none⟩))) h K o:=ah1 (XW d a e C n j G i);rw[<-l] at q;exact q
theorem Zu (e:bp f) (a:f.k=16) (i:f.cs=[c]) (C:MC c M) (u:fo c) (t:cW c c.zk c.bO):pW f (bE f [M]):=by
 intro T D h v vs m x s K w o d j H l p n;obtain ⟨g,rfl,G⟩:=H;have r:aU f.k=jy:=by unfold aU;rw[if_neg ag,if_neg ag,if_neg ag,if_pos a]
 have q:iZ (.iface jy (.pointer (some ⟨g.b,0,none⟩))) x.aq x.num (bs x.text) s h K w:=ah6 (QB e a i C u t o d j G l (λc q _=>G.out (p c q)) n);rw[<-r] at q;exact q
theorem X2 (d:bp f) (a:f.k=16) (e:f.cs=[c]) (C:MC c M) (o:fo c) (n:cW c c.zk c.bO):pU f (bE f [M]):=by
 intro T h v vs m K p j H i;obtain ⟨g,rfl,G⟩:=H;have l:aU f.k=jy:=by unfold aU;rw[if_neg ag,if_neg ag,if_neg ag,if_pos a]
 have q:iO (.iface jy (.pointer (some ⟨g.b,0,none⟩))) h K p:=ahX (XT d a e C o n j G i);rw[<-l] at q;exact q
theorem Zt (e:bp f) (a:f.k=17) (C:gw f.cs KM) (r:∀c∈f.cs,fo c/\cW c c.zk c.bO):pW f (bE f KM):=by
 intro T D h v vs m x s K t n d i H j o l;obtain ⟨g,rfl,G⟩:=H;have p:aU f.k=jw:=by unfold aU;rw[if_neg ag,if_neg ag,if_neg ag,if_neg ag,if_pos a]
 have q:iZ (.iface jw (.pointer (some ⟨g.b,0,none⟩))) x.aq x.num (bs x.text) s h K t:=ah5 (QA e a C r n d i G j (λc q _=>G.out (o c q)) l);rw[<-p] at q;exact q
theorem X1 (d:bp f) (a:f.k=17) (C:gw f.cs KM) (l:∀c∈f.cs,fo c/\cW c c.zk c.bO):pU f (bE f KM):=by
 intro T h v vs m K n i H e;obtain ⟨g,rfl,G⟩:=H;have j:aU f.k=jw:=by unfold aU;rw[if_neg ag,if_neg ag,if_neg ag,if_neg ag,if_pos a]
 have q:iO (.iface jw (.pointer (some ⟨g.b,0,none⟩))) h K n:=ahW (XS d a C l i G e);rw[<-j] at q;exact q
theorem ZA (i:bp f) (a:f.k=18) (C:gw f.cs KM) (r:∀c∈f.cs,fo c/\cW c c.zk c.bO):pW f (bE f KM):=by
 intro T D h v vs m x s K t e d j H l o n;obtain ⟨g,rfl,G⟩:=H;have p:aU f.k=kH:=by unfold aU;rw[if_neg ag,if_neg ag,if_neg ag,if_neg ag,if_neg ag,if_pos a]
 have q:iZ (.iface kH (.pointer (some ⟨g.b,0,none⟩))) x.aq x.num (bs x.text) s h K t:=aic (QI i a C (λc e=>(r c e).1) e d j G l (λc q _=>G.out (o c q)) n);rw[<-p] at q;exact q
theorem X8 (d:bp f) (a:f.k=18) (C:gw f.cs KM) (l:∀c∈f.cs,fo c/\cW c c.zk c.bO):pU f (bE f KM):=by
 intro T h v vs m K n i H e;obtain ⟨g,rfl,G⟩:=H;have j:aU f.k=kH:=by unfold aU;rw[if_neg ag,if_neg ag,if_neg ag,if_neg ag,if_neg ag,if_pos a]
 have q:iO (.iface kH (.pointer (some ⟨g.b,0,none⟩))) h K n:=ah3 (XY d a C l i G e);rw[<-j] at q;exact q
end
def qy (f:ai) (M:bD):Prop:=∀{T:Nat->Prop} {h:Hp} {v:Value} {vs:List ak} {m:Option Mem} {K:Int->Int->Int->Sl->Sl->Sl->HP} {Kp:PK},f.can vs->M T h v (f.st vs) m ->
  (∀p h',ah h h'->c7 (Nw h) (Nw h) h' p (f.dn (f.st vs))->K (f.dn (f.st vs)).len (f.dn (f.st vs)).off (f.dn (f.st vs)).aq p.1 p.2.1 p.2.2 h')->iP v h K Kp
section
variable {f c:ai} {KM:List bD} {M:bD} {h:Hp} {D E:Nat->Prop}
theorem cY.none:cY D E h Sl.nil []:=⟨[],rfl,⟨Sv.nil h,λq=>absurd rfl q⟩,λj t l a b=>by simp at a⟩
theorem ajU {s t u:Sl} {p o n:List UInt8} {K:Addr->HP} (y:cV D h s (bv p)) (r:cV D h t (bv o)) (q:cV D h u (bv n)) (C:D h.size) (A:∀a m,ah h m->cY D D m ⟨some a,3,3⟩ [p,o,n]->K a m) :
  aD h #[Sl.v s,Sl.v t,Sl.v u] fH K:=by
 refine az λb F e1 k z _=>A _ F k ⟨[s,t,u],rfl,?_,λj w l d e => ?_⟩
 ·refine ⟨⟨rfl,Nat.le_refl _,λx G=>⟨_,rfl,λi v g => ?_⟩⟩,λ_ a B=>by cases B;exact e1 ▸ C⟩
  rw[aI,eW z];rcases i with _ | _ | _ | i
  ·simpa using g
  ·simpa using g
  ·simpa using g
  ·simp at g
 ·rcases j with _ | _ | _ | j
  ·simp at d e;subst d e;exact y.gr k
  ·simp at d e;subst d e;exact r.gr k
  ·simp at d e;subst d e;exact q.gr k
  ·simp at d
theorem ahK (a:f.k=1):qy f (bE f []):=by
 intro T h v vs m K s w H e;obtain ⟨g,rfl,G⟩:=H;have r:aU f.k=jW:=by unfold aU;rw[if_pos a]
 have q:iP (.iface jW (.pointer (some ⟨g.b,0,none⟩))) h K s:=by
  refine ais (JK.of (az λz y e1 d n _ => ?_));simp only[kO];have t:=G.B.fr (S:=No) (Tn.aT d) id λ_ _ _=>id;have u:=d.1;refine lO t λx i=>bw.b (n.aj i) rfl λo j l=>bq.b l ?_;have p:f.dn (f.st vs)=.mk (f.st vs).b.rows 0 (f.st vs).b.bu [] [] []:=by rw[F4 a,cQ];rfl
  rw[p] at e;exact e (Sl.nil,Sl.nil,Sl.nil) o (aM.aj (ah.trans d i) j ag) ⟨cY.none,bN.nil _,bN.nil _⟩
 rw[<-r] at q;exact q
theorem ahF (d:f.k=12\/f.k=13):qy f (bE f []):=by
 intro T h v vs m K Kp X H W;obtain ⟨g,rfl,G⟩:=H;have ed:aU f.k=jV:=by unfold aU;rw[if_neg ag,if_pos d]
 have F:∀A:Rb,bC f.k A=[(ints A.ends,Y6),(bv A.all,Y8)]:=λA=>by unfold bC;rw[if_pos d]
 obtain ⟨z,y,l⟩:∃z y,g.SS=[z,y]:=by
  have:=G.ls.1;rw[F] at this
  match hg:g.SS,this with
  | [a,b],_=>exact ⟨a,b,rfl⟩
 obtain ⟨Q,P,r⟩:∃Q P,g.ST=[Q,P]:=by
  have:=G.ls.2;rw[F] at this
  match hg:g.ST,this with
  | [a,b],_=>exact ⟨a,b,rfl⟩
 have bd:=Au d X;have R:=((ai.eC f vs).1 X).tx d;have Y:(f.st vs).b.all.length<=65536:=by rw[cQ];simp only[aG];rw[if_pos d];exact R
 have o:∀x∈(f.st vs).b.ends,x < 2 ^ 63:=by
  rw[cQ];simp only[aG];rw[if_pos d];intro x I;unfold gH at I;simp only[List.mem_map,List.mem_range] at I;obtain ⟨i,_,rfl⟩:=I;have:=Et (λv:ak=>v.text.length) vs i;have e:(vs.map λv:ak=>v.text.length).sum=(vs.flatMap ak.text).length:=by rw[List.length_flatMap]
  omega
 have q:iP (.iface jV (.pointer (some ⟨g.b,0,none⟩))) h K Kp:=by
  refine ain (JG.of (az λN h1 e1 L V _ => ?_));refine bF ?_;have j:=G.fr (S:=No) lV (Tn.aT L) λ_ _ _=>id;have z1:=L.1;have a':=V.lt;have o0:=j.sl 0 z Q (ints (f.st vs).b.ends,Y6) (by simp[l]) (by simp[r]) (by rw[F];rfl)
  have o1:=j.sl 1 y P (bv (f.st vs).b.all,Y8) (by simp[l]) (by simp[r]) (by rw[F];rfl)
  refine j.dL (i:=0) (s:=z) rfl (by simp[l]) (j.dL (i:=1) (s:=y) rfl (by simp[l]) (pR j.B λu h2 n v2=>bK j.B.k n (bK j.B.k n ?_)))
  have z2:=n.1;refine qV (w:=4) (o0.gr n) bd.1 ag o λt h3 p=>bK (j.B.k.aj n) p.g ?_;have z3:=p.g.1;refine GG ((o1.gr n).gr p.g) ag λw h4 C Z => ?_;have z4:=C.1;refine ajU (D:=λc=>h.size<=c/\c≠N) ((v2.mo λc (q:h1.size<=c)=>(⟨by omega,by omega⟩:h.size<=c/\c≠N)).gr p.g |>.gr C) ((p.iS.mo λc (q:h2.size<=c)=>(⟨by omega,by omega⟩:h.size<=c/\c≠N)).gr C) (Z.mo λc (q:h3.size<=c)=>⟨by omega,by omega⟩) ⟨by omega,by omega⟩ λb' h5 g5 bf => ?_
  have O:=ah.trans (ah.trans n p.g) (ah.trans C g5);have B5:=j.B.fr (S:=No) (Tn.aT O) id λ_ _ _=>id;refine lO B5 λh6 J=>bw.b ((V.aj O).aj J) rfl λh7 U k7=>bq.b k7 ?_;have ef:f.dn (f.st vs)=.mk (f.st vs).b.rows 0 (f.st vs).b.bu [bZ (f.st vs).b,laidB (f.st vs).b.ends 4,(f.st vs).b.all] [] []:=by rw[ry d,cQ];rfl
  rw[ef] at W;exact W (_,Sl.nil,Sl.nil) h7 (aM.aj (ah.trans (ah.trans L O) J) U ag) ⟨(bf.gr J).fr U.fr (λc q _ e=>q.2 e) (λc q _ e=>q.2 e) (λc q=>q.1) λc q=>q.1,bN.nil _,bN.nil _⟩
 rw[<-ed] at q;exact q
end
section
variable {f c:ai} {KM:List bD} {M:bD} {T:Nat->Prop} {h h0:Hp} {vs:List ak} {m:Option Mem} {g:bI} {K:Int->Int->Int->Sl->Sl->Sl->HP} {Kp:PK}
theorem bN.one {D E:Nat->Prop} {h:Hp} {a:Nat} {el:TypeId} {O:aJ} {p:Sl × Sl × Sl} (k:aB h a #[.int .i64 O.len, .int .i64 O.off, .int .i64 O.aq,Sl.v p.1,Sl.v p.2.1,Sl.v p.2.2] el) (j:D a) (v:c7 D E h p O):bN D E h ⟨some ⟨a,0,none⟩,1,1⟩ [O]:=by
 obtain ⟨n,o,u,aH,cs,ds⟩:=O;have l:eO D E h ⟨a,0,none⟩ (.mk n o u aH cs ds):=by
  unfold eO;refine ⟨p.1,p.2.1,p.2.2,λi w e => ?_,v.b,v.c,v.x⟩;rw[aI,eW k];rcases i with _ | _ | _ | _ | _ | _ | i
  all_goals first | (simp[uz] at e;done) | (simpa[uz,aJ.len,aJ.off,aJ.aq] using e)
 unfold bN;exact ⟨rfl,Nat.le_refl _,_,rfl,j,l,by unfold fK;trivial⟩
theorem aas {n j:Nat} {b:Sl} {X:TypeId} {c2:Array Value} (r:f.k=16) (s:f.cs=[c]) (C:MC c M) (hc:f.can vs) (G:bh f [M] T h (f.st vs) m g) (P:aB h n c2 X) (e2:c2.size=6)
  (O:aB h j #[.int .i64 ((f.st vs).b.rows:Int), .int .i64 0, .int .i64 ((f.st vs).b.bu:Int),Sl.v b,Sl.v Sl.nil,Sl.v Sl.nil] bG) (bf:cY (λc=>h0.size<=c/\c≠n/\c≠j) (λc=>h0.size<=c/\c≠n/\c≠j) h b [bZ (f.st vs).b]) (V:ah h0 h) (l2:h0.size<=n) (l3:h0.size<=j) (ne:n≠j)
  (Q:∀p F,ah h0 F->c7 (Nw h0) (Nw h0) F p (f.dn (f.st vs))->K (f.dn (f.st vs)).len (f.dn (f.st vs)).off (f.dn (f.st vs)).aq p.1 p.2.1 p.2.2 F):rR K Kp (some ⟨g.b,0,none⟩) ⟨n,0,none⟩ ⟨j,0,none⟩ h:=by
 have es:∀N:Rb,bC f.k N=[]:=λN=>by unfold bC;rw[if_neg ag,if_neg ag,if_neg ag,if_pos ag]
 have L:g.SS=[]:=by
  have:=G.ls.1;rw[es] at this;exact List.length_eq_zero_iff.1 this
 have lk:=G.lk;have Z:0 < g.KT.length:=by have:=lk.2.1;simp only[List.length_singleton] at this;omega
 have Y:0 < g.kv.length:=by have:=lk.1;simp only[List.length_singleton] at this;omega
 have R:g.KT[0]? = some g.KT[0]:=List.getElem?_eq_getElem Z;have E:g.kv[0]? = some g.kv[0]:=List.getElem?_eq_getElem Y;generalize g.KT[0]=A at R;generalize g.kv[0]=w at E;have aC:=G.aC 0 M A w rfl R E;have d:f.cs[0]? = some c:=by rw[s];rfl
 rw[ai.iz d vs] at aC;have ef:f.dn (f.st vs)=.mk (f.st vs).b.rows 0 (f.st vs).b.bu [bZ (f.st vs).b] [c.dn (c.st (cg f.k f.w (cj f.cs) 0 vs))] []:=by
  have ek:fU f vs=[c.dn (c.st (cg f.k f.w (cj f.cs) 0 vs))]:=by
   have x:=pJ (vs:=vs) d;have l:=Fi f vs;rw[s] at l
   match hq:fU f vs,l with
   | [y],_=>rw[hq] at x;simp at x;rw[x]
  rw[yo (.inl r),ek,cQ];rfl
 rw[ef] at Q;refine rR.of ?_;refine bF ?_;have b':=P.lt;have a':=O.lt;have z0:=V.1;refine G.ia (i:=0) rfl (.inr (.inl r)) (by simp[L]) E (C.done (ai.de d hc) aC λp x U D1=>az λa l c' H o _ => ?_)
 have z1:=U.1;have z2:=H.1;have W:=o.lt;have B:=ah.trans U H;refine cE (O.aj B) aS rfl λh3 u J => ?_;have t:aB h3 j #[.int .i64 ((f.st vs).b.rows:Int), .int .i64 0, .int .i64 ((f.st vs).b.bu:Int),Sl.v b,Sl.v ⟨some ⟨a,0,none⟩,1,1⟩,Sl.v Sl.nil] bG:=by simpa[Sl.v] using J
 refine bq.b t (bw.b (u.aK (P.aj B) ne) e2 λS D k4=>bq.b k4 (Q (b,⟨some ⟨a,0,none⟩,1,1⟩,Sl.nil) S (aM.aj (aM.aj (ah.trans V B) u l3) D l2) ⟨?_,?_,bN.nil _⟩))
 ·exact ((bf.gr B).fr u.fr (λc q _ e=>q.2.2 e) (λc q _ e=>q.2.2 e) (λc q=>q) λc q=>q).fr D.fr (λc q _ e=>q.2.1 e) (λc q _ e=>q.2.1 e) (λc q=>q.1) λc q=>q.1
 ·have I:Tn (λc=>c=j\/c=n) l S:=(u.fr.mono λc q _=>.inl q).trans (D.fr.mono λc q _=>.inr q);have d2:bN (λc=>h.size<=c) (λc=>h.size<=c) l ⟨some ⟨a,0,none⟩,1,1⟩ [c.dn (c.st (cg f.k f.w (cj f.cs) 0 vs))]:=bN.one o (by show h.size<=a;omega) (D1.gr H)
  exact bN.fr I (λc (q:h.size<=c) _ z=>by omega) (λc (q:h.size<=c) _ z=>by omega) (λc (q:h.size<=c)=>by show h0.size<=c;omega) (λc (q:h.size<=c)=>by show h0.size<=c;omega) _ d2
end
section
variable {f c:ai} {M:bD} {h:Hp} {D E D' E':Nat->Prop}
theorem cY.mo {s:Sl} {aH:List (List UInt8)} (v:cY D E h s aH) (d:∀b,D b->D' b) (a:∀b,E b->E' b):cY D' E' h s aH:=v.fr (S:=No) (Tn.refl _ _) (λ_ _ _=>id) (λ_ _ _=>id) d a
theorem BQ {s:Sl} {k:List UInt8} {K:Addr->HP} (o:cV D h s (bv k)) (t:D h.size) (q:∀b g,ah h g->b=h.size->cY D D g ⟨some ⟨b,0,none⟩,1,1⟩ [k]->K ⟨b,0,none⟩ g):aD h #[Sl.v s] fH K:=by
 refine az λb u e1 n p _=>q _ u n e1 ⟨[s],rfl,?_,λj w l d e => ?_⟩
 ·refine ⟨⟨rfl,Nat.le_refl _,λx y=>⟨_,rfl,λi v m => ?_⟩⟩,λ_ a r=>by cases r;exact e1 ▸ t⟩
  rw[aI,eW p];rcases i with _ | i
  ·simpa using m
  ·simp at m
 ·rcases j with _ | j
  ·simp at d e;subst d e;exact o.gr n
  ·simp at d
theorem ahH (x:f.k=16) (P:f.cs=[c]) (C:MC c M):qy f (bE f [M]):=by
 intro T h v vs m K Y hc H hk;obtain ⟨g,rfl,G⟩:=H;have ed:aU f.k=jy:=by unfold aU;rw[if_neg ag,if_neg ag,if_neg ag,if_pos x]
 have q:iP (.iface jy (.pointer (some ⟨g.b,0,none⟩))) h K Y:=by
  refine aip (JA.of (az λa2 p e1 z U _ => ?_));simp only[kO];have z1:=z.1;have a':=U.lt;have fin:∀{r:Hp} {j l:Nat} {N:Array Value},ah p r->aB r j N bG->N.size=6->p.size<=j->cY (λc=>p.size<=c/\c≠j) (λc=>p.size<=c/\c≠j) r ⟨some ⟨l,0,none⟩,1,1⟩ [bZ (f.st vs).b] ->
    bw r ⟨j,0,none⟩ ((f.st vs).b.rows:Int) 0 ((f.st vs).b.bu:Int) ⟨some ⟨l,0,none⟩,1,1⟩ Sl.nil Sl.nil λA=>rR K Y (some ⟨g.b,0,none⟩) ⟨a2,0,none⟩ ⟨j,0,none⟩ A:=by
   intro r j l N J n X l3 s;refine bw.b n X λA R O => ?_;have L:ah p A:=aM.aj J R l3;exact aas (h0:=h) (c2:=bS) x P C hc (G.fr (S:=No) (js C) (Tn.aT (ah.trans z L)) λ_ _ _=>id) (U.aj L) rfl O (s.fr R.fr (λc q _ e=>q.2 e) (λc q _ e=>q.2 e) (λc q=>⟨by omega,by omega,q.2⟩) λc q=>⟨by omega,by omega,q.2⟩) (ah.trans z L) ag ag ag hk
  have w:∀{r:Hp},ah p r->iQ g.T0 r g.b (eM f.k) f g.sf g.sn g.sb (f.st vs).b (dB f.k g.SS g.kv g.ks g.sp):=λJ=>G.B.fr (S:=No) (Tn.aT (ah.trans z J)) id λ_ _ _=>id;refine ⟨pR (w (ah.refl _)) λu W i Q=>⟨BQ (D:=λc=>p.size<=c) (Q.mo λc q=>q) i.1 λl V o y s=>⟨?_,?_⟩,?_⟩,?_⟩
  ·have t:=ah.trans i o;refine lO (w t) λI a=>az λj F e5 d n _ => ?_;have z3:=t.1;have Z:=a.1;refine fin (ah.trans (ah.trans t a) d) n rfl ag (((s.lt.gr a).gr d).mo (λc q=>⟨q.1,by omega⟩) λc q=>⟨q.1,by omega⟩)
  ·have t:=ah.trans i o;refine az λj I e4 a n _=>lO (w (ah.trans t a)) λF d => ?_;have z3:=t.1;have Z:=a.1;refine fin (ah.trans (ah.trans t a) d) (n.aj d) rfl ag (((s.lt.gr a).gr d).mo (λc q=>⟨q.1,by omega⟩) λc q=>⟨q.1,by omega⟩)
  ·refine az λj V X o n _=>BQ (D:=λc=>p.size<=c/\c≠j) ((Q.lt.gr o).mo λc q=>⟨q.1,by omega⟩) (by have:=i.1;have:=o.1;have:=n.lt;exact ⟨by omega,by omega⟩) λl I a y s=>lO (w (ah.trans (ah.trans i o) a)) λF d => ?_
   have z2:=i.1;exact fin (ah.trans (ah.trans (ah.trans i o) a) d) ((n.aj a).aj d) rfl ag (s.gr d)
  ·exact az λj W e2 i n _=>pR (w i) λu V o v3=>BQ (D:=λc=>p.size<=c/\c≠j) (v3.mo λc (q:W.size<=c)=>by have:=n.lt;have:=i.1;exact ⟨by omega,by omega⟩) (by have:=i.1;have:=o.1;have:=n.lt;exact ⟨by omega,by omega⟩) λl I a y s=>lO (w (ah.trans (ah.trans i o) a)) λF d=>fin (ah.trans (ah.trans (ah.trans i o) a) d) (((n.aj o).aj a).aj d) rfl ag (s.gr d)
 rw[<-ed] at q;exact q
end
structure amn (f:ai) (M:bD) (T:Nat->Prop) (h:Hp) (p:Nat) (vs:List ak) (en:Bool) (sf:Sl) (v:Value) (Tm R:Nat->Prop):Prop where
 tp:T p
 lt:∀c,T c->c < h.size
 tm:∀c,Tm c->T c/\c≠p/\¬R c
 tr:∀c,R c->T c/\c≠p
 k:aB h p #[.string f.name, .bool f.aq, .int .i64 f.k, .int .i64 f.w, .int .i64 f.id, .int .i64 f.ix,Sl.v sf,v, .bool en] Wx
 c:bz R h sf f.cs
 m:M Tm h v (f.st vs) none
def j0 (f:ai) (M:bD) (T:Nat->Prop) (h:Hp) (p:Nat) (vs:List ak) (en:Bool):Prop:=∃sf v Tm R,amn f M T h p vs en sf v Tm R
section
variable {f:ai} {M:bD} {T S D:Nat->Prop} {h h':Hp} {p:Nat} {vs:List ak} {en:Bool} {x:ak} {s:Sl} {Kp:PK}
theorem j0.fr (C:MC f M) (B:j0 f M T h p vs en) (t:Tn S h h') (b:∀c,T c->¬S c):j0 f M T h' p vs en:=by
 obtain ⟨a,v,d,R,B⟩:=B;exact ⟨a,v,d,R,B.tp,λc q=>Nat.lt_of_lt_of_le (B.lt c q) t.1,B.tm,B.tr,t.aK B.k (b p B.tp),bz.fr t (λc q=>b c (B.tr c q).1) (λ_ q=>q) _ B.c,C.fr B.m t λc q _=>b c (B.tm c q).1⟩
theorem aen {K:Int->HP} (C:MC f M) (B:j0 f M T h p vs en) (V:f.can vs) (O:f.fit x=true) (hP:cW f (λr=>f.tk r x) x) (hw:x.aV<=4194304) (hv:au D h s x.items) (hD:∀c,D c->¬T c)
  (hk:∀h',Tn T h h'->j0 f M (Tr T h h') h' p (if (f.tk (f.st vs) x).1=0 then vs++[x] else vs) en->K (f.tk (f.st vs) x).1 h'):Dg (some ⟨p,0,none⟩) x.aq x.num (bs x.text) s h K Kp:=by
 obtain ⟨sf,v,A,R,B⟩:=B;refine Dg.of (az λa3 h1 e3 g1 Q _=>az λw u e4 W i _ => ?_);have pl:=B.k.lt;have s1:=g1.1;have s2:=W.1;have G2:=ah.trans g1 W;have a':=λc q=>B.lt c (B.tm c q).1;refine bF ?_;refine an (B.k.aj G2) rfl (C.mark V (C.fr (S:=No) B.m (Tn.aT G2) λ_ _ _=>id) λmm t g3 o3 c3 X M3=>az λY h4 e5 g4 o _=>⟨c3,cE o aS o3 λl o5 o=>JS.of ?_⟩);have s3:=g3.1;have s4:=g4.1;have g':=Q.lt;have f':=i.lt;have G5:ah t l:=aM.aj g4 o5 ag;have s5:=G5.1;have Gs:ah u l:=ah.trans g3 G5;have G:ah h l:=ah.trans G2 Gs;have Q:=(Q.aj W).aj Gs;have i:=i.aj Gs;have y:=B.k.aj G;have o:aB l Y #[mm.F] Y4:=by simpa using o
 have M5:=C.fr (S:=No) M3 (Tn.aT G5) λ_ _ _=>id;unfold Xe;refine bF ?_;have g:∀c,Tr A u t c->(A c/\c < h.size)\/(u.size<=c/\c < t.size):=λc q=>q.imp (λq=>⟨q,a' c q⟩) id;refine an y rfl (aQ.b Q (C.take (D:=λc=>D c/\c < h.size) V O hw M5 (au.gr (au.lt _ hv) G) (λc q z => ?_) λL I M6 => ?_))
 ·rcases g c z with n | n
  ·exact hD c q.1 (B.tm c n.1).1
  ·have:=q.2;omega
 have s6:=I.1;have i:=I.aK i λq=>by rcases g w q with q | q <;> omega
 have o:=I.aK o λq=>by rcases g Y q with q | q <;> omega
 have y:=I.aK y λq=>by
  rcases g p q with q | q
  ·exact (B.tm p q.1).2.1 rfl
  ·omega
 refine cE i aS rfl λH J i => ?_;have s7:=J.1;have o:=J.aK o ag;have y:=J.aK y ag;have i:aB H w #[.int .i64 (f.tk (f.st vs) x).1] BW:=by simpa using i
 have d:∀c,Tr (Tr A u t) l L c->(A c/\c < h.size)\/(u.size<=c/\c < t.size)\/(l.size<=c/\c < L.size):=λc q=>by
  rcases q with q | q
  ·exact (g c q).imp id .inl
  ·exact .inr (.inr q)
 have M7:=C.fr (S:=(·=w)) M6 J.fr λc q _ e=>by rcases d c q with q | q | q <;> omega
 have N:Tn (λc=>Tr A u t c\/c=w) l H:=(I.mono λc q _=>.inl q).trans (J.fr.mono λc q _=>.inr q);have c':bz R H sf f.cs:=by
  refine bz.fr (D:=λc=>R c/\c < h.size) N (λc q z => ?_) (λc q=>q.1) _ (bz.gr (bz.lt _ B.c) G);rcases z with z | z
  ·rcases g c z with n | n
   ·exact (B.tm c n.1).2.2 q.1
   ·have:=q.2;omega
  ·have:=q.2;omega
 -- e' end, from a heap j d' P H
 have fin:∀j U,Tn (Tr (Tr A u t) l L) H j->M (Tr (Tr A u t) l L) j v U none->U=f.st (if (f.tk (f.st vs) x).1=0 then vs++[x] else vs)->aB j w #[.int .i64 (f.tk (f.st vs) x).1] BW->Ld j ⟨w,0,none⟩ mI λr0=>K r0 j:=by
  intro j U E Z X i;subst X;have s8:=E.1;have y:=E.aK y λq=>by
   rcases d p q with q | q | q
   ·exact (B.tm p q.1).2.1 rfl
   ·omega
   ·omega
  refine an i rfl (hk j ?_ ⟨sf,v,Tr (Tr A u t) l L,R, .inl B.tp,λc q => ?_,λc q => ?_,λc q=>⟨.inl (B.tr c q).1,(B.tr c q).2⟩,y,?_,Z⟩)
  ·refine ((Tn.aT G).trans' N λc q b' => ?_).trans' E λc q b' => ?_
   ·rcases q with q | q
    ·rcases g c q with q | q
     ·exact (B.tm c q.1).1
     ·omega
    ·omega
   ·rcases d c q with q | q | q
    ·exact (B.tm c q.1).1
    ·omega
    ·omega
  ·rcases q with q | q
   ·have:=B.lt c q;omega
   ·exact q.2
  ·rcases d c q with q | q | q
   ·exact ⟨.inl (B.tm c q.1).1,(B.tm c q.1).2⟩
   ·exact ⟨.inr ag,by omega,λz=>by have:=B.lt c (B.tr c z).1;omega⟩
   ·exact ⟨.inr ag,by omega,λz=>by have:=B.lt c (B.tr c z).1;omega⟩
  ·refine bz.fr (D:=λc=>R c/\c < h.size) E (λc q z => ?_) (λc q=>q.1) _ (bz.fr (S:=No) (Tn.refl _ _) (λ_ _=>id) (λc q=>⟨q.1,B.lt c (B.tr c q.1).1⟩) _ (bz.lt _ c'));rcases d c z with n | n | n
   ·exact (B.tm c n.1).2.2 q.1
   ·have:=q.2;omega
   ·have:=q.2;omega
 refine ami (c0:=⟨w,0,none⟩) (c1:=⟨Y,0,none⟩) (h:=H) (K:=λh'=>Ld h' ⟨w,0,none⟩ mI λr0=>K r0 h') (an i rfl (aA (λc => ?_) λc => ?_))
 ·have c:=ay c;refine an o rfl (C.back M7 λj E Z=>fin j _ E (C.drop Z) ?_ (E.aK i λq=>by rcases d w q with q | q | q <;> omega))
  rw[X,if_neg c]
 ·have c:=ay c;exact fin H _ (Tn.refl _ _) (C.drop M7) (by rw[if_pos c];exact (hP vs V c).2) i
noncomputable def gm (f:ai) (vs:List ak) (x:ak):Int:=if x.aV<=4194304/\f.fit x=true then (f.tk (f.st vs) x).1 else 7
theorem aky {f:ai} (PF:fo f) {vs:List ak} {x:ak} (a:f.can vs) (h:gm f vs x=0):f.can (vs++[x])/\f.fit x=true:=by
 unfold gm at h;split at h
 ·rename_i q;exact ⟨((PF x q.2) vs a h).1,q.2⟩
 ·cases h
theorem P3 {K:Int->HP} (C:MC f M) (PF:fo f) (V:iN f) (y:bp f) (u:f.fy) (N:gK h) (L:fW h) (B:j0 f M T h p vs false) (P:f.can vs) (O:x.mq) (F:au D h s x.items) (Q:∀c,D c->¬T c)
  (n:∀h',Tn T h h'->j0 f M (Tr T h h') h' p (if gm f vs x=0 then vs++[x] else vs) false->K (gm f vs x) h'):qw (some ⟨p,0,none⟩) x.aq x.num (bs x.text) s h K Kp:=by
 have J:=B;obtain ⟨j,v,r,R,B⟩:=B;refine qw.of (az λa3 h1 e3 d A _ => ?_);have Y:=d.1;refine bF ?_;refine an (B.k.aj d) rfl (aR rfl (aN.c (a:=⟨p,0,none⟩) ?_ (aQ.b A (ame V y u (N.aj d) (L.aj d) (bz.gr B.c d) (au.gr F d) O λo t => ?_))))
 ·intro i w E;rw[aI,eW (B.k.aj d)];rcases i with _ | _ | _ | _ | _ | _ | _ | i
  all_goals first | (simp at E;done) | (simpa using E)
 have G:=ah.trans d t;have X:=t.1;have I:=J.fr (S:=No) C (Tn.aT G) λ_ _=>id;have up:∀{h':Hp} {g:List ak},o.size<=h'.size->j0 f M (Tr T o h') h' p g false->j0 f M (Tr T h h') h' p g false:=by
  rintro h' g Z ⟨j,v,r,R,B⟩;exact ⟨j,v,r,R, .inl J.choose_spec.choose_spec.choose_spec.choose_spec.tp,λc q=>by rcases q with q | q;exact B.lt c (.inl q);exact q.2,λc q=>⟨(B.tm c q).1.imp id λq=>⟨by omega,q.2⟩,(B.tm c q).2⟩,λc q=>⟨(B.tr c q).1.imp id λq=>⟨by omega,q.2⟩,(B.tr c q).2⟩,B.k,B.c,B.m⟩
 refine aA (λc => ?_) λc=>aQ.b (A.aj t) ?_
 ·have c:=ay c;have H:¬(x.aV<=4194304/\f.fit x=true):=λq=>by rw[if_pos q] at c;exact c rfl
  have e:gm f vs x=7:=by unfold gm;rw[if_neg H]
  rw[if_neg H];rw[e] at n;exact n o (Tn.aT G) (up (Nat.le_refl _) (by
   obtain ⟨j,v,r,R,B⟩:=I;exact ⟨j,v,r,R, .inl B.tp,λc q=>by rcases q with q | q;exact B.lt c q;exact q.2,λc q=>⟨.inl (B.tm c q).1,(B.tm c q).2⟩,λc q=>⟨.inl (B.tr c q).1,(B.tr c q).2⟩,B.k,B.c,B.m⟩))
 ·have c:=ay c;have l:x.aV<=4194304/\f.fit x=true:=by
   by_cases q:x.aV<=4194304/\f.fit x=true
   ·exact q
   ·rw[if_neg q] at c;cases c
  have e:gm f vs x=(f.tk (f.st vs) x).1:=by unfold gm;rw[if_pos l]
  rw[e] at n;exact aen C I P l.2 (PF x l.2) l.1 (au.gr F G) Q λU z W=>n U ((Tn.aT G:Tn T h o).trans z) (up z.1 W)
theorem amv {K:Int->HP} {n:Int} {tx:ByteArray} {nl:Bool} (B:j0 f M T h p vs true) (b:∀h',ah h h'->K 9 h'):qw (some ⟨p,0,none⟩) nl n tx s h K Kp:=by
 obtain ⟨d,v,j,R,B⟩:=B;refine qw.of (az λi c g a e _ => ?_);refine bF ?_;exact an (B.k.aj a) rfl (bx rfl (b c a))
theorem PG {K:Int->HP} (C:MC f M) (B:j0 f M T h p vs en) (a:K (vs.length:Int) h):wQ (some ⟨p,0,none⟩) h K Kp:=by
 obtain ⟨b,v,c,R,B⟩:=B;refine wQ.of ?_;refine bF ?_;exact an B.k rfl (C.count B.m (by rw[EF];exact a))
theorem Xq {K:Int->Int->Int->Sl->Sl->Sl->Int->HP} (C:MC f M) (B:j0 f M T h p vs false) (A:f.can vs)
  (z:∀q h',Tn (·=p) h h'->j0 f M T h' p vs true->c7 (Nw h) (Nw h) h' q (f.dn (f.st vs))->K (f.dn (f.st vs)).len (f.dn (f.st vs)).off (f.dn (f.st vs)).aq q.1 q.2.1 q.2.2 0 h'):rZ (some ⟨p,0,none⟩) h K Kp:=by
 obtain ⟨w,v,G,R,B⟩:=B;refine rZ.of (az λF U V g o _ => ?_);have Q:=B.k.lt;have P:=g.1;refine bF ?_;refine an (B.k.aj g) rfl (aR rfl (cE (B.k.aj g) aS rfl λj i n => ?_));have O:=i.1;have t:=C.fr (S:=(·=p)) (C.fr (S:=No) B.m (Tn.aT g) λ_ _ _=>id) i.fr λc q _ e=>(B.tm c q).2.1 e;refine an n rfl (C.done A t λq E d H => ?_);have I:=o.lt;have N:=d.1;refine bw.b ((i.aK o ag).aj d) rfl λr a y=>bq.b y ?_;have L:=a.1;have u:Tn (·=p) h E:=((Tn.aT g).trans i.fr).trans (Tn.aT d);have l:Tn (·=p) h r:=u.trans' a.fr λc q J=>by omega
 refine z q r l ⟨w,v,G,R,B.tp,λc q=>Nat.lt_of_lt_of_le (B.lt c q) l.1,B.tm,B.tr,?_,bz.fr l (λc q=>(B.tr c q).2) (λ_ q=>q) _ B.c,?_⟩ ?_
 ·have:=a.aK (n.aj d) ag
  simpa using this
 ·exact C.fr (S:=(·=F)) (C.fr (S:=No) t (Tn.aT d) λ_ _ _=>id) a.fr λc q _ e=>by have:=B.lt c (B.tm c q).1;omega
 ·exact H.fr a.fr (λc (q:j.size<=c) _ e=>by omega) (λc (q:j.size<=c) _ e=>by omega) (λc (q:j.size<=c)=>by show h.size<=c;omega) λc (q:j.size<=c)=>by show h.size<=c;omega
end
theorem iq.ext {T:Nat->Prop} {h h':Hp} {b:Nat} {Ls n:List (Nat->Prop)} (t:iq T h b Ls) (N:Nat->Nat->Prop) (y:h.size<=h'.size) (hl:∀(i:Nat) B,n[i]? = some B->∃A,Ls[i]? = some A/\∀c,B c->A c\/N i c)
  (hN:∀i c,N i c->h.size<=c/\c < h'.size) (v:∀i j c,i≠j->N i c->¬N j c):iq (Tr T h h') h' b n:=by
 refine ⟨.inl t.tb,λc k => ?_,λB hB c k => ?_,?_⟩
 ·rcases k with q | q
  ·have:=t.lt c q;omega
  ·exact q.2
 ·obtain ⟨i,hi⟩:=List.getElem?_of_mem hB;obtain ⟨A,o,d⟩:=hl i B hi;rcases d c k with q | q
  ·have:=t.sub A (List.mem_of_getElem? o) c q;exact ⟨.inl this.1,this.2⟩
  ·have:=hN i c q;exact ⟨.inr this,λe=>by have:=t.lt b t.tb;omega⟩
 ·rw[List.pairwise_iff_getElem];intro i j hi u x c k l;obtain ⟨A,o,d⟩:=hl i _ (List.getElem?_eq_getElem hi);obtain ⟨w,m,a⟩:=hl j _ (List.getElem?_eq_getElem u);have lA:=λq=>t.lt c (t.sub A (List.mem_of_getElem? o) c q).1;have s:=λq=>t.lt c (t.sub w (List.mem_of_getElem? m) c q).1;rcases d c k with q | q
  ·rcases a c l with p | p
   ·exact t.ne o m ag c q p
   ·have:=lA q;have:=hN j c p;omega
  ·rcases a c l with p | p
   ·have:=s p;have:=hN i c q;omega
   ·exact v i j c ag q p
def bI.mk' (g:bI) (n:Nat) (h h':Hp) (lo hi:Nat->Nat):bI :=
 { g with R:=λc=>g.R c\/(h.size<=c/\c < h'.size/\∀j,j < n->¬(lo j<=c/\c < hi j)),KT:=(List.range n).map λj=>λc=>(g.KT.getD j λ_=>False) c\/(lo j<=c/\c < hi j) }
section
variable {f c:ai} {KM:List bD} {M:bD} {T:Nat->Prop} {h h':Hp} {r:Raw} {mm:Mem} {g:bI} {lo hi:Nat->Nat}
theorem bh.marked (G:bh f KM T h r none g) (KF:∀(j:Nat) M,KM[j]? = some M->dD M) (gr:ah h h') (I:∀j,j < KM.length->h.size<=lo j/\hi j<=h'.size) (L:∀i j,i < KM.length->j < KM.length->i≠j->hi i<=lo j\/hi j<=lo i)
  (K:∀(j:Nat) M A w,KM[j]? = some M->g.KT[j]? = some A->g.kv[j]? = some w->M (λc=>A c\/(lo j<=c/\c < hi j)) h' w (r.aC j) mm.ks[j]?) (J:Ce f (dG f.k) h' r mm (g.mk' KM.length h h' lo hi)) :
  bh f KM (Tr T h h') h' r (some mm) (g.mk' KM.length h h' lo hi):=by
 have lk:=G.lk;have d:=G.fr (S:=No) KF (Tn.aT gr) λ_ _ _=>id;have C:∀{j:Nat} {A:Nat->Prop},(g.mk' KM.length h h' lo hi).KT[j]? = some A->j < KM.length/\∃B,g.KT[j]? = some B/\A=λc=>B c\/(lo j<=c/\c < hi j):=by
  intro j A l;have D:j < KM.length:=by have:=(List.getElem?_eq_some_iff.1 l).1;simpa[bI.mk'] using this
  refine ⟨D,g.KT[j],List.getElem?_eq_getElem ag,?_⟩;simp only[bI.mk'] at l;rw[List.getElem?_map,List.getElem?_range D] at l;simp only[Option.map_some,Option.some.injEq] at l;rw[<-l,List.getD_eq_getElem?_getD,List.getElem?_eq_getElem ag];rfl
 refine ⟨?_,d.B,d.ls,d.sl,⟨lk.1,by simp[bI.mk'],lk.2.2⟩,λj M A w a b o => ?_,au.fr (S:=No) (Tn.refl _ _) (λ_ _ _=>id) (λc q=>.inl q) _ d.no,λz=>(d.kl z).fr (S:=No) (Tn.refl _ _) (λ_ _ _=>id) λc q=>.inl q,d.sp,λP e=>by cases e;exact J⟩
 ·refine G.t.ext (λi c=>(i=1/\h.size<=c/\c < h'.size/\∀j,j < KM.length->¬(lo j<=c/\c < hi j))\/∃j,i=3+g.ST.length+j/\j < KM.length/\lo j<=c/\c < hi j) gr.1 (λi B hB => ?_) (λi c q => ?_) λi j c ne q p => ?_
  ·rcases i with _ | _ | _ | i
   ·exact ⟨g.T0,rfl,λc q=>.inl (by cases hB;exact q)⟩
   ·refine ⟨g.R,rfl,λc q => ?_⟩;cases hB;rcases q with q | q
    ·exact .inl q
    ·exact .inr (.inl ⟨rfl,q⟩)
   ·exact ⟨g.X,rfl,λc q=>.inl (by cases hB;exact q)⟩
   ·by_cases u:i < g.ST.length
    ·have E:=List.getElem?_eq_getElem u;have N:=(g.mk' KM.length h h' lo hi).gT E;have n:=g.gT E;rw[show i+1+1+1=3+i by omega] at hB ⊢
     rw[N] at hB;cases hB;exact ⟨_,n,λc q=>.inl q⟩
    ·have v:(g.mk' KM.length h h' lo hi).KT[i - g.ST.length]? = some B:=by
      have:(g.mk' KM.length h h' lo hi).Ls[i+1+1+1]? = some B:=hB;unfold bI.Ls at this;rw[List.getElem?_cons_succ,List.getElem?_cons_succ,List.getElem?_cons_succ,List.getElem?_append_right (show (g.mk' KM.length h h' lo hi).ST.length<=i from by show g.ST.length<=i;omega)] at this
      exact this
     obtain ⟨a,O,b,rfl⟩:=C v;have n:=g.dy b;rw[show 3+g.ST.length+(i - g.ST.length)=i+1+1+1 by omega] at n
     exact ⟨O,n,λc q=>q.imp id λq=>.inr ⟨i - g.ST.length,by omega,a,q⟩⟩
  ·rcases q with q | ⟨j,_,a,b⟩
   ·exact ⟨q.2.1,q.2.2.1⟩
   ·have:=I j a;omega
  ·rcases q with ⟨rfl,a,b,o⟩ | ⟨x,rfl,a,b⟩
   ·rcases p with p | ⟨y,rfl,m,s⟩
    ·exact ne p.1.symm
    ·exact o y m s
   ·rcases p with ⟨rfl,m,s,H⟩ | ⟨y,e,m,s⟩
    ·exact H x a b
    ·have:=L x y a m ag;omega
 ·obtain ⟨_,B,F,rfl⟩:=C b;exact K j M B w a F o
end
abbrev ij:=Value->Nat->Nat->Hp->Prop
structure nQ (h h':Hp) (caps:List Nat) (cs:List (Array Value)) (VB V2:ij) (F0 KF:Value) (l0 u0 l2 u2:Nat):Prop where
 g:ah h h'
 n:caps.length=cs.length
 c:∀(i:Nat) a,caps[i]? = some a->h.size<=a/\¬(l2<=a/\a < u2)/\∃c t,cs[i]? = some c/\aB h' a c t
 b:VB F0 l0 u0 h'/\h.size<=l0/\u0<=h'.size
 k:V2 KF l2 u2 h'/\h.size<=l2/\u2<=h'.size
 d:u0<=l2\/u2<=l0
abbrev pA (a:Nat):Value:=.pointer (some ⟨a,0,none⟩)
abbrev vc (n:Nat) (v:Value):Cl:=.vl n (lu v)
abbrev vb (n b:Nat):Cl:=.vl n (lu (pA b))
abbrev uQ (c:Code) (K:Value->HP) (Kp:PK):Fr->HP:=sF Tryz.prog (kY (sub [1,0] c)) (λfr h=>c8 Tryz.prog [] (Aj Tryz.prog []) none (.seq (.region 2 #[xE (sub [1,1,0] c) 0,xE (sub [1,1,0] c) 1] false) .ret) (iT Tryz.prog [.tmp 2] [.nilFunc] K) Kp fr h) Kp (kY (sub [1,0] c)).size (List.range (kY (sub [1,0] c)).size)
theorem jo {h:Hp} {a:Nat} {e:TypeId} {p:Option Addr} {K:Option Value->HP} (k:aB h a #[.pointer p] e) (b:K (some (.pointer p)) h):Ld h ⟨a,0,none⟩ Value.pointer λp=>K (some (.pointer p)) h:=an k rfl b
theorem sK (n:Int):One (lu (.int .i64 n)):=.cst rfl rfl
def Cb:ij:=λ_ _ _ _=>True
noncomputable def ajL:Code:=Tryz.f149.body.getD .skip
def XC (VB V2:ij) (b a1:Nat) (cu:Sl) (uH:Sl):List Cl:=[vb 6 b,vb 7 b,vc 8 (.pointer (some ⟨b,0,none⟩)), .vl 9 VB,vb 10 b,vb 11 b,vc 12 (.pointer (some ⟨b,16,none⟩)),vc 13 (Sl.v cu),vc 14 (.int .i64 (cu.n:Int)),vb 15 b,vb 16 b,vc 17 (.pointer (some ⟨b,17,none⟩)),vc 18 (Sl.v uH),vc 19 (.int .i64 (uH.n:Int)), .al 3 #[.nilFunc] 1 17 3, .al 4 #[.int .i64 0] 3 18 8, .al 5 #[.int .i64 0] 3 19 13, .st 14 3, .st 15 8, .st 16 13]
abbrev agH (b a1:Nat):Fr:=([some (pA b),some (pA a1),some .nilFunc]++nn 18)
theorem JF.mk {b:Nat} {h:Hp} {K:Value->HP} {z:PK} {cu:Sl} {uH:Sl} {y:ij} (H:∀{e:Hp} {X:Sl->Prop},ah h e->X cu->Ld e ⟨b,16,none⟩ Sl.v X) (G:∀{e:Hp} {X:Sl->Prop},ah h e->X uH->Ld e ⟨b,17,none⟩ Sl.v X) (O:iu h y) (cB:One y) (W:∀{r:Hp} {X:Value->HP},ah h r->(∀v e,ah r e->y v r.size e.size e->X v e)->mL (some ⟨b,0,none⟩) r X z)
  (f:∀caps L KF U N T u2 e,nQ h e caps [#[L],#[pA b],#[.int .i64 (cu.n:Int)],#[.int .i64 (uH.n:Int)]] y Cb L KF U N T u2->K (.func (.func zC) #[] (caps.map pA).toArray) e):JF (some ⟨b,0,none⟩) h K z:=by
 refine vg (aZ:=[]) (zs:=[.nilFunc]) (Kv:=K) Tryz.func149 aF (S:=aD h #[pA b] 71 λj r=>uQ ajL K z ([some (pA b),some (.pointer (some j)),some .nilFunc]++nn 18) r) ?_ aF aF;refine az λj r e1 t u _=>sP (C:=XC y Cb b j cu uH) (cF:=agH b j) aF aF aF ⟨
  o0 1 (pA j) λK h g f=>jo (u.aj g) f,
  oE 0,
  oE 1,
  oF 2 (O.mo t.1) λK h g f=>W (X:=λF e=>K (some F) e) (ah.trans t g) f,
  o0 1 (pA j) λK h g f=>jo (u.aj g) f,
  oE 4,
  oE 5,
  oX 6 λK h g f=>H (X:=λs=>K (some s.v) h) (ah.trans t g) f,
  oE 7,
  o0 1 (pA j) λK h g f=>jo (u.aj g) f,
  oE 9,
  oE 10,
  oX 11 λK h g f=>G (X:=λs=>K (some s.v) h) (ah.trans t g) f,
  oE 12,
  oA,
  oA,
  oA,
  oS true cB,
  oS false (sK _),
  oS false (sK _),
  trivial⟩ λfr w F A R V M => ?_
 have k:∀{i:Nat},i∉([]:List Nat):=List.not_mem_nil;have s1:=t.1;obtain ⟨p3,J,y3,I⟩:_/\_/\_/\_:=M.c 3 _ rfl k;obtain ⟨p8,P,y8,z8⟩:_/\_/\_/\_:=M.c 8 _ rfl k;obtain ⟨d',x,c',Y⟩:_/\_/\_/\_:=M.c 13 _ rfl k;obtain ⟨E,b',p⟩:_/\_/\_:=M.c 14 _ rfl k;obtain ⟨D,a',m⟩:_/\_/\_:=M.c 15 _ rfl k;obtain ⟨B,Z,l⟩:_/\_/\_:=M.c 16 _ rfl k;rw[if_neg k,(cB _ _ _ _ J).2] at p;rw[if_neg k,(P:F 8=_)] at m;rw[if_neg k,(x:F 13=_)] at l;have Q:fr.getD 1 none=some (pA j):=M.o.2 1 (by simp[XC,Cl.dst])
 refine uE (fn:=.func zC) (caps:=#[.tmp 3, .tmp 1, .tmp 4, .tmp 5]) (d1:=20) (vs:=[pA (A 14),pA (j),pA (A 15),pA (A 16)]) aF aF aF aF aF aF (by rw[M.o.1];exact (by decide:20 < 21)) (by rw[M.o.1];exact (by decide:2 < 21)) ?_ rfl ?_
 ·simp only[eV,ev,E,Q,D,B]
 ·refine f [A 14,j,A 15,A 16] (F 3) (undef) (R 3) (V 3) w.size w.size w ⟨ah.trans t M.g,rfl,λi a d => ?_,⟨J,by omega,I⟩,⟨trivial,by have:=M.g.1;omega,Nat.le_refl _⟩, .inl I⟩
  rcases i with _ | _ | _ | _ | i
  ·cases d;exact ⟨by omega,λq=>by omega,_,_,rfl,p⟩
  ·cases d;exact ⟨by omega,λq=>by omega,_,_,rfl,(u.aj M.g)⟩
  ·cases d;exact ⟨by omega,λq=>by omega,_,_,rfl,m⟩
  ·cases d;exact ⟨by omega,λq=>by omega,_,_,rfl,l⟩
  ·simp at d
noncomputable def vE:Code:=Tryz.f157.body.getD .skip
def XA (VB V2:ij) (b a1:Nat) (cu:Sl) (w:Value):List Cl:=[vb 6 b,vb 7 b,vc 8 (.pointer (some ⟨b,0,none⟩)), .vl 9 VB,vb 10 b,vb 11 b,vc 12 (.pointer (some ⟨b,16,none⟩)),vc 13 (Sl.v cu),vc 14 (.int .i64 (cu.n:Int)),vb 15 b,vb 16 b,vc 17 (.pointer (some ⟨b,17,none⟩)),vc 18 (w), .vl 19 V2, .al 3 #[.nilFunc] 1 17 3, .al 4 #[.int .i64 0] 3 18 8, .al 5 #[.nilFunc] 1 19 13, .st 14 3, .st 15 8, .st 16 13]
abbrev agG (b a1:Nat):Fr:=([some (pA b),some (pA a1),some .nilFunc]++nn 18)
theorem JC.mk {b:Nat} {h:Hp} {K:Value->HP} {z:PK} {cu:Sl} {w:Value} {y V2:ij} (I:∀{e:Hp} {X:Sl->Prop},ah h e->X cu->Ld e ⟨b,16,none⟩ Sl.v X) (H:∀{e:Hp} {X:Value->Prop},ah h e->X w->Ld e ⟨b,17,none⟩ id X) (T:iu h y) (cB:One y) (HB:∀{j:Hp} {X:Value->HP},ah h j->(∀v e,ah j e->y v j.size e.size e->X v e)->mL (some ⟨b,0,none⟩) j X z) (U:iu h V2) (O:One V2) (H2:∀{j:Hp} {X:Value->HP},ah h j->(∀v e,ah j e->V2 v j.size e.size e->X v e)->gE w j X z)
  (f:∀caps P KF Z R Y u2 e,nQ h e caps [#[P],#[KF],#[pA b],#[.int .i64 (cu.n:Int)]] y V2 P KF Z R Y u2->K (.func (.func zA) #[] (caps.map pA).toArray) e):JC (some ⟨b,0,none⟩) h K z:=by
 refine vg (aZ:=[]) (zs:=[.nilFunc]) (Kv:=K) Tryz.func157 aF (S:=aD h #[pA b] 74 λl j=>uQ vE K z ([some (pA b),some (.pointer (some l)),some .nilFunc]++nn 18) j) ?_ aF aF;refine az λl j e1 m u _=>sP (C:=XA y V2 b l cu w) (cF:=agG b l) aF aF aF ⟨
  o0 1 (pA l) λK h g f=>jo (u.aj g) f,
  oE 0,
  oE 1,
  oF 2 (T.mo m.1) λK h g f=>HB (X:=λF e=>K (some F) e) (ah.trans m g) f,
  o0 1 (pA l) λK h g f=>jo (u.aj g) f,
  oE 4,
  oE 5,
  oX 6 λK h g f=>I (X:=λs=>K (some s.v) h) (ah.trans m g) f,
  oE 7,
  o0 1 (pA l) λK h g f=>jo (u.aj g) f,
  oE 9,
  oE 10,
  oX 11 λK h g f=>H (X:=λs=>K (some s) h) (ah.trans m g) f,
  oF 12 (U.mo m.1) λK h g f=>H2 (X:=λF e=>K (some F) e) (ah.trans m g) f,
  oA,
  oA,
  oA,
  oS true cB,
  oS false (sK _),
  oS true O,
  trivial⟩ λfr h2 F A L N M => ?_
 have d:∀{i:Nat},i∉([]:List Nat):=List.not_mem_nil;have s1:=m.1;obtain ⟨p3,J,y3,Q⟩:_/\_/\_/\_:=M.c 3 _ rfl d;obtain ⟨p8,V,y8,z8⟩:_/\_/\_/\_:=M.c 8 _ rfl d;obtain ⟨e',x,d',B⟩:_/\_/\_/\_:=M.c 13 _ rfl d;obtain ⟨G,c',t⟩:_/\_/\_:=M.c 14 _ rfl d;obtain ⟨E,b',r⟩:_/\_/\_:=M.c 15 _ rfl d;obtain ⟨D,a',p⟩:_/\_/\_:=M.c 16 _ rfl d;rw[if_neg d,(cB _ _ _ _ J).2] at t;rw[if_neg d,(V:F 8=_)] at r;rw[if_neg d,(O _ _ _ _ x).2] at p;have W:fr.getD 1 none=some (pA l):=M.o.2 1 (by simp[XA,Cl.dst])
 refine uE (fn:=.func zA) (caps:=#[.tmp 3, .tmp 5, .tmp 1, .tmp 4]) (d1:=20) (vs:=[pA (A 14),pA (A 16),pA (l),pA (A 15)]) aF aF aF aF aF aF (by rw[M.o.1];exact (by decide:20 < 21)) (by rw[M.o.1];exact (by decide:2 < 21)) ?_ rfl ?_
 ·simp only[eV,ev,G,D,W,E]
 ·refine f [A 14,A 16,l,A 15] (F 3) (F 13) (L 3) (N 3) (L 13) (N 13) h2 ⟨ah.trans m M.g,rfl,λi a k => ?_,⟨J,by omega,Q⟩,⟨x,by omega,B⟩,M.vv 3 13 _ _ _ _ rfl rfl d d aL⟩
  rcases i with _ | _ | _ | _ | i
  ·cases k;exact ⟨by omega,M.av 14 13 _ _ _ _ _ _ _ rfl rfl d d,_,_,rfl,t⟩
  ·cases k;exact ⟨by omega,M.av 16 13 _ _ _ _ _ _ _ rfl rfl d d,_,_,rfl,p⟩
  ·cases k;exact ⟨by omega,λq=>by have:=u.lt;omega,_,_,rfl,(u.aj M.g)⟩
  ·cases k;exact ⟨by omega,M.av 15 13 _ _ _ _ _ _ _ rfl rfl d d,_,_,rfl,r⟩
  ·simp at k
noncomputable def ajK:Code:=Tryz.f162.body.getD .skip
def aml (VB V2:ij) (b:Nat) (w:Value):List Cl:=[vb 5 b,vb 6 b,vc 7 (.pointer (some ⟨b,0,none⟩)), .vl 8 VB,vb 9 b,vb 10 b,vc 11 (.pointer (some ⟨b,16,none⟩)),vc 12 (w), .vl 13 V2, .al 3 #[.nilFunc] 1 11 3, .al 4 #[.nilFunc] 1 12 8, .st 9 3, .st 10 8]
abbrev Ut (b:Nat):Fr:=([some (pA b),none,some .nilFunc]++nn 12)
theorem Jz.mk {b:Nat} {h:Hp} {K:Value->HP} {y:PK} {w:Value} {r V2:ij} (z:∀{e:Hp} {X:Value->Prop},ah h e->X w->Ld e ⟨b,16,none⟩ id X) (I:iu h r) (cB:One r) (R:∀{j:Hp} {X:Value->HP},ah h j->(∀v e,ah j e->r v j.size e.size e->X v e)->mL (some ⟨b,0,none⟩) j X y) (J:iu h V2) (B:One V2) (T:∀{j:Hp} {X:Value->HP},ah h j->(∀v e,ah j e->V2 v j.size e.size e->X v e)->gE w j X y)
  (f:∀caps D KF O H N u2 e,nQ h e caps [#[D],#[KF]] r V2 D KF O H N u2->K (.func (.func zy) #[] (caps.map pA).toArray) e):Jz (some ⟨b,0,none⟩) h K y:=by
 refine vg (aZ:=[]) (zs:=[.nilFunc]) (Kv:=K) Tryz.func162 aF (S:=uQ ajK K y (Ut b) h) ?_ aF aF;have m:=ah.refl h;refine sP (C:=aml r V2 b w) (cF:=Ut b) aF aF aF ⟨
  o0 0 (pA b) λK h g f=>f,
  oE 0,
  oE 1,
  oF 2 (I.mo m.1) λK h g f=>R (X:=λF e=>K (some F) e) (ah.trans m g) f,
  o0 0 (pA b) λK h g f=>f,
  oE 4,
  oE 5,
  oX 6 λK h g f=>z (X:=λs=>K (some s) h) (ah.trans m g) f,
  oF 7 (J.mo m.1) λK h g f=>T (X:=λF e=>K (some F) e) (ah.trans m g) f,
  oA,
  oA,
  oS true cB,
  oS true B,
  trivial⟩ λfr P F A u x M => ?_
 have d:∀{i:Nat},i∉([]:List Nat):=List.not_mem_nil;have Y:=m.1;obtain ⟨p3,t,W,G⟩:_/\_/\_/\_:=M.c 3 _ rfl d;obtain ⟨Z,q,V,E⟩:_/\_/\_/\_:=M.c 8 _ rfl d;obtain ⟨L,U,l⟩:_/\_/\_:=M.c 9 _ rfl d;obtain ⟨p,Q,k⟩:_/\_/\_:=M.c 10 _ rfl d;rw[if_neg d,(cB _ _ _ _ t).2] at l;rw[if_neg d,(B _ _ _ _ q).2] at k;refine uE (fn:=.func zy) (caps:=#[.tmp 3, .tmp 4]) (d1:=14) (vs:=[pA (A 9),pA (A 10)]) aF aF aF aF aF aF (by rw[M.o.1];exact (by decide:14 < 15)) (by rw[M.o.1];exact (by decide:2 < 15)) ?_ rfl ?_
 ·simp only[eV,ev,L,p]
 ·refine f [A 9,A 10] (F 3) (F 8) (u 3) (x 3) (u 8) (x 8) P ⟨ah.trans m M.g,rfl,λi a n => ?_,⟨t,by omega,G⟩,⟨q,by omega,E⟩,M.vv 3 8 _ _ _ _ rfl rfl d d aL⟩
  rcases i with _ | _ | i
  ·cases n;exact ⟨by omega,M.av 9 8 _ _ _ _ _ _ _ rfl rfl d d,_,_,rfl,l⟩
  ·cases n;exact ⟨by omega,M.av 10 8 _ _ _ _ _ _ _ rfl rfl d d,_,_,rfl,k⟩
  ·simp at n
noncomputable def ajJ:Code:=Tryz.f167.body.getD .skip
def amk (VB V2:ij) (b:Nat) (cu:Sl):List Cl:=[vb 5 b,vb 6 b,vc 7 (.pointer (some ⟨b,0,none⟩)), .vl 8 VB,vb 9 b,vb 10 b,vc 11 (.pointer (some ⟨b,16,none⟩)),vc 12 (Sl.v cu), .vl 13 V2, .al 3 #[.nilFunc] 1 11 3, .al 4 #[.nilFunc] 1 12 8, .st 9 3, .st 10 8]
abbrev Us (b:Nat):Fr:=([some (pA b),none,some .nilFunc]++nn 12)
theorem Jv.mk {b:Nat} {h:Hp} {K:Value->HP} {y:PK} {cu:Sl} {r V2:ij} (z:∀{e:Hp} {X:Sl->Prop},ah h e->X cu->Ld e ⟨b,16,none⟩ Sl.v X) (H:iu h r) (cB:One r) (P:∀{j:Hp} {X:Value->HP},ah h j->(∀v e,ah j e->r v j.size e.size e->X v e)->mL (some ⟨b,0,none⟩) j X y) (I:iu h V2) (B:One V2) (R:∀{j:Hp} {X:Value->HP},ah h j->(∀v e,ah j e->V2 v j.size e.size e->X v e)->zP cu j X y)
  (f:∀caps D KF N G L u2 e,nQ h e caps [#[D],#[KF]] r V2 D KF N G L u2->K (.func (.func zw) #[] (caps.map pA).toArray) e):Jv (some ⟨b,0,none⟩) h K y:=by
 refine vg (aZ:=[]) (zs:=[.nilFunc]) (Kv:=K) Tryz.func167 aF (S:=uQ ajJ K y (Us b) h) ?_ aF aF;have m:=ah.refl h;refine sP (C:=amk r V2 b cu) (cF:=Us b) aF aF aF ⟨
  o0 0 (pA b) λK h g f=>f,
  oE 0,
  oE 1,
  oF 2 (H.mo m.1) λK h g f=>P (X:=λF e=>K (some F) e) (ah.trans m g) f,
  o0 0 (pA b) λK h g f=>f,
  oE 4,
  oE 5,
  oX 6 λK h g f=>z (X:=λs=>K (some s.v) h) (ah.trans m g) f,
  oF 7 (I.mo m.1) λK h g f=>R (X:=λF e=>K (some F) e) (ah.trans m g) f,
  oA,
  oA,
  oS true cB,
  oS true B,
  trivial⟩ λfr O F A u w M => ?_
 have d:∀{i:Nat},i∉([]:List Nat):=List.not_mem_nil;have W:=m.1;obtain ⟨Z,t,V,E⟩:_/\_/\_/\_:=M.c 3 _ rfl d;obtain ⟨Y,q,U,x⟩:_/\_/\_/\_:=M.c 8 _ rfl d;obtain ⟨J,T,l⟩:_/\_/\_:=M.c 9 _ rfl d;obtain ⟨p,Q,k⟩:_/\_/\_:=M.c 10 _ rfl d;rw[if_neg d,(cB _ _ _ _ t).2] at l;rw[if_neg d,(B _ _ _ _ q).2] at k;refine uE (fn:=.func zw) (caps:=#[.tmp 3, .tmp 4]) (d1:=14) (vs:=[pA (A 9),pA (A 10)]) aF aF aF aF aF aF (by rw[M.o.1];exact (by decide:14 < 15)) (by rw[M.o.1];exact (by decide:2 < 15)) ?_ rfl ?_
 ·simp only[eV,ev,J,p]
 ·refine f [A 9,A 10] (F 3) (F 8) (u 3) (w 3) (u 8) (w 8) O ⟨ah.trans m M.g,rfl,λi a n => ?_,⟨t,by omega,E⟩,⟨q,by omega,x⟩,M.vv 3 8 _ _ _ _ rfl rfl d d aL⟩
  rcases i with _ | _ | i
  ·cases n;exact ⟨by omega,M.av 9 8 _ _ _ _ _ _ _ rfl rfl d d,_,_,rfl,l⟩
  ·cases n;exact ⟨by omega,M.av 10 8 _ _ _ _ _ _ _ rfl rfl d d,_,_,rfl,k⟩
  ·simp at n
noncomputable def ajI:Code:=Tryz.f176.body.getD .skip
def Xz (VB V2:ij) (b a1:Nat) (cu:Sl) (mh:Sl):List Cl:=[vb 6 b,vb 7 b,vc 8 (.pointer (some ⟨b,0,none⟩)), .vl 9 VB,vb 10 b,vb 11 b,vc 12 (.pointer (some ⟨b,16,none⟩)),vc 13 (Sl.v cu),vc 14 (.int .i64 (cu.n:Int)),vb 15 b,vb 16 b,vc 17 (.pointer (some ⟨b,18,none⟩)),vc 18 (Sl.v mh), .vl 19 V2, .al 3 #[.nilFunc] 1 17 3, .al 4 #[.int .i64 0] 3 18 8, .al 5 #[.nilFunc] 1 19 13, .st 14 3, .st 15 8, .st 16 13]
abbrev agF (b a1:Nat):Fr:=([some (pA b),some (pA a1),some .nilFunc]++nn 18)
theorem Jr.mk {b:Nat} {h:Hp} {K:Value->HP} {z:PK} {cu:Sl} {mh:Sl} {y V2:ij} (H:∀{e:Hp} {X:Sl->Prop},ah h e->X cu->Ld e ⟨b,16,none⟩ Sl.v X) (G:∀{e:Hp} {X:Sl->Prop},ah h e->X mh->Ld e ⟨b,18,none⟩ Sl.v X) (T:iu h y) (cB:One y) (HB:∀{j:Hp} {X:Value->HP},ah h j->(∀v e,ah j e->y v j.size e.size e->X v e)->mL (some ⟨b,0,none⟩) j X z) (U:iu h V2) (N:One V2) (H2:∀{j:Hp} {X:Value->HP},ah h j->(∀v e,ah j e->V2 v j.size e.size e->X v e)->zP mh j X z)
  (f:∀caps O KF Y R W u2 e,nQ h e caps [#[O],#[KF],#[pA b],#[.int .i64 (cu.n:Int)]] y V2 O KF Y R W u2->K (.func (.func zu) #[] (caps.map pA).toArray) e):Jr (some ⟨b,0,none⟩) h K z:=by
 refine vg (aZ:=[]) (zs:=[.nilFunc]) (Kv:=K) Tryz.func176 aF (S:=aD h #[pA b] 83 λl j=>uQ ajI K z ([some (pA b),some (.pointer (some l)),some .nilFunc]++nn 18) j) ?_ aF aF;refine az λl j e1 m u _=>sP (C:=Xz y V2 b l cu mh) (cF:=agF b l) aF aF aF ⟨
  o0 1 (pA l) λK h g f=>jo (u.aj g) f,
  oE 0,
  oE 1,
  oF 2 (T.mo m.1) λK h g f=>HB (X:=λF e=>K (some F) e) (ah.trans m g) f,
  o0 1 (pA l) λK h g f=>jo (u.aj g) f,
  oE 4,
  oE 5,
  oX 6 λK h g f=>H (X:=λs=>K (some s.v) h) (ah.trans m g) f,
  oE 7,
  o0 1 (pA l) λK h g f=>jo (u.aj g) f,
  oE 9,
  oE 10,
  oX 11 λK h g f=>G (X:=λs=>K (some s.v) h) (ah.trans m g) f,
  oF 12 (U.mo m.1) λK h g f=>H2 (X:=λF e=>K (some F) e) (ah.trans m g) f,
  oA,
  oA,
  oA,
  oS true cB,
  oS false (sK _),
  oS true N,
  trivial⟩ λfr Z F A J L M => ?_
 have d:∀{i:Nat},i∉([]:List Nat):=List.not_mem_nil;have s1:=m.1;obtain ⟨p3,I,y3,P⟩:_/\_/\_/\_:=M.c 3 _ rfl d;obtain ⟨p8,Q,y8,z8⟩:_/\_/\_/\_:=M.c 8 _ rfl d;obtain ⟨e',w,d',x⟩:_/\_/\_/\_:=M.c 13 _ rfl d;obtain ⟨E,c',t⟩:_/\_/\_:=M.c 14 _ rfl d;obtain ⟨D,b',r⟩:_/\_/\_:=M.c 15 _ rfl d;obtain ⟨B,a',p⟩:_/\_/\_:=M.c 16 _ rfl d;rw[if_neg d,(cB _ _ _ _ I).2] at t;rw[if_neg d,(Q:F 8=_)] at r;rw[if_neg d,(N _ _ _ _ w).2] at p;have V:fr.getD 1 none=some (pA l):=M.o.2 1 (by simp[Xz,Cl.dst])
 refine uE (fn:=.func zu) (caps:=#[.tmp 3, .tmp 5, .tmp 1, .tmp 4]) (d1:=20) (vs:=[pA (A 14),pA (A 16),pA (l),pA (A 15)]) aF aF aF aF aF aF (by rw[M.o.1];exact (by decide:20 < 21)) (by rw[M.o.1];exact (by decide:2 < 21)) ?_ rfl ?_
 ·simp only[eV,ev,E,B,V,D]
 ·refine f [A 14,A 16,l,A 15] (F 3) (F 13) (J 3) (L 3) (J 13) (L 13) Z ⟨ah.trans m M.g,rfl,λi a k => ?_,⟨I,by omega,P⟩,⟨w,by omega,x⟩,M.vv 3 13 _ _ _ _ rfl rfl d d aL⟩
  rcases i with _ | _ | _ | _ | i
  ·cases k;exact ⟨by omega,M.av 14 13 _ _ _ _ _ _ _ rfl rfl d d,_,_,rfl,t⟩
  ·cases k;exact ⟨by omega,M.av 16 13 _ _ _ _ _ _ _ rfl rfl d d,_,_,rfl,p⟩
  ·cases k;exact ⟨by omega,λq=>by have:=u.lt;omega,_,_,rfl,(u.aj M.g)⟩
  ·cases k;exact ⟨by omega,M.av 15 13 _ _ _ _ _ _ _ rfl rfl d d,_,_,rfl,r⟩
  ·simp at k
noncomputable def ajH:Code:=Tryz.f183.body.getD .skip
def Xy (VB V2:ij) (b a1:Nat) (cu:Sl) (w:Value) (mh:Sl):List Cl:=[vb 7 b,vb 8 b,vc 9 (.pointer (some ⟨b,0,none⟩)), .vl 10 VB,vb 11 b,vb 12 b,vc 13 (.pointer (some ⟨b,16,none⟩)),vc 14 (Sl.v cu),vc 15 (.int .i64 (cu.n:Int)),vb 16 b,vb 17 b,vc 18 (.pointer (some ⟨b,18,none⟩)),vc 19 (Sl.v mh),vc 20 (.int .i64 (mh.n:Int)),vb 21 b,vb 22 b,vc 23 (.pointer (some ⟨b,17,none⟩)),vc 24 (w), .vl 25 V2, .al 3 #[.nilFunc] 1 23 3, .al 4 #[.int .i64 0] 3 24 8, .al 5 #[.int .i64 0] 3 25 13, .al 6 #[.nilFunc] 1 26 18, .st 19 3, .st 20 8, .st 21 13, .st 22 18]
abbrev agE (b a1:Nat):Fr:=([some (pA b),some (pA a1),some .nilFunc]++nn 24)
theorem Jn.mk {b:Nat} {h:Hp} {K:Value->HP} {B:PK} {cu:Sl} {w:Value} {mh:Sl} {y V2:ij} (N:∀{e:Hp} {X:Sl->Prop},ah h e->X cu->Ld e ⟨b,16,none⟩ Sl.v X) (L:∀{e:Hp} {X:Value->Prop},ah h e->X w->Ld e ⟨b,17,none⟩ id X) (J:∀{e:Hp} {X:Sl->Prop},ah h e->X mh->Ld e ⟨b,18,none⟩ Sl.v X) (W:iu h y) (cB:One y) (HB:∀{k:Hp} {X:Value->HP},ah h k->(∀v e,ah k e->y v k.size e.size e->X v e)->mL (some ⟨b,0,none⟩) k X B) (Y:iu h V2) (R:One V2) (H2:∀{k:Hp} {X:Value->HP},ah h k->(∀v e,ah k e->V2 v k.size e.size e->X v e)->gE w k X B)
  (f:∀caps T KF l0 V l2 u2 e,nQ h e caps [#[T],#[KF],#[pA b],#[.int .i64 (cu.n:Int)],#[.int .i64 (mh.n:Int)]] y V2 T KF l0 V l2 u2->K (.func (.func zq) #[] (caps.map pA).toArray) e):Jn (some ⟨b,0,none⟩) h K B:=by
 refine vg (aZ:=[]) (zs:=[.nilFunc]) (Kv:=K) Tryz.func183 aF (S:=aD h #[pA b] 86 λl k=>uQ ajH K B ([some (pA b),some (.pointer (some l)),some .nilFunc]++nn 24) k) ?_ aF aF;refine az λl k e1 m x _=>sP (C:=Xy y V2 b l cu w mh) (cF:=agE b l) aF aF aF ⟨
  o0 1 (pA l) λK h g f=>jo (x.aj g) f,
  oE 0,
  oE 1,
  oF 2 (W.mo m.1) λK h g f=>HB (X:=λF e=>K (some F) e) (ah.trans m g) f,
  o0 1 (pA l) λK h g f=>jo (x.aj g) f,
  oE 4,
  oE 5,
  oX 6 λK h g f=>N (X:=λs=>K (some s.v) h) (ah.trans m g) f,
  oE 7,
  o0 1 (pA l) λK h g f=>jo (x.aj g) f,
  oE 9,
  oE 10,
  oX 11 λK h g f=>J (X:=λs=>K (some s.v) h) (ah.trans m g) f,
  oE 12,
  o0 1 (pA l) λK h g f=>jo (x.aj g) f,
  oE 14,
  oE 15,
  oX 16 λK h g f=>L (X:=λs=>K (some s) h) (ah.trans m g) f,
  oF 17 (Y.mo m.1) λK h g f=>H2 (X:=λF e=>K (some F) e) (ah.trans m g) f,
  oA,
  oA,
  oA,
  oA,
  oS true cB,
  oS false (sK _),
  oS false (sK _),
  oS true R,
  trivial⟩ λfr h2 F A P Q M => ?_
 have d:∀{i:Nat},i∉([]:List Nat):=List.not_mem_nil;have s1:=m.1;obtain ⟨p3,O,y3,U⟩:_/\_/\_/\_:=M.c 3 _ rfl d;obtain ⟨p8,Z,y8,z8⟩:_/\_/\_/\_:=M.c 8 _ rfl d;obtain ⟨j',D,g',a'⟩:_/\_/\_/\_:=M.c 13 _ rfl d;obtain ⟨i',z,f',JY⟩:_/\_/\_/\_:=M.c 18 _ rfl d;obtain ⟨I,e',u⟩:_/\_/\_:=M.c 19 _ rfl d;obtain ⟨H,d',t⟩:_/\_/\_:=M.c 20 _ rfl d;obtain ⟨G,c',r⟩:_/\_/\_:=M.c 21 _ rfl d;obtain ⟨E,b',p⟩:_/\_/\_:=M.c 22 _ rfl d;rw[if_neg d,(cB _ _ _ _ O).2] at u;rw[if_neg d,(Z:F 8=_)] at t;rw[if_neg d,(D:F 13=_)] at r;rw[if_neg d,(R _ _ _ _ z).2] at p;have p1:fr.getD 1 none=some (pA l):=M.o.2 1 (by simp[Xy,Cl.dst])
 refine uE (fn:=.func zq) (caps:=#[.tmp 3, .tmp 6, .tmp 1, .tmp 4, .tmp 5]) (d1:=26) (vs:=[pA (A 19),pA (A 22),pA (l),pA (A 20),pA (A 21)]) aF aF aF aF aF aF (by rw[M.o.1];exact (by decide:26 < 27)) (by rw[M.o.1];exact (by decide:2 < 27)) ?_ rfl ?_
 ·simp only[eV,ev,I,E,p1,H,G]
 ·refine f [A 19,A 22,l,A 20,A 21] (F 3) (F 18) (P 3) (Q 3) (P 18) (Q 18) h2 ⟨ah.trans m M.g,rfl,λi a j => ?_,⟨O,by omega,U⟩,⟨z,by omega,JY⟩,M.vv 3 18 _ _ _ _ rfl rfl d d aL⟩
  rcases i with _ | _ | _ | _ | _ | i
  ·cases j;exact ⟨by omega,M.av 19 18 _ _ _ _ _ _ _ rfl rfl d d,_,_,rfl,u⟩
  ·cases j;exact ⟨by omega,M.av 22 18 _ _ _ _ _ _ _ rfl rfl d d,_,_,rfl,p⟩
  ·cases j;exact ⟨by omega,λq=>by have:=x.lt;omega,_,_,rfl,(x.aj M.g)⟩
  ·cases j;exact ⟨by omega,M.av 20 18 _ _ _ _ _ _ _ rfl rfl d d,_,_,rfl,t⟩
  ·cases j;exact ⟨by omega,M.av 21 18 _ _ _ _ _ _ _ rfl rfl d d,_,_,rfl,r⟩
  ·simp at j
noncomputable def ajG:Code:=Tryz.f203.body.getD .skip
def Xx (VB V2:ij) (b a1:Nat) (cu:Sl):List Cl:=[vb 5 b,vb 6 b,vc 7 (.pointer (some ⟨b,0,none⟩)), .vl 8 VB,vb 9 b,vb 10 b,vc 11 (.pointer (some ⟨b,16,none⟩)),vc 12 (Sl.v cu),vc 13 (.int .i64 (cu.n:Int)), .al 3 #[.nilFunc] 1 11 3, .al 4 #[.int .i64 0] 3 12 8, .st 9 3, .st 10 8]
abbrev agC (b a1:Nat):Fr:=([some (pA b),some (pA a1),some .nilFunc]++nn 12)
theorem Jh.mk {b:Nat} {h:Hp} {K:Value->HP} {z:PK} {cu:Sl} {y:ij} (B:∀{e:Hp} {X:Sl->Prop},ah h e->X cu->Ld e ⟨b,16,none⟩ Sl.v X) (H:iu h y) (cB:One y) (R:∀{m:Hp} {X:Value->HP},ah h m->(∀v e,ah m e->y v m.size e.size e->X v e)->mL (some ⟨b,0,none⟩) m X z)
  (f:∀caps E KF P G O u2 e,nQ h e caps [#[E],#[pA b],#[.int .i64 (cu.n:Int)]] y Cb E KF P G O u2->K (.func (.func zp) #[] (caps.map pA).toArray) e):Jh (some ⟨b,0,none⟩) h K z:=by
 refine vg (aZ:=[]) (zs:=[.nilFunc]) (Kv:=K) Tryz.func203 aF (S:=aD h #[pA b] 93 λd m=>uQ ajG K z ([some (pA b),some (.pointer (some d)),some .nilFunc]++nn 12) m) ?_ aF aF;refine az λd m e1 r t _=>sP (C:=Xx y Cb b d cu) (cF:=agC b d) aF aF aF ⟨
  o0 1 (pA d) λK h g f=>jo (t.aj g) f,
  oE 0,
  oE 1,
  oF 2 (H.mo r.1) λK h g f=>R (X:=λF e=>K (some F) e) (ah.trans r g) f,
  o0 1 (pA d) λK h g f=>jo (t.aj g) f,
  oE 4,
  oE 5,
  oX 6 λK h g f=>B (X:=λs=>K (some s.v) h) (ah.trans r g) f,
  oE 7,
  oA,
  oA,
  oS true cB,
  oS false (sK _),
  trivial⟩ λfr u F A N Q M => ?_
 have p:∀{i:Nat},i∉([]:List Nat):=List.not_mem_nil;have Z:=r.1;obtain ⟨p3,D,Y,x⟩:_/\_/\_/\_:=M.c 3 _ rfl p;obtain ⟨p8,I,W,U⟩:_/\_/\_/\_:=M.c 8 _ rfl p;obtain ⟨J,V,l⟩:_/\_/\_:=M.c 9 _ rfl p;obtain ⟨w,T,k⟩:_/\_/\_:=M.c 10 _ rfl p;rw[if_neg p,(cB _ _ _ _ D).2] at l;rw[if_neg p,(I:F 8=_)] at k;have L:fr.getD 1 none=some (pA d):=M.o.2 1 (by simp[Xx,Cl.dst])
 refine uE (fn:=.func zp) (caps:=#[.tmp 3, .tmp 1, .tmp 4]) (d1:=14) (vs:=[pA (A 9),pA (d),pA (A 10)]) aF aF aF aF aF aF (by rw[M.o.1];exact (by decide:14 < 15)) (by rw[M.o.1];exact (by decide:2 < 15)) ?_ rfl ?_
 ·simp only[eV,ev,J,L,w]
 ·refine f [A 9,d,A 10] (F 3) (undef) (N 3) (Q 3) u.size u.size u ⟨ah.trans r M.g,rfl,λi a j => ?_,⟨D,by omega,x⟩,⟨trivial,by have:=M.g.1;omega,Nat.le_refl _⟩, .inl x⟩
  rcases i with _ | _ | _ | i
  ·cases j;exact ⟨by omega,λq=>by omega,_,_,rfl,l⟩
  ·cases j;exact ⟨by omega,λq=>by omega,_,_,rfl,(t.aj M.g)⟩
  ·cases j;exact ⟨by omega,λq=>by omega,_,_,rfl,k⟩
  ·simp at j
def qj (f:ai) (M:bD):Prop:=∀{h:Hp} {s:Sl} {K:Value->HP} {Kp:PK},gK h->bM h s f.cs->(∀v h',ah h h'->M (λc=>h.size<=c/\c < h'.size) h' v f.begun none->K v h')->zX f.name f.aq f.k f.w f.id f.ix s h K Kp
def qi (f:ai) (M:bD):Prop:=∀{T:Nat->Prop} {h:Hp} {v:Value} {vs:List ak} {K:Value->HP} {Kp:PK},f.can vs->M T h v (f.st vs) none ->
  (∀mm h',ah h h'->one mm.F=true->mm.F.cells=#[mm.F]->mm.r=f.st vs->M (Tr T h h') h' v (f.st vs) (some mm)->K mm.F h')->gE v h K Kp
def eD (f:ai) (b:Nat) (sf sn sb:Sl) (r:Rb):ij:=λF lo hi h=>(one F=true/\F.cells=#[F])/\lX (λc=>lo<=c/\c < hi) h b F f sf sn sb r
theorem eD.one {f:ai} {b:Nat} {s t u:Sl} {r:Rb}:One (eD f b s t u r):=λ_ _ _ _ q=>q.1
theorem eD.gZ {f:ai} {b:Nat} {s u S:Sl} {r:Rb} {H:Hp}:iu H (eD f b s u S r):=λ_ _ _ _ _ _ q _ _ t e=>⟨q.1,q.2.fr t λc a _ d=>(e c d).2 a⟩
theorem eD.call {f:ai} {T:Nat->Prop} {h H:Hp} {b:Nat} {ty:TypeId} {s t u:Sl} {r:Rb} {C:List Value} {K:Value->HP} {Kp:PK} (B:iQ T h b ty f s t u r C) (g:ah h H)
  (d:∀F h',ah H h'->eD f b s t u r F H.size h'.size h'->K F h'):mL (some ⟨b,0,none⟩) H K Kp :=
 adR (B.fr (S:=No) (Tn.aT g) id λ_ _ _=>id) λF h' e oF a=>d F h' e ⟨⟨oF,a.cells⟩,a.lt⟩
def gV (M:bD) (A:Nat->Prop) (w:Value) (rj:Raw):ij:=λF lo hi h=>(one F=true/\F.cells=#[F])/\∃mm:Mem,mm.F=F/\mm.r=rj/\M (λc=>A c\/(lo<=c/\c < hi)) h w rj (some mm)
theorem gV.one {M:bD} {A:Nat->Prop} {w:Value} {R:Raw}:One (gV M A w R):=λ_ _ _ _ q=>q.1
theorem gV.gZ {M:bD} {A:Nat->Prop} {w:Value} {R:Raw} {H:Hp} (KF:dD M) (l:∀c,A c->c < H.size):iu H (gV M A w R):=λ_ _ _ _ _ _ ⟨q,i,e,d,b⟩ _ _ t k=>⟨q,i,e,d,KF b t λc a _ j=>by
 have:=k c j;rcases a with a | a
 ·have:=l c a;omega
 ·exact this.2 a⟩
section
variable {f c:ai} {KM:List bD} {M:bD} {T A:Nat->Prop} {h h':Hp} {r:Raw} {g:bI} {w:Value}
theorem gV.call {G:Hp} {X:List ak} {K:Value->HP} {Kp:PK} (C:MC c M) (i:c.can X) (H:M A h w (c.st X) none) (g:ah h G) (d:∀F h',ah G h'->gV M A w (c.st X) F G.size h'.size h'->K F h'):gE w G K Kp :=
 C.mark i (C.fr (S:=No) H (Tn.aT g) λ_ _ _=>id) λa h' j b k e l=>d a.F h' j ⟨⟨b,k⟩,a,rfl,e,l⟩
theorem bh.MP {N:List Nat} {cs:List (Array Value)} {V2:ij} {v KF:Value} {l0 u0 C u2:Nat} {lo hi:Nat->Nat} {jn:List Mem} {sp:List Value} (G:bh f KM T h r none g) (J:∀(j:Nat) M,KM[j]? = some M->dD M)
  (Q:nQ h h' N cs (eD f g.b g.sf g.sn g.sb r.b) V2 v KF l0 u0 C u2) (H:∀j,j < KM.length->C<=lo j/\hi j<=u2) (hd:∀i j,i < KM.length->j < KM.length->i≠j->hi i<=lo j\/hi j<=lo i)
  (hk:∀(j:Nat) M A w,KM[j]? = some M->g.KT[j]? = some A->g.kv[j]? = some w->∃m,jn[j]? = some m/\m.r=r.aC j/\M (λc=>A c\/(lo j<=c/\c < hi j)) h' w (r.aC j) (some m)) (hl:jn.length=KM.length) (Y:KM.length=f.cs.length) (W:f.k≠1)
  (h1:f.k=15\/f.k=16\/f.k=19\/f.k=20->∃m0,jn=[m0]/\KF=m0.F) (Z:f.k=17\/f.k=18->vX (λc=>C<=c/\c < u2/\∀j,j < KM.length->¬(lo j<=c/\c < hi j)) h' KF (jn.map Mem.F)) (V:cz f.k r.b r.b) (U:f.k=20->eY 20 g.X h' sp r.b)
  (l:fF f.k g.b v KF (.mk (.func (.func (dG f.k)) #[] (N.map pA).toArray) r g.sb jn sp)=cs) :
  bE f KM (Tr T h h') h' (.iface (aU f.k) (.pointer (some ⟨g.b,0,none⟩))) r (some (.mk (.func (.func (dG f.k)) #[] (N.map pA).toArray) r g.sb jn sp)):=by
 have gr:=Q.g;have O:=G.fr (S:=No) J (Tn.aT gr) λ_ _ _=>id;have lk:=G.lk;obtain ⟨⟨_,bm⟩,b1,b2⟩:=Q.b;have k1:=Q.k.2;have p:r.kids=jn.map Mem.r:=by
  refine List.ext_getElem? λj => ?_
  by_cases D:j < KM.length
  ·obtain ⟨m,y,u,_⟩:=hk j _ _ _ (List.getElem?_eq_getElem D) (List.getElem?_eq_getElem ag) (List.getElem?_eq_getElem ag);have e:r.kids[j]? = some (r.aC j):=by unfold Raw.aC;rw[List.getD_eq_getElem?_getD,List.getElem?_eq_getElem ag];rfl
   rw[List.getElem?_map,y,Option.map_some,u,e]
  ·rw[List.getElem?_eq_none ag,List.getElem?_eq_none (by rw[List.length_map];omega)]
 have l:fF f.k (g.mk' KM.length h h' lo hi).b v KF (.mk (.func (.func (dG f.k)) #[] (N.map pA).toArray) r g.sb jn sp)=cs:=l;have E:∀c,h.size<=c/\c < h'.size->¬(C<=c/\c < u2)->(g.mk' KM.length h h' lo hi).R c:=λc q u=>.inr ⟨q.1,q.2,λj D z=>by have:=H j D;omega⟩
 refine ⟨g.mk' KM.length h h' lo hi,rfl,G.marked J gr (λj D=>by have:=H j D;exact ⟨by omega,by omega⟩) hd (λj M A w y u L => ?_) ⟨⟨v,KF,⟨bm.mono λc q=>E c ⟨by omega,by omega⟩ λz=>by have:=Q.d;omega,Old.of O.B.o,O.B.len,O.B.nl,O.B.rl⟩,h1,λq => ?_,λq=>absurd q W,λ_=>⟨_,rfl,?_,λi x P => ?_⟩⟩,V,⟨p,by rw[<-Y];exact hl⟩,U⟩⟩
 ·obtain ⟨m,K,_,q5⟩:=hk j M A w y u L
  show M _ h' w (r.aC j) jn[j]?
  rw[K];exact q5
 ·obtain ⟨a,t,s,e1,e2,e3,e4⟩:=Z q;have up:∀c,(C<=c/\c < u2/\∀j,j < KM.length->¬(lo j<=c/\c < hi j))->(g.mk' KM.length h h' lo hi).R c:=λc q=>.inr ⟨by omega,by omega,q.2.2⟩
  exact ⟨a,t,s,e1,up a e2,e3,e4.fr (S:=No) (Tn.refl _ _) (λ_ _ _=>id) up⟩
 ·rw[l,List.length_map];exact Q.n
 ·rw[l] at P;have I:i < N.length:=by rw[Q.n];exact (List.getElem?_eq_some_iff.1 P).1
  obtain ⟨y,u,c',t,L,K⟩:=Q.c i _ (List.getElem?_eq_getElem I);rw[P] at L;cases L;exact ⟨N[i],t,by rw[List.getElem?_map,List.getElem?_eq_getElem I];rfl,E _ ⟨y,K.lt⟩ u,K⟩
end
section
variable {f:ai} {M:bD} {D:Nat->Prop} {h:Hp} {s t:Sl} {Kp:PK}
theorem Xc {K:Option Addr->Int->HP} (d:¬bp f) (c:f.fy) (i:gK h) (j:bM h s f.cs) (l:∀e,ah h e->K none 5 e):r6 f.name f.aq f.k f.w f.id f.ix s h K Kp:=by
 refine r6.of (az λq p e1 a g _=>aN.b g (Ln (f:=f) (i.aj a) c (j.gr a) λb n o m => ?_));have:b=false:=by
  cases b
  ·rfl
  ·exact absurd (m.1 rfl) d
 subst this;exact bx rfl (l n (ah.trans a o))
theorem Xd {K:Option Addr->Int->HP} (C:MC f M) (U:qj f M) (a:bp f) (o:f.fy) (y:gK h) (z:bM h s f.cs)
  (N:∀p e,ah h e->j0 f M (λc=>h.size<=c/\c < e.size) e p [] false->K (some ⟨p,0,none⟩) 0 e):r6 f.name f.aq f.k f.w f.id f.ix s h K Kp:=by
 refine r6.of (az λa1 h1 e1 j x _=>aN.b x (Ln (f:=f) (y.aj j) o (z.gr j) λb R n O => ?_));obtain rfl:b=true:=O.2 a;have s1:=j.1;have s2:=n.1;have I:=ah.trans j n;refine aR rfl (aN.b (x.aj n) (Sr f (z.gr I) a.fS.cs.1 a.fS.cs.2 λu B F T=>az λa4 h4 e4 E L _=>dW.b L rfl λA J l=>aN.b l (aN.b l ?_)));have Z:=F.1;have Y:=E.1;have m:ah B A:=aM.aj E J ag;have X:=m.1;have d:=bz.gr (bz.lt _ T) m;have H:=ah.trans (ah.trans I F) m;refine U (y.aj H) (bz.h _ d) λv Q i G=>bK l i ⟨by obtain ⟨_,_,rfl⟩:=C.na G;rfl,az λp P e7 g r _=>N p P (ah.trans (ah.trans H i) g) ?_⟩
 have W:=i.1;have V:=g.1;refine ⟨u,v,λc=>A.size<=c/\c < Q.size,λc=>R.size<=c/\c < B.size,⟨by omega,r.lt⟩,λc q=>q.2,λc q=>⟨⟨by omega,by omega⟩,by omega,by omega⟩,λc q=>⟨⟨by omega,by omega⟩,by omega⟩,r,bz.gr (bz.gr d i) g,?_⟩
 rw[QY];exact C.fr (S:=No) G (Tn.aT g) λ_ _ _=>id
def Good (f:ai) (l:List ak) (i:Nat):Prop:=∀j x,j < i->l[j]? = some x->gm f (l.take j) x=0
theorem Vg:∀f:ai,f.can []
  | .mk e aq k w id ix cs=>by
    have b:∀c∈cs,c.can []:=λc _=>Vg c;refine (ai.eC _ _).2 ⟨by simp,by simp,by simp[bg],by simp,by simp[ez],λj o a => ?_⟩
    rw[U8];simp only[ai.cs,List.getElem?_map,Option.map_eq_some_iff] at a;obtain ⟨c,d,rfl⟩:=a;exact b c (List.mem_of_getElem? d)
theorem Good.can (PF:fo f) {l:List ak}:∀{i:Nat},i<=l.length->Good f l i->f.can (l.take i):=by
  intro i
  induction i with
  | zero=>intro _ _;exact Vg f
  | succ i b =>
    intro e a;have c:l[i]? = some l[i]:=List.getElem?_eq_getElem ag;rw[List.take_succ_eq_append_getElem ag];exact (aky PF (b ag λj x d=>a j x ag) (a i _ ag c)).1
theorem ku.get:∀{l:List ak},ku l->∀{i:Nat} {x:ak},l[i]? = some x->x.mq
 | [],_,i,x,h=>by simp at h
 | y::l,a,0,x,h=>by simp at h;subst h;exact a.1
 | y::l,a,i+1,x,h=>ku.get a.2 (by simpa using h)
theorem akW {l:List ak} {K:Int->Int->Int->Sl->Sl->Sl->Int->Int->HP} (d:¬bp f) (c:f.fy) (q:gK h) (r:bM h s f.cs)
  (u:∀e,ah h e->K 0 0 0 ⟨none,0,0⟩ ⟨none,0,0⟩ ⟨none,0,0⟩ 5 0 e):lW f.name f.aq f.k f.w f.id f.ix s t h K Kp:=by
 refine lW.of (az λE A e1 j p _=>az λC z B i o _=>aN.b (p.aj i) ?_);have x:=j.1;have a:=ah.trans j i;refine Xc d c (q.aj a) (r.gr a) λy g=>bx rfl (bw.b (o.aj g) rfl λv m n=>bq.b n (u v (aM.aj (ah.trans a g) m ag)))
theorem yE {l:List ak} {K:Int->Int->Int->Sl->Sl->Sl->Int->Int->HP} (C:MC f M) (MD:qj f M) (PF:fo f) (FC:iN f) (J:bp f) (I:f.fy) (hr:ku l) (hl:l.length<=9223372036854775807) (ht:gK h) (hu:fW h) (hs:bM h s f.cs) (hv:au D h t l)
  (c':∀q d,ah h d->f.can l->Good f l l.length->c7 (Nw h) (Nw h) d q (f.dn (f.st l))->K (f.dn (f.st l)).len (f.dn (f.st l)).off (f.dn (f.st l)).aq q.1 q.2.1 q.2.2 0 0 d)
  (b':∀(i:Nat) x d,ah h d->Good f l i->l[i]? = some x->gm f (l.take i) x≠0->K 0 0 0 ⟨none,0,0⟩ ⟨none,0,0⟩ ⟨none,0,0⟩ (gm f (l.take i) x) (i:Int) d) :
  lW f.name f.aq f.k f.w f.id f.ix s t h K Kp:=by
 refine lW.of (az λa2 h1 e1 g1 k1 _=>az λa4 F e2 g2 X _=>aN.b (k1.aj g2) ?_);have s1:=g1.1;have s2:=g2.1;have e':=X.lt;have U:=ah.trans g1 g2;have hn:=hv.n;refine Xd C MD J I (ht.aj U) (hs.gr U) λp h3 g3 B3=>aR rfl ?_;refine HN.bB (λx d=>∃(i:Nat) (T:Nat->Prop),x=i/\i<=l.length/\ah F d/\j0 f M T d p (l.take i) false/\(∀c,T c->F.size<=c)/\Good f l i) (λx _=>l.length - x.toNat)
  ⟨0,_,rfl,Nat.zero_le _,g3,B3,λc q=>q.1,λj x hj=>by omega⟩ ?_
 rintro x d ⟨i,T,rfl,hi,G,B,hT,Q⟩ N hN;have A:=ah.trans U G;have R:=Q.can PF hi;have s3:=G.1;refine aA (λc => ?_) λc => ?_
 ·have c:=ay c;have O:i < l.length:=ag;have E:l[i]? = some l[i]:=List.getElem?_eq_getElem O;have H:l.take (i+1)=l.take i++[l[i]]:=List.take_succ_eq_append_getElem O;generalize l[i]=x at E H;refine (au.gr (au.lt _ hv) A).ix rfl E λa u cx a'=>aQ.c cx (az λi' h4 e4 g4 v _=>bV.b v rfl λh5 o5 v=>aQ.b v ?_);have s4:=g4.1;have g:ah d h5:=aM.aj g4 o5 ag;have s5:=g.1;refine P3 C PF FC J I (ht.aj (ah.trans A g)) (hu.aj (ah.trans A g)) (B.fr (S:=No) C (Tn.aT g) λ_ _=>id) R (hr.get E) (au.gr a' g) (λc q z=>by have:=hT c z;have:=q.2;omega) λh6 t6 B6 => ?_
  have G6:ah F h6:=((Tn.aT (ah.trans G g):Tn No F h5).trans' t6 λc q L=>by have:=hT c q;omega).aj
  have r:=(X.aj G6);refine aA (λo => ?_) λo => ?_
  ·have o:=ay o;exact bw.b r rfl λZ P W=>bq.b W (b' i x Z (aM.aj (ah.trans U G6) P ag) Q E o)
  ·have o:=ay o;rw[if_pos o] at B6;refine aP ag ag (hN _ _ ⟨i+1,_,by simp,by omega,G6,H ▸ B6,λc q => ?_,λj y hj Y => ?_⟩ ag)
   ·rcases q with q | q
    ·exact hT c q
    ·omega
   ·by_cases e:j=i
    ·subst e;rw[E] at Y;cases Y;exact o
    ·exact Q j y ag Y
 ·have c:=ay c;have:i=l.length:=ag;subst this;rw[List.take_length] at B R;have f':F.size<=p:=hT p B.choose_spec.choose_spec.choose_spec.choose_spec.tp;refine IL.of (Xq C B R λq h4 V _ D4=>az λg' h5 e5 g m _=>bw.b m rfl λh6 o6 m=>bq.b m ?_);have s4:=V.1;have s5:=g.1;have d':=m.lt;have g6:ah h4 h6:=aM.aj g o6 ag;have r:=(V.aK (X.aj G) ag).aj g6;refine bw.b r rfl λZ P W=>bq.b W (c' q Z ?_ R Q ?_)
  ·exact ((((Tn.aT A:Tn No h d).trans' V λc q L=>by omega).trans (Tn.aT g6)).trans' P.fr λc q L=>by omega).aj
  ·exact (D4.gr g6).fr P.fr (λc (q:d.size<=c) _ e=>by omega) (λc (q:d.size<=c) _ e=>by omega) (λc (q:d.size<=c)=>by have:=A.1;show h.size<=c;omega) λc (q:d.size<=c)=>by have:=A.1;show h.size<=c;omega
end
end Go.Proofs.YtikpikmkhdapiaaGreatDoor
