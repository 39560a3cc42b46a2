import Derived.Test.YtmjochipbmgljaaGreatDoorBatchesShDraw
namespace Go.Sh
variable{P:Program}{r:Option Nat}
def zq(P:Program)(ops:Array Oper)(K:Fr->HP)(Kp:PK):Nat->List Nat->Fr->HP
 |0,rem,fr,h=>rem=[]/\K fr h
 |n+1,rem,fr,h=>(rem=[]->K fr h)/\∀i∈rem,∀o,ops[i]? =some o->(∀e∈jF o,e∉rem)->lq P ops o (λcW h'=>zq P ops K Kp n (rem.erase i) cW h') Kp fr h
def K1(ops:Array Oper):Bool:=(List.range ops.size).all λj=>match ops[j]? with|some o=>(jF o).all λe=>decide (e<j)|none=>false
theorem avl{a:Array Oper}(h:K1 a=true){j:Nat}{o:Oper}(b:a[j]? =some o):∀e∈jF o,e<j:=by
 unfold K1 at h;grind
theorem an1{N:cG}{c:Array Oper}(f':Ey N c)(y:K1 c=true){K:Fr->HP}{Kp:PK}{Q:Exit->Act->World->Prop}:∀(f:Nat)(b:Array Bool)(g:cG)(fr:Fr)(a:Act)(w:World),
    eC fr a->(∀i,i∈g↔i<c.size/\b.getD i false=false)->g.Nodup->b.size=c.size->g.length<=f->zq P c K Kp f g fr (aT w)->
    (∀cW t q,eC cW t->Kd N a t->cE w q->K cW (aT q)->Q .normal t q)->(∀X t q,Kd N a t->cE w q->Kp X (aT q)->Q (.panic X) t q)->wpAnyIn (Fc r) 0 P .any c Q f b a w:=by
  intro f;have d:∀(b:Array Bool)(i:Nat),b.size=c.size->(i∈Region.ready .any c b↔i<c.size/\b.getD i false=false/\∃o,c[i]? =some o/\∀e∈jF o,b.getD e false=true):=by
    intro b i k;unfold Region.ready;simp only[List.mem_filter,wO,dm,tS];constructor
    ·rintro⟨s,hl,y⟩;have v:=Ak s;rw[v]at y;simp only[pH,oI]at y;exact⟨s,by rw[<-Ku ag];exact hl,_,v,K3.1 y⟩
    · rintro⟨s,hl,o,v,y⟩;refine⟨s,by rw[Ku ag];exact hl,?_⟩
      rw[v];simp only[pH,oI];exact K3.2 y
  have n:∀(b:Array Bool)(l:cG),b.size=c.size->(∀i,i∈l↔i<c.size/\b.getD i false=false)->Region.ready .any c b=[]->∀j,j∉l:=by
    intro b l k hl S x hx;obtain⟨m,T,J⟩:=least _ ⟨x,hx⟩;obtain⟨E,hf⟩:=(hl m).1 T;have v:=Ak E;have:m∈Region.ready .any c b:=by
      refine(d b m k).2 ⟨E,hf,_,v,λe U=>?_⟩;have d':=avl y v e U;have:=J e d';rw[hl e]at this;cases Z:b.getD e false with
      |true=>rfl
      |false=>exact absurd ⟨ag,Z⟩ this
    rw[S]at this;simp at this
  induction f with
  | zero=>
    intro b g fr a w R hl B k L H hN V;obtain⟨I,hK⟩:=H;subst I;refine⟨?_,hN fr a w R (yC _ _) (j0 w) hK⟩;simp_all[U7]
  | succ f ih=>
    intro b g fr a w R hl B k L H hN V;obtain⟨H0,H1⟩:=H;refine⟨λS=>?_,λi s=>?_⟩
    ·have:=n b g k hl S;exact hN fr a w R (yC _ _) (j0 w) (H0 (U7.2 this))
    · obtain⟨u,c',oi,A,M⟩:=(d b i k).1 s;have F:=(hl i).2 ⟨u,c'⟩;have H2:=H1 i F oi A λe U T=>by
        simp_all
      have b':∀j,j∈g.erase i↔j<c.size/\(b.setIfInBounds i true).getD j false=false:=by
        intro j;rw[B.mem_erase_iff,hl j]
        by_cases hj:j=i
        ·simp_all
        ·rw[tQ,tQ,L8 ag];simp[hj]
      have D:(g.erase i).length<=f:=by rw[afg F];omega
      have step:wV r P c i (wpAnyIn (Fc r) 0 P .any c Q f (b.setIfInBounds i true)) Q a w:=by
        rw[<-JB A]at H2;refine Ft f' R H2 (λcW t q e' G hs hk=>?_) V;refine ih _ _ cW t q e' b' (B.erase i) (by simpa using k) D hk ?_ ?_
        ·intro h' g' Y O p z C;exact hN _ _ _ O (p.trans G) (hs.trans z) C
        ·intro X g' Y p z C;exact V _ _ _ (p.trans G) (hs.trans z) C
      unfold wV at step;unfold wpOpIn;omega
def UA(P:Program)(ops:Array Oper):Bool:=P.follows .mixedOrders&&(ops.all λo=>!(o.op matches .defer _))&&K1 ops
def ET(P:Program)(Bb:List (Nat×OT))(id:Nat)(ops:Array Oper)(K:Fr->HP)(Kp:PK)(fr:Fr)(h:Hp):Prop:=
 match Bb.find? (λx=>x.1==id)with
 |some _=>kU P Bb id ops K Kp fr h
 |none=>iy (UA P ops) (zq P ops K Kp ops.size (List.range ops.size) fr h)<|False
theorem adq(c:List (Nat×OT)):vr P r (ET P c):=by
  intro t id b K u fr a w Q f o d hN p;unfold ET at d;split at d
  ·exact zN c t id b K u fr a w Q f o d hN p
  · cases g:UA P b with
    |false=>grind
    | true=>
      rw[g,lH]at d;simp only[UA,dm]at g;obtain⟨⟨q,_⟩,e⟩:=g;refine wpIn_region_any q (an1 f e b.size _ _ fr a {w with drawn:=w.drawn+1} o ?_ List.nodup_range aA aA d ?_ ?_)
      ·simp_all
      ·intro cW m j n e k l;exact hN cW m j n e k l
      ·intro s m j e k l;exact p s m j e k l
theorem an0{b:Array Oper}{K:Fr->HP}{k:PK}{I:List Nat->Fr->HP}
    (m:∀a fr h,a.Nodup->I a fr h->∀i∈a,∀o,b[i]? =some o->(∀e∈jF o,e∉a)->lq P b o (λcW j=>I (a.erase i) cW j) k fr h) (g:∀fr h,I [] fr h->K fr h):∀(n:Nat)(a:cG)(fr:Fr)(h:Hp),a.Nodup->a.length<=n->I a fr h->zq P b K k n a fr h:=by
  intro n
  induction n with
  | zero=>
    intro a fr h _ hl d;have:a=[]:=bU;subst this;exact⟨rfl,g fr h d⟩
  | succ n l=>
    intro a fr h c hl d;exact⟨λe=>by subst e;exact g fr h d,λi f o p s=>Ju (m a fr h c d i f o p s) λv j q=>l _ _ _ (c.erase i) dM q⟩
theorem amT{a:Array Oper}{o:Oper}{K:Fr->HP}{b:PK}{fr:Fr}{h:Hp}(e:Operand->Option Value)(c:o.guard=none)(d:∀x∈o.op.operands,ev fr x=e x)
  (H:iL P o.op o.type e (λv f=>K (gR fr o.dst v) f) b h):lq P a o K b fr h:=by
 unfold lq gd;simp_all[Pk]
end Go.Sh
