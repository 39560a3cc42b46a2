import Derived.Test.YtmjifnioaoamfaaGreatDoorBuildsShDraw
set_option linter.all false
namespace Go.Sh
variable{P:Program}{r:Option Nat}
def yZ(P:Program)(ops:Array Oper)(K:Fr->HP)(Kp:PK):Nat->List Nat->Fr->HP
 |0,rem,fr,h=>rem=[]/\K fr h
 |n+1,rem,fr,h=>(rem=[]->K fr h)/\∀i∈rem,∀o,ops[i]? =some o->(∀e∈jE o,e∉rem)->lu P ops o (λcZ h'=>yZ P ops K Kp n (rem.erase i) cZ h') Kp fr h
def OA(ops:Array Oper):Bool:=(List.range ops.size).all λj=>match ops[j]? with|some o=>(jE o).all λe=>decide (e<j)|none=>false
theorem asK{a:Array Oper}(h:OA a=true){j:Nat}{o:Oper}(b:a[j]? =some o):∀e∈jE o,e<j:=by
 unfold OA at h;grind
theorem alD{N:cV}{c:Array Oper}(f':EZ N c)(y:OA c=true){K:Fr->HP}{Kp:PK}{Q:Exit->Act->World->Prop}:∀(f:Nat)(b:Array Bool)(g:cV)(fr:Fr)(a:Act)(w:World),
    eC fr a->(∀i,i∈g↔i<c.size/\b.getD i false=false)->g.Nodup->b.size=c.size->g.length<=f->yZ P c K Kp f g fr (aV w)->
    (∀cZ t q,eC cZ t->Kd N a t->cH w q->K cZ (aV q)->Q .normal t q)->(∀X t q,Kd N a t->cH w q->Kp X (aV q)->Q (.panic X) t q)->wpAnyIn (Fc r) 0 P .any c Q f b a w:=by
  intro f;have d:∀(b:Array Bool)(i:Nat),b.size=c.size->(i∈Region.ready .any c b↔i<c.size/\b.getD i false=false/\∃o,c[i]? =some o/\∀e∈jE o,b.getD e false=true):=by
    intro b i k;unfold Region.ready;simp only[Y3,uz,dr,qR];constructor
    ·rintro⟨s,hl,y⟩;have v:=zU s;rw[v]at y;simp only[oD,oG]at y;exact⟨s,by rw[<-N6 ag];exact hl,_,v,OB.1 y⟩
    · rintro⟨s,hl,o,v,y⟩;refine⟨s,by rw[N6 ag];exact hl,?_⟩
      rw[v];simp only[oD,oG];exact OB.2 y
  have n:∀(b:Array Bool)(l:cV),b.size=c.size->(∀i,i∈l↔i<c.size/\b.getD i false=false)->Region.ready .any c b=[]->∀j,j∉l:=by
    intro b l k hl S x hx;obtain⟨m,T,J⟩:=least (λi=>i∈l) ⟨x,hx⟩;obtain⟨E,hf⟩:=(hl m).1 T;have v:=zU E;have:m∈Region.ready .any c b:=by
      refine(d b m k).2 ⟨E,hf,_,v,λe U=>?_⟩;have d':=asK y v e U;have:=J e d';rw[hl e]at this;cases Z:b.getD e false with
      |true=>rfl
      |false=>exact absurd ⟨ag,Z⟩ this
    rw[S]at this;simp at this
  induction f with
  | zero=>
    intro b g fr a w R hl B k L H hN V;obtain⟨I,hK⟩:=H;subst I;refine⟨?_,hN fr a w R (xT _ _) (jZ w) hK⟩;simp_all[Y2]
  | succ f ih=>
    intro b g fr a w R hl B k L H hN V;obtain⟨H0,H1⟩:=H;refine⟨λS=>?_,λi s=>?_⟩
    ·have:=n b g k hl S;exact hN fr a w R (xT _ _) (jZ w) (H0 (Y2.2 this))
    · obtain⟨u,c',oi,A,M⟩:=(d b i k).1 s;have F:=(hl i).2 ⟨u,c'⟩;have H2:=H1 i F oi A λe U T=>by
        simp_all
      have b':∀j,j∈g.erase i↔j<c.size/\(b.setIfInBounds i true).getD j false=false:=by
        intro j;rw[B.mem_erase_iff,hl j]
        by_cases hj:j=i
        ·simp_all
        ·rw[sj,sj,Pu ag];simp[hj]
      have D:(g.erase i).length<=f:=by rw[agv F];omega
      have step:vY r P c i (wpAnyIn (Fc r) 0 P .any c Q f (b.setIfInBounds i true)) Q a w:=by
        rw[<-M9 A]at H2;refine HF f' R H2 (λcZ t q e' G hs hk=>?_) V;refine ih _ (g.erase i) cZ t q e' b' (B.erase i) (by simpa using k) D hk ?_ ?_
        ·intro h' g' Y O p z C;exact hN _ _ _ O (p.trans G) (hs.trans z) C
        ·intro X g' Y p z C;exact V _ _ _ (p.trans G) (hs.trans z) C
      unfold vY at step;unfold wpOpIn;omega
def Yu(P:Program)(ops:Array Oper):Bool:=P.follows .mixedOrders&&(ops.all λo=>!(o.op matches .defer _))&&OA ops
def GY(P:Program)(AZ:List (Nat×OT))(id:Nat)(ops:Array Oper)(K:Fr->HP)(Kp:PK)(fr:Fr)(h:Hp):Prop:=
 match AZ.find? (λx=>x.1==id)with
 |some _=>kT P AZ id ops K Kp fr h
 |none=>ic (Yu P ops) (yZ P ops K Kp ops.size (List.range ops.size) fr h)<|False
theorem aeK(c:List (Nat×OT)):uN P r (GY P c):=by
  intro t id b K u fr a w Q f o d hN p;unfold GY at d;split at d
  ·exact zy c t id b K u fr a w Q f o d hN p
  · cases g:Yu P b with
    |false=>grind
    | true=>
      rw[g,lE]at d;simp only[Yu,dr]at g;obtain⟨⟨q,_⟩,e⟩:=g;refine wpIn_region_any q (alD f e b.size (Array.replicate b.size false) (List.range b.size) fr a {w with drawn:=w.drawn+1} o ?_ List.nodup_range aC aC d ?_ ?_)
      ·simp_all
      ·intro cZ m j n e k l;exact hN cZ m j n e k l
      ·intro s m j e k l;exact p s m j e k l
theorem alC{b:Array Oper}{K:Fr->HP}{k:PK}{I:List Nat->Fr->HP}
    (m:∀a fr h,a.Nodup->I a fr h->∀i∈a,∀o,b[i]? =some o->(∀e∈jE o,e∉a)->lu P b o (λcZ j=>I (a.erase i) cZ j) k fr h) (g:∀fr h,I [] fr h->K fr h):
    ∀(n:Nat)(a:cV)(fr:Fr)(h:Hp),a.Nodup->a.length<=n->I a fr h->yZ P b K k n a fr h:=by
  intro n
  induction n with
  | zero=>
    intro a fr h _ hl d;have:a=[]:=bZ;subst this;exact⟨rfl,g fr h d⟩
  | succ n l=>
    intro a fr h c hl d;exact⟨λe=>by subst e;exact g fr h d,λi f o p s=>MX (m a fr h c d i f o p s) λv j q=>l _ _ _ (c.erase i) dH q⟩
theorem akx{a:Array Oper}{o:Oper}{K:Fr->HP}{b:PK}{fr:Fr}{h:Hp}(e:Operand->Option Value)(c:o.guard=none)(d:∀x∈o.op.operands,ev fr x=e x)
  (H:iL P o.op o.type e (λv f=>K (gO fr o.dst v) f) b h):lu P a o K b fr h:=by
 unfold lu gd;simp_all[Uh]
end Go.Sh
