import Derived.Test.YtikpikmkhdapiaaGreatDoorBeginsShDraw
set_option linter.unusedSimpArgs false
set_option linter.unusedVariables false
set_option maxRecDepth 100000
set_option maxHeartbeats 1000000
namespace Go.Sh
variable {P:Program} {r:Option Nat}
def sF (P:Program) (ops:Array Oper) (K:Fr->Hp->Prop) (Kp:List PanicEntry->Hp->Prop):Nat->List Nat->Fr->Hp->Prop
 | 0,rem,fr,h=>rem=[]/\K fr h
 | n+1,rem,fr,h=>(rem=[]->K fr h)/\∀i∈rem,∀o,ops[i]? = some o->(∀e∈gk o,e∉rem)->gQ P ops o (λbH h'=>sF P ops K Kp n (rem.erase i) bH h') Kp fr h
def F5 (ops:Array Oper):Bool:=(List.range ops.size).all λj=>match ops[j]? with | some o=>(gk o).all λe=>decide (e < j) | none=>false
theorem ahR {a:Array Oper} (h:F5 a=true) {j:Nat} {o:Oper} (b:a[j]? = some o):∀e∈gk o,e < j:=by
 unfold F5 at h;have c:j < a.size:=(Array.getElem?_eq_some_iff.1 b).1;have:=List.all_eq_true.1 h j (List.mem_range.2 c);rw[b] at this
 simpa using this
theorem abl {N:List Nat} {c:Array Oper} (f':yD N c) (y:F5 c=true) {K:Fr->Hp->Prop} {Kp:List PanicEntry->Hp->Prop} {Q:Exit->Act->World->Prop}:∀(f:Nat) (b:Array Bool) (g:List Nat) (fr:Fr) (a:Act) (w:World),
    cw fr a->(∀i,i∈g↔i < c.size/\b.getD i false=false)->g.Nodup->b.size=c.size->g.length<=f->sF P c K Kp f g fr (aE w) ->
    (∀bH t q,cw bH t->Kd N a t->aY w q->K bH (aE q)->Q .normal t q)->(∀X t q,Kd N a t->aY w q->Kp X (aE q)->Q (.panic X) t q)->wpAnyIn (Fc r) 0 P .any c Q f b a w:=by
  intro f;have d:∀(b:Array Bool) (i:Nat),b.size=c.size->(i∈Region.ready .any c b↔i < c.size/\b.getD i false=false/\∃o,c[i]? = some o/\∀e∈gk o,b.getD e false=true):=by
    intro b i k;unfold Region.ready;simp only[List.mem_filter,List.mem_range,Bool.and_eq_true,Bool.not_eq_true'];constructor
    · rintro ⟨s,hl,y⟩;have v:c[i]? = some c[i]:=Array.getElem?_eq_getElem s;rw[v] at y;simp only[Option.map_some,Option.getD_some] at y;exact ⟨s,by rw[<-FG ag];exact hl,_,v,F6.1 y⟩
    · rintro ⟨s,hl,o,v,y⟩;refine ⟨s,by rw[FG ag];exact hl,?_⟩
      rw[v];simp only[Option.map_some,Option.getD_some];exact F6.2 y
  have n:∀(b:Array Bool) (l:List Nat),b.size=c.size->(∀i,i∈l↔i < c.size/\b.getD i false=false)->Region.ready .any c b=[]->∀j,j∉l:=by
    intro b l k hl S x hx;obtain ⟨m,T,J⟩:=least (λi=>i∈l) ⟨x,hx⟩;obtain ⟨E,hf⟩:=(hl m).1 T;have v:c[m]? = some c[m]:=Array.getElem?_eq_getElem E;have:m∈Region.ready .any c b:=by
      refine (d b m k).2 ⟨E,hf,_,v,λe U => ?_⟩;have d':=ahR y v e U;have:=J e d';rw[hl e] at this;cases Z:b.getD e false with
      | true=>rfl
      | false=>exact absurd ⟨by omega,Z⟩ this
    rw[S] at this;simp at this
  induction f with
  | zero =>
    intro b g fr a w R hl B k L H hN V;obtain ⟨I,hK⟩:=H;subst I;refine ⟨?_,hN fr a w R (Kd.refl _ _) (aY.refl w) hK⟩;apply List.eq_nil_iff_forall_not_mem.2;intro i s;obtain ⟨h1,W,_⟩:=(d b i k).1 s;have:=(hl i).2 ⟨h1,W⟩;simp at this
  | succ f ih =>
    intro b g fr a w R hl B k L H hN V;obtain ⟨H0,H1⟩:=H;refine ⟨λS => ?_,λi s => ?_⟩
    · have:=n b g k hl S;exact hN fr a w R (Kd.refl _ _) (aY.refl w) (H0 (List.eq_nil_iff_forall_not_mem.2 this))
    · obtain ⟨u,c',oi,A,M⟩:=(d b i k).1 s;have F:=(hl i).2 ⟨u,c'⟩;have H2:=H1 i F oi A λe U T=>by
        have:=((hl e).1 T).2;rw[M e U] at this;cases this
      have b':∀j,j∈g.erase i↔j < c.size/\(b.setIfInBounds i true).getD j false=false:=by
        intro j;rw[B.mem_erase_iff,hl j]
        by_cases hj:j=i
        · subst hj;constructor
          · intro h;exact absurd rfl h.1
          · rintro ⟨_,W⟩;simp[Array.getD,k,u] at W
        · rw[Array.getD_eq_getD_getElem?,Array.getD_eq_getD_getElem?,Array.getElem?_setIfInBounds_ne ag];simp[hj]
      have D:(g.erase i).length<=f:=by rw[List.length_erase_of_mem F];omega
      have step:pY r P c i (wpAnyIn (Fc r) 0 P .any c Q f (b.setIfInBounds i true)) Q a w:=by
        rw[<-EK A] at H2;refine AE f' R H2 (λbH t q e' G hs hk => ?_) V;refine ih _ (g.erase i) bH t q e' b' (B.erase i) (by simpa using k) D hk ?_ ?_
        · intro h' g' Y O p z C;exact hN _ _ _ O (p.trans G) (hs.trans z) C
        · intro X g' Y p z C;exact V _ _ _ (p.trans G) (hs.trans z) C
      unfold pY at step;unfold wpOpIn;rw[A] at step ⊢;exact step
def OZ (P:Program) (ops:Array Oper):Bool:=P.follows .mixedOrders && (ops.all λo=>!(o.op matches .defer _)) && F5 ops
def Aj (P:Program) (E6:List (Nat × OT × List Nat)) (id:Nat) (ops:Array Oper) (K:Fr->Hp->Prop) (Kp:List PanicEntry->Hp->Prop) (fr:Fr) (h:Hp):Prop :=
 match E6.find? (λx=>x.1 == id) with
 | some _=>gD P E6 id ops K Kp fr h
 | none=>dJ (OZ P ops) (sF P ops K Kp ops.size (List.range ops.size) fr h)<|False
theorem US (c:List (Nat × OT × List Nat)):oT P r (Aj P c):=by
  intro t id b K u fr a w Q f o d hN p;unfold Aj at d;split at d
  · exact tA c t id b K u fr a w Q f o d hN p
  · cases g:OZ P b with
    | false=>rw[g] at d;exact d.elim
    | true =>
      rw[g,gU] at d;simp only[OZ,Bool.and_eq_true] at g;obtain ⟨⟨q,_⟩,e⟩:=g;refine wpIn_region_any q (abl (r:=r) f e b.size (Array.replicate b.size false) (List.range b.size) fr a { w with drawn:=w.drawn+1 } o ?_ List.nodup_range aS aS d ?_ ?_)
      · intro i;rw[List.mem_range];constructor
        · intro h;exact ⟨h,by simp[Array.getD,h]⟩
        · exact λh=>h.1
      · intro bH m j n e k l;exact hN bH m j n e k l
      · intro s m j e k l;exact p s m j e k l
theorem abk {b:Array Oper} {K:Fr->Hp->Prop} {k:List PanicEntry->Hp->Prop} {I:List Nat->Fr->Hp->Prop}
    (m:∀a fr h,a.Nodup->I a fr h->∀i∈a,∀o,b[i]? = some o->(∀e∈gk o,e∉a)->gQ P b o (λbH j=>I (a.erase i) bH j) k fr h) (g:∀fr h,I [] fr h->K fr h) :
    ∀(n:Nat) (a:List Nat) (fr:Fr) (h:Hp),a.Nodup->a.length<=n->I a fr h->sF P b K k n a fr h:=by
  intro n
  induction n with
  | zero =>
    intro a fr h _ hl d;have:a=[]:=List.eq_nil_of_length_eq_zero ag;subst this;exact ⟨rfl,g fr h d⟩
  | succ n l =>
    intro a fr h c hl d;exact ⟨λe=>by subst e;exact g fr h d,λi f o p s=>EE (m a fr h c d i f o p s) λv j q=>l _ _ _ (c.erase i) (by rw[List.length_erase_of_mem f];omega) q⟩
theorem aak {a:Array Oper} {o:Oper} {K:Fr->Hp->Prop} {b:List PanicEntry->Hp->Prop} {fr:Fr} {h:Hp} (e:Operand->Option Value) (c:o.guard=none) (d:∀x∈o.op.operands,ev fr x=e x)
  (H:fc P o.op o.type e (λv f=>K (dP fr o.dst v) f) b h):gQ P a o K b fr h:=by
 unfold gQ gd;rw[c];simp only;rw[K1 d];exact H
end Go.Sh
