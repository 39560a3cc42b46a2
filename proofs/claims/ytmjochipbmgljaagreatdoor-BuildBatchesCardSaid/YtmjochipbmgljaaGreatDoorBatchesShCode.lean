import Derived.Test.YtmjochipbmgljaaGreatDoorBatchesShSound
import Derived.RangeFuncLeaves
set_option linter.all false
namespace Go.Sh
variable {fr:Fr} {a:Act} {n l:Nat} {w:World} {Q:Exit->Act->World->Prop} {N:cG} {x:Loop}
variable {P:Program}
structure eC(fr:Fr)(a:Act):Prop where
 len:fr.length<=a.tmps.size
 val:∀i v,fr.getD i none=some v->a.tmps.getD i undef=v
theorem eC.ev(h:eC fr a):∀x v,ev fr x=some v->a.eval x=v:=by
 intro x v b;cases x with
 |tmp t=>exact h.val t v b
 |const c=>simp only[Sh.ev,mC]at b;exact b
 |global g=>simp only[Sh.ev,mC]at b;exact b
 |func f=>simp only[Sh.ev,mC]at b;exact b
theorem eC.set(h:eC fr a)(t:Nat){v':Option Value}{v:Value}(d:∀x,v'=some x->v=x):eC (fr.set t v') {a with tmps:=a.tmps.setIfInBounds t v}:=by
 refine⟨by simp[h.len],λi x b=>?_⟩
 have hl:=h.len
 by_cases e:i=t
 ·subst e;have c:i<fr.length:=by
   apply yL;intro f;rw[gL,List.getElem?_set_self',HV ag]at b;simp at b
  rw[gL,El c]at b;have:=d x (by simpa using b)
  simp[show i<a.tmps.size by omega,this]
 ·rw[gL,HU ag]at b;have:=h.val i x dM
  rw[tQ]at this ⊢;grind
theorem eC.anE(h:eC fr a)(t:Nat){d:Option Value}(e:∀x,d=some x->a.tmps.getD t undef=x):eC (fr.set t d) a:=by
 refine⟨by simp[h.len],λi x b=>?_⟩
 by_cases f:i=t
 ·grind
 ·rw[gL,HU ag]at b;exact h.val i x dM
theorem eC.put(h:eC fr a)(d:Option Nat){v':Option Value}{v:Value}(b:∀x,v'=some x->v=x):eC (gR fr d v') (a.put d v):=by
 cases d with
 |none=>exact h
 |some t=>exact h.set t b
theorem eC.forget(h:eC fr a)(d:cG):eC (forget d fr) a:=by
  refine⟨by simp[Sh.forget,h.len],λi x b=>h.val i x ?_⟩
  simp only[Sh.forget,gL]at b ⊢;grind
theorem eC.find(h:eC fr a)(k:Nat):∀b:fS,eC (b.find k fr) a:=by
  intro b
  induction b with
  |nil=>exact h
  | cons x r d=>
    obtain⟨j,c⟩:=x;unfold fS.find;cases(j==k)
    ·exact d
    ·exact h.forget c
theorem eC.start(a:bg)(n:Nat)(ds:List Deferred):eC (a.map some++List.replicate (n-a.length) none) {tmps:=a.toArray++Array.replicate (n-a.toArray.size) undef,defers:=ds}:=by
 refine⟨aA,λi v b=>?_⟩
 rw[gL]at b
 by_cases c:i<a.length
 ·simp_all[iQ,dM,U9]
 grind
theorem adV{r:Option Nat}{f:FuncId}{Z:Array Value}{R:Ending->World->Prop}(h:Calls P f Z w R):CallsIn (Fc r) n P f Z w R:=
 (callsIn_wide).2 h
variable {r:Option Nat}
theorem ald{o:Oper}{K:Option Value->HP}{u:PK}{m:Result Next}{next:Act->World->Prop}
  (i:sN P K u w m) (hN:∀v k d,(∀x,k=some x->v=x)->cE w d->K k (aT d)->next (a.put o.dst v) d)
  (q:∀p d,cE w d->u p (aT d)->Q (.panic p) a d):o.uponIn (Fc r) 0 P a next Q m:=by
 unfold sN at i;split at i
 ·obtain⟨b,k,l,g⟩:=i;exact hN _ _ _ l b g
 ·obtain⟨b,g⟩:=i;exact hN undef none _ (λ_ h=>by cases h) b g
 ·rename_i f y d
  obtain⟨b,A⟩:=i;refine⟨λh=>by simp at h,((adV (by simpa using(A d rfl))).mono ?_)⟩
  rintro e s ⟨c,j⟩;cases e with
  |returned v=>obtain⟨k,l,g⟩:=j;exact hN _ _ _ l (b.trans c) g
  |panicked p=>exact q _ _ (b.trans c) j
  |outgrown=>exact j.elim
 ·obtain⟨b,z⟩:=i;refine⟨λh=>by simp at h,?_⟩
  have t:=z;apply t.mono;rintro e s ⟨c,j⟩;cases e with
  |returned v=>obtain⟨k,l,g⟩:=j;exact hN _ _ _ l (b.trans c) g
  |panicked p=>exact q _ _ (b.trans c) j
  |outgrown=>exact j.elim
 ·obtain⟨b,g⟩:=i;exact q _ _ b g
 ·exact i.elim
def wV(r:Option Nat)(P:Program)(ops:Array Oper)(i:Nat)(next:Act->World->Prop)(Q:Exit->Act->World->Prop)(a:Act)(w:World):Prop:=
 match ops[i]? with
 |none=>next a w
 | some o=>if Region.wanted o (yielded ops a.tmps)then o.wpIn (Fc r) 0 P a w next Q
   else(∀f,o.about P w a.eval=some f->True)/\next (a.put o.dst undef) w
theorem wpOpsIn_cons(b:Array Oper)(Q:Exit->Act->World->Prop)(i:Nat)(l:cG)(a:Act)(w:World):wpOpsIn (Fc r) 0 P b Q (i::l) a w=wV r P b i (wpOpsIn (Fc r) 0 P b Q l) Q a w:=by
 unfold wV;simp only[wpOpsIn];grind
theorem aaU{o:Oper}{K:Option Value->HP}{f:PK}{next:Act->World->Prop}
  (j:eC fr a) (h:iL P o.op o.type (ev fr) K f (aT w)) (hN:∀v d b,(∀x,d=some x->v=x)->cE w b->K d (aT b)->next (a.put o.dst v) b)
  (k:∀e b,cE w b->f e (aT b)->Q (.panic e) a b):o.wpIn (Fc r) 0 P a w next Q:=by
 refine⟨λ_ _=>trivial,?_⟩;have g:∀c,o.op≠.defer c:=by
  intro c i;rw[i]at h;exact h
 rw[show(Fc r).round=r from rfl,Oper.semAt_eq r a.eval o g];exact ald (anM j.ev h) hN k
theorem akn{b:Array Oper}{j d:Nat}{c:Bool}(h:eC fr a)(i:(b[j]?).bind (·.dst)=some d)(e:fr.getD d none=some (.bool c)):yielded b a.tmps j=some c:=by
 have f:=h.val d _ e;have g:d<a.tmps.size:=by
  apply yL;intro l;have:fr.getD d none=none:=by
   rw[gL,HV (by have:=h.len;omega)];rfl
  rw[this]at e;cases e
 have k:a.tmps[d]? =some (.bool c):=by
  rw[tQ]at f;rw[Ak g]at f⊢
  simpa using f
 simp[yielded,i,k]
def Kd(T:cG)(a a':Act):Prop:=a'.defers=a.defers/\∀t∈T,a'.tmps.getD t undef=a.tmps.getD t undef
theorem Kd.refl(T:cG)(a:Act):Kd T a a:=⟨rfl,λ_ _=>rfl⟩
abbrev yC:=@Kd.refl
theorem Kd.trans{T:cG}{b c:Act}(y:Kd T b c)(x:Kd T a b):Kd T a c:=⟨y.1.trans x.1,λt d=>(y.2 t d).trans (x.2 t d)⟩
def Ey(T:cG)(ops:Array Oper):Prop:=∀(i:Nat)(o:Oper)(t:Nat),ops[i]? =some o->o.dst=some t->t∉T
theorem Kd.put{d:Option Nat}{v:Value}(h:∀t,d=some t->t∉N):Kd N a (a.put d v):=by
  cases d with
  |none=>exact yC N a
  | some t=>
    refine⟨rfl,λu b=>?_⟩;have:t≠u:=bU;simp only[Act.put];simp[*]
def zy(T:cG)(ops:Array Oper):Bool:=ops.toList.all λo=>match o.dst with|some t=>!T.contains t|none=>true
theorem aaS{a:Array Oper}(h:zy N a=true):Ey N a:=by
 intro i o t b c;unfold zy at h;grind
def jZ(T:cG)(nr:Bool):Code->Bool
 |.region _ ops _=>zy T ops
 |.seq x y=>jZ T nr x&&jZ T nr y
 |.cond _ x y=>jZ T nr x&&jZ T nr y
 |.block _ x=>jZ T nr x
 |.loop x=>jZ T nr x
 |.rangeFunc ..=>!nr
 |_=>true
theorem apS(a:Array Oper):zy [] a=true:=by
 unfold zy;grind
theorem TO:∀c:Code,jZ [] false c=true:=by
 intro c
 induction c with
 |region id d e=>exact apS d
 |seq x y b a=>simp[jZ,b,a]
 |cond c x y b a=>simp[jZ,b,a]
 |block id x h=>exact h
 |loop x h=>exact h
 |_=>rfl
theorem Ft{T:cG}{l:Array Oper}{i:Nat}{K:Fr->HP}{L:PK}{next:Act->World->Prop}
  (hT:Ey T l) (p:eC fr a) (h:vK P l i K L fr (aT w)) (hN:∀cW A e,eC cW A->Kd T a A->cE w e->K cW (aT e)->next A e)
  (N:∀z A e,Kd T a A->cE w e->L z (aT e)->Q (.panic z) A e):wV r P l i next Q a w:=by
 unfold vK at h;unfold wV;have k:∀(d:Option Nat)(v:Value),(∀t,d=some t->t∉T)->Kd T a (a.put d v):=λd v h=>Kd.put h;split at h
 ·grind[Kd.refl,cE.refl]
 ·rename_i o u
  simp only[u];split at h
  ·rename_i C
   have G:Region.wanted o (yielded l a.tmps)=true:=by simp[Region.wanted,C]
   rw[aI G];exact aaU p h (λv O e H s y=>hN _ _ e (p.put o.dst H) (k _ _ λt=>hT i o t u) s y) (λz e s y=>N z a e (yC T a) s y)
  ·rename_i j b C
   split at h
   ·rename_i d M
    split at h
    ·rename_i c D
     have F:=akn p M D;have G:Region.wanted o (yielded l a.tmps)=(c==b):=by simp[Region.wanted,C,F]
     have n:∀g,c=g->eC (fr.set d (some (.bool g))) a:=by
      intro g m;subst m;exact p.anE d (λx q=>by cases q;exact p.val d _ D)
     rw[G];have B:∀g,c=g->iL P o.op o.type (ev (fr.set d (some (.bool g)))) (λv S=>K (gR (fr.set d (some (.bool g))) o.dst v) S) L (aT w)->o.wpIn (Fc r) 0 P a w next Q:=by
      intro g m I;exact aaU (n g m) I (λv O e H s y=>hN _ _ e ((n g m).put o.dst H) (k _ _ λt=>hT i o t u) s y) (λz e s y=>N z a e (yC T a) s y)
     have skip:∀g,c=g->K (gR (fr.set d (some (.bool g))) o.dst (some undef)) (aT w)->(∀f,o.about P w a.eval=some f->True)/\next (a.put o.dst undef) w:=by
      intro g m I;exact⟨λ_ _=>trivial,hN _ _ w ((n g m).put o.dst (λ_ q=>by cases q;rfl)) (k _ _ λt=>hT i o t u) (j0 w) I⟩
     cases c <;> cases b <;> simp only[If,iy]at h
     all_goals simp[*]
    ·rename_i R D
     have J:=p.val d _ D;have F:yielded l a.tmps j=none:=by
      have E:a.tmps[d]? =none\/a.tmps[d]? =some (.tuple R):=by
       rw[tQ]at J;cases q:a.tmps[d]? with
       |none=>simp
       |some x=>grind
      rcases E with E|E <;> simp[yielded,M,E]
     rw[aC (by simp[Region.wanted,C,F])]
     exact⟨λ_ _=>trivial,hN _ _ w (p.put o.dst (λ_ q=>by cases q;rfl)) (k _ _ λt=>hT i o t u) (j0 w) h⟩
    ·exact h.elim
   ·exact h.elim
theorem eC.at(h:eC fr a)(k:Nat){K:Fr->Prop}:∀{bS:fS},bS.at k fr K->∃cW,eC cW a/\K cW:=by
  intro bS
  induction bS with
  |nil=>exact λb=>⟨fr,h,b⟩
  | cons x r d=>
    obtain⟨j,c⟩:=x;unfold fS.at;cases(j==k)
    ·exact d
    ·exact λb=>⟨_,h.forget c,b.h⟩
theorem eC.next(h:eC fr a){K:Fr->Prop}{d:fS}{l:cG}(c:d.next l fr K):∃cW,eC cW a/\K cW:=by
 unfold fS.next at c;split at c
 ·grind
 ·exact h.at _ c
theorem anK{z:fS}{d:Array Oper}(hT:Ey N d):∀{l:cG}{fr:Fr}{a:Act}{K:Fr->HP}{o:PK}{w:World}{Q:Exit->Act->World->Prop},
    eC fr a->Fv P z d l K o fr (aT w)->(∀cW c b,eC cW c->Kd N a c->cE w b->K cW (aT b)->Q .normal c b)->
    (∀n c b,Kd N a c->cE w b->o n (aT b)->Q (.panic n) c b)->wpOpsIn (Fc r) 0 P d Q l a w:=by
  intro l
  induction l with
  |nil=>intro fr a K o w Q p h hN q;exact hN fr a w p (yC N a) (j0 w) h
  | cons i l A=>
    intro fr a K o w Q p h hN q;rw[wpOpsIn_cons];refine Ft hT p h (λcW c b u x v B=>?_) q;obtain⟨C,t,s⟩:=u.next B;exact A t s (λy k j m g e f=>hN _ _ _ m (g.trans x) (v.trans e) f) (λn k j g e f=>q n k j (g.trans x) (v.trans e) f)
def vr(P:Program)(r:Option Nat)(D:Nat->Array Oper->(Fr->HP)->PK->Fr->HP):Prop:=
 ∀T id ops K Kp fr a w Q,Ey T ops->eC fr a->D id ops K Kp fr (aT w)->(∀cW a' w',eC cW a'->Kd T a a'->cE w w'->K cW (aT w')->Q .normal a' w')->
  (∀ch a' w',Kd T a a'->cE w w'->Kp ch (aT w')->Q (.panic ch) a' w')->(Code.region id ops true).wpIn (Fc r) 0 P Q a w
def Marks(n0:Nat)(ds:List Deferred)(tv:List (Nat×Value))(nr:Bool)(a:Act)(w:World):Prop:=
 (∃rs:List Nat,a.defers=(rs.map λx=>{target:=.collected x,args:=#[]})++ds/\rs.Nodup/\∀x∈rs,n0<=x/\w.heap[x]? =some (.deferred (some [])))/\(∀x∈tv,a.tmps.getD x.1 undef=x.2)/\(nr=true->a.defers=ds)
theorem Marks.vX{ds:List Deferred}{c:List (Nat×Value)}{B:Bool}{g:Act}{W:World}(h:Marks n ds c B a w)(d:Kd (c.map (·.1)) a g)(j:cE w W):Marks n ds c B g W:=by
 obtain⟨⟨i,o,m,f⟩,l,k⟩:=h;exact⟨⟨i,d.1.trans o,m,λx b=>⟨(f x b).1,j.2.2.2.2 x _ (f x b).2⟩⟩,λx b=>(d.2 _ (List.mem_map_of_mem b)).trans (l x b),λe=>d.1.trans (k e)⟩
def QL(Q:Qt)(Kp:PK)(n0:Nat)(ds:List Deferred)(tv:List (Nat×Value))(nr:Bool)(w0:World):Exit->Act->World->Prop:=λe a w=>
 Marks n0 ds tv nr a w/\cE w0 w/\match e with
  |.panic ch=>Kp ch (aT w)
  |.outgrown=>False
  |e=>∃fr,eC fr a/\Q e fr (aT w)
theorem least(p:aQ)(h:∃n,p n):∃n,p n/\∀m,m<n->¬p m:=by
  obtain⟨n,e⟩:=h
  induction n using Nat.strongRecOn with
  | _ n d=>
    grind
theorem PX{h:Array Obj}{o:Obj}(a:n=h.size):(h.push o)[n]? =some o:=dM
theorem RX(h:(aT w)[l]? =some (.loop x)):w.heap[l]? =some (.loop x):=by
 rw[FT]at h;cases a:w.heap[l]? with
 |none=>simp[a]at h
 |some o=>cases o <;> simp[a,uC]at h ⊢;exact h
theorem Kk{o:Obj}:aT {w with heap:=w.heap.setIfInBounds l o}=(aT w).setIfInBounds l (uC o):=by
 apply Al;intro i;simp only[aT,B0];grind
theorem Pp{y:Loop}(h:w.heap[l]? =some (.loop x)):cE w {w with heap:=w.heap.setIfInBounds l (.loop y)}:=by
 refine⟨rfl,rfl,rfl,aA,λb ds a=>?_⟩
 grind
theorem FB(h:w.heap[l]? =some (.loop x)):(Instr.getLoop l).run P w=.ok x w:=by
 simp[Instr.getLoop,getObj,Sem.run,h]
theorem Pu{y:Loop}(h:w.heap[l]? =some (.loop x)):(setObj l (.loop y)).run P w=.ok () {w with heap:=w.heap.setIfInBounds l (.loop y)}:=by
 simp[setObj,Sem.run,h]
theorem aor(h:w.heap[l]? =some (.loop x))(a:x.state≠.busy):(Instr.endLoop l).run P w=.ok x.pending {w with heap:=w.heap.setIfInBounds l (.loop {x with state:=.exhausted})}:=by
 have b:(x.state==.busy)=false:=by simpa using a
 simp only[Instr.endLoop,Sem.run_bind,FB h,Result.andThen_ok,b,mD,lJ,Sem.run_pure,Pu h]
theorem xx{bS:fS}{D:Nat->Array Oper->(Fr->HP)->PK->Fr->HP}(hD:vr P r D)(n0:Nat)(ds:List Deferred)(tv:List (Nat×Value))(nr:Bool)(c:Code):jZ (tv.map (·.1)) nr c=true->∀(Q:Qt)(Kp:PK)(fr:Fr)(a:Act)(w:World),eC fr a->Marks n0 ds tv nr a w->n0<=w.heap.size->fV P bS D r c Q Kp fr (aT w)->c.wpIn (Fc r) 0 P (QL Q Kp n0 ds tv nr w) a w:=by
  have trans:∀{Q:Qt}{Kp:PK}{w w':World},cE w w'->∀e x y,QL Q Kp n0 ds tv nr w' e x y->QL Q Kp n0 ds tv nr w e x y:=by
    rintro Q Kp w w' hs e x y ⟨h1,h2,h3⟩;exact⟨h1,hs.trans h2,h3⟩
  induction c with
  |skip=>intro hT Q Kp fr a w ha hm hn h;exact wpIn_skip ⟨hm,j0 w,fr,ha,h⟩
  |label l=>intro hT Q Kp fr a w ha hm hn h;exact wpIn_label ⟨hm,j0 w,fr,ha,h⟩
  |exit id=>intro hT Q Kp fr a w ha hm hn h;exact wpIn_exit ⟨hm,j0 w,fr,ha,h⟩
  |ret=>intro hT Q Kp fr a w ha hm hn h;exact wpIn_ret ⟨hm,j0 w,fr,ha,h⟩
  | region id ops draw=>
    intro hT Q Kp fr a w ha hm hn h;cases draw with
    | false=>
      exact wpIn_region (anK (aaS hT) ha h (λcW a' w' pe hd hs hk=>⟨hm.vX hd hs,hs,cW,pe,hk⟩) (λch a' w' hd hs hk=>⟨hm.vX hd hs,hs,hk⟩))
    | true=>
      exact hD _ id ops _ Kp fr a w _ (aaS hT) ha h (λcW a' w' pe hd hs hk=>⟨hm.vX hd hs,hs,cW,pe,hk⟩) (λch a' w' hd hs hk=>⟨hm.vX hd hs,hs,hk⟩)
  | seq x y Ss Sr=>
    intro hT Q Kp fr a w ha hm hn h;refine wpIn_seq (wpIn_mono (Ss (by simp only[jZ,dm]at hT;exact hT.1) _ Kp fr a w ha hm hn h) ?_)
    rintro e a' w' ⟨hd,hs,he⟩;cases e with
    | normal=>
      obtain⟨cW,pe,hk⟩:=he;obtain⟨fr1,ha1,SM⟩:=pe.at _ hk;exact wpIn_mono (Sr (by simp only[jZ,dm]at hT;exact hT.2) Q Kp _ a' w' ha1 hd (iY hn hs.2.2.2.1) SM) (trans hs)
    |_=>exact⟨hd,hs,he⟩
  | cond c x y Ss Sr=>
    intro hT Q Kp fr a w ha hm hn h;simp only[fV]at h;split at h
    · rename_i b hb
      refine wpIn_cond_split (ha.ev _ _ hb) (λht=>?_) (λhf=>?_)
      ·subst ht;exact Ss (by simp only[jZ,dm]at hT;exact hT.1) Q Kp _ a w (ha.find _ bS) hm hn h
      ·subst hf;exact Sr (by simp only[jZ,dm]at hT;exact hT.2) Q Kp _ a w (ha.find _ bS) hm hn h
    ·exact h.elim
  | block id x ih=>
    intro hT Q Kp fr a w ha hm hn h;refine wpIn_block (wpIn_mono (ih hT (LI id Q) Kp fr a w ha hm hn h) ?_);rintro e a' w' ⟨hd,hs,he⟩;cases e with
    | exit j=>
      obtain⟨cW,pe,hk⟩:=he;simp only[LI]at hk;simp only[Exit.inBlock];split at hk
      ·rename_i hj;rw[aI hj];exact⟨hd,hs,cW,pe,hk⟩
      ·rename_i hj;rw[aC hj];exact⟨hd,hs,cW,pe,hk⟩
    |_=>exact⟨hd,hs,he⟩
  | loop x ih=>
    intro hT Q Kp fr a w ha hm hn h
    let B:(Fr->HP)->Fr->HP:=λN fr h=>fV P bS D r x (zm (λcW h'=>N (bS.find (iF x+2000) cW) h') Q) Kp fr h
    let p:Act->World->Nat->Prop:=λa' w' n=>∃cW,eC cW a'/\Gf B n cW (aT w')
    let I:Act->World->Prop:=λa' w'=>Marks n0 ds tv nr a' w'/\cE w w'/\∃n,p a' w' n
    have hmu:∃μ:Act->World->Nat,∀a' w',I a' w'->p a' w' (μ a' w')/\∀m,m<μ a' w'->¬p a' w' m:=by
      classical
      refine⟨λa' w'=>if hx:∃n,p a' w' n then Classical.choose (least _ hx)else 0,?_⟩
      rintro a' w' ⟨_,_,hx⟩;dsimp only;rw[dif_pos hx];grind[Classical.choose_spec,least]
    obtain⟨μ,hμ⟩:=hmu;obtain⟨m0,h0⟩:∃n,Gf B n _ _:=h;apply wpIn_loop I μ ⟨hm,j0 w,m0,_,ha.find _ bS,h0⟩;rintro a' w' hI;obtain⟨⟨cW,pe,v7⟩,aHK⟩:=hμ a' w' hI;obtain⟨hd,hs,_⟩:=hI;cases hnn:μ a' w' with
    |zero=>rw[hnn]at v7;exact v7.elim
    | succ m=>
      rw[hnn]at v7;apply wpIn_mono (ih hT _ Kp cW a' w' pe hd (iY hn hs.2.2.2.1) v7);rintro e a'' CQ ⟨Dz,hs',he⟩;cases e with
      | normal=>
        obtain⟨DD,acD,hk⟩:=he;have hI':I a'' CQ:=⟨Dz,hs.trans hs',m,_,acD.find _ bS,hk⟩;refine⟨hI',?_⟩;have:=(hμ a'' CQ hI').2;apply yL;intro Gz;exact this m ag ⟨_,acD.find _ bS,hk⟩
      |_=>exact⟨Dz,hs.trans hs',he⟩
  | rangeFunc g ps assign body ih1 ih2=>
    intro hT Q Kp fr a w ha hm hn h;simp only[fV]at h;split at h
    · rename_i fv uM
      refine wpIn_rangeFunc λfn SU=>?_;have pe:=ha.find (iF assign+4000) bS;obtain⟨cW,ati⟩:∃cW,bS.find (iF assign+4000) fr=cW:=⟨_,rfl⟩;rw[ati]at pe h;have h:=h fn a.tmps ⟨pe.len,pe.val⟩;have Gz:=ha.ev _ _ uM
      -- the record is laid
      obtain⟨w1,l,mark,adx,ato,hs1,hl,hw1,hmk,Bt⟩:∃(w1:World)(l:Nat)(mark:List Deferred)(adx:Nat),(Instr.enterLoop fn a.tmps ps assign body r).run P w=.ok (l,mark) w1/\cE w w1/\
          w1.heap[l]? =some (.loop {state:=.ready,pending:=none,fn,tmps:=a.tmps,params:=ps,assign,body,defers:=adx})/\True/\
          (∀w2:World,cE w1 w2->Marks n0 ds tv nr {a with defers:=mark++a.defers} w2)/\
          uo P fv [.func (.yield l) #[] #[]] (aT w1) (λ_ h'=>zM l h' λjump qn=>match jump with
            |none=>Q .normal cW qn
            |some .ret=>Q .ret cW qn
            |some (.exit id)=>Q (.exit id) cW qn
            |_=>False) Kp:=by
        cases r with
        | none=>
          simp only[DM]at h;have e1:((aT w).push (.deferred none)).size=w.heap.size+1:=by simp[Bm]
          rw[e1,Bm]at h;refine⟨{w with heap:=(w.heap.push (.deferred (some []))).push (.loop {state:=.ready,pending:=none,fn,tmps:=a.tmps,params:=ps,assign,body,defers:=w.heap.size})},w.heap.size+1,[{target:=.collected w.heap.size,args:=#[]}],w.heap.size,?_,?_,?_,trivial,?_,?_⟩
          ·simp only[Instr.enterLoop,newObj,Sem.run_bind,Sem.run,Sem.run_pure,Result.andThen_ok,Array.size_push]
          ·exact(xy w (.deferred (some []))).trans (xy _ _)
          ·exact PX aA
          · intro w2 Kf;have aHH:w2.heap[w.heap.size]? =some (.deferred (some [])):=Kf.2.2.2.2 _ _ (by simp[Array.getElem?_push])
            obtain⟨⟨rs,h1,h2,h3⟩,h4,h5⟩:=hm;have asK:=((xy w (.deferred (some []))).trans (xy _ _)).trans Kf;refine⟨⟨w.heap.size::rs,by simp[h1],?_,?_⟩,h4,λe=>by simp only[jZ,e]at hT;cases hT⟩
            ·grind[List.nodup_cons,Array.getElem?_eq_some_iff]
            · intro x hx;rcases mB.1 hx with rfl|hx
              ·simp[*]
              ·exact⟨(h3 x hx).1,asK.2.2.2.2 x _ (h3 x hx).2⟩
          · have e2:aT {w with heap:=(w.heap.push (.deferred (some []))).push (.loop {state:=.ready,pending:=none,fn,tmps:=a.tmps,params:=ps,assign,body,defers:=w.heap.size})}=
                ((aT w).push (.deferred none)).push (.loop {state:=.ready,pending:=none,fn,tmps:=a.tmps,params:=ps,assign,body,defers:=w.heap.size}):=by simp[aT,uC]
            rw[e2];exact h
        | some l0=>
          simp only[DM]at h;split at h
          · rename_i r0 Gq
            have asR:=RX Gq;rw[Bm]at h;refine⟨{w with heap:=w.heap.push (.loop {state:=.ready,pending:=none,fn,tmps:=a.tmps,params:=ps,assign,body,defers:=r0.defers})},w.heap.size,[],r0.defers,?_,?_,?_,trivial,?_,?_⟩
            ·simp only[Instr.enterLoop,FB asR,newObj,Sem.run_bind,Sem.run,Sem.run_pure,Result.andThen_ok]
            ·exact xy w _
            ·simp
            ·intro w2 Kf;exact hm.vX ⟨rfl,λ_ _=>rfl⟩ ((xy w _).trans Kf)
            ·rw[Kl];exact h
          ·exact h.elim
      unfold uo at Bt;split at Bt
      · rename_i gi first captured _
        cases fu:jV P gi with
        |false=>rw[fu]at Bt;exact Bt.elim
        | true=>
          rw[fu,lH]at Bt;have hc:=Bt w1 rfl;have e2:(first.toList++[Value.func (.yield l) #[] #[]]++captured.toList).toArray=first++#[Value.func (.yield l) #[] #[]]++captured:=aA
          rw[e2]at hc;have Kh:(callFunc gi (first++#[.func (.yield l) #[] #[]]++captured)).run P w1=.ok (.enter gi (first++#[.func (.yield l) #[] #[]]++captured)) w1:=by
            unfold jV at fu;split at fu
            · rename_i fn' hf
              simp only[dm,tS]at fu;obtain⟨GJ,Bu⟩:=fu;have h1:¬fn'.name="runtime.NumGoroutine":=by simpa using Bu
              have h2:¬fn'.body=none:=by intro Kr;simp[Kr]at GJ
              simp only[callFunc,program,Sem.run_bind,Sem.run,Result.andThen_ok,hf];simp[h1,h2]
            ·cases fu
          refine⟨l,mark,w1,{target:=.fn (.func gi) captured,args:=first++#[.func (.yield l) #[] #[]]},w1,gi,_,w1,ato,?_,λ_ _=>trivial,Kh,λhx=>by simp at hx,?_⟩
          · have e3:(#[Operand.const (.func (.yield l) #[] #[])]:Array Operand).map a.eval=#[Value.func (.yield l) #[] #[]]:=by apply tR;simp;rfl
            simp only[resolve,Gz,e3,Deferred.ofValue,Sem.run_pure]
          · refine(adV hc).mono ?_;rintro e w3 ⟨Ke,he⟩;cases e with
            |outgrown=>exact he.elim
            |panicked ch=>exact⟨hmk w3 Ke,hs1.trans Ke,he⟩
            | returned v=>
              simp only[zM]at he;split at he
              · rename_i r3 hr3
                obtain⟨si,hk⟩:=he;have acp:=RX hr3;have zI:=Pp (y:={r3 with state:=.exhausted}) acp
                have Kh:=aor (P:=P) acp si;have Km:=hmk _ (Ke.trans zI);have Kg:=(hs1.trans Ke).trans zI;have SC:=Kk (w:=w3) (l:=l) (o:=.loop {r3 with state:=.exhausted})
                obtain⟨W4,hW4⟩:∃W4:World,W4={w3 with heap:=w3.heap.setIfInBounds l (.loop {r3 with state:=.exhausted})}:=⟨_,rfl⟩
                rw[<-hW4]at Kh Km Kg SC;rw[show uC (.loop {r3 with state:=.exhausted})=.loop {r3 with state:=.exhausted}from rfl]at SC
                rw[<-SC]at hk;refine⟨r3.pending,W4,Kh,?_⟩;have xT:eC cW {a with defers:=mark++a.defers}:=⟨pe.len,pe.val⟩
                have zK:=hk;cases hp:r3.pending with
                |none=>rw[hp]at zK;exact⟨Km,Kg,cW,xT,zK⟩
                | some c=>
                  rw[hp]at zK;cases c with
                  |ret=>exact wpIn_ret ⟨Km,Kg,cW,xT,zK⟩
                  |exit id=>exact wpIn_exit ⟨Km,Kg,cW,xT,zK⟩
                  |_=>exact zK.elim
              ·exact he.elim
      ·exact Bt.elim
    ·exact h.elim
  |_=>intro hT Q Kp fr a w ha hm hn h;exact h.elim
def lC(P:Program):List ResultVar->Fr->Hp->(List Value->Prop)->Prop
  |[],_,_,K=>K []
  |.tmp t::rs,fr,h,K=>match fr.getD t none with|some v=>lC P rs fr h λvs=>K (v::vs)|none=>False
  | .cell t ty::rs,fr,h,K=>match fr.getD t none with
    |some (.pointer (some a))=>mQ P ty h a λv=>lC P rs fr h λvs=>K (v::vs)
    |_=>False
def mO(vs:bg):Value:=match vs with|[v]=>v|vs=>.tuple vs.toArray
def mM(P:Program)(rs:List ResultVar)(zs:bg)(Kv:de):Qt:=λe fr h=>
 match e with
 |.normal=>lC P rs fr h λvs=>nN zs (mO vs) λv=>Kv v h
 |.ret=>lC P rs fr h λvs=>nN zs (mO vs) λv=>Kv v h
 |_=>False
def JD(tmps:Array Value):ResultVar->Sem Value
 |.tmp t=>pure (tmps.getD t undef)
 |.cell ad t=>do loadVar t (<-asAddr (tmps.getD ad undef))
theorem aoh(j:∀i v,fr.getD i none=some v->a.tmps.getD i undef=v):∀{b:List ResultVar}{K:List Value->Prop},lC P b fr (aT w) K->
    ∃vs,vs.length=b.length/\(b.mapM (JD a.tmps)).run P w=.ok vs w/\K vs:=by
  intro b
  induction b with
  |nil=>intro K h;exact⟨[],rfl,aA,h⟩
  | cons x b g=>
    intro K h;cases x with
    | tmp t=>
      simp only[lC]at h;split at h
      · rename_i v c
        obtain⟨vs,hl,d,e⟩:=g h;refine⟨v::vs,by simp[hl],?_,e⟩
        simp only[Va,JD,Sem.run_bind,Sem.run_pure,Result.andThen_ok,d,j _ _ c]
      grind
    | cell t ty=>
      simp only[lC]at h;split at h
      · rename_i k c
        obtain⟨v,f,h⟩:=aaa h;obtain⟨vs,hl,d,e⟩:=g h;refine⟨v::vs,by simp[hl],?_,e⟩
        simp only[Va,JD,Sem.run_bind,Sem.run_pure,Result.andThen_ok,d,j _ _ c,asAddr,f]
      grind
theorem Fz{fn:Func}{K:List Value->Prop}(ha:∀i v,fr.getD i none=some v->a.tmps.getD i undef=v)(h:lC P fn.results.toList fr (aT w) K):∃vs,(results fn a.tmps).run P w=.ok (mO vs) w/\K vs:=by
 obtain⟨vs,hl,hr,hk⟩:=aoh ha h;refine⟨vs,?_,hk⟩;have e:results fn a.tmps=(do let vs <-fn.results.mapM (JD a.tmps);pure (if h:vs.size=1 then vs[0]else .tuple vs)):=by
  unfold results
  congr 1
 rw[e,<-Array.toArray_toList (xs:=fn.results),List.mapM_toArray];simp only[map_eq_pure_bind,Sem.run_bind,hr]
 congr 1
 match vs with
 |[]=>simp[mO]
 |[v]=>simp[mO]
 |v::u::vs=>simp[mO]
theorem Z8(h:w.heap[n]? =some (.deferred (some []))):(Instr.takeDeferred n).run P w=.ok [] {w with heap:=w.heap.setIfInBounds n (.deferred none)}:=by
 simp[Instr.takeDeferred,getObj,setObj,Sem.run,h]
theorem Ki(h:w.heap[n]? =some (.deferred (some []))):aT {w with heap:=w.heap.setIfInBounds n (.deferred none)}=aT w:=by
 rw[Kk];apply Al;intro i;rw[vg];split
 ·rename_i e
  subst e;split
  ·rw[FT,h];rfl
  simp[*]
 ·rfl
theorem abD{m:Func}{Z:Array Value}{W:World}{R:Ending->World->Prop}{u:FrameMode}(q:u≠.run)(A:W.heap.size=n)(X:World->Prop)
    (s:∀w,X w->LeavesInM (Fc none) 0 P m Z R [] u w) (p:∀w x,cE W w->n<=x->w.heap[x]? =some (.deferred (some []))->X w->X {w with heap:=w.heap.setIfInBounds x (.deferred none)}):∀(g:cG)(w:World),cE W w->g.Nodup->(∀x∈g,n<=x/\w.heap[x]? =some (.deferred (some [])))->X w->
      LeavesInM (Fc none) 0 P m Z R (g.map λx=>{target:=.collected x,args:=#[]}) u w:=by
  intro g
  induction g with
  |nil=>grind
  | cons x g o=>
    intro w a f c i;obtain⟨j,h⟩:=c x aA;refine⟨q,.inl ⟨x,_,rfl,Z8 h,(o _ ?_ (List.nodup_cons.1 f).2 ?_ (p w x a j h i))⟩⟩
    · refine⟨a.1,a.2.1,a.2.2.1,bU,λb d l=>?_⟩
      have z:=(kS.1 l).1;simp only[vg];rw[ay];exact a.2.2.2.2 b d l
    grind
theorem To{L:fS}{D:Nat->Array Oper->(Fr->HP)->PK->Fr->HP}(U:vr P none D){f:FuncId}{q:Func}{c:Code}{zs:bg}{args:bg}{h:Hp}
    {y:de} {z:PK} (S:P.funcs[f]? =some q) (T:q.body=some c)
    (H:fV P L D none c (mM P q.results.toList zs y) z (args.map some++List.replicate (q.ntmps-args.length) none) h):dP P f args h (λv V=>gO zs v λu=>y u V) z:=by
  intro w N;subst N;have:=callsIn_of_wp_marks (F:=Fc none) (n:=0) (args:=args.toArray) (w:=w) (R:=λe j=>cE w j/\match e with
    |.returned v=>gO zs v λu=>y u (aT j)
    |.panicked J=>z J (aT j)
    |.outgrown=>False) S T trivial ?_ rfl
  ·exact(callsIn_wide).1 this
  · apply wpIn_mono (xx U w.heap.size [] [] false c (TO c) _ z _ _ w (eC.start args q.ntmps []) ⟨⟨[],rfl,aA,aA⟩,aA,aA⟩ (bP _) H)
    rintro e K j ⟨O,I,t⟩;obtain⟨⟨M,m,B,A⟩,_⟩:=O;rw[oH]at m;have g:∀i x,cE w i->w.heap.size<=x->cE w {i with heap:=i.heap.setIfInBounds x (.deferred none)}:=by
      intro i x a G;refine⟨a.1,a.2.1,a.2.2.1,by simpa using a.2.2.2.1,λb d C=>?_⟩
      have W:=(kS.1 C).1;simp only[vg];rw[ay];exact a.2.2.2.2 b d C
    have fin:∀fr,eC fr K->(lC P q.results.toList fr (aT j) λvs=>nN zs (mO vs) λv=>y v (aT j))->
        LeavesInM (Fc none) 0 P q K.tmps (λe j=>cE w j/\match e with
          |.returned v=>gO zs v λu=>y u (aT j)
          |.panicked J=>z J (aT j)
          |.outgrown=>False) K.defers .returning j:=by
      intro fr p o;rw[m];refine abD aA rfl (λi=>cE w i/\aT i=aT j) ?_ ?_ M j I B A ⟨I,rfl⟩
      ·rintro i ⟨a,k⟩;rw[<-k]at o;obtain⟨vs,E,Q⟩:=Fz p.val o;exact⟨_,E,a,FH Q⟩
      ·grind[Ki]
    cases e with
    |normal=>obtain⟨fr,p,o⟩:=t;exact fin fr p o
    |ret=>obtain⟨fr,p,o⟩:=t;exact fin fr p o
    | panic J=>
      show LeavesInM _ _ _ _ _ _ K.defers _ _
      rw[m];refine abD aA rfl (λi=>cE w i/\aT i=aT j) ?_ ?_ M j I B A ⟨I,rfl⟩
      ·rintro i ⟨a,k⟩;exact⟨a,dM⟩
      grind[Ki]
    |exit id=>obtain⟨fr,p,o⟩:=t;exact o.elim
    |goto l=>obtain⟨fr,p,o⟩:=t;exact o.elim
    |outgrown=>exact t.elim
end Go.Sh
