import Derived.Test.YtbahbhkogflhbaaGreatDoorMakesShSound
import Derived.RangeFuncLeaves
set_option linter.all false
namespace Go.Sh
variable {fr:Fr} {a:Act} {n l:Nat} {w:World} {Q:Exit->Act->World->Prop} {N:cU} {x:Loop}
variable {P:Program}
structure eI(fr:Fr)(a:Act):Prop where
 len:fr.length<=a.tmps.size
 val:∀i v,fr.getD i none=some v->a.tmps.getD i undef=v
theorem eI.ev(h:eI fr a):∀x v,ev fr x=some v->a.eval x=v:=by
 intro x v b;cases x with
 |tmp t=>exact h.val t v b
 |const c=>simp only[Sh.ev,mF]at b;exact b
 |global g=>simp only[Sh.ev,mF]at b;exact b
 |func f=>simp only[Sh.ev,mF]at b;exact b
theorem eI.set(h:eI fr a)(t:Nat){v':Option Value}{v:Value}(d:∀x,v'=some x->v=x):eI (fr.set t v') {a with tmps:=a.tmps.setIfInBounds t v}:=by
 refine⟨by simp[h.len],λi x b=>?_⟩
 have hl:=h.len
 by_cases e:i=t
 ·subst e;have c:i<fr.length:=by
   apply yD;intro f;rw[gV,List.getElem?_set_self',IF ag]at b;simp at b
  rw[gV,yC c]at b;have:=d x (by simpa using b)
  simp[show i<a.tmps.size by omega,this]
 ·rw[gV,yB ag]at b;have:=h.val i x dG
  rw[tR]at this ⊢;grind
theorem eI.aok(h:eI fr a)(t:Nat){d:Option Value}(e:∀x,d=some x->a.tmps.getD t undef=x):eI (fr.set t d) a:=by
 refine⟨by simp[h.len],λi x b=>?_⟩
 by_cases f:i=t
 ·grind
 ·rw[gV,yB ag]at b;exact h.val i x dG
theorem eI.put(h:eI fr a)(d:Option Nat){v':Option Value}{v:Value}(b:∀x,v'=some x->v=x):eI (gW fr d v') (a.put d v):=by
 cases d with
 |none=>exact h
 |some t=>exact h.set t b
theorem eI.forget(h:eI fr a)(d:cU):eI (forget d fr) a:=by
  refine⟨by simp[Sh.forget,h.len],λi x b=>h.val i x ?_⟩
  simp only[Sh.forget,gV]at b ⊢;grind
theorem eI.find(h:eI fr a)(k:Nat):∀b:fX,eI (b.find k fr) a:=by
  intro b
  induction b with
  |nil=>exact h
  | cons x r d=>
    obtain⟨j,c⟩:=x;unfold fX.find;cases(j==k)
    ·exact d
    ·exact h.forget c
theorem eI.start(a:bq)(n:Nat)(ds:List Deferred):eI (a.map some++List.replicate (n-a.length) none) {tmps:=a.toArray++Array.replicate (n-a.toArray.size) undef,defers:=ds}:=by
 refine⟨aA,λi v b=>?_⟩
 rw[gV]at b
 by_cases c:i<a.length
 ·simp_all[gN,dG,MI]
 grind
theorem aeu{r:Option Nat}{f:FuncId}{Z:Array Value}{R:Ending->World->Prop}(h:Calls P f Z w R):CallsIn (Fc r) n P f Z w R:=
 (callsIn_wide).2 h
variable {r:Option Nat}
theorem alU{o:Oper}{K:Option Value->HP}{u:PK}{m:Result Next}{next:Act->World->Prop}
  (i:sQ P K u w m) (hN:∀v k d,(∀x,k=some x->v=x)->cG w d->K k (aU d)->next (a.put o.dst v) d)
  (q:∀p d,cG w d->u p (aU d)->Q (.panic p) a d):o.uponIn (Fc r) 0 P a next Q m:=by
 unfold sQ at i;split at i
 ·obtain⟨b,k,l,g⟩:=i;exact hN _ _ _ l b g
 ·obtain⟨b,g⟩:=i;exact hN undef none _ (λ_ h=>by cases h) b g
 ·rename_i f y d
  obtain⟨b,A⟩:=i;refine⟨λh=>by simp at h,((aeu (by simpa using(A d rfl))).mono ?_)⟩
  rintro e s ⟨c,j⟩;cases e with
  |returned v=>obtain⟨k,l,g⟩:=j;exact hN _ _ _ l (b.trans c) g
  |panicked p=>exact q _ _ (b.trans c) j
  |outgrown=>exact j.elim
 ·obtain⟨b,z⟩:=i;refine⟨λh=>by simp at h,?_⟩
  have t:=z;apply t.mono;rintro e s ⟨c,j⟩;cases e with
  |returned v=>obtain⟨k,l,g⟩:=j;exact hN _ _ _ l (b.trans c) g
  |panicked p=>exact q _ _ (b.trans c) j
  |outgrown=>exact j.elim
 ·obtain⟨b,g⟩:=i;exact q _ _ b g
 ·exact i.elim
def wO(r:Option Nat)(P:Program)(ops:Array Oper)(i:Nat)(next:Act->World->Prop)(Q:Exit->Act->World->Prop)(a:Act)(w:World):Prop:=
 match ops[i]? with
 |none=>next a w
 | some o=>if Region.wanted o (yielded ops a.tmps)then o.wpIn (Fc r) 0 P a w next Q
   else(∀f,o.about P w a.eval=some f->True)/\next (a.put o.dst undef) w
theorem wpOpsIn_cons(b:Array Oper)(Q:Exit->Act->World->Prop)(i:Nat)(l:cU)(a:Act)(w:World):wpOpsIn (Fc r) 0 P b Q (i::l) a w=wO r P b i (wpOpsIn (Fc r) 0 P b Q l) Q a w:=by
 unfold wO;simp only[wpOpsIn];grind
theorem aby{o:Oper}{K:Option Value->HP}{f:PK}{next:Act->World->Prop}
  (j:eI fr a) (h:iQ P o.op o.type (ev fr) K f (aU w)) (hN:∀v d b,(∀x,d=some x->v=x)->cG w b->K d (aU b)->next (a.put o.dst v) b)
  (k:∀e b,cG w b->f e (aU b)->Q (.panic e) a b):o.wpIn (Fc r) 0 P a w next Q:=by
 refine⟨λ_ _=>trivial,?_⟩;have g:∀c,o.op≠.defer c:=by
  intro c i;rw[i]at h;exact h
 rw[show(Fc r).round=r from rfl,Oper.semAt_eq r a.eval o g];exact alU (aos j.ev h) hN k
theorem akX{b:Array Oper}{j d:Nat}{c:Bool}(h:eI fr a)(i:(b[j]?).bind (·.dst)=some d)(e:fr.getD d none=some (.bool c)):yielded b a.tmps j=some c:=by
 have f:=h.val d _ e;have g:d<a.tmps.size:=by
  apply yD;intro l;have:fr.getD d none=none:=by
   rw[gV,IF (by have:=h.len;omega)];rfl
  rw[this]at e;cases e
 have k:a.tmps[d]? =some (.bool c):=by
  rw[tR]at f;rw[AD g]at f⊢
  simpa using f
 simp[yielded,i,k]
def Kd(T:cU)(a a':Act):Prop:=a'.defers=a.defers/\∀t∈T,a'.tmps.getD t undef=a.tmps.getD t undef
theorem Kd.refl(T:cU)(a:Act):Kd T a a:=⟨rfl,λ_ _=>rfl⟩
abbrev yo:=@Kd.refl
theorem Kd.trans{T:cU}{b c:Act}(y:Kd T b c)(x:Kd T a b):Kd T a c:=⟨y.1.trans x.1,λt d=>(y.2 t d).trans (x.2 t d)⟩
def E7(T:cU)(ops:Array Oper):Prop:=∀(i:Nat)(o:Oper)(t:Nat),ops[i]? =some o->o.dst=some t->t∉T
theorem Kd.put{d:Option Nat}{v:Value}(h:∀t,d=some t->t∉N):Kd N a (a.put d v):=by
  cases d with
  |none=>exact yo N a
  | some t=>
    refine⟨rfl,λu b=>?_⟩;have:t≠u:=bZ;simp only[Act.put];simp[*]
def zE(T:cU)(ops:Array Oper):Bool:=ops.toList.all λo=>match o.dst with|some t=>!T.contains t|none=>true
theorem abw{a:Array Oper}(h:zE N a=true):E7 N a:=by
 intro i o t b c;unfold zE at h;grind
def j0(T:cU)(nr:Bool):Code->Bool
 |.region _ ops _=>zE T ops
 |.seq x y=>j0 T nr x&&j0 T nr y
 |.cond _ x y=>j0 T nr x&&j0 T nr y
 |.block _ x=>j0 T nr x
 |.loop x=>j0 T nr x
 |.rangeFunc ..=>!nr
 |_=>true
theorem aqH(a:Array Oper):zE [] a=true:=by
 unfold zE;grind
theorem Um:∀c:Code,j0 [] false c=true:=by
 intro c
 induction c with
 |region id d e=>exact aqH d
 |seq x y b a=>simp[j0,b,a]
 |cond c x y b a=>simp[j0,b,a]
 |block id x h=>exact h
 |loop x h=>exact h
 |_=>rfl
theorem FX{T:cU}{l:Array Oper}{i:Nat}{K:Fr->HP}{L:PK}{next:Act->World->Prop}
  (hT:E7 T l) (p:eI fr a) (h:vK P l i K L fr (aU w)) (hN:∀cY A e,eI cY A->Kd T a A->cG w e->K cY (aU e)->next A e)
  (N:∀z A e,Kd T a A->cG w e->L z (aU e)->Q (.panic z) A e):wO r P l i next Q a w:=by
 unfold vK at h;unfold wO;have k:∀(d:Option Nat)(v:Value),(∀t,d=some t->t∉T)->Kd T a (a.put d v):=λd v h=>Kd.put h;split at h
 ·grind[Kd.refl,cG.refl]
 ·rename_i o u
  simp only[u];split at h
  ·rename_i C
   have G:Region.wanted o (yielded l a.tmps)=true:=by simp[Region.wanted,C]
   rw[aK G];exact aby p h (λv O e H s y=>hN _ _ e (p.put o.dst H) (k _ _ λt=>hT i o t u) s y) (λz e s y=>N z a e (yo T a) s y)
  ·rename_i j b C
   split at h
   ·rename_i d M
    split at h
    ·rename_i c D
     have F:=akX p M D;have G:Region.wanted o (yielded l a.tmps)=(c==b):=by simp[Region.wanted,C,F]
     have n:∀g,c=g->eI (fr.set d (some (.bool g))) a:=by
      intro g m;subst m;exact p.aok d (λx q=>by cases q;exact p.val d _ D)
     rw[G];have B:∀g,c=g->iQ P o.op o.type (ev (fr.set d (some (.bool g)))) (λv S=>K (gW (fr.set d (some (.bool g))) o.dst v) S) L (aU w)->o.wpIn (Fc r) 0 P a w next Q:=by
      intro g m I;exact aby (n g m) I (λv O e H s y=>hN _ _ e ((n g m).put o.dst H) (k _ _ λt=>hT i o t u) s y) (λz e s y=>N z a e (yo T a) s y)
     have skip:∀g,c=g->K (gW (fr.set d (some (.bool g))) o.dst (some undef)) (aU w)->(∀f,o.about P w a.eval=some f->True)/\next (a.put o.dst undef) w:=by
      intro g m I;exact⟨λ_ _=>trivial,hN _ _ w ((n g m).put o.dst (λ_ q=>by cases q;rfl)) (k _ _ λt=>hT i o t u) (kg w) I⟩
     cases c <;> cases b <;> simp only[If,iD]at h
     all_goals simp[*]
    ·rename_i R D
     have J:=p.val d _ D;have F:yielded l a.tmps j=none:=by
      have E:a.tmps[d]? =none\/a.tmps[d]? =some (.tuple R):=by
       rw[tR]at J;cases q:a.tmps[d]? with
       |none=>simp
       |some x=>grind
      rcases E with E|E <;> simp[yielded,M,E]
     rw[aC (by simp[Region.wanted,C,F])]
     exact⟨λ_ _=>trivial,hN _ _ w (p.put o.dst (λ_ q=>by cases q;rfl)) (k _ _ λt=>hT i o t u) (kg w) h⟩
    ·exact h.elim
   ·exact h.elim
theorem eI.at(h:eI fr a)(k:Nat){K:Fr->Prop}:∀{bY:fX},bY.at k fr K->∃cY,eI cY a/\K cY:=by
  intro bY
  induction bY with
  |nil=>exact λb=>⟨fr,h,b⟩
  | cons x r d=>
    obtain⟨j,c⟩:=x;unfold fX.at;cases(j==k)
    ·exact d
    ·exact λb=>⟨_,h.forget c,b.h⟩
theorem eI.next(h:eI fr a){K:Fr->Prop}{d:fX}{l:cU}(c:d.next l fr K):∃cY,eI cY a/\K cY:=by
 unfold fX.next at c;split at c
 ·grind
 ·exact h.at _ c
theorem aoq{z:fX}{d:Array Oper}(hT:E7 N d):∀{l:cU}{fr:Fr}{a:Act}{K:Fr->HP}{o:PK}{w:World}{Q:Exit->Act->World->Prop},
    eI fr a->FZ P z d l K o fr (aU w)->(∀cY c b,eI cY c->Kd N a c->cG w b->K cY (aU b)->Q .normal c b)->
    (∀n c b,Kd N a c->cG w b->o n (aU b)->Q (.panic n) c b)->wpOpsIn (Fc r) 0 P d Q l a w:=by
  intro l
  induction l with
  |nil=>intro fr a K o w Q p h hN q;exact hN fr a w p (yo N a) (kg w) h
  | cons i l A=>
    intro fr a K o w Q p h hN q;rw[wpOpsIn_cons];refine FX hT p h (λcY c b u x v B=>?_) q;obtain⟨C,t,s⟩:=u.next B;exact A t s (λy k j m g e f=>hN _ _ _ m (g.trans x) (v.trans e) f) (λn k j g e f=>q n k j (g.trans x) (v.trans e) f)
def vr(P:Program)(r:Option Nat)(D:Nat->Array Oper->(Fr->HP)->PK->Fr->HP):Prop:=
 ∀T id ops K Kp fr a w Q,E7 T ops->eI fr a->D id ops K Kp fr (aU w)->(∀cY a' w',eI cY a'->Kd T a a'->cG w w'->K cY (aU w')->Q .normal a' w')->
  (∀ch a' w',Kd T a a'->cG w w'->Kp ch (aU w')->Q (.panic ch) a' w')->(Code.region id ops true).wpIn (Fc r) 0 P Q a w
def Marks(n0:Nat)(ds:List Deferred)(tv:List (Nat×Value))(nr:Bool)(a:Act)(w:World):Prop:=
 (∃rs:List Nat,a.defers=(rs.map λx=>{target:=.collected x,args:=#[]})++ds/\rs.Nodup/\∀x∈rs,n0<=x/\w.heap[x]? =some (.deferred (some [])))/\(∀x∈tv,a.tmps.getD x.1 undef=x.2)/\(nr=true->a.defers=ds)
theorem Marks.vW{ds:List Deferred}{c:List (Nat×Value)}{B:Bool}{g:Act}{W:World}(h:Marks n ds c B a w)(d:Kd (c.map (·.1)) a g)(j:cG w W):Marks n ds c B g W:=by
 obtain⟨⟨i,o,m,f⟩,l,k⟩:=h;exact⟨⟨i,d.1.trans o,m,λx b=>⟨(f x b).1,j.2.2.2.2 x _ (f x b).2⟩⟩,λx b=>(d.2 _ (List.mem_map_of_mem b)).trans (l x b),λe=>d.1.trans (k e)⟩
def QL(Q:Qt)(Kp:PK)(n0:Nat)(ds:List Deferred)(tv:List (Nat×Value))(nr:Bool)(w0:World):Exit->Act->World->Prop:=λe a w=>
 Marks n0 ds tv nr a w/\cG w0 w/\match e with
  |.panic ch=>Kp ch (aU w)
  |.outgrown=>False
  |e=>∃fr,eI fr a/\Q e fr (aU w)
theorem least(p:aQ)(h:∃n,p n):∃n,p n/\∀m,m<n->¬p m:=by
  obtain⟨n,e⟩:=h
  induction n using Nat.strongRecOn with
  | _ n d=>
    grind
theorem Qy{h:Array Obj}{o:Obj}(a:n=h.size):(h.push o)[n]? =some o:=dG
theorem Sx(h:(aU w)[l]? =some (.loop x)):w.heap[l]? =some (.loop x):=by
 rw[Gp]at h;cases a:w.heap[l]? with
 |none=>simp[a]at h
 |some o=>cases o <;> simp[a,uD]at h ⊢;exact h
theorem K3{o:Obj}:aU {w with heap:=w.heap.setIfInBounds l o}=(aU w).setIfInBounds l (uD o):=by
 apply wH;intro i;simp only[aU,Cq];grind
theorem P7{y:Loop}(h:w.heap[l]? =some (.loop x)):cG w {w with heap:=w.heap.setIfInBounds l (.loop y)}:=by
 refine⟨rfl,rfl,rfl,aA,λb ds a=>?_⟩
 grind
theorem F8(h:w.heap[l]? =some (.loop x)):(Instr.getLoop l).run P w=.ok x w:=by
 simp[Instr.getLoop,getObj,Sem.run,h]
theorem Qb{y:Loop}(h:w.heap[l]? =some (.loop x)):(setObj l (.loop y)).run P w=.ok () {w with heap:=w.heap.setIfInBounds l (.loop y)}:=by
 simp[setObj,Sem.run,h]
theorem ao8(h:w.heap[l]? =some (.loop x))(a:x.state≠.busy):(Instr.endLoop l).run P w=.ok x.pending {w with heap:=w.heap.setIfInBounds l (.loop {x with state:=.exhausted})}:=by
 have b:(x.state==.busy)=false:=by simpa using a
 simp only[Instr.endLoop,Sem.run_bind,F8 h,Result.andThen_ok,b,mG,lN,Sem.run_pure,Qb h]
theorem xd{bY:fX}{D:Nat->Array Oper->(Fr->HP)->PK->Fr->HP}(hD:vr P r D)(n0:Nat)(ds:List Deferred)(tv:List (Nat×Value))(nr:Bool)(c:Code):j0 (tv.map (·.1)) nr c=true->∀(Q:Qt)(Kp:PK)(fr:Fr)(a:Act)(w:World),eI fr a->Marks n0 ds tv nr a w->n0<=w.heap.size->fZ P bY D r c Q Kp fr (aU w)->c.wpIn (Fc r) 0 P (QL Q Kp n0 ds tv nr w) a w:=by
  have trans:∀{Q:Qt}{Kp:PK}{w w':World},cG w w'->∀e x y,QL Q Kp n0 ds tv nr w' e x y->QL Q Kp n0 ds tv nr w e x y:=by
    rintro Q Kp w w' hs e x y ⟨h1,h2,h3⟩;exact⟨h1,hs.trans h2,h3⟩
  induction c with
  |skip=>intro hT Q Kp fr a w ha hm hn h;exact wpIn_skip ⟨hm,kg w,fr,ha,h⟩
  |label l=>intro hT Q Kp fr a w ha hm hn h;exact wpIn_label ⟨hm,kg w,fr,ha,h⟩
  |exit id=>intro hT Q Kp fr a w ha hm hn h;exact wpIn_exit ⟨hm,kg w,fr,ha,h⟩
  |ret=>intro hT Q Kp fr a w ha hm hn h;exact wpIn_ret ⟨hm,kg w,fr,ha,h⟩
  | region id ops draw=>
    intro hT Q Kp fr a w ha hm hn h;cases draw with
    | false=>
      exact wpIn_region (aoq (abw hT) ha h (λcY a' w' lX hd hs hk=>⟨hm.vW hd hs,hs,cY,lX,hk⟩) (λch a' w' hd hs hk=>⟨hm.vW hd hs,hs,hk⟩))
    | true=>
      exact hD _ id ops _ Kp fr a w _ (abw hT) ha h (λcY a' w' lX hd hs hk=>⟨hm.vW hd hs,hs,cY,lX,hk⟩) (λch a' w' hd hs hk=>⟨hm.vW hd hs,hs,hk⟩)
  | seq x y Ta S9=>
    intro hT Q Kp fr a w ha hm hn h;refine wpIn_seq (wpIn_mono (Ta (by simp only[j0,dw]at hT;exact hT.1) _ Kp fr a w ha hm hn h) ?_)
    rintro e a' w' ⟨hd,hs,he⟩;cases e with
    | normal=>
      obtain⟨cY,lX,hk⟩:=he;obtain⟨fr1,ha1,Tq⟩:=lX.at _ hk;exact wpIn_mono (S9 (by simp only[j0,dw]at hT;exact hT.2) Q Kp _ a' w' ha1 hd (jE hn hs.2.2.2.1) Tq) (trans hs)
    |_=>exact⟨hd,hs,he⟩
  | cond c x y Ta S9=>
    intro hT Q Kp fr a w ha hm hn h;simp only[fZ]at h;split at h
    · rename_i b hb
      refine wpIn_cond_split (ha.ev _ _ hb) (λht=>?_) (λhf=>?_)
      ·subst ht;exact Ta (by simp only[j0,dw]at hT;exact hT.1) Q Kp _ a w (ha.find _ bY) hm hn h
      ·subst hf;exact S9 (by simp only[j0,dw]at hT;exact hT.2) Q Kp _ a w (ha.find _ bY) hm hn h
    ·exact h.elim
  | block id x ih=>
    intro hT Q Kp fr a w ha hm hn h;refine wpIn_block (wpIn_mono (ih hT (Ml id Q) Kp fr a w ha hm hn h) ?_);rintro e a' w' ⟨hd,hs,he⟩;cases e with
    | exit j=>
      obtain⟨cY,lX,hk⟩:=he;simp only[Ml]at hk;simp only[Exit.inBlock];split at hk
      ·rename_i hj;rw[aK hj];exact⟨hd,hs,cY,lX,hk⟩
      ·rename_i hj;rw[aC hj];exact⟨hd,hs,cY,lX,hk⟩
    |_=>exact⟨hd,hs,he⟩
  | loop x ih=>
    intro hT Q Kp fr a w ha hm hn h
    let B:(Fr->HP)->Fr->HP:=λN fr h=>fZ P bY D r x (zi (λcY h'=>N (bY.find (iS x+2000) cY) h') Q) Kp fr h
    let p:Act->World->Nat->Prop:=λa' w' n=>∃cY,eI cY a'/\GQ B n cY (aU w')
    let I:Act->World->Prop:=λa' w'=>Marks n0 ds tv nr a' w'/\cG w w'/\∃n,p a' w' n
    have hmu:∃μ:Act->World->Nat,∀a' w',I a' w'->p a' w' (μ a' w')/\∀m,m<μ a' w'->¬p a' w' m:=by
      classical
      refine⟨λa' w'=>if hx:∃n,p a' w' n then Classical.choose (least _ hx)else 0,?_⟩
      rintro a' w' ⟨_,_,hx⟩;dsimp only;rw[dif_pos hx];grind[Classical.choose_spec,least]
    obtain⟨μ,hμ⟩:=hmu;obtain⟨m0,h0⟩:∃n,GQ B n _ _:=h;apply wpIn_loop I μ ⟨hm,kg w,m0,_,ha.find _ bY,h0⟩;rintro a' w' hI;obtain⟨⟨cY,lX,tF⟩,aIq⟩:=hμ a' w' hI;obtain⟨hd,hs,_⟩:=hI;cases hnn:μ a' w' with
    |zero=>rw[hnn]at tF;exact tF.elim
    | succ m=>
      rw[hnn]at tF;apply wpIn_mono (ih hT _ Kp cY a' w' lX hd (jE hn hs.2.2.2.1) tF);rintro e a'' Df ⟨D8,hs',he⟩;cases e with
      | normal=>
        obtain⟨Ee,adl,hk⟩:=he;have hI':I a'' Df:=⟨D8,hs.trans hs',m,_,adl.find _ bY,hk⟩;refine⟨hI',?_⟩;have:=(hμ a'' Df hI').2;apply yD;intro Hr;exact this m ag ⟨_,adl.find _ bY,hk⟩
      |_=>exact⟨D8,hs.trans hs',he⟩
  | rangeFunc g ps assign body ih1 ih2=>
    intro hT Q Kp fr a w ha hm hn h;simp only[fZ]at h;split at h
    · rename_i fv uO
      refine wpIn_rangeFunc λfn TA=>?_;have lX:=ha.find (iS assign+4000) bY;obtain⟨cY,aue⟩:∃cY,bY.find (iS assign+4000) fr=cY:=⟨_,rfl⟩;rw[aue]at lX h;have h:=h fn a.tmps ⟨lX.len,lX.val⟩;have Hr:=ha.ev _ _ uO
      -- the record is laid
      obtain⟨w1,l,mark,aec,auj,hs1,hl,hw1,hmk,BM⟩:∃(w1:World)(l:Nat)(mark:List Deferred)(aec:Nat),(Instr.enterLoop fn a.tmps ps assign body r).run P w=.ok (l,mark) w1/\cG w w1/\
          w1.heap[l]? =some (.loop {state:=.ready,pending:=none,fn,tmps:=a.tmps,params:=ps,assign,body,defers:=aec})/\True/\
          (∀w2:World,cG w1 w2->Marks n0 ds tv nr {a with defers:=mark++a.defers} w2)/\
          uq P fv [.func (.yield l) #[] #[]] (aU w1) (λ_ h'=>zY l h' λjump qu=>match jump with
            |none=>Q .normal cY qu
            |some .ret=>Q .ret cY qu
            |some (.exit id)=>Q (.exit id) cY qu
            |_=>False) Kp:=by
        cases r with
        | none=>
          simp only[En]at h;have e1:((aU w).push (.deferred none)).size=w.heap.size+1:=by simp[BH]
          rw[e1,BH]at h;refine⟨{w with heap:=(w.heap.push (.deferred (some []))).push (.loop {state:=.ready,pending:=none,fn,tmps:=a.tmps,params:=ps,assign,body,defers:=w.heap.size})},w.heap.size+1,[{target:=.collected w.heap.size,args:=#[]}],w.heap.size,?_,?_,?_,trivial,?_,?_⟩
          ·simp only[Instr.enterLoop,newObj,Sem.run_bind,Sem.run,Sem.run_pure,Result.andThen_ok,Array.size_push]
          ·exact(xe w (.deferred (some []))).trans (xe _ _)
          ·exact Qy aA
          · intro w2 KX;have aIn:w2.heap[w.heap.size]? =some (.deferred (some [])):=KX.2.2.2.2 _ _ (by simp[Array.getElem?_push])
            obtain⟨⟨rs,h1,h2,h3⟩,h4,h5⟩:=hm;have atB:=((xe w (.deferred (some []))).trans (xe _ _)).trans KX;refine⟨⟨w.heap.size::rs,by simp[h1],?_,?_⟩,h4,λe=>by simp only[j0,e]at hT;cases hT⟩
            ·grind[List.nodup_cons,Array.getElem?_eq_some_iff]
            · intro x hx;rcases mE.1 hx with rfl|hx
              ·simp[*]
              ·exact⟨(h3 x hx).1,atB.2.2.2.2 x _ (h3 x hx).2⟩
          · have e2:aU {w with heap:=(w.heap.push (.deferred (some []))).push (.loop {state:=.ready,pending:=none,fn,tmps:=a.tmps,params:=ps,assign,body,defers:=w.heap.size})}=
                ((aU w).push (.deferred none)).push (.loop {state:=.ready,pending:=none,fn,tmps:=a.tmps,params:=ps,assign,body,defers:=w.heap.size}):=by simp[aU,uD]
            rw[e2];exact h
        | some l0=>
          simp only[En]at h;split at h
          · rename_i r0 He
            have atJ:=Sx He;rw[BH]at h;refine⟨{w with heap:=w.heap.push (.loop {state:=.ready,pending:=none,fn,tmps:=a.tmps,params:=ps,assign,body,defers:=r0.defers})},w.heap.size,[],r0.defers,?_,?_,?_,trivial,?_,?_⟩
            ·simp only[Instr.enterLoop,F8 atJ,newObj,Sem.run_bind,Sem.run,Sem.run_pure,Result.andThen_ok]
            ·exact xe w _
            ·simp
            ·intro w2 KX;exact hm.vW ⟨rfl,λ_ _=>rfl⟩ ((xe w _).trans KX)
            ·rw[K4];exact h
          ·exact h.elim
      unfold uq at BM;split at BM
      · rename_i gi first captured _
        cases ff:jV P gi with
        |false=>rw[ff]at BM;exact BM.elim
        | true=>
          rw[ff,lI]at BM;have hc:=BM w1 rfl;have e2:(first.toList++[Value.func (.yield l) #[] #[]]++captured.toList).toArray=first++#[Value.func (.yield l) #[] #[]]++captured:=aA
          rw[e2]at hc;have KZ:(callFunc gi (first++#[.func (.yield l) #[] #[]]++captured)).run P w1=.ok (.enter gi (first++#[.func (.yield l) #[] #[]]++captured)) w1:=by
            unfold jV at ff;split at ff
            · rename_i fn' hf
              simp only[dw,tU]at ff;obtain⟨Hx,BO⟩:=ff;have h1:¬fn'.name="runtime.NumGoroutine":=by simpa using BO
              have h2:¬fn'.body=none:=by intro La;simp[La]at Hx
              simp only[callFunc,program,Sem.run_bind,Sem.run,Result.andThen_ok,hf];simp[h1,h2]
            ·cases ff
          refine⟨l,mark,w1,{target:=.fn (.func gi) captured,args:=first++#[.func (.yield l) #[] #[]]},w1,gi,_,w1,auj,?_,λ_ _=>trivial,KZ,λhx=>by simp at hx,?_⟩
          · have e3:(#[Operand.const (.func (.yield l) #[] #[])]:Array Operand).map a.eval=#[Value.func (.yield l) #[] #[]]:=by apply tS;simp;rfl
            simp only[resolve,Hr,e3,Deferred.ofValue,Sem.run_pure]
          · refine(aeu hc).mono ?_;rintro e w3 ⟨KW,he⟩;cases e with
            |outgrown=>exact he.elim
            |panicked ch=>exact⟨hmk w3 KW,hs1.trans KW,he⟩
            | returned v=>
              simp only[zY]at he;split at he
              · rename_i r3 hr3
                obtain⟨sk,hk⟩:=he;have ac7:=Sx hr3;have zS:=P7 (y:={r3 with state:=.exhausted}) ac7
                have KZ:=ao8 (P:=P) ac7 sk;have K5:=hmk _ (KW.trans zS);have KY:=(hs1.trans KW).trans zS;have Te:=K3 (w:=w3) (l:=l) (o:=.loop {r3 with state:=.exhausted})
                obtain⟨W4,hW4⟩:∃W4:World,W4={w3 with heap:=w3.heap.setIfInBounds l (.loop {r3 with state:=.exhausted})}:=⟨_,rfl⟩
                rw[<-hW4]at KZ K5 KY Te;rw[show uD (.loop {r3 with state:=.exhausted})=.loop {r3 with state:=.exhausted}from rfl]at Te
                rw[<-Te]at hk;refine⟨r3.pending,W4,KZ,?_⟩;have xG:eI cY {a with defers:=mark++a.defers}:=⟨lX.len,lX.val⟩
                have zU:=hk;cases hp:r3.pending with
                |none=>rw[hp]at zU;exact⟨K5,KY,cY,xG,zU⟩
                | some c=>
                  rw[hp]at zU;cases c with
                  |ret=>exact wpIn_ret ⟨K5,KY,cY,xG,zU⟩
                  |exit id=>exact wpIn_exit ⟨K5,KY,cY,xG,zU⟩
                  |_=>exact zU.elim
              ·exact he.elim
      ·exact BM.elim
    ·exact h.elim
  |_=>intro hT Q Kp fr a w ha hm hn h;exact h.elim
def lD(P:Program):List ResultVar->Fr->Hp->(List Value->Prop)->Prop
  |[],_,_,K=>K []
  |.tmp t::rs,fr,h,K=>match fr.getD t none with|some v=>lD P rs fr h λvs=>K (v::vs)|none=>False
  | .cell t ty::rs,fr,h,K=>match fr.getD t none with
    |some (.pointer (some a))=>mR P ty h a λv=>lD P rs fr h λvs=>K (v::vs)
    |_=>False
def mQ(vs:bq):Value:=match vs with|[v]=>v|vs=>.tuple vs.toArray
def mO(P:Program)(rs:List ResultVar)(zs:bq)(Kv:di):Qt:=λe fr h=>
 match e with
 |.normal=>lD P rs fr h λvs=>nZ zs (mQ vs) λv=>Kv v h
 |.ret=>lD P rs fr h λvs=>nZ zs (mQ vs) λv=>Kv v h
 |_=>False
def Kh(tmps:Array Value):ResultVar->Sem Value
 |.tmp t=>pure (tmps.getD t undef)
 |.cell ad t=>do loadVar t (<-asAddr (tmps.getD ad undef))
theorem aoY(j:∀i v,fr.getD i none=some v->a.tmps.getD i undef=v):∀{b:List ResultVar}{K:List Value->Prop},lD P b fr (aU w) K->
    ∃vs,vs.length=b.length/\(b.mapM (Kh a.tmps)).run P w=.ok vs w/\K vs:=by
  intro b
  induction b with
  |nil=>intro K h;exact⟨[],rfl,aA,h⟩
  | cons x b g=>
    intro K h;cases x with
    | tmp t=>
      simp only[lD]at h;split at h
      · rename_i v c
        obtain⟨vs,hl,d,e⟩:=g h;refine⟨v::vs,by simp[hl],?_,e⟩
        simp only[Vy,Kh,Sem.run_bind,Sem.run_pure,Result.andThen_ok,d,j _ _ c]
      grind
    | cell t ty=>
      simp only[lD]at h;split at h
      · rename_i k c
        obtain⟨v,f,h⟩:=aaD h;obtain⟨vs,hl,d,e⟩:=g h;refine⟨v::vs,by simp[hl],?_,e⟩
        simp only[Vy,Kh,Sem.run_bind,Sem.run_pure,Result.andThen_ok,d,j _ _ c,asAddr,f]
      grind
theorem F6{fn:Func}{K:List Value->Prop}(ha:∀i v,fr.getD i none=some v->a.tmps.getD i undef=v)(h:lD P fn.results.toList fr (aU w) K):∃vs,(results fn a.tmps).run P w=.ok (mQ vs) w/\K vs:=by
 obtain⟨vs,hl,hr,hk⟩:=aoY ha h;refine⟨vs,?_,hk⟩;have e:results fn a.tmps=(do let vs <-fn.results.mapM (Kh a.tmps);pure (if h:vs.size=1 then vs[0]else .tuple vs)):=by
  unfold results
  congr 1
 rw[e,<-Array.toArray_toList (xs:=fn.results),List.mapM_toArray];simp only[map_eq_pure_bind,Sem.run_bind,hr]
 congr 1
 match vs with
 |[]=>simp[mQ]
 |[v]=>simp[mQ]
 |v::u::vs=>simp[mQ]
theorem aaB(h:w.heap[n]? =some (.deferred (some []))):(Instr.takeDeferred n).run P w=.ok [] {w with heap:=w.heap.setIfInBounds n (.deferred none)}:=by
 simp[Instr.takeDeferred,getObj,setObj,Sem.run,h]
theorem K0(h:w.heap[n]? =some (.deferred (some []))):aU {w with heap:=w.heap.setIfInBounds n (.deferred none)}=aU w:=by
 rw[K3];apply wH;intro i;rw[sF];split
 ·rename_i e
  subst e;split
  ·rw[Gp,h];rfl
  simp[*]
 ·rfl
theorem aci{m:Func}{Z:Array Value}{W:World}{R:Ending->World->Prop}{u:FrameMode}(q:u≠.run)(A:W.heap.size=n)(X:World->Prop)
    (s:∀w,X w->LeavesInM (Fc none) 0 P m Z R [] u w) (p:∀w x,cG W w->n<=x->w.heap[x]? =some (.deferred (some []))->X w->X {w with heap:=w.heap.setIfInBounds x (.deferred none)}):∀(g:cU)(w:World),cG W w->g.Nodup->(∀x∈g,n<=x/\w.heap[x]? =some (.deferred (some [])))->X w->
      LeavesInM (Fc none) 0 P m Z R (g.map λx=>{target:=.collected x,args:=#[]}) u w:=by
  intro g
  induction g with
  |nil=>grind
  | cons x g o=>
    intro w a f c i;obtain⟨j,h⟩:=c x aA;refine⟨q,.inl ⟨x,_,rfl,aaB h,(o _ ?_ (List.nodup_cons.1 f).2 ?_ (p w x a j h i))⟩⟩
    · refine⟨a.1,a.2.1,a.2.2.1,bZ,λb d l=>?_⟩
      have z:=(jD.1 l).1;simp only[sF];rw[ay];exact a.2.2.2.2 b d l
    grind
theorem TW{L:fX}{D:Nat->Array Oper->(Fr->HP)->PK->Fr->HP}(U:vr P none D){f:FuncId}{q:Func}{c:Code}{zs:bq}{args:bq}{h:Hp}
    {y:di} {z:PK} (S:P.funcs[f]? =some q) (T:q.body=some c)
    (H:fZ P L D none c (mO P q.results.toList zs y) z (args.map some++List.replicate (q.ntmps-args.length) none) h):dX P f args h (λv V=>gQ zs v λu=>y u V) z:=by
  intro w N;subst N;have:=callsIn_of_wp_marks (F:=Fc none) (n:=0) (args:=args.toArray) (w:=w) (R:=λe j=>cG w j/\match e with
    |.returned v=>gQ zs v λu=>y u (aU j)
    |.panicked J=>z J (aU j)
    |.outgrown=>False) S T trivial ?_ rfl
  ·exact(callsIn_wide).1 this
  · apply wpIn_mono (xd U w.heap.size [] [] false c (Um c) _ z _ _ w (eI.start args q.ntmps []) ⟨⟨[],rfl,aA,aA⟩,aA,aA⟩ (bX _) H)
    rintro e K j ⟨O,I,t⟩;obtain⟨⟨M,m,B,A⟩,_⟩:=O;rw[qA]at m;have g:∀i x,cG w i->w.heap.size<=x->cG w {i with heap:=i.heap.setIfInBounds x (.deferred none)}:=by
      intro i x a G;refine⟨a.1,a.2.1,a.2.2.1,by simpa using a.2.2.2.1,λb d C=>?_⟩
      have W:=(jD.1 C).1;simp only[sF];rw[ay];exact a.2.2.2.2 b d C
    have fin:∀fr,eI fr K->(lD P q.results.toList fr (aU j) λvs=>nZ zs (mQ vs) λv=>y v (aU j))->
        LeavesInM (Fc none) 0 P q K.tmps (λe j=>cG w j/\match e with
          |.returned v=>gQ zs v λu=>y u (aU j)
          |.panicked J=>z J (aU j)
          |.outgrown=>False) K.defers .returning j:=by
      intro fr p o;rw[m];refine aci aA rfl (λi=>cG w i/\aU i=aU j) ?_ ?_ M j I B A ⟨I,rfl⟩
      ·rintro i ⟨a,k⟩;rw[<-k]at o;obtain⟨vs,E,Q⟩:=F6 p.val o;exact⟨_,E,a,Gd Q⟩
      ·grind[K0]
    cases e with
    |normal=>obtain⟨fr,p,o⟩:=t;exact fin fr p o
    |ret=>obtain⟨fr,p,o⟩:=t;exact fin fr p o
    | panic J=>
      show LeavesInM _ _ _ _ _ _ K.defers _ _
      rw[m];refine aci aA rfl (λi=>cG w i/\aU i=aU j) ?_ ?_ M j I B A ⟨I,rfl⟩
      ·rintro i ⟨a,k⟩;exact⟨a,dG⟩
      grind[K0]
    |exit id=>obtain⟨fr,p,o⟩:=t;exact o.elim
    |goto l=>obtain⟨fr,p,o⟩:=t;exact o.elim
    |outgrown=>exact t.elim
end Go.Sh
