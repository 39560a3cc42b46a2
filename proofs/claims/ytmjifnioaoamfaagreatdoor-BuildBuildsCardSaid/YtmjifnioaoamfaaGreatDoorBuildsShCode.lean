import Derived.Test.YtmjifnioaoamfaaGreatDoorBuildsShSound
import Derived.RangeFuncLeaves
set_option linter.all false
namespace Go.Sh
variable {fr:Fr} {a:Act} {n l:Nat} {w:World} {Q:Exit->Act->World->Prop} {N:cV} {x:Loop}
variable {P:Program}
structure eC(fr:Fr)(a:Act):Prop where
 len:fr.length<=a.tmps.size
 val:∀i v,fr.getD i none=some v->a.tmps.getD i undef=v
theorem eC.ev(h:eC fr a):∀x v,ev fr x=some v->a.eval x=v:=by
 intro x v b;cases x with
 |tmp t=>exact h.val t v b
 |const c=>simp only[Sh.ev,mS]at b;exact b
 |global g=>simp only[Sh.ev,mS]at b;exact b
 |func f=>simp only[Sh.ev,mS]at b;exact b
theorem eC.set(h:eC fr a)(t:Nat){v':Option Value}{v:Value}(d:∀x,v'=some x->v=x):
  eC (fr.set t v') {a with tmps:=a.tmps.setIfInBounds t v}:=by
 refine⟨by simp[h.len],λi x b=>?_⟩
 have hl:=h.len
 by_cases e:i=t
 ·subst e;have c:i<fr.length:=by
   apply yj;intro f;rw[gB,List.getElem?_set_self',zV ag]at b;simp at b
  rw[gB,EL c]at b;have:=d x (by simpa using b)
  simp[Array.getD,show i<a.tmps.size by omega,this]
 ·rw[gB,JI ag]at b;have:=h.val i x dH
  rw[sj]at this ⊢;grind
theorem eC.ale(h:eC fr a)(t:Nat){d:Option Value}(e:∀x,d=some x->a.tmps.getD t undef=x):eC (fr.set t d) a:=by
 refine⟨by simp[h.len],λi x b=>?_⟩
 by_cases f:i=t
 ·grind
 ·rw[gB,JI ag]at b;exact h.val i x dH
theorem eC.put(h:eC fr a)(d:Option Nat){v':Option Value}{v:Value}(b:∀x,v'=some x->v=x):eC (gO fr d v') (a.put d v):=by
 cases d with
 |none=>exact h
 |some t=>exact h.set t b
theorem eC.forget(h:eC fr a)(d:cV):eC (forget d fr) a:=by
  refine⟨by simp[Sh.forget,h.len],λi x b=>h.val i x ?_⟩
  simp only[Sh.forget,gB,fy,List.getElem?_zipIdx]at b ⊢;grind
theorem eC.find(h:eC fr a)(k:Nat):∀b:fP,eC (b.find k fr) a:=by
  intro b
  induction b with
  |nil=>exact h
  | cons x r d=>
    obtain⟨j,c⟩:=x;unfold fP.find;cases(j==k)
    ·exact d
    ·exact h.forget c
theorem eC.start(a:bg)(n:Nat)(ds:List Deferred):eC (a.map some++List.replicate (n-a.length) none) {tmps:=a.toArray++Array.replicate (n-a.toArray.size) undef,defers:=ds}:=by
 refine⟨aC,λi v b=>?_⟩
 rw[gB]at b
 by_cases c:i<a.length
 ·simp_all[iX,dH,sj,Y5,ag]
 grind
theorem ae9{r:Option Nat}{f:FuncId}{Z:Array Value}{R:Ending->World->Prop}(h:Calls P f Z w R):CallsIn (Fc r) n P f Z w R:=
 (callsIn_wide).2 h
variable {r:Option Nat}
theorem ai0{o:Oper}{K:Option Value->HP}{u:PK}{m:Result Next}{next:Act->World->Prop}
  (i:sA P K u w m) (hN:∀v k d,(∀x,k=some x->v=x)->cH w d->K k (aV d)->next (a.put o.dst v) d)
  (q:∀p d,cH w d->u p (aV d)->Q (.panic p) a d):o.uponIn (Fc r) 0 P a next Q m:=by
 unfold sA at i;split at i
 ·obtain⟨b,k,l,g⟩:=i;exact hN _ _ _ l b g
 ·obtain⟨b,g⟩:=i;exact hN undef none _ (λ_ h=>by cases h) b g
 ·rename_i f y d
  obtain⟨b,A⟩:=i;refine⟨λh=>by simp at h,((ae9 (by simpa using(A d rfl))).mono ?_)⟩
  rintro e s ⟨c,j⟩;cases e with
  |returned v=>obtain⟨k,l,g⟩:=j;exact hN _ _ _ l (b.trans c) g
  |panicked p=>exact q _ _ (b.trans c) j
  |outgrown=>exact j.elim
 ·obtain⟨b,z⟩:=i;refine⟨λh=>by simp at h,?_⟩
  have t:=z;apply t.mono;rintro e s ⟨c,j⟩;cases e with
  |returned v=>obtain⟨k,l,g⟩:=j;exact hN _ _ _ l (b.trans c) g
  |panicked p=>exact q _ _ (b.trans c) j
  |outgrown=>exact j.elim
 ·obtain⟨b,g⟩:=i;exact q _ _ b g
 ·exact i.elim
def vY(r:Option Nat)(P:Program)(ops:Array Oper)(i:Nat)(next:Act->World->Prop)(Q:Exit->Act->World->Prop)(a:Act)(w:World):Prop:=
 match ops[i]? with
 |none=>next a w
 | some o=>if Region.wanted o (yielded ops a.tmps)then o.wpIn (Fc r) 0 P a w next Q
   else(∀f,o.about P w a.eval=some f->True)/\next (a.put o.dst undef) w
theorem wpOpsIn_cons(b:Array Oper)(Q:Exit->Act->World->Prop)(i:Nat)(l:cV)(a:Act)(w:World):
  wpOpsIn (Fc r) 0 P b Q (i::l) a w=vY r P b i (wpOpsIn (Fc r) 0 P b Q l) Q a w:=by
 unfold vY;simp only[wpOpsIn];grind
theorem acr{o:Oper}{K:Option Value->HP}{f:PK}{next:Act->World->Prop}
  (j:eC fr a) (h:iL P o.op o.type (ev fr) K f (aV w)) (hN:∀v d b,(∀x,d=some x->v=x)->cH w b->K d (aV b)->next (a.put o.dst v) b)
  (k:∀e b,cH w b->f e (aV b)->Q (.panic e) a b):o.wpIn (Fc r) 0 P a w next Q:=by
 refine⟨λ_ _=>trivial,?_⟩;have g:∀c,o.op≠.defer c:=by
  intro c i;rw[i]at h;exact h
 rw[show(Fc r).round=r from rfl,Oper.semAt_eq r a.eval o g];exact ai0 (aln j.ev h) hN k
theorem ah9{b:Array Oper}{j d:Nat}{c:Bool}(h:eC fr a)(i:(b[j]?).bind (·.dst)=some d)(e:fr.getD d none=some (.bool c)):yielded b a.tmps j=some c:=by
 have f:=h.val d _ e;have g:d<a.tmps.size:=by
  apply yj;intro l;have:fr.getD d none=none:=by
   rw[gB,zV (by have:=h.len;omega)];rfl
  rw[this]at e;cases e
 have k:a.tmps[d]? =some (.bool c):=by
  rw[sj]at f;rw[zU g]at f⊢
  simpa using f
 simp[yielded,i,k]
def Kd(T:cV)(a a':Act):Prop:=a'.defers=a.defers/\∀t∈T,a'.tmps.getD t undef=a.tmps.getD t undef
theorem Kd.refl(T:cV)(a:Act):Kd T a a:=⟨rfl,λ_ _=>rfl⟩
abbrev xT:=@Kd.refl
theorem Kd.trans{T:cV}{b c:Act}(y:Kd T b c)(x:Kd T a b):Kd T a c:=⟨y.1.trans x.1,λt d=>(y.2 t d).trans (x.2 t d)⟩
def EZ(T:cV)(ops:Array Oper):Prop:=∀(i:Nat)(o:Oper)(t:Nat),ops[i]? =some o->o.dst=some t->t∉T
theorem Kd.put{d:Option Nat}{v:Value}(h:∀t,d=some t->t∉N):Kd N a (a.put d v):=by
  cases d with
  |none=>exact xT N a
  | some t=>
    refine⟨rfl,λu b=>?_⟩;have:t≠u:=bZ;simp only[Act.put];simp[*]
def zc(T:cV)(ops:Array Oper):Bool:=ops.toList.all λo=>match o.dst with|some t=>!T.contains t|none=>true
theorem acp{a:Array Oper}(h:zc N a=true):EZ N a:=by
 intro i o t b c;unfold zc at h;grind
def jX(T:cV)(nr:Bool):Code->Bool
 |.region _ ops _=>zc T ops
 |.seq x y=>jX T nr x&&jX T nr y
 |.cond _ x y=>jX T nr x&&jX T nr y
 |.block _ x=>jX T nr x
 |.loop x=>jX T nr x
 |.rangeFunc ..=>!nr
 |_=>true
theorem ano(a:Array Oper):zc [] a=true:=by
 unfold zc;grind
theorem XV:∀c:Code,jX [] false c=true:=by
 intro c
 induction c with
 |region id d e=>exact ano d
 |seq x y b a=>simp[jX,b,a]
 |cond c x y b a=>simp[jX,b,a]
 |block id x h=>exact h
 |loop x h=>exact h
 |_=>rfl
theorem HF{T:cV}{l:Array Oper}{i:Nat}{K:Fr->HP}{L:PK}{next:Act->World->Prop}
  (hT:EZ T l) (p:eC fr a) (h:uY P l i K L fr (aV w)) (hN:∀cZ A e,eC cZ A->Kd T a A->cH w e->K cZ (aV e)->next A e)
  (N:∀z A e,Kd T a A->cH w e->L z (aV e)->Q (.panic z) A e):vY r P l i next Q a w:=by
 unfold uY at h;unfold vY;have k:∀(d:Option Nat)(v:Value),(∀t,d=some t->t∉T)->Kd T a (a.put d v):=λd v h=>Kd.put h;split at h
 ·grind[Kd.refl,cH.refl]
 ·rename_i o u
  simp only[u];split at h
  ·rename_i C
   have G:Region.wanted o (yielded l a.tmps)=true:=by simp[Region.wanted,C]
   rw[aI G];exact acr p h (λv O e H s y=>hN _ _ e (p.put o.dst H) (k _ _ λt=>hT i o t u) s y) (λz e s y=>N z a e (xT T a) s y)
  ·rename_i j b C
   split at h
   ·rename_i d M
    split at h
    ·rename_i c D
     have F:=ah9 p M D;have G:Region.wanted o (yielded l a.tmps)=(c==b):=by simp[Region.wanted,C,F]
     have n:∀g,c=g->eC (fr.set d (some (.bool g))) a:=by
      intro g m;subst m;exact p.ale d (λx q=>by cases q;exact p.val d _ D)
     rw[G];have B:∀g,c=g->iL P o.op o.type (ev (fr.set d (some (.bool g)))) (λv S=>K (gO (fr.set d (some (.bool g))) o.dst v) S) L (aV w)->o.wpIn (Fc r) 0 P a w next Q:=by
      intro g m I;exact acr (n g m) I (λv O e H s y=>hN _ _ e ((n g m).put o.dst H) (k _ _ λt=>hT i o t u) s y) (λz e s y=>N z a e (xT T a) s y)
     have skip:∀g,c=g->K (gO (fr.set d (some (.bool g))) o.dst (some undef)) (aV w)->(∀f,o.about P w a.eval=some f->True)/\next (a.put o.dst undef) w:=by
      intro g m I;exact⟨λ_ _=>trivial,hN _ _ w ((n g m).put o.dst (λ_ q=>by cases q;rfl)) (k _ _ λt=>hT i o t u) (jZ w) I⟩
     cases c <;> cases b <;> simp only[If,ic]at h
     all_goals simp[*]
    ·rename_i R D
     have J:=p.val d _ D;have F:yielded l a.tmps j=none:=by
      have E:a.tmps[d]? =none\/a.tmps[d]? =some (.tuple R):=by
       rw[sj]at J;cases q:a.tmps[d]? with
       |none=>simp
       |some x=>grind
      rcases E with E|E <;> simp[yielded,M,E]
     rw[aE (by simp[Region.wanted,C,F])]
     exact⟨λ_ _=>trivial,hN _ _ w (p.put o.dst (λ_ q=>by cases q;rfl)) (k _ _ λt=>hT i o t u) (jZ w) h⟩
    ·exact h.elim
   ·exact h.elim
theorem eC.at(h:eC fr a)(k:Nat){K:Fr->Prop}:∀{bW:fP},bW.at k fr K->∃cZ,eC cZ a/\K cZ:=by
  intro bW
  induction bW with
  |nil=>exact λb=>⟨fr,h,b⟩
  | cons x r d=>
    obtain⟨j,c⟩:=x;unfold fP.at;cases(j==k)
    ·exact d
    ·exact λb=>⟨_,h.forget c,b.h⟩
theorem eC.next(h:eC fr a){K:Fr->Prop}{d:fP}{l:cV}(c:d.next l fr K):∃cZ,eC cZ a/\K cZ:=by
 unfold fP.next at c;split at c
 ·grind
 ·exact h.at _ c
theorem alk{z:fP}{d:Array Oper}(hT:EZ N d):∀{l:cV}{fr:Fr}{a:Act}{K:Fr->HP}{o:PK}{w:World}{Q:Exit->Act->World->Prop},
    eC fr a->HH P z d l K o fr (aV w)->(∀cZ c b,eC cZ c->Kd N a c->cH w b->K cZ (aV b)->Q .normal c b)->
    (∀n c b,Kd N a c->cH w b->o n (aV b)->Q (.panic n) c b)->wpOpsIn (Fc r) 0 P d Q l a w:=by
  intro l
  induction l with
  |nil=>intro fr a K o w Q p h hN q;exact hN fr a w p (xT N a) (jZ w) h
  | cons i l A=>
    intro fr a K o w Q p h hN q;rw[wpOpsIn_cons];refine HF hT p h (λcZ c b u x v B=>?_) q;obtain⟨C,t,s⟩:=u.next B;exact A t s (λy k j m g e f=>hN _ _ _ m (g.trans x) (v.trans e) f) (λn k j g e f=>q n k j (g.trans x) (v.trans e) f)
def uN(P:Program)(r:Option Nat)(D:Nat->Array Oper->(Fr->HP)->PK->Fr->HP):Prop:=
 ∀T id ops K Kp fr a w Q,EZ T ops->eC fr a->D id ops K Kp fr (aV w)->(∀cZ a' w',eC cZ a'->Kd T a a'->cH w w'->K cZ (aV w')->Q .normal a' w')->
  (∀ch a' w',Kd T a a'->cH w w'->Kp ch (aV w')->Q (.panic ch) a' w')->(Code.region id ops true).wpIn (Fc r) 0 P Q a w
def Marks(n0:Nat)(ds:List Deferred)(tv:List (Nat×Value))(nr:Bool)(a:Act)(w:World):Prop:=
 (∃rs:List Nat,a.defers=(rs.map λx=>{target:=.collected x,args:=#[]})++ds/\rs.Nodup/\∀x∈rs,n0<=x/\w.heap[x]? =some (.deferred (some [])))/\(∀x∈tv,a.tmps.getD x.1 undef=x.2)/\(nr=true->a.defers=ds)
theorem Marks.vm{ds:List Deferred}{c:List (Nat×Value)}{B:Bool}{g:Act}{W:World}(h:Marks n ds c B a w)(d:Kd (c.map (·.1)) a g)(j:cH w W):Marks n ds c B g W:=by
 obtain⟨⟨i,o,m,f⟩,l,k⟩:=h;exact⟨⟨i,d.1.trans o,m,λx b=>⟨(f x b).1,j.2.2.2.2 x _ (f x b).2⟩⟩,λx b=>(d.2 _ (List.mem_map_of_mem b)).trans (l x b),λe=>d.1.trans (k e)⟩
def QL(Q:Qt)(Kp:PK)(n0:Nat)(ds:List Deferred)(tv:List (Nat×Value))(nr:Bool)(w0:World):Exit->Act->World->Prop:=λe a w=>
 Marks n0 ds tv nr a w/\cH w0 w/\match e with
  |.panic ch=>Kp ch (aV w)
  |.outgrown=>False
  |e=>∃fr,eC fr a/\Q e fr (aV w)
theorem least(p:aR)(h:∃n,p n):∃n,p n/\∀m,m<n->¬p m:=by
  obtain⟨n,e⟩:=h
  induction n using Nat.strongRecOn with
  | _ n d=>
    grind
theorem UL{h:Array Obj}{o:Obj}(a:n=h.size):(h.push o)[n]? =some o:=dH
theorem WA(h:(aV w)[l]? =some (.loop x)):w.heap[l]? =some (.loop x):=by
 rw[Ia]at h;cases a:w.heap[l]? with
 |none=>simp[a]at h
 |some o=>cases o <;> simp[a,tT]at h ⊢;exact h
theorem NV{o:Obj}:aV {w with heap:=w.heap.setIfInBounds l o}=(aV w).setIfInBounds l (tT o):=by
 apply BS;intro i;simp only[aV,BR,uC,Px];grind
theorem Ul{y:Loop}(h:w.heap[l]? =some (.loop x)):cH w {w with heap:=w.heap.setIfInBounds l (.loop y)}:=by
 refine⟨rfl,rfl,rfl,aC,λb ds a=>?_⟩
 grind
theorem HO(h:w.heap[l]? =some (.loop x)):(Instr.getLoop l).run P w=.ok x w:=by
 simp[Instr.getLoop,getObj,Sem.run,h]
theorem Uq{y:Loop}(h:w.heap[l]? =some (.loop x)):(setObj l (.loop y)).run P w=.ok () {w with heap:=w.heap.setIfInBounds l (.loop y)}:=by
 simp[setObj,Sem.run,h]
theorem al3(h:w.heap[l]? =some (.loop x))(a:x.state≠.busy):
  (Instr.endLoop l).run P w=.ok x.pending {w with heap:=w.heap.setIfInBounds l (.loop {x with state:=.exhausted})}:=by
 have b:(x.state==.busy)=false:=by simpa using a
 simp only[Instr.endLoop,Sem.run_bind,HO h,Result.andThen_ok,b,lH,kF,Sem.run_pure,Uq h]
theorem wS{bW:fP}{D:Nat->Array Oper->(Fr->HP)->PK->Fr->HP}(hD:uN P r D)(n0:Nat)(ds:List Deferred)(tv:List (Nat×Value))(nr:Bool)(c:Code):
    jX (tv.map (·.1)) nr c=true->∀(Q:Qt)(Kp:PK)(fr:Fr)(a:Act)(w:World),eC fr a->Marks n0 ds tv nr a w->n0<=w.heap.size->fT P bW D r c Q Kp fr (aV w)->c.wpIn (Fc r) 0 P (QL Q Kp n0 ds tv nr w) a w:=by
  have trans:∀{Q:Qt}{Kp:PK}{w w':World},cH w w'->∀e x y,QL Q Kp n0 ds tv nr w' e x y->QL Q Kp n0 ds tv nr w e x y:=by
    rintro Q Kp w w' hs e x y ⟨h1,h2,h3⟩;exact⟨h1,hs.trans h2,h3⟩
  induction c with
  |skip=>intro hT Q Kp fr a w ha hm hn h;exact wpIn_skip ⟨hm,jZ w,fr,ha,h⟩
  |label l=>intro hT Q Kp fr a w ha hm hn h;exact wpIn_label ⟨hm,jZ w,fr,ha,h⟩
  |exit id=>intro hT Q Kp fr a w ha hm hn h;exact wpIn_exit ⟨hm,jZ w,fr,ha,h⟩
  |ret=>intro hT Q Kp fr a w ha hm hn h;exact wpIn_ret ⟨hm,jZ w,fr,ha,h⟩
  | region id ops draw=>
    intro hT Q Kp fr a w ha hm hn h;cases draw with
    | false=>
      exact wpIn_region (alk (acp hT) ha h (λcZ a' w' pz hd hs hk=>⟨hm.vm hd hs,hs,cZ,pz,hk⟩) (λch a' w' hd hs hk=>⟨hm.vm hd hs,hs,hk⟩))
    | true=>
      exact hD _ id ops _ Kp fr a w _ (acp hT) ha h (λcZ a' w' pz hd hs hk=>⟨hm.vm hd hs,hs,cZ,pz,hk⟩) (λch a' w' hd hs hk=>⟨hm.vm hd hs,hs,hk⟩)
  | seq x y W1 W0=>
    intro hT Q Kp fr a w ha hm hn h;refine wpIn_seq (wpIn_mono (W1 (by simp only[jX,dr]at hT;exact hT.1) _ Kp fr a w ha hm hn h) ?_)
    rintro e a' w' ⟨hd,hs,he⟩;cases e with
    | normal=>
      obtain⟨cZ,pz,hk⟩:=he;obtain⟨fr1,ha1,Xh⟩:=pz.at _ hk;exact wpIn_mono (W0 (by simp only[jX,dr]at hT;exact hT.2) Q Kp _ a' w' ha1 hd (jH hn hs.2.2.2.1) Xh) (trans hs)
    |_=>exact⟨hd,hs,he⟩
  | cond c x y W1 W0=>
    intro hT Q Kp fr a w ha hm hn h;simp only[fT]at h;split at h
    · rename_i b hb
      refine wpIn_cond_split (ha.ev _ _ hb) (λht=>?_) (λhf=>?_)
      ·subst ht;exact W1 (by simp only[jX,dr]at hT;exact hT.1) Q Kp _ a w (ha.find _ bW) hm hn h
      ·subst hf;exact W0 (by simp only[jX,dr]at hT;exact hT.2) Q Kp _ a w (ha.find _ bW) hm hn h
    ·exact h.elim
  | block id x ih=>
    intro hT Q Kp fr a w ha hm hn h;refine wpIn_block (wpIn_mono (ih hT (O8 id Q) Kp fr a w ha hm hn h) ?_);rintro e a' w' ⟨hd,hs,he⟩;cases e with
    | exit j=>
      obtain⟨cZ,pz,hk⟩:=he;simp only[O8]at hk;simp only[Exit.inBlock];split at hk
      ·rename_i hj;rw[aI hj];exact⟨hd,hs,cZ,pz,hk⟩
      ·rename_i hj;rw[aE hj];exact⟨hd,hs,cZ,pz,hk⟩
    |_=>exact⟨hd,hs,he⟩
  | loop x ih=>
    intro hT Q Kp fr a w ha hm hn h
    let B:(Fr->HP)->Fr->HP:=λN fr h=>fT P bW D r x (yU (λcZ h'=>N (bW.find (iE x+2000) cZ) h') Q) Kp fr h
    let p:Act->World->Nat->Prop:=λa' w' n=>∃cZ,eC cZ a'/\DT B n cZ (aV w')
    let I:Act->World->Prop:=λa' w'=>Marks n0 ds tv nr a' w'/\cH w w'/\∃n,p a' w' n
    have hmu:∃μ:Act->World->Nat,∀a' w',I a' w'->p a' w' (μ a' w')/\∀m,m<μ a' w'->¬p a' w' m:=by
      classical
      refine⟨λa' w'=>if hx:∃n,p a' w' n then Classical.choose (least _ hx)else 0,?_⟩
      rintro a' w' ⟨_,_,hx⟩;dsimp only;rw[dif_pos hx];grind[Classical.choose_spec,least]
    obtain⟨μ,hμ⟩:=hmu;obtain⟨m0,h0⟩:∃n,DT B n (bW.find (iE x+2000) fr) (aV w):=h;apply wpIn_loop I μ ⟨hm,jZ w,m0,_,ha.find _ bW,h0⟩;rintro a' w' hI;obtain⟨⟨cZ,pz,vu⟩,axM⟩:=hμ a' w' hI;obtain⟨hd,hs,_⟩:=hI;cases hnn:μ a' w' with
    |zero=>rw[hnn]at vu;exact vu.elim
    | succ m=>
      rw[hnn]at vu;apply wpIn_mono (ih hT _ Kp cZ a' w' pz hd (jH hn hs.2.2.2.1) vu);rintro e a'' Db ⟨DY,hs',he⟩;cases e with
      | normal=>
        obtain⟨D7,ad2,hk⟩:=he;have hI':I a'' Db:=⟨DY,hs.trans hs',m,_,ad2.find _ bW,hk⟩;refine⟨hI',?_⟩;have:=(hμ a'' Db hI').2;apply yj;intro IK;exact this m ag ⟨_,ad2.find _ bW,hk⟩
      |_=>exact⟨DY,hs.trans hs',he⟩
  | rangeFunc g ps assign body ih1 ih2=>
    intro hT Q Kp fr a w ha hm hn h;simp only[fT]at h;split at h
    · rename_i fv uf
      refine wpIn_rangeFunc λfn Xo=>?_;have pz:=ha.find (iE assign+4000) bW;obtain⟨cZ,aqG⟩:∃cZ,bW.find (iE assign+4000) fr=cZ:=⟨_,rfl⟩;rw[aqG]at pz h;have h:=h fn a.tmps ⟨pz.len,pz.val⟩;have IK:=ha.ev _ _ uf
      -- the record is laid
      obtain⟨w1,l,mark,aeR,aqL,hs1,hl,hw1,hmk,Bi⟩:∃(w1:World)(l:Nat)(mark:List Deferred)(aeR:Nat),(Instr.enterLoop fn a.tmps ps assign body r).run P w=.ok (l,mark) w1/\cH w w1/\
          w1.heap[l]? =some (.loop {state:=.ready,pending:=none,fn,tmps:=a.tmps,params:=ps,assign,body,defers:=aeR})/\True/\
          (∀w2:World,cH w1 w2->Marks n0 ds tv nr {a with defers:=mark++a.defers} w2)/\
          tK P fv [.func (.yield l) #[] #[]] (aV w1) (λ_ h'=>zw l h' λjump qk=>match jump with
            |none=>Q .normal cZ qk
            |some .ret=>Q .ret cZ qk
            |some (.exit id)=>Q (.exit id) cZ qk
            |_=>False) Kp:=by
        cases r with
        | none=>
          simp only[Ei]at h;have e1:((aV w).push (.deferred none)).size=w.heap.size+1:=by simp[Bd]
          rw[e1,Bd]at h;refine⟨{w with heap:=(w.heap.push (.deferred (some []))).push (.loop {state:=.ready,pending:=none,fn,tmps:=a.tmps,params:=ps,assign,body,defers:=w.heap.size})},w.heap.size+1,[{target:=.collected w.heap.size,args:=#[]}],w.heap.size,?_,?_,?_,trivial,?_,?_⟩
          ·simp only[Instr.enterLoop,newObj,Sem.run_bind,Sem.run,Sem.run_pure,Result.andThen_ok,Array.size_push]
          ·exact(wT w (.deferred (some []))).trans (wT _ _)
          ·exact UL aC
          · intro w2 NQ;have axJ:w2.heap[w.heap.size]? =some (.deferred (some [])):=NQ.2.2.2.2 _ _ (by simp[Array.getElem?_push])
            obtain⟨⟨rs,h1,h2,h3⟩,h4,h5⟩:=hm;have ap9:=((wT w (.deferred (some []))).trans (wT _ _)).trans NQ;refine⟨⟨w.heap.size::rs,by simp[h1],?_,?_⟩,h4,λe=>by simp only[jX,e]at hT;cases hT⟩
            ·grind[List.nodup_cons,Array.getElem?_eq_some_iff]
            · intro x hx;rcases lT.1 hx with rfl|hx
              ·simp[*]
              ·exact⟨(h3 x hx).1,ap9.2.2.2.2 x _ (h3 x hx).2⟩
          · have e2:aV {w with heap:=(w.heap.push (.deferred (some []))).push (.loop {state:=.ready,pending:=none,fn,tmps:=a.tmps,params:=ps,assign,body,defers:=w.heap.size})}=
                ((aV w).push (.deferred none)).push (.loop {state:=.ready,pending:=none,fn,tmps:=a.tmps,params:=ps,assign,body,defers:=w.heap.size}):=by simp[aV,tT]
            rw[e2];exact h
        | some l0=>
          simp only[Ei]at h;split at h
          · rename_i r0 ID
            have aqg:=WA ID;rw[Bd]at h;refine⟨{w with heap:=w.heap.push (.loop {state:=.ready,pending:=none,fn,tmps:=a.tmps,params:=ps,assign,body,defers:=r0.defers})},w.heap.size,[],r0.defers,?_,?_,?_,trivial,?_,?_⟩
            ·simp only[Instr.enterLoop,HO aqg,newObj,Sem.run_bind,Sem.run,Sem.run_pure,Result.andThen_ok]
            ·exact wT w _
            ·simp
            ·intro w2 NQ;exact hm.vm ⟨rfl,λ_ _=>rfl⟩ ((wT w _).trans NQ)
            ·rw[NW];exact h
          ·exact h.elim
      unfold tK at Bi;split at Bi
      · rename_i gi first captured _
        cases fX:jT P gi with
        |false=>rw[fX]at Bi;exact Bi.elim
        | true=>
          rw[fX,lE]at Bi;have hc:=Bi w1 rfl;have e2:(first.toList++[Value.func (.yield l) #[] #[]]++captured.toList).toArray=first++#[Value.func (.yield l) #[] #[]]++captured:=aC
          rw[e2]at hc;have NS:(callFunc gi (first++#[.func (.yield l) #[] #[]]++captured)).run P w1=.ok (.enter gi (first++#[.func (.yield l) #[] #[]]++captured)) w1:=by
            unfold jT at fX;split at fX
            · rename_i fn' hf
              simp only[dr,qR]at fX;obtain⟨IQ,Bj⟩:=fX;have h1:¬fn'.name="runtime.NumGoroutine":=by simpa using Bj
              have h2:¬fn'.body=none:=by intro hbb;simp[hbb]at IQ
              simp only[callFunc,program,Sem.run_bind,Sem.run,Result.andThen_ok,hf];simp[h1,h2]
            ·cases fX
          refine⟨l,mark,w1,{target:=.fn (.func gi) captured,args:=first++#[.func (.yield l) #[] #[]]},w1,gi,_,w1,aqL,?_,λ_ _=>trivial,NS,λhx=>by simp at hx,?_⟩
          · have e3:(#[Operand.const (.func (.yield l) #[] #[])]:Array Operand).map a.eval=#[Value.func (.yield l) #[] #[]]:=by apply sZ;simp;rfl
            simp only[resolve,IK,e3,Deferred.ofValue,Sem.run_pure]
          · refine(ae9 hc).mono ?_;rintro e w3 ⟨NP,he⟩;cases e with
            |outgrown=>exact he.elim
            |panicked ch=>exact⟨hmk w3 NP,hs1.trans NP,he⟩
            | returned v=>
              simp only[zw]at he;split at he
              · rename_i r3 hr3
                obtain⟨rH,hk⟩:=he;have adR:=WA hr3;have zm:=Ul (y:={r3 with state:=.exhausted}) adR
                have NS:=al3 (P:=P) adR rH;have NX:=hmk _ (NP.trans zm);have NR:=(hs1.trans NP).trans zm;have W7:=NV (w:=w3) (l:=l) (o:=.loop {r3 with state:=.exhausted})
                obtain⟨W4,hW4⟩:∃W4:World,W4={w3 with heap:=w3.heap.setIfInBounds l (.loop {r3 with state:=.exhausted})}:=⟨_,rfl⟩
                rw[<-hW4]at NS NX NR W7;rw[show tT (.loop {r3 with state:=.exhausted})=.loop {r3 with state:=.exhausted}from rfl]at W7
                rw[<-W7]at hk;refine⟨r3.pending,W4,NS,?_⟩;have xo:eC cZ {a with defers:=mark++a.defers}:=⟨pz.len,pz.val⟩
                have zo:=hk;cases hp:r3.pending with
                |none=>rw[hp]at zo;exact⟨NX,NR,cZ,xo,zo⟩
                | some c=>
                  rw[hp]at zo;cases c with
                  |ret=>exact wpIn_ret ⟨NX,NR,cZ,xo,zo⟩
                  |exit id=>exact wpIn_exit ⟨NX,NR,cZ,xo,zo⟩
                  |_=>exact zo.elim
              ·exact he.elim
      ·exact Bi.elim
    ·exact h.elim
  |_=>intro hT Q Kp fr a w ha hm hn h;exact h.elim
def lD(P:Program):List ResultVar->Fr->Hp->(List Value->Prop)->Prop
  |[],_,_,K=>K []
  |.tmp t::rs,fr,h,K=>match fr.getD t none with|some v=>lD P rs fr h λvs=>K (v::vs)|none=>False
  | .cell t ty::rs,fr,h,K=>match fr.getD t none with
    |some (.pointer (some a))=>mH P ty h a λv=>lD P rs fr h λvs=>K (v::vs)
    |_=>False
def l9(vs:bg):Value:=match vs with|[v]=>v|vs=>.tuple vs.toArray
def mF(P:Program)(rs:List ResultVar)(zs:bg)(Kv:de):Qt:=λe fr h=>
 match e with
 |.normal=>lD P rs fr h λvs=>nI zs (l9 vs) λv=>Kv v h
 |.ret=>lD P rs fr h λvs=>nI zs (l9 vs) λv=>Kv v h
 |_=>False
def Nb(tmps:Array Value):ResultVar->Sem Value
 |.tmp t=>pure (tmps.getD t undef)
 |.cell ad t=>do loadVar t (<-asAddr (tmps.getD ad undef))
theorem alT(j:∀i v,fr.getD i none=some v->a.tmps.getD i undef=v):∀{b:List ResultVar}{K:List Value->Prop},lD P b fr (aV w) K->
    ∃vs,vs.length=b.length/\(b.mapM (Nb a.tmps)).run P w=.ok vs w/\K vs:=by
  intro b
  induction b with
  |nil=>intro K h;exact⟨[],rfl,aC,h⟩
  | cons x b g=>
    intro K h;cases x with
    | tmp t=>
      simp only[lD]at h;split at h
      · rename_i v c
        obtain⟨vs,hl,d,e⟩:=g h;refine⟨v::vs,by simp[hl],?_,e⟩
        simp only[Y7,Nb,Sem.run_bind,Sem.run_pure,Result.andThen_ok,d,j _ _ c]
      grind
    | cell t ty=>
      simp only[lD]at h;split at h
      · rename_i k c
        obtain⟨v,f,h⟩:=abw h;obtain⟨vs,hl,d,e⟩:=g h;refine⟨v::vs,by simp[hl],?_,e⟩
        simp only[Y7,Nb,Sem.run_bind,Sem.run_pure,Result.andThen_ok,d,j _ _ c,asAddr,f]
      grind
theorem HM{fn:Func}{K:List Value->Prop}(ha:∀i v,fr.getD i none=some v->a.tmps.getD i undef=v)(h:lD P fn.results.toList fr (aV w) K):∃vs,(results fn a.tmps).run P w=.ok (l9 vs) w/\K vs:=by
 obtain⟨vs,hl,hr,hk⟩:=alT ha h;refine⟨vs,?_,hk⟩;have e:results fn a.tmps=(do let vs <-fn.results.mapM (Nb a.tmps);pure (if h:vs.size=1 then vs[0]else .tuple vs)):=by
  unfold results
  congr 1
 rw[e,<-Array.toArray_toList (xs:=fn.results),List.mapM_toArray];simp only[map_eq_pure_bind,Sem.run_bind,hr,Result.andThen_ok,Sem.run_pure]
 congr 1
 match vs with
 |[]=>simp[l9]
 |[v]=>simp[l9]
 |v::u::vs=>simp[l9]
theorem abu(h:w.heap[n]? =some (.deferred (some []))):(Instr.takeDeferred n).run P w=.ok [] {w with heap:=w.heap.setIfInBounds n (.deferred none)}:=by
 simp[Instr.takeDeferred,getObj,setObj,Sem.run,h]
theorem NT(h:w.heap[n]? =some (.deferred (some []))):aV {w with heap:=w.heap.setIfInBounds n (.deferred none)}=aV w:=by
 rw[NV];apply BS;intro i;rw[uC];split
 ·rename_i e
  subst e;split
  ·rw[Ia,h];rfl
  simp[*]
 ·rfl
theorem ac9{m:Func}{Z:Array Value}{W:World}{R:Ending->World->Prop}{u:FrameMode}(q:u≠.run)(A:W.heap.size=n)(X:World->Prop)
    (s:∀w,X w->LeavesInM (Fc none) 0 P m Z R [] u w) (p:∀w x,cH W w->n<=x->w.heap[x]? =some (.deferred (some []))->X w->X {w with heap:=w.heap.setIfInBounds x (.deferred none)}):
    ∀(g:cV)(w:World),cH W w->g.Nodup->(∀x∈g,n<=x/\w.heap[x]? =some (.deferred (some [])))->X w->
      LeavesInM (Fc none) 0 P m Z R (g.map λx=>{target:=.collected x,args:=#[]}) u w:=by
  intro g
  induction g with
  |nil=>grind
  | cons x g o=>
    intro w a f c i;obtain⟨j,h⟩:=c x aC;refine⟨q,.inl ⟨x,_,rfl,abu h,(o _ ?_ (List.nodup_cons.1 f).2 ?_ (p w x a j h i))⟩⟩
    · refine⟨a.1,a.2.1,a.2.2.1,bZ,λb d l=>?_⟩
      have z:=(mq.1 l).1;simp only[uC];rw[aA];exact a.2.2.2.2 b d l
    grind
theorem XG{L:fP}{D:Nat->Array Oper->(Fr->HP)->PK->Fr->HP}(U:uN P none D){f:FuncId}{q:Func}{c:Code}{zs:bg}{args:bg}{h:Hp}
    {y:de} {z:PK} (S:P.funcs[f]? =some q) (T:q.body=some c)
    (H:fT P L D none c (mF P q.results.toList zs y) z (args.map some++List.replicate (q.ntmps-args.length) none) h):dW P f args h (λv V=>gI zs v λu=>y u V) z:=by
  intro w N;subst N;have:=callsIn_of_wp_marks (F:=Fc none) (n:=0) (args:=args.toArray) (w:=w) (R:=λe j=>cH w j/\match e with
    |.returned v=>gI zs v λu=>y u (aV j)
    |.panicked J=>z J (aV j)
    |.outgrown=>False) S T trivial ?_ rfl
  ·exact(callsIn_wide).1 this
  · apply wpIn_mono (wS U w.heap.size [] [] false c (XV c) _ z _ _ w (eC.start args q.ntmps []) ⟨⟨[],rfl,aC,aC⟩,aC,aC⟩ (cr _) H)
    rintro e K j ⟨O,I,t⟩;obtain⟨⟨M,m,B,A⟩,_⟩:=O;rw[pM]at m;have g:∀i x,cH w i->w.heap.size<=x->cH w {i with heap:=i.heap.setIfInBounds x (.deferred none)}:=by
      intro i x a G;refine⟨a.1,a.2.1,a.2.2.1,by simpa using a.2.2.2.1,λb d C=>?_⟩
      have W:=(mq.1 C).1;simp only[uC];rw[aA];exact a.2.2.2.2 b d C
    have fin:∀fr,eC fr K->(lD P q.results.toList fr (aV j) λvs=>nI zs (l9 vs) λv=>y v (aV j))->
        LeavesInM (Fc none) 0 P q K.tmps (λe j=>cH w j/\match e with
          |.returned v=>gI zs v λu=>y u (aV j)
          |.panicked J=>z J (aV j)
          |.outgrown=>False) K.defers .returning j:=by
      intro fr p o;rw[m];refine ac9 aC rfl (λi=>cH w i/\aV i=aV j) ?_ ?_ M j I B A ⟨I,rfl⟩
      ·rintro i ⟨a,k⟩;rw[<-k]at o;obtain⟨vs,E,Q⟩:=HM p.val o;exact⟨_,E,a,HV Q⟩
      ·grind[NT]
    cases e with
    |normal=>obtain⟨fr,p,o⟩:=t;exact fin fr p o
    |ret=>obtain⟨fr,p,o⟩:=t;exact fin fr p o
    | panic J=>
      show LeavesInM _ _ _ _ _ _ K.defers _ _
      rw[m];refine ac9 aC rfl (λi=>cH w i/\aV i=aV j) ?_ ?_ M j I B A ⟨I,rfl⟩
      ·rintro i ⟨a,k⟩;exact⟨a,dH⟩
      grind[NT]
    |exit id=>obtain⟨fr,p,o⟩:=t;exact o.elim
    |goto l=>obtain⟨fr,p,o⟩:=t;exact o.elim
    |outgrown=>exact t.elim
end Go.Sh
