import Derived.Test.YtikpikmkhdapiaaGreatDoorBeginsShSound
import Derived.RangeFuncLeaves
set_option linter.unusedSimpArgs false
set_option linter.unusedVariables false
set_option maxRecDepth 100000
set_option maxHeartbeats 1000000
namespace Go.Sh
variable {P:Program}
structure cw (fr:Fr) (a:Act):Prop where
 len:fr.length<=a.tmps.size
 val:∀i v,fr.getD i none=some v->a.tmps.getD i undef=v
theorem cw.ev {fr:Fr} {a:Act} (h:cw fr a):∀x v,ev fr x=some v->a.eval x=v:=by
 intro x v b;cases x with
 | tmp t=>exact h.val t v b
 | const c=>simp only[Sh.ev,Option.some.injEq] at b;exact b
 | global g=>simp only[Sh.ev,Option.some.injEq] at b;exact b
 | func f=>simp only[Sh.ev,Option.some.injEq] at b;exact b
theorem cw.set {fr:Fr} {a:Act} (h:cw fr a) (t:Nat) {v':Option Value} {v:Value} (d:∀x,v'=some x->v=x) :
  cw (fr.set t v') { a with tmps:=a.tmps.setIfInBounds t v }:=by
 refine ⟨by simp[h.len],λi x b => ?_⟩
 have hl:=h.len
 by_cases e:i=t
 ·subst e;have c:i < fr.length:=by
   apply Classical.byContradiction;intro f;rw[List.getD_eq_getElem?_getD,List.getElem?_set_self' ,List.getElem?_eq_none ag] at b;simp at b
  rw[List.getD_eq_getElem?_getD,List.getElem?_set_self c] at b;have:=d x (by simpa using b)
  simp[Array.getD,show i < a.tmps.size by omega,this]
 ·rw[List.getD_eq_getElem?_getD,List.getElem?_set_ne ag] at b;have:=h.val i x (by rw[List.getD_eq_getElem?_getD];exact b)
  rw[Array.getD_eq_getD_getElem?] at this ⊢;rw[Array.getElem?_setIfInBounds_ne ag];exact this
theorem cw.aaZ {fr:Fr} {a:Act} (h:cw fr a) (t:Nat) {d:Option Value} (e:∀x,d=some x->a.tmps.getD t undef=x):cw (fr.set t d) a:=by
 refine ⟨by simp[h.len],λi x b => ?_⟩
 by_cases f:i=t
 ·subst f
  by_cases c:i < fr.length
  ·rw[List.getD_eq_getElem?_getD,List.getElem?_set_self c] at b;exact e x (by simpa using b)
  ·rw[List.getD_eq_getElem?_getD,List.getElem?_eq_none cC] at b;simp at b
 ·rw[List.getD_eq_getElem?_getD,List.getElem?_set_ne ag] at b;exact h.val i x (by rw[List.getD_eq_getElem?_getD];exact b)
theorem cw.put {fr:Fr} {a:Act} (h:cw fr a) (d:Option Nat) {v':Option Value} {v:Value} (b:∀x,v'=some x->v=x):cw (dP fr d v') (a.put d v):=by
 cases d with
 | none=>exact h
 | some t=>exact h.set t b
theorem cw.forget {fr:Fr} {a:Act} (h:cw fr a) (d:List Nat):cw (forget d fr) a:=by
  refine ⟨by simp[Sh.forget,h.len],λi x b=>h.val i x ?_⟩
  simp only[Sh.forget,List.getD_eq_getElem?_getD,List.getElem?_map,List.getElem?_zipIdx] at b ⊢;cases c:fr[i]? with
  | none=>simp[c] at b
  | some v =>
    simp only[c,Option.map_some,Nat.zero_add,Option.getD_some] at b ⊢;cases e:d.contains i with
    | false=>rw[e] at b;cases b
    | true=>rw[e] at b;exact b
theorem cw.find {fr:Fr} {a:Act} (h:cw fr a) (k:Nat):∀b:cZ,cw (b.find k fr) a:=by
  intro b
  induction b with
  | nil=>exact h
  | cons x r d =>
    obtain ⟨j,c⟩:=x;unfold cZ.find;cases (j == k)
    · exact d
    · exact h.forget c
theorem cw.start (a:List Value) (n:Nat) (ds:List Deferred):cw (a.map some++List.replicate (n - a.length) none) { tmps:=a.toArray++Array.replicate (n - a.toArray.size) undef,defers:=ds }:=by
 refine ⟨by simp,λi v b => ?_⟩
 rw[List.getD_eq_getElem?_getD] at b
 by_cases c:i < a.length
 ·rw[List.getElem?_append_left (by simpa using c)] at b
  rw[Array.getD_eq_getD_getElem?,Array.getElem?_append_left (by simpa using c)]
  simp only[List.getElem?_map,List.getElem?_eq_getElem c,Option.map_some,Option.getD_some,Option.some.injEq] at b;simp[List.getElem?_eq_getElem c,b]
 ·rw[List.getElem?_append_right (by simpa using c)] at b
  rw[List.getElem?_replicate] at b;split at b <;> simp at b
theorem Vi {r:Option Nat} {n:Nat} {f:FuncId} {Z:Array Value} {w:World} {R:Ending->World->Prop} (h:Calls P f Z w R):CallsIn (Fc r) n P f Z w R :=
 (callsIn_wide (n:=n)).2 h
variable {r:Option Nat}
theorem YX {o:Oper} {a:Act} {K:Option Value->Hp->Prop} {u:List PanicEntry->Hp->Prop} {w:World} {m:Result Next} {next:Act->World->Prop} {Q:Exit->Act->World->Prop}
  (i:ni P K u w m) (hN:∀v k d,(∀x,k=some x->v=x)->aY w d->K k (aE d)->next (a.put o.dst v) d)
  (q:∀p d,aY w d->u p (aE d)->Q (.panic p) a d):o.uponIn (Fc r) 0 P a next Q m:=by
 unfold ni at i;split at i
 ·obtain ⟨b,k,l,g⟩:=i;exact hN _ _ _ l b g
 ·obtain ⟨b,g⟩:=i;exact hN undef none _ (λ_ h=>by cases h) b g
 ·rename_i f y d
  obtain ⟨b,A⟩:=i;refine ⟨λh=>by simp at h,((Vi (r:=r) (n:=0 - 1) (by simpa using (A d rfl))).mono ?_)⟩
  rintro e s ⟨c,j⟩;cases e with
  | returned v=>obtain ⟨k,l,g⟩:=j;exact hN _ _ _ l (b.trans c) g
  | panicked p=>exact q _ _ (b.trans c) j
  | outgrown=>exact j.elim
 ·obtain ⟨b,z⟩:=i;refine ⟨λh=>by simp at h,?_⟩
  have t:RoundIn (Fc r) (0 - 1) P _ _ _ _ _ _ _:=z;refine t.mono ?_;rintro e s ⟨c,j⟩;cases e with
  | returned v=>obtain ⟨k,l,g⟩:=j;exact hN _ _ _ l (b.trans c) g
  | panicked p=>exact q _ _ (b.trans c) j
  | outgrown=>exact j.elim
 ·obtain ⟨b,g⟩:=i;exact q _ _ b g
 ·exact i.elim
def pY (r:Option Nat) (P:Program) (ops:Array Oper) (i:Nat) (next:Act->World->Prop) (Q:Exit->Act->World->Prop) (a:Act) (w:World):Prop :=
 match ops[i]? with
 | none=>next a w
 | some o=>if Region.wanted o (yielded ops a.tmps) then o.wpIn (Fc r) 0 P a w next Q
   else (∀f,o.about P w a.eval=some f->True)/\next (a.put o.dst undef) w
theorem wpOpsIn_cons (b:Array Oper) (Q:Exit->Act->World->Prop) (i:Nat) (l:List Nat) (a:Act) (w:World) :
  wpOpsIn (Fc r) 0 P b Q (i::l) a w=pY r P b i (wpOpsIn (Fc r) 0 P b Q l) Q a w:=by
 unfold pY;simp only[wpOpsIn];cases b[i]? <;> rfl
theorem Sg {o:Oper} {fr:Fr} {a:Act} {K:Option Value->Hp->Prop} {f:List PanicEntry->Hp->Prop} {w:World} {next:Act->World->Prop} {Q:Exit->Act->World->Prop}
  (j:cw fr a) (h:fc P o.op o.type (ev fr) K f (aE w)) (hN:∀v d b,(∀x,d=some x->v=x)->aY w b->K d (aE b)->next (a.put o.dst v) b)
  (k:∀e b,aY w b->f e (aE b)->Q (.panic e) a b):o.wpIn (Fc r) 0 P a w next Q:=by
 refine ⟨λ_ _=>trivial,?_⟩;have g:∀c,o.op≠.defer c:=by
  intro c i;rw[i] at h;exact h
 rw[show (Fc r).round=r from rfl,Oper.semAt_eq r a.eval o g];exact YX (aa6 j.ev h) hN k
theorem Ye {b:Array Oper} {fr:Fr} {a:Act} {j d:Nat} {c:Bool} (h:cw fr a) (i:(b[j]?).bind (·.dst)=some d) (e:fr.getD d none=some (.bool c)):yielded b a.tmps j=some c:=by
 have f:=h.val d _ e;have g:d < a.tmps.size:=by
  apply Classical.byContradiction;intro l;have:fr.getD d none=none:=by
   rw[List.getD_eq_getElem?_getD,List.getElem?_eq_none (by have:=h.len;omega)];rfl
  rw[this] at e;cases e
 have k:a.tmps[d]? = some (.bool c):=by
  rw[Array.getD_eq_getD_getElem?] at f;rw[Array.getElem?_eq_getElem g] at f ⊢
  simpa using f
 simp[yielded,i,k]
def Kd (T:List Nat) (a a':Act):Prop:=a'.defers=a.defers/\∀t∈T,a'.tmps.getD t undef=a.tmps.getD t undef
theorem Kd.refl (T:List Nat) (a:Act):Kd T a a:=⟨rfl,λ_ _=>rfl⟩
theorem Kd.trans {T:List Nat} {a b c:Act} (y:Kd T b c) (x:Kd T a b):Kd T a c:=⟨y.1.trans x.1,λt d=>(y.2 t d).trans (x.2 t d)⟩
def yD (T:List Nat) (ops:Array Oper):Prop:=∀(i:Nat) (o:Oper) (t:Nat),ops[i]? = some o->o.dst=some t->t∉T
theorem Kd.put {N:List Nat} {a:Act} {d:Option Nat} {v:Value} (h:∀t,d=some t->t∉N):Kd N a (a.put d v):=by
  cases d with
  | none=>exact Kd.refl N a
  | some t =>
    refine ⟨rfl,λu b => ?_⟩;have:t≠u:=λe=>h t rfl (e ▸ b);simp only[Act.put];rw[Array.getD_eq_getD_getElem?,Array.getD_eq_getD_getElem?,Array.getElem?_setIfInBounds_ne this]
def sI (T:List Nat) (ops:Array Oper):Bool:=ops.toList.all λo=>match o.dst with | some t=>!T.contains t | none=>true
theorem Se {N:List Nat} {a:Array Oper} (h:sI N a=true):yD N a:=by
 intro i o t b c;unfold sI at h;rw[List.all_eq_true] at h;have:=h o (Array.mem_def.1 (Array.mem_of_getElem? b));simp only[c,Bool.not_eq_true',List.contains_eq_mem,decide_eq_false_iff_not] at this;exact this
def gl (T:List Nat) (nr:Bool):Code->Bool
 | .region _ ops _=>sI T ops
 | .seq x y=>gl T nr x && gl T nr y
 | .cond _ x y=>gl T nr x && gl T nr y
 | .block _ x=>gl T nr x
 | .loop x=>gl T nr x
 | .rangeFunc ..=>!nr
 | _=>true
theorem acU (a:Array Oper):sI [] a=true:=by
 unfold sI;rw[List.all_eq_true];intro o _;split <;> simp
theorem Ou:∀c:Code,gl [] false c=true:=by
 intro c
 induction c with
 | region id d e=>exact acU d
 | seq x y b a=>simp[gl,b,a]
 | cond c x y b a=>simp[gl,b,a]
 | block id x h=>exact h
 | loop x h=>exact h
 | _=>rfl
theorem AE {T:List Nat} {l:Array Oper} {i:Nat} {fr:Fr} {a:Act} {K:Fr->Hp->Prop} {L:List PanicEntry->Hp->Prop} {w:World} {next:Act->World->Prop} {Q:Exit->Act->World->Prop}
  (hT:yD T l) (p:cw fr a) (h:pn P l i K L fr (aE w)) (hN:∀bH A e,cw bH A->Kd T a A->aY w e->K bH (aE e)->next A e)
  (N:∀z A e,Kd T a A->aY w e->L z (aE e)->Q (.panic z) A e):pY r P l i next Q a w:=by
 unfold pn at h;unfold pY;have k:∀(d:Option Nat) (v:Value),(∀t,d=some t->t∉T)->Kd T a (a.put d v):=λd v h=>Kd.put h;split at h
 ·rename_i u;simp only[u];exact hN fr a w p (Kd.refl T a) (aY.refl w) h
 ·rename_i o u
  simp only[u];split at h
  ·rename_i C
   have G:Region.wanted o (yielded l a.tmps)=true:=by simp[Region.wanted,C]
   rw[if_pos G];exact Sg p h (λv O e H s y=>hN _ _ e (p.put o.dst H) (k _ _ λt=>hT i o t u) s y) (λz e s y=>N z a e (Kd.refl T a) s y)
  ·rename_i j b C
   split at h
   ·rename_i d M
    split at h
    ·rename_i c D
     have F:=Ye p M D;have G:Region.wanted o (yielded l a.tmps)=(c == b):=by simp[Region.wanted,C,F]
     have n:∀g,c=g->cw (fr.set d (some (.bool g))) a:=by
      intro g m;subst m;exact p.aaZ d (λx q=>by cases q;exact p.val d _ D)
     rw[G];have B:∀g,c=g->fc P o.op o.type (ev (fr.set d (some (.bool g)))) (λv S=>K (dP (fr.set d (some (.bool g))) o.dst v) S) L (aE w)->o.wpIn (Fc r) 0 P a w next Q:=by
      intro g m I;exact Sg (n g m) I (λv O e H s y=>hN _ _ e ((n g m).put o.dst H) (k _ _ λt=>hT i o t u) s y) (λz e s y=>N z a e (Kd.refl T a) s y)
     have skip:∀g,c=g->K (dP (fr.set d (some (.bool g))) o.dst (some undef)) (aE w)->(∀f,o.about P w a.eval=some f->True)/\next (a.put o.dst undef) w:=by
      intro g m I;exact ⟨λ_ _=>trivial,hN _ _ w ((n g m).put o.dst (λ_ q=>by cases q;rfl)) (k _ _ λt=>hT i o t u) (aY.refl w) I⟩
     cases c <;> cases b <;> simp only[If,dJ] at h
     ·rw[if_pos (by rfl)];exact B false rfl h
     ·rw[if_neg aS];exact skip false rfl h
     ·rw[if_neg aS];exact skip true rfl h
     ·rw[if_pos (by rfl)];exact B true rfl h
    ·rename_i R D
     have J:=p.val d _ D;have F:yielded l a.tmps j=none:=by
      have E:a.tmps[d]? = none\/a.tmps[d]? = some (.tuple R):=by
       rw[Array.getD_eq_getD_getElem?] at J;cases q:a.tmps[d]? with
       | none=>exact .inl rfl
       | some x=>rw[q] at J;exact .inr (by simpa using J)
      rcases E with E | E <;> simp[yielded,M,E]
     rw[if_neg (by simp[Region.wanted,C,F])]
     exact ⟨λ_ _=>trivial,hN _ _ w (p.put o.dst (λ_ q=>by cases q;rfl)) (k _ _ λt=>hT i o t u) (aY.refl w) h⟩
    ·exact h.elim
   ·exact h.elim
theorem cw.at {fr:Fr} {a:Act} (h:cw fr a) (k:Nat) {K:Fr->Prop}:∀{aZ:cZ},aZ.at k fr K->∃bH,cw bH a/\K bH:=by
  intro aZ
  induction aZ with
  | nil=>exact λb=>⟨fr,h,b⟩
  | cons x r d =>
    obtain ⟨j,c⟩:=x;unfold cZ.at;cases (j == k)
    · exact d
    · exact λb=>⟨_,h.forget c,b.h⟩
theorem cw.next {fr:Fr} {a:Act} (h:cw fr a) {K:Fr->Prop} {d:cZ} {l:List Nat} (c:d.next l fr K):∃bH,cw bH a/\K bH:=by
 unfold cZ.next at c;split at c
 ·exact ⟨fr,h,c⟩
 ·exact h.at _ c
theorem aa4 {N:List Nat} {z:cZ} {d:Array Oper} (hT:yD N d):∀{l:List Nat} {fr:Fr} {a:Act} {K:Fr->Hp->Prop} {o:List PanicEntry->Hp->Prop} {w:World} {Q:Exit->Act->World->Prop},
    cw fr a->AG P z d l K o fr (aE w)->(∀bH c b,cw bH c->Kd N a c->aY w b->K bH (aE b)->Q .normal c b) ->
    (∀n c b,Kd N a c->aY w b->o n (aE b)->Q (.panic n) c b)->wpOpsIn (Fc r) 0 P d Q l a w:=by
  intro l
  induction l with
  | nil=>intro fr a K o w Q p h hN q;exact hN fr a w p (Kd.refl N a) (aY.refl w) h
  | cons i l A =>
    intro fr a K o w Q p h hN q;rw[wpOpsIn_cons];refine AE hT p h (λbH c b u x v B => ?_) q;obtain ⟨C,t,s⟩:=u.next B;exact A t s (λy k j m g e f=>hN _ _ _ m (g.trans x) (v.trans e) f) (λn k j g e f=>q n k j (g.trans x) (v.trans e) f)
def oT (P:Program) (r:Option Nat) (D:Nat->Array Oper->(Fr->Hp->Prop)->(List PanicEntry->Hp->Prop)->Fr->Hp->Prop):Prop :=
 ∀T id ops K Kp fr a w Q,yD T ops->cw fr a->D id ops K Kp fr (aE w)->(∀bH a' w',cw bH a'->Kd T a a'->aY w w'->K bH (aE w')->Q .normal a' w') ->
  (∀ch a' w',Kd T a a'->aY w w'->Kp ch (aE w')->Q (.panic ch) a' w')->(Code.region id ops true).wpIn (Fc r) 0 P Q a w
def Marks (n0:Nat) (ds:List Deferred) (tv:List (Nat × Value)) (nr:Bool) (a:Act) (w:World):Prop :=
 (∃rs:List Nat,a.defers=(rs.map λx=>{ target:=.collected x,args:=#[] })++ds/\rs.Nodup/\∀x∈rs,n0<=x/\w.heap[x]? = some (.deferred (some [])))/\(∀x∈tv,a.tmps.getD x.1 undef=x.2)/\(nr=true->a.defers=ds)
theorem Marks.fE {n:Nat} {ds:List Deferred} {c:List (Nat × Value)} {B:Bool} {a g:Act} {w W:World} (h:Marks n ds c B a w) (d:Kd (c.map (·.1)) a g) (j:aY w W):Marks n ds c B g W:=by
 obtain ⟨⟨i,o,m,f⟩,l,k⟩:=h;exact ⟨⟨i,d.1.trans o,m,λx b=>⟨(f x b).1,j.2.2.2.2 x _ (f x b).2⟩⟩,λx b=>(d.2 _ (List.mem_map_of_mem b)).trans (l x b),λe=>d.1.trans (k e)⟩
def QL (Q:Qt) (Kp:List PanicEntry->Hp->Prop) (n0:Nat) (ds:List Deferred) (tv:List (Nat × Value)) (nr:Bool) (w0:World):Exit->Act->World->Prop:=λe a w =>
 Marks n0 ds tv nr a w/\aY w0 w/\match e with
  | .panic ch=>Kp ch (aE w)
  | .outgrown=>False
  | e=>∃fr,cw fr a/\Q e fr (aE w)
theorem least (p:Nat->Prop) (h:∃n,p n):∃n,p n/\∀m,m < n->¬p m:=by
  obtain ⟨n,e⟩:=h
  induction n using Nat.strongRecOn with
  | _ n d =>
    by_cases c:∃m,m < n/\p m
    · obtain ⟨m,a,b⟩:=c;exact d m a b
    · exact ⟨n,e,λm a b=>c ⟨m,a,b⟩⟩
theorem EW {h:Array Obj} {o:Obj} {n:Nat} (a:n=h.size):(h.push o)[n]? = some o:=by subst a;simp
theorem MV {w:World} {l:Nat} {x:Loop} (h:(aE w)[l]? = some (.loop x)):w.heap[l]? = some (.loop x):=by
 rw[A2] at h;cases a:w.heap[l]? with
 | none=>simp[a] at h
 | some o=>cases o <;> simp[a,oh] at h ⊢;exact h
theorem Fw {w:World} {l:Nat} {o:Obj}:aE { w with heap:=w.heap.setIfInBounds l o }=(aE w).setIfInBounds l (oh o):=by
 apply Array.ext_getElem?;intro i;simp only[aE,Array.getElem?_map,Array.getElem?_setIfInBounds,Array.size_map];split
 ·split <;> simp
 ·rfl
theorem K7 {w:World} {l:Nat} {x y:Loop} (h:w.heap[l]? = some (.loop x)):aY w { w with heap:=w.heap.setIfInBounds l (.loop y) }:=by
 refine ⟨rfl,rfl,rfl,by simp,λb ds a => ?_⟩
 have:l≠b:=λe=>by subst e;rw[h] at a;cases a
 simp only[Array.getElem?_setIfInBounds];rw[if_neg this];exact a
theorem AM {w:World} {l:Nat} {x:Loop} (h:w.heap[l]? = some (.loop x)):(Instr.getLoop l).run P w=.ok x w:=by
 simp[Instr.getLoop,getObj,Sem.run,h]
theorem K9 {w:World} {l:Nat} {x y:Loop} (h:w.heap[l]? = some (.loop x)):(setObj l (.loop y)).run P w=.ok () { w with heap:=w.heap.setIfInBounds l (.loop y) }:=by
 simp[setObj,Sem.run,h]
theorem abH {w:World} {l:Nat} {x:Loop} (h:w.heap[l]? = some (.loop x)) (a:x.state≠.busy) :
  (Instr.endLoop l).run P w=.ok x.pending { w with heap:=w.heap.setIfInBounds l (.loop { x with state:=.exhausted }) }:=by
 have b:(x.state == .busy)=false:=by simpa using a
 simp only[Instr.endLoop,Sem.run_bind,AM h,Result.andThen_ok,b,Bool.false_eq_true,if_false,Sem.run_pure,K9 h]
theorem qI {aZ:cZ} {D:Nat->Array Oper->(Fr->Hp->Prop)->(List PanicEntry->Hp->Prop)->Fr->Hp->Prop} (hD:oT P r D) (n0:Nat) (ds:List Deferred) (tv:List (Nat × Value)) (nr:Bool) (c:Code) :
    gl (tv.map (·.1)) nr c=true->∀(Q:Qt) (Kp:List PanicEntry->Hp->Prop) (fr:Fr) (a:Act) (w:World),cw fr a->Marks n0 ds tv nr a w->n0<=w.heap.size->c8 P aZ D r c Q Kp fr (aE w)->c.wpIn (Fc r) 0 P (QL Q Kp n0 ds tv nr w) a w:=by
  have trans:∀{Q:Qt} {Kp:List PanicEntry->Hp->Prop} {w w':World},aY w w'->∀e x y,QL Q Kp n0 ds tv nr w' e x y->QL Q Kp n0 ds tv nr w e x y:=by
    rintro Q Kp w w' hs e x y ⟨h1,h2,h3⟩;exact ⟨h1,hs.trans h2,h3⟩
  induction c with
  | skip=>intro hT Q Kp fr a w ha hm hn h;exact wpIn_skip ⟨hm,aY.refl w,fr,ha,h⟩
  | label l=>intro hT Q Kp fr a w ha hm hn h;exact wpIn_label ⟨hm,aY.refl w,fr,ha,h⟩
  | exit id=>intro hT Q Kp fr a w ha hm hn h;exact wpIn_exit ⟨hm,aY.refl w,fr,ha,h⟩
  | ret=>intro hT Q Kp fr a w ha hm hn h;exact wpIn_ret ⟨hm,aY.refl w,fr,ha,h⟩
  | region id ops draw =>
    intro hT Q Kp fr a w ha hm hn h;cases draw with
    | false =>
      exact wpIn_region (aa4 (Se hT) ha h (λbH a' w' lg hd hs hk=>⟨hm.fE hd hs,hs,bH,lg,hk⟩) (λch a' w' hd hs hk=>⟨hm.fE hd hs,hs,hk⟩))
    | true =>
      exact hD _ id ops _ Kp fr a w _ (Se hT) ha h (λbH a' w' lg hd hs hk=>⟨hm.fE hd hs,hs,bH,lg,hk⟩) (λch a' w' hd hs hk=>⟨hm.fE hd hs,hs,hk⟩)
  | seq x y Nk Nj =>
    intro hT Q Kp fr a w ha hm hn h;refine wpIn_seq (wpIn_mono (Nk (by simp only[gl,Bool.and_eq_true] at hT;exact hT.1) _ Kp fr a w ha hm hn h) ?_)
    rintro e a' w' ⟨hd,hs,he⟩;cases e with
    | normal =>
      obtain ⟨bH,lg,hk⟩:=he;obtain ⟨Uu,ha1,FA⟩:=lg.at _ hk;exact wpIn_mono (Nj (by simp only[gl,Bool.and_eq_true] at hT;exact hT.2) Q Kp _ a' w' ha1 hd (Nat.le_trans hn hs.2.2.2.1) FA) (trans hs)
    | _=>exact ⟨hd,hs,he⟩
  | cond c x y Nk Nj =>
    intro hT Q Kp fr a w ha hm hn h;simp only[c8] at h;split at h
    · rename_i b hb
      refine wpIn_cond_split (t:=b) (ha.ev _ _ hb) (λht => ?_) (λhf => ?_)
      · subst ht;exact Nk (by simp only[gl,Bool.and_eq_true] at hT;exact hT.1) Q Kp _ a w (ha.find _ aZ) hm hn h
      · subst hf;exact Nj (by simp only[gl,Bool.and_eq_true] at hT;exact hT.2) Q Kp _ a w (ha.find _ aZ) hm hn h
    · exact h.elim
  | block id x ih =>
    intro hT Q Kp fr a w ha hm hn h;refine wpIn_block (wpIn_mono (ih hT (GC id Q) Kp fr a w ha hm hn h) ?_);rintro e a' w' ⟨hd,hs,he⟩;cases e with
    | exit j =>
      obtain ⟨bH,lg,hk⟩:=he;simp only[GC] at hk;simp only[Exit.inBlock];split at hk
      · rename_i hj;rw[if_pos hj];exact ⟨hd,hs,bH,lg,hk⟩
      · rename_i hj;rw[if_neg hj];exact ⟨hd,hs,bH,lg,hk⟩
    | _=>exact ⟨hd,hs,he⟩
  | loop x ih =>
    intro hT Q Kp fr a w ha hm hn h
    let B:(Fr->Hp->Prop)->Fr->Hp->Prop:=λN fr h=>c8 P aZ D r x (sC (λbH h'=>N (aZ.find (eI x+2000) bH) h') Q) Kp fr h
    let p:Act->World->Nat->Prop:=λa' w' n=>∃bH,cw bH a'/\xR B n bH (aE w')
    let I:Act->World->Prop:=λa' w'=>Marks n0 ds tv nr a' w'/\aY w w'/\∃n,p a' w' n
    have hmu:∃μ:Act->World->Nat,∀a' w',I a' w'->p a' w' (μ a' w')/\∀m,m < μ a' w'->¬p a' w' m:=by
      classical
      refine ⟨λa' w'=>if hx:∃n,p a' w' n then Classical.choose (least _ hx) else 0,?_⟩
      rintro a' w' ⟨_,_,hx⟩;dsimp only;rw[dif_pos hx];exact Classical.choose_spec (least _ hx)
    obtain ⟨μ,hμ⟩:=hmu;obtain ⟨m0,h0⟩:∃n,xR B n (aZ.find (eI x+2000) fr) (aE w):=h;refine wpIn_loop I μ ⟨hm,aY.refl w,m0,_,ha.find _ aZ,h0⟩ ?_;rintro a' w' hI;obtain ⟨⟨bH,lg,pL⟩,anp⟩:=hμ a' w' hI;obtain ⟨hd,hs,_⟩:=hI;cases TX:μ a' w' with
    | zero=>rw[TX] at pL;exact pL.elim
    | succ m =>
      rw[TX] at pL;refine wpIn_mono (ih hT _ Kp bH a' w' lg hd (Nat.le_trans hn hs.2.2.2.1) pL) ?_;rintro e Wu wX ⟨xU,TP,he⟩;cases e with
      | normal =>
        obtain ⟨xZ,Uf,hk⟩:=he;have Uk:I Wu wX:=⟨xU,hs.trans TP,m,_,Uf.find _ aZ,hk⟩;refine ⟨Uk,?_⟩;have:=(hμ Wu wX Uk).2;apply Classical.byContradiction;intro Br;exact this m ag ⟨_,Uf.find _ aZ,hk⟩
      | _=>exact ⟨xU,hs.trans TP,he⟩
  | rangeFunc g ps assign body ih1 ih2 =>
    intro hT Q Kp fr a w ha hm hn h;simp only[c8] at h;split at h
    · rename_i fv oD
      refine wpIn_rangeFunc λfn NO => ?_;have lg:=ha.find (eI assign+4000) aZ;obtain ⟨bH,afO⟩:∃bH,aZ.find (eI assign+4000) fr=bH:=⟨_,rfl⟩;rw[afO] at lg h;have h:=h fn a.tmps ⟨lg.len,lg.val⟩;have Br:a.eval g=fv:=ha.ev _ _ oD
      -- the record is laid
      obtain ⟨w1,l,mark,U0,afV,TO,hl,hw1,TZ,uY⟩:∃(w1:World) (l:Nat) (mark:List Deferred) (U0:Nat),(Instr.enterLoop fn a.tmps ps assign body r).run P w=.ok (l,mark) w1/\aY w w1 /\
          w1.heap[l]? = some (.loop { state:=.ready,pending:=none,fn,tmps:=a.tmps,params:=ps,assign,body,defers:=U0 })/\True /\
          (∀w2:World,aY w1 w2->Marks n0 ds tv nr { a with defers:=mark++a.defers } w2) /\
          nY P fv [.func (.yield l) #[] #[]] (aE w1) (λ_ h'=>tq l h' λjump lN=>match jump with
            | none=>Q .normal bH lN
            | some .ret=>Q .ret bH lN
            | some (.exit id)=>Q (.exit id) bH lN
            | _=>False) Kp:=by
        cases r with
        | none =>
          simp only[yh] at h;have e1:((aE w).push (.deferred none)).size=w.heap.size+1:=by simp[uT]
          rw[e1,uT] at h;refine ⟨{ w with heap:=(w.heap.push (.deferred (some []))).push (.loop { state:=.ready,pending:=none,fn,tmps:=a.tmps,params:=ps,assign,body,defers:=w.heap.size }) },w.heap.size+1,[{ target:=.collected w.heap.size,args:=#[] }],w.heap.size,?_,?_,?_,trivial,?_,?_⟩
          · simp only[Instr.enterLoop,newObj,Sem.run_bind,Sem.run,Sem.run_pure,Result.andThen_ok,Array.size_push]
          · exact (qJ w (.deferred (some []))).trans (qJ _ _)
          · exact EW aS
          · intro w2 Fp;have afz:w2.heap[w.heap.size]? = some (.deferred (some [])):=Fp.2.2.2.2 _ _ (by simp[Array.getElem?_push])
            obtain ⟨⟨rs,h1,h2,h3⟩,h4,h5⟩:=hm;have afh:aY w w2:=((qJ w (.deferred (some []))).trans (qJ _ _)).trans Fp;refine ⟨⟨w.heap.size::rs,by simp[h1],?_,?_⟩,h4,λe=>by simp only[gl,e] at hT;cases hT⟩
            · rw[List.nodup_cons];refine ⟨λhx => ?_,h2⟩;have:=(Array.getElem?_eq_some_iff.1 (h3 _ hx).2).1;omega
            · intro x hx;rcases List.mem_cons.1 hx with rfl | hx
              · exact ⟨hn,afz⟩
              · exact ⟨(h3 x hx).1,afh.2.2.2.2 x _ (h3 x hx).2⟩
          · have e2:aE { w with heap:=(w.heap.push (.deferred (some []))).push (.loop { state:=.ready,pending:=none,fn,tmps:=a.tmps,params:=ps,assign,body,defers:=w.heap.size }) } =
                ((aE w).push (.deferred none)).push (.loop { state:=.ready,pending:=none,fn,tmps:=a.tmps,params:=ps,assign,body,defers:=w.heap.size }):=by simp[aE,oh]
            rw[e2];exact h
        | some l0 =>
          simp only[yh] at h;split at h
          · rename_i r0 Bm
            have afm:=MV Bm;rw[uT] at h;refine ⟨{ w with heap:=w.heap.push (.loop { state:=.ready,pending:=none,fn,tmps:=a.tmps,params:=ps,assign,body,defers:=r0.defers }) },w.heap.size,[],r0.defers,?_,?_,?_,trivial,?_,?_⟩
            · simp only[Instr.enterLoop,AM afm,newObj,Sem.run_bind,Sem.run,Sem.run_pure,Result.andThen_ok]
            · exact qJ w _
            · exact EW rfl
            · intro w2 Fp;exact hm.fE ⟨rfl,λ_ _=>rfl⟩ ((qJ w _).trans Fp)
            · rw[Fx];exact h
          · exact h.elim
      unfold nY at uY;split at uY
      · rename_i gi first captured _
        cases gB:fC P gi with
        | false=>rw[gB] at uY;exact uY.elim
        | true =>
          rw[gB,gU] at uY;have hc:=uY w1 rfl;have e2:(first.toList++[Value.func (.yield l) #[] #[]]++captured.toList).toArray=first++#[Value.func (.yield l) #[] #[]]++captured:=by simp
          rw[e2] at hc;have Ft:(callFunc gi (first++#[.func (.yield l) #[] #[]]++captured)).run P w1=.ok (.enter gi (first++#[.func (.yield l) #[] #[]]++captured)) w1:=by
            unfold fC at gB;split at gB
            · rename_i Uv hf
              simp only[Bool.and_eq_true,Bool.not_eq_true'] at gB;obtain ⟨Bu,uZ⟩:=gB;have h1:¬Uv.name = "runtime.NumGoroutine" := by simpa using uZ
              have h2:¬Uv.body=none:=by intro Ud;simp[Ud] at Bu
              simp only[callFunc,program,Sem.run_bind,Sem.run,Result.andThen_ok,hf];simp[h1,h2]
            · cases gB
          refine ⟨l,mark,w1,{ target:=.fn (.func gi) captured,args:=first++#[.func (.yield l) #[] #[]] },w1,gi,_,w1,afV,?_,λ_ _=>trivial,Ft,λhx=>by simp at hx,?_⟩
          · have e3:(#[Operand.const (.func (.yield l) #[] #[])]:Array Operand).map a.eval=#[Value.func (.yield l) #[] #[]]:=by apply Array.ext';simp;rfl
            simp only[resolve,Br,e3,Deferred.ofValue,Sem.run_pure]
          · refine (Vi (r:=r) hc).mono ?_;rintro e w3 ⟨Fo,he⟩;cases e with
            | outgrown=>exact he.elim
            | panicked ch=>exact ⟨TZ w3 Fo,TO.trans Fo,he⟩
            | returned v =>
              simp only[tq] at he;split at he
              · rename_i r3 hr3
                obtain ⟨mW,hk⟩:=he;have TU:=MV hr3;have sU:=K7 (y:={ r3 with state:=.exhausted }) TU
                have Ft:=abH (P:=P) TU mW;have Fy:=TZ _ (Fo.trans sU);have Fq:=(TO.trans Fo).trans sU;have Nt:=Fw (w:=w3) (l:=l) (o:=.loop { r3 with state:=.exhausted })
                obtain ⟨W4,hW4⟩:∃W4:World,W4={ w3 with heap:=w3.heap.setIfInBounds l (.loop { r3 with state:=.exhausted }) }:=⟨_,rfl⟩
                rw[<-hW4] at Ft Fy Fq Nt;rw[show oh (.loop { r3 with state:=.exhausted })=.loop { r3 with state:=.exhausted } from rfl] at Nt
                rw[<-Nt] at hk;refine ⟨r3.pending,W4,Ft,?_⟩;have oG:cw bH { a with defers:=mark++a.defers }:=⟨lg.len,lg.val⟩
                have sY:=hk;cases hp:r3.pending with
                | none=>rw[hp] at sY;exact ⟨Fy,Fq,bH,oG,sY⟩
                | some c =>
                  rw[hp] at sY;cases c with
                  | ret=>exact wpIn_ret ⟨Fy,Fq,bH,oG,sY⟩
                  | exit id=>exact wpIn_exit ⟨Fy,Fq,bH,oG,sY⟩
                  | _=>exact sY.elim
              · exact he.elim
      · exact uY.elim
    · exact h.elim
  | _=>intro hT Q Kp fr a w ha hm hn h;exact h.elim
def gS (P:Program):List ResultVar->Fr->Hp->(List Value->Prop)->Prop
  | [],_,_,K=>K []
  | .tmp t::rs,fr,h,K=>match fr.getD t none with | some v=>gS P rs fr h λvs=>K (v::vs) | none=>False
  | .cell t ty::rs,fr,h,K=>match fr.getD t none with
    | some (.pointer (some a))=>nC P ty h a λv=>gS P rs fr h λvs=>K (v::vs)
    | _=>False
def iC (vs:List Value):Value:=match vs with | [v]=>v | vs=>.tuple vs.toArray
def iT (P:Program) (rs:List ResultVar) (zs:List Value) (Kv:Value->Hp->Prop):Qt:=λe fr h =>
 match e with
 | .normal=>gS P rs fr h λvs=>jI zs (iC vs) λv=>Kv v h
 | .ret=>gS P rs fr h λvs=>jI zs (iC vs) λv=>Kv v h
 | _=>False
def ER (tmps:Array Value):ResultVar->Sem Value
 | .tmp t=>pure (tmps.getD t undef)
 | .cell ad t=>do loadVar t (<-asAddr (tmps.getD ad undef))
theorem abx {a:Act} {w:World} {fr:Fr} (j:∀i v,fr.getD i none=some v->a.tmps.getD i undef=v):∀{b:List ResultVar} {K:List Value->Prop},gS P b fr (aE w) K ->
    ∃vs,vs.length=b.length/\(b.mapM (ER a.tmps)).run P w=.ok vs w/\K vs:=by
  intro b
  induction b with
  | nil=>intro K h;exact ⟨[],rfl,by simp,h⟩
  | cons x b g =>
    intro K h;cases x with
    | tmp t =>
      simp only[gS] at h;split at h
      · rename_i v c
        obtain ⟨vs,hl,d,e⟩:=g h;refine ⟨v::vs,by simp[hl],?_,e⟩
        simp only[List.mapM_cons,ER,Sem.run_bind,Sem.run_pure,Result.andThen_ok,d,j _ _ c]
      · exact h.elim
    | cell t ty =>
      simp only[gS] at h;split at h
      · rename_i k c
        obtain ⟨v,f,h⟩:=Ru (P:=P) h;obtain ⟨vs,hl,d,e⟩:=g h;refine ⟨v::vs,by simp[hl],?_,e⟩
        simp only[List.mapM_cons,ER,Sem.run_bind,Sem.run_pure,Result.andThen_ok,d,j _ _ c,asAddr,f]
      · exact h.elim
theorem AK {fn:Func} {a:Act} {w:World} {fr:Fr} {K:List Value->Prop} (ha:∀i v,fr.getD i none=some v->a.tmps.getD i undef=v) (h:gS P fn.results.toList fr (aE w) K):∃vs,(results fn a.tmps).run P w=.ok (iC vs) w/\K vs:=by
 obtain ⟨vs,hl,hr,hk⟩:=abx ha h;refine ⟨vs,?_,hk⟩;have e:results fn a.tmps=(do let vs <-fn.results.mapM (ER a.tmps);pure (if h:vs.size=1 then vs[0] else .tuple vs)):=by
  unfold results
  congr 1
 rw[e,<-Array.toArray_toList (xs:=fn.results),List.mapM_toArray];simp only[map_eq_pure_bind,Sem.run_bind,hr,Result.andThen_ok,Sem.run_pure]
 congr 1
 match vs with
 | []=>simp[iC]
 | [v]=>simp[iC]
 | v::u::vs=>simp[iC]
theorem Rr {w:World} {n:Nat} (h:w.heap[n]? = some (.deferred (some []))):(Instr.takeDeferred n).run P w=.ok [] { w with heap:=w.heap.setIfInBounds n (.deferred none) }:=by
 simp[Instr.takeDeferred,getObj,setObj,Sem.run,h]
theorem Fu {w:World} {n:Nat} (h:w.heap[n]? = some (.deferred (some []))):aE { w with heap:=w.heap.setIfInBounds n (.deferred none) }=aE w:=by
 rw[Fw];apply Array.ext_getElem?;intro i;rw[Array.getElem?_setIfInBounds];split
 ·rename_i e
  subst e;split
  ·rw[A2,h];rfl
  ·rw[Array.getElem?_eq_none ag]
 ·rfl
theorem S9 {m:Func} {Z:Array Value} {n:Nat} {W:World} {R:Ending->World->Prop} {u:FrameMode} (q:u≠.run) (A:W.heap.size=n) (X:World->Prop)
    (s:∀w,X w->LeavesInM (Fc none) 0 P m Z R [] u w) (p:∀w x,aY W w->n<=x->w.heap[x]? = some (.deferred (some []))->X w->X { w with heap:=w.heap.setIfInBounds x (.deferred none) }) :
    ∀(g:List Nat) (w:World),aY W w->g.Nodup->(∀x∈g,n<=x/\w.heap[x]? = some (.deferred (some [])))->X w ->
      LeavesInM (Fc none) 0 P m Z R (g.map λx=>{ target:=.collected x,args:=#[] }) u w:=by
  intro g
  induction g with
  | nil=>intro w a f c i;exact s w i
  | cons x g o =>
    intro w a f c i;obtain ⟨j,h⟩:=c x aS;refine ⟨q, .inl ⟨x,_,rfl,Rr h,(o _ ?_ (List.nodup_cons.1 f).2 ?_ (p w x a j h i))⟩⟩
    · refine ⟨a.1,a.2.1,a.2.2.1,by simpa using a.2.2.2.1,λb d l => ?_⟩
      have z:=(Array.getElem?_eq_some_iff.1 l).1;simp only[Array.getElem?_setIfInBounds];rw[if_neg ag];exact a.2.2.2.2 b d l
    · intro y k;obtain ⟨v,t⟩:=c y (by simp[k])
      refine ⟨v,?_⟩;have:x≠y:=λe=>(List.nodup_cons.1 f).1 (e ▸ k);simp only[Array.getElem?_setIfInBounds];rw[if_neg this];exact t
theorem Oa {L:cZ} {D:Nat->Array Oper->(Fr->Hp->Prop)->(List PanicEntry->Hp->Prop)->Fr->Hp->Prop} (U:oT P none D) {f:FuncId} {q:Func} {c:Code} {zs:List Value} {args:List Value} {h:Hp}
    {y:Value->Hp->Prop} {z:List PanicEntry->Hp->Prop} (S:P.funcs[f]? = some q) (T:q.body=some c)
    (H:c8 P L D none c (iT P q.results.toList zs y) z (args.map some++List.replicate (q.ntmps - args.length) none) h):cr P f args h (λv V=>dK zs v λu=>y u V) z:=by
  intro w N;subst N;have:=callsIn_of_wp_marks (F:=Fc none) (n:=0) (args:=args.toArray) (w:=w) (R:=λe j=>aY w j/\match e with
    | .returned v=>dK zs v λu=>y u (aE j)
    | .panicked J=>z J (aE j)
    | .outgrown=>False) S T trivial ?_ rfl
  · exact (callsIn_wide (n:=0)).1 this
  · refine wpIn_mono (qI U w.heap.size [] [] false c (Ou c) _ z _ _ w (cw.start args q.ntmps []) ⟨⟨[],rfl,by simp,by simp⟩,by simp,by simp⟩ (Nat.le_refl _) H) ?_
    rintro e K j ⟨O,I,t⟩;obtain ⟨⟨M,m,B,A⟩,_⟩:=O;rw[List.append_nil] at m;have g:∀i x,aY w i->w.heap.size<=x->aY w { i with heap:=i.heap.setIfInBounds x (.deferred none) }:=by
      intro i x a G;refine ⟨a.1,a.2.1,a.2.2.1,by simpa using a.2.2.2.1,λb d C => ?_⟩
      have W:=(Array.getElem?_eq_some_iff.1 C).1;simp only[Array.getElem?_setIfInBounds];rw[if_neg ag];exact a.2.2.2.2 b d C
    have fin:∀fr,cw fr K->(gS P q.results.toList fr (aE j) λvs=>jI zs (iC vs) λv=>y v (aE j)) ->
        LeavesInM (Fc none) 0 P q K.tmps (λe j=>aY w j/\match e with
          | .returned v=>dK zs v λu=>y u (aE j)
          | .panicked J=>z J (aE j)
          | .outgrown=>False) K.defers .returning j:=by
      intro fr p o;rw[m];refine S9 aS rfl (λi=>aY w i/\aE i=aE j) ?_ ?_ M j I B A ⟨I,rfl⟩
      · rintro i ⟨a,k⟩;rw[<-k] at o;obtain ⟨vs,E,Q⟩:=AK (P:=P) p.val o;exact ⟨_,E,a,AP Q⟩
      · rintro i x a G s ⟨_,k⟩;exact ⟨g i x a G,(Fu s).trans k⟩
    cases e with
    | normal=>obtain ⟨fr,p,o⟩:=t;exact fin fr p o
    | ret=>obtain ⟨fr,p,o⟩:=t;exact fin fr p o
    | panic J =>
      show LeavesInM _ _ _ _ _ _ K.defers _ _
      rw[m];refine S9 aS rfl (λi=>aY w i/\aE i=aE j) ?_ ?_ M j I B A ⟨I,rfl⟩
      · rintro i ⟨a,k⟩;exact ⟨a,by rw[k];exact t⟩
      · rintro i x a G s ⟨_,k⟩;exact ⟨g i x a G,(Fu s).trans k⟩
    | exit id=>obtain ⟨fr,p,o⟩:=t;exact o.elim
    | goto l=>obtain ⟨fr,p,o⟩:=t;exact o.elim
    | outgrown=>exact t.elim
end Go.Sh
