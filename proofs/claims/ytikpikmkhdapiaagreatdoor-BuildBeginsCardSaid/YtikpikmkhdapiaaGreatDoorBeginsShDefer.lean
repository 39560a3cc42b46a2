import Derived.Test.YtikpikmkhdapiaaGreatDoorBeginsShRange
import Derived.RecoverIn
set_option linter.unusedSimpArgs false
set_option linter.unusedVariables false
set_option maxRecDepth 100000
set_option maxHeartbeats 1000000
namespace Go.Sh
variable {P:Program}
def jZ (P:Program) (g:FuncId) (caps:List Value) (u:FrameMode) (w:World) (R:FrameMode->World->Prop):Prop :=
 CallsDIn (Fc none) 0 P g caps.toArray u w λe u' w'=>(∃v,e=.returned v)/\R u' w'
def xO (T:List Nat) (fr:Fr):Fr:=fr.zipIdx.map λ(v,i)=>bif T.contains i then v else none
theorem Tx {N:List Nat} {fr:Fr} {i:Nat} {v:Value} (h:(xO N fr).getD i none=some v):i∈N/\fr.getD i none=some v:=by
  simp only[xO,List.getD_eq_getElem?_getD,List.getElem?_map,List.getElem?_zipIdx] at h ⊢;cases a:fr[i]? with
  | none=>simp[a] at h
  | some x =>
    simp only[a,Option.map_some,Nat.zero_add,Option.getD_some] at h ⊢;cases b:N.contains i with
    | false=>rw[b] at h;cases h
    | true=>rw[b] at h;exact ⟨by simpa using b,h⟩
def wZ (T:List Nat) (fr:Fr):List (Nat × Value):=T.filterMap λt=>(fr.getD t none).map λv=>(t,v)
theorem Qj {N:List Nat} {fr:Fr} {x:Nat × Value} (h:x∈wZ N fr):x.1∈N/\fr.getD x.1 none=some x.2:=by
 simp only[wZ,List.mem_filterMap] at h;obtain ⟨t,b,h⟩:=h;cases a:fr.getD t none with
 | none=>rw[a] at h;cases h
 | some v=>rw[a] at h;simp only[Option.map_some,Option.some.injEq] at h;subst h;exact ⟨b,a⟩
theorem YP {N:List Nat} {fr:Fr} {n:Nat} {v:Value} (a:n∈N) (h:fr.getD n none=some v):(n,v)∈wZ N fr:=by
 simp only[wZ,List.mem_filterMap];exact ⟨n,a,by rw[h];rfl⟩
theorem acT {N b:List Nat} (c:∀t∈b,t∈N) {a:Array Oper} (h:sI N a=true):sI b a=true:=by
  unfold sI at h ⊢;rw[List.all_eq_true] at h ⊢;intro o d;have:=h o d;cases e:o.dst with
  | none=>rfl
  | some t =>
    rw[e] at this;simp only[Bool.not_eq_true',List.contains_eq_mem,decide_eq_false_iff_not] at this ⊢;exact λq=>this (c t q)
theorem ai0 {N f:List Nat} {B:Bool} (j:∀t∈f,t∈N):∀c:Code,gl N B c=true->gl f B c=true:=by
 intro c
 induction c with
 | region id k i=>exact acT j
 | seq x y e d=>intro h;simp only[gl,Bool.and_eq_true] at h ⊢;exact ⟨e h.1,d h.2⟩
 | cond c x y e d=>intro h;simp only[gl,Bool.and_eq_true] at h ⊢;exact ⟨e h.1,d h.2⟩
 | block id x h=>exact h
 | loop x h=>exact h
 | rangeFunc g l a b=>exact id
 | _=>exact λ_=>rfl
theorem S0 {m:Func} {Z:Array Value} {n:Nat} {W:World} {R:Ending->World->Prop} {u:FrameMode} {ds:List Deferred} (q:u≠.run) (X:World->Prop)
    (r:∀w,X w->LeavesInM (Fc none) 0 P m Z R ds u w) (p:∀w x,aY W w->n<=x->w.heap[x]? = some (.deferred (some []))->X w->X { w with heap:=w.heap.setIfInBounds x (.deferred none) }) (z:W.heap.size=n) :
    ∀(g:List Nat) (w:World),aY W w->g.Nodup->(∀x∈g,n<=x/\w.heap[x]? = some (.deferred (some [])))->X w ->
      LeavesInM (Fc none) 0 P m Z R ((g.map λx=>{ target:=.collected x,args:=#[] })++ds) u w:=by
  intro g
  induction g with
  | nil=>intro w a f c i;exact r w i
  | cons x g o =>
    intro w a f c i;obtain ⟨j,h⟩:=c x aS;refine ⟨q, .inl ⟨x,_,rfl,Rr h,(o _ ?_ (List.nodup_cons.1 f).2 ?_ (p w x a j h i))⟩⟩
    · refine ⟨a.1,a.2.1,a.2.2.1,by simpa using a.2.2.2.1,λb d l => ?_⟩
      have v:=(Array.getElem?_eq_some_iff.1 l).1;simp only[Array.getElem?_setIfInBounds];rw[if_neg ag];exact a.2.2.2.2 b d l
    · intro y k;obtain ⟨t,s⟩:=c y (by simp[k])
      refine ⟨t,?_⟩;have:x≠y:=λe=>(List.nodup_cons.1 f).1 (e ▸ k);simp only[Array.getElem?_setIfInBounds];rw[if_neg this];exact s
theorem abG {g:FuncId} (b:fC P g=true) (c:Array Value) (w:World):(invoke (.fn (.func g) c) #[]).run P w=.ok (.enter g c) w:=by
  unfold fC at b;split at b
  · rename_i a i
    simp only[Bool.and_eq_true,Bool.not_eq_true'] at b;obtain ⟨h,f⟩:=b;have k:¬a.name = "runtime.NumGoroutine" := by simpa using f
    have j:¬a.body=none:=by intro e;simp[e] at h
    simp only[invoke,callFunc,program,Sem.run_bind,Sem.run,Result.andThen_ok,i];simp[k,j,i,callFunc,program,Sem.run_bind,Sem.run,Result.andThen_ok]
  · cases b
theorem abF {g:FuncId} (b:fC P g=true) (c:Array Value) (w:World):(invoke (.fn (.func g) #[]) c).run P w=.ok (.enter g c) w:=by
  unfold fC at b;split at b
  · rename_i a i
    simp only[Bool.and_eq_true,Bool.not_eq_true'] at b;obtain ⟨h,f⟩:=b;have k:¬a.name = "runtime.NumGoroutine" := by simpa using f
    have j:¬a.body=none:=by intro e;simp[e] at h
    simp only[invoke,callFunc,program,Sem.run_bind,Sem.run,Result.andThen_ok,i];simp[k,j,i,callFunc,program,Sem.run_bind,Sem.run,Result.andThen_ok]
  · cases b
def AF (P:Program) (aZ:cZ) (D:Nat->Array Oper->(Fr->Hp->Prop)->(List PanicEntry->Hp->Prop)->Fr->Hp->Prop):List Code->Qt->Fr->Hp->Prop
 | [],Q,fr,h=>Q .normal fr h
 | c::cs,Q,fr,h=>c8 P aZ D none c (sC (λbH h'=>AF P aZ D cs Q bH h') Q) (λ_ _=>False) fr h
def Az:List Code->Code->Code
 | [],c=>c
 | a::l,c=>.seq a (Az l c)
theorem agM {aZ:cZ} {D:Nat->Array Oper->(Fr->Hp->Prop)->(List PanicEntry->Hp->Prop)->Fr->Hp->Prop} (hD:oT P none D) {f g:FuncId} {fn:Func} {pre:List Code} {c2:Code} {id:Nat} {o:Oper} {call:Call} (T:List Nat)
    {zs:List Value} {args:List Value} {h:Hp} {Kv:Value->Hp->Prop} {Kp:List PanicEntry->Hp->Prop} (hf:P.funcs[f]? = some fn) (hb:fn.body=some (Az pre (.seq (.region id #[o] false) c2)))
    (ho:o.op=.defer call) (U:call.callee=.value (.func g)) (hd:o.dst=none) (hg:o.guard=none)
    (NW:pre.all (gl [] true)=true) (hT:gl T false c2=true) (gB:fC P g=true)
    (H:AF P aZ D pre (λe fr h1=>match e with
      | .normal=>∃(j:List Value) (B:List PanicEntry->Hp->Prop),eV (ev fr) call.args.toList=some j/\c8 P aZ D none c2 (iT P fn.results.toList zs Kv) B fr h1 /\
          (∀w,jZ P g j .returning w λM k=>M=.returning/\aY w k/\aE k=aE w) /\
          (∀A w,B A (aE w)->jZ P g j (.panicking A) w λM k=>settle M=.returning/\aY w k/\gS P fn.results.toList (xO T fr) (aE k) λvs=>jI zs (iC vs) λv=>Kv v (aE k))
      | .ret=>gS P fn.results.toList fr h1 λvs=>jI zs (iC vs) λv=>Kv v h1
      | _=>False) (args.map some++List.replicate (fn.ntmps - args.length) none) h):cr P f args h (λv h'=>dK zs v λO=>Kv O h') Kp:=by
  intro w hw;subst hw;have:=callsIn_of_wp_marks (F:=Fc none) (n:=0) (args:=args.toArray) (w:=w) (R:=λe k=>aY w k/\match e with
    | .returned v=>dK zs v λO=>Kv O (aE k)
    | .panicked A=>Kp A (aE k)
    | .outgrown=>False) hf hb trivial ?_ rfl
  · exact (callsIn_wide (n:=0)).1 this
  · have L:∀z x,aY w z->w.heap.size<=x->aY w { z with heap:=z.heap.setIfInBounds x (.deferred none) }:=by
      intro z x m W;refine ⟨m.1,m.2.1,m.2.2.1,by simpa using m.2.2.2.1,λb d k' => ?_⟩
      have fO:=(Array.getElem?_eq_some_iff.1 k').1;simp only[Array.getElem?_setIfInBounds];rw[if_neg ag];exact m.2.2.2.2 b d k'
    have m':∀(C:Act) (z:World) (s:Fr),C.defers=[]->aY w z->cw s C->(∃(j:List Value) (B:List PanicEntry->Hp->Prop),eV (ev s) call.args.toList=some j/\c8 P aZ D none c2 (iT P fn.results.toList zs Kv) B s (aE z) /\
          (∀w,jZ P g j .returning w λM k=>M=.returning/\aY w k/\aE k=aE w) /\
          (∀A w,B A (aE w)->jZ P g j (.panicking A) w λM k=>settle M=.returning/\aY w k/\gS P fn.results.toList (xO T s) (aE k) λvs=>jI zs (iC vs) λv=>Kv v (aE k))) ->
        (Code.seq (.region id #[o] false) c2).wpIn (Fc none) 0 P (bodyPostM (Fc none) 0 P fn λe k=>aY w k/\match e with
          | .returned v=>dK zs v λO=>Kv O (aE k)
          | .panicked A=>Kp A (aE k)
          | .outgrown=>False) C z:=by
      intro C z s e' m E X;obtain ⟨j,B,f',H2,o',p'⟩:=X;refine wpIn_seq (wpIn_region ?_)
      show wpOpsIn (Fc none) 0 P #[o] _ [0] C z
      rw[wpOpsIn_cons];unfold pY;simp only[show (#[o]:Array Oper)[0]? = some o from rfl];rw[if_pos (by simp[Region.wanted,hg])]
      refine ⟨λ_ _=>trivial,?_⟩;have g':=yg (r:=C.eval) (λx v W=>E.ev x v W) f';have G:(o.semAt (Fc none).round C.eval).run P z=.ok (.defer { target:=.fn (.func g) #[],args:=j.toArray }) z:=by
        show (execOp C.eval o).run P z=_
        unfold execOp;have e1:call.args.map C.eval=j.toArray:=by rw[<-g'];apply Array.ext';simp
        have e2:C.eval (.func g)=.func (.func g) #[] #[]:=rfl;simp only[ho,resolve,U,e1,e2,Deferred.ofValue,Sem.run_bind,Sem.run_pure,Result.andThen_ok];simp
      rw[G,Oper.uponIn_defer,hd,e'];have NU:cw s { C with defers:=[{ target:=.fn (.func g) #[],args:=j.toArray }] }:=⟨E.len,E.val⟩
      have n':∀t∈(wZ T s).map (·.1),t∈T:=by
        intro t ht;obtain ⟨x,W,rfl⟩:=List.mem_map.1 ht;exact (Qj W).1
      refine wpIn_mono (qI hD w.heap.size [{ target:=.fn (.func g) #[],args:=j.toArray }] (wZ T s) false c2 (ai0 n' c2 hT) _ _ _ _ z NU ⟨⟨[],rfl,by simp,by simp⟩,λx W=>E.val _ _ (Qj W).2,by simp⟩ m.2.2.2.1 H2) ?_
      rintro e a4 w4 ⟨⟨⟨rs,q',uV,y'⟩,c',_⟩,x',he⟩;have Z:=m.trans x';have go:∀(u:FrameMode),u≠.run->(∀I,aY w I->aE I=aE w4->jZ P g j u I λM k=>settle M=.returning/\aY I k/\∃p,(∀i v,p.getD i none=some v->a4.tmps.getD i undef=v)/\gS P fn.results.toList p (aE k) λvs=>jI zs (iC vs) λv=>Kv v (aE k)) ->
          LeavesInM (Fc none) 0 P fn a4.tmps (λe k=>aY w k/\match e with
            | .returned v=>dK zs v λO=>Kv O (aE k)
            | .panicked A=>Kp A (aE k)
            | .outgrown=>False) a4.defers u w4:=by
        intro u hu d';rw[q'];refine S0 hu (λI=>aY w I/\aE I=aE w4) ?_ ?_ rfl rs w4 Z uV y' ⟨Z,rfl⟩
        · rintro I ⟨N,J⟩;refine ⟨hu, .inr ⟨(λq=>by cases q),_,_,g,j.toArray,rfl,abF gB _ _,λ_ _=>trivial,(d' I N J).mono ?_⟩⟩
          rintro e6 u6 w6 ⟨⟨v6,rfl⟩,a',Q,p,t',y⟩;simp only[a'];obtain ⟨vs,G,hk⟩:=AK (P:=P) (a:=a4) t' y;exact ⟨_,G,N.trans Q,AP hk⟩
        · rintro I x N W s' ⟨_,J⟩;exact ⟨L I x N W,(Fu s').trans J⟩
      have Y:∀p,cw p a4->(gS P fn.results.toList p (aE w4) λvs=>jI zs (iC vs) λv=>Kv v (aE w4))->LeavesInM (Fc none) 0 P fn a4.tmps (λe k=>aY w k/\match e with
            | .returned v=>dK zs v λO=>Kv O (aE k)
            | .panicked A=>Kp A (aE k)
            | .outgrown=>False) a4.defers .returning w4:=λp K y=>by
        refine go .returning aS λI N J=>(o' I).mono ?_;rintro e6 u6 w6 ⟨hv,rfl,Q,r'⟩;exact ⟨hv,rfl,Q,p,K.val,by rw[r',J];exact y⟩
      cases e with
      | normal=>obtain ⟨p,K,y⟩:=he;exact Y p K y
      | ret=>obtain ⟨p,K,y⟩:=he;exact Y p K y
      | panic A =>
        refine go (.panicking A) aS λI N J=>(p' A I (by rw[J];exact he)).mono ?_
        rintro e6 u6 w6 ⟨hv,a',Q,z'⟩;exact ⟨hv,a',Q,_,λi v hi=>c' _ (YP (Tx hi).1 (Tx hi).2),z'⟩
      | exit id=>obtain ⟨p,K,y⟩:=he;exact y.elim
      | goto l=>obtain ⟨p,K,y⟩:=he;exact y.elim
      | outgrown=>exact he.elim
    have key:∀(pre:List Code),pre.all (gl [] true)=true->∀(C:Act) (z:World) (s:Fr),C.defers=[]->aY w z->cw s C->AF P aZ D pre (λe fr h1=>match e with
      | .normal=>∃(j:List Value) (B:List PanicEntry->Hp->Prop),eV (ev fr) call.args.toList=some j/\c8 P aZ D none c2 (iT P fn.results.toList zs Kv) B fr h1 /\
          (∀w,jZ P g j .returning w λM k=>M=.returning/\aY w k/\aE k=aE w) /\
          (∀A w,B A (aE w)->jZ P g j (.panicking A) w λM k=>settle M=.returning/\aY w k/\gS P fn.results.toList (xO T fr) (aE k) λvs=>jI zs (iC vs) λv=>Kv v (aE k))
      | .ret=>gS P fn.results.toList fr h1 λvs=>jI zs (iC vs) λv=>Kv v h1
      | _=>False) s (aE z)->(Az pre (.seq (.region id #[o] false) c2)).wpIn (Fc none) 0 P (bodyPostM (Fc none) 0 P fn λe k=>aY w k/\match e with
          | .returned v=>dK zs v λO=>Kv O (aE k)
          | .panicked A=>Kp A (aE k)
          | .outgrown=>False) C z:=by
      intro pre
      induction pre with
      | nil=>exact λ_ C z s V m E hH=>m' C z s V m E hH
      | cons c cs ih =>
        intro S C z s V m E hH;simp only[List.all_cons,Bool.and_eq_true] at S;refine wpIn_seq (wpIn_mono (qI hD w.heap.size [] [] true c S.1 _ _ _ _ z E ⟨⟨[],by simpa using V,by simp,by simp⟩,by simp,λ_=>V⟩ m.2.2.2.1 hH) ?_)
        rintro e a2 w2 ⟨⟨_,_,Bo⟩,i',X⟩;have j':=Bo aS;cases e with
        | panic A=>exact X.elim
        | outgrown=>exact X.elim
        | exit id=>obtain ⟨_,_,q⟩:=X;exact (by cases cs <;> exact q.elim)
        | goto l=>obtain ⟨_,_,q⟩:=X;exact (by cases cs <;> exact q.elim)
        | ret =>
          obtain ⟨l',b',q⟩:=X
          show LeavesInM _ _ _ _ _ _ a2.defers _ _
          rw[j'];obtain ⟨vs,G,hk⟩:=AK (P:=P) (a:=a2) b'.val q;exact ⟨_,G,m.trans i',AP hk⟩
        | normal=>obtain ⟨l',b',q⟩:=X;exact ih S.2 a2 w2 l' j' (m.trans i') b' q
    exact key pre NW _ w _ rfl (aY.refl w) (cw.start args fn.ntmps []) H
theorem ahT {aZ:cZ} {D:Nat->Array Oper->(Fr->Hp->Prop)->(List PanicEntry->Hp->Prop)->Fr->Hp->Prop} (hD:oT P none D) {g:FuncId} {fn:Func} {rest:Code} {id:Nat} {r1 r2:Oper} {tr t2:Nat} {call:Call} {caps:List Value} {h:Hp} {K:Hp->Prop}
  {u u':FrameMode} {rv:Value} (hf:P.funcs[g]? = some fn) (hb:fn.body=some (.seq (.region id #[r1,r2] false) rest)) (O:r1.op=.call call) (k:call.callee=.builtin .recover) (A:call.args=#[]) (E:r1.dst=some tr) (R:r1.guard=none)
  (N:r2.op=.assign (.tmp tr)) (C:r2.dst=some t2) (Q:r2.guard=none) (G:fn.results=#[]) (hT:gl [] true rest=true)
  (hu:(u=.returning/\rv=.nilIface/\u'=.returning)\/u=.panicking [{ v:=rv,recovered:=false }]/\u'=.panicking [{ v:=rv,recovered:=true }])
  (d:Nat.blt tr (caps.length+(fn.ntmps - caps.length))=true)
  (H:c8 P aZ D none rest (λe _ X=>match e with | .normal=>K X | .ret=>K X | _=>False) (λ_ _=>False) (((caps.map some++List.replicate (fn.ntmps - caps.length) none).set tr (some rv)).set t2 (some rv)) h) :
  ∀w,aE w=h->jZ P g caps u w λu2 b=>u2=u'/\aY w b/\K (aE b):=by
 intro w Z;subst Z;refine callsDIn_of_wpSIn hf hb trivial λc0 cs p => ?_;have r:=cw.start caps fn.ntmps [];generalize I:caps.map some++List.replicate (fn.ntmps - caps.length) none=s at r H;have j:({ tmps:=caps.toArray++Array.replicate (fn.ntmps - caps.toArray.size) undef,defers:=[] }:Act).defers=[]:=rfl;generalize ({ tmps:=caps.toArray++Array.replicate (fn.ntmps - caps.toArray.size) undef,defers:=[] }:Act)=m at r j;have d:tr < s.length:=by rw[<-I];have:=Nat.le_of_ble_eq_true d;simp;omega
 have F:cw (s.set tr (some rv)) (m.put r1.dst rv):=by rw[E];exact r.put (some tr) (v':=some rv) (λx L=>by cases L;rfl)
 have S:(m.put r1.dst rv).eval (.tmp tr)=rv:=F.ev (.tmp tr) _ (by simp[Sh.ev,d])
 have T:cw ((s.set tr (some rv)).set t2 (some rv)) ((m.put r1.dst rv).put r2.dst rv):=by rw[C];exact F.put (some t2) (v':=some rv) (λx L=>by cases L;rfl)
 have i:((m.put r1.dst rv).put r2.dst rv).defers=[]:=by rw[E,C];exact j
 -- Y U J
 have n:(u'=.returning\/u'=.panicking [{ v:=rv,recovered:=true }])->rest.wpSIn (Fc none) 0 P (bodyPostS P fn c0 cs λe u2 b=>(∃v,e=.returned v)/\u2=u'/\aY w b/\K (aE b)) ((m.put r1.dst rv).put r2.dst rv) ({ c0 with mode:=u' }::cs) w:=by
  intro _;refine wpSIn_of_wpIn rfl (wpIn_mono (qI hD w.heap.size [] [] true rest hT _ _ _ _ w T ⟨⟨[],by simpa using i,by simp,by simp⟩,by simp,λ_=>i⟩ (Nat.le_refl _) H) ?_)
  rintro e a b ⟨⟨_,_,hm⟩,V,B⟩;have W:=hm aS;have o:(results fn a.tmps).run P b=.ok (.tuple #[]) b:=by simp[results,G]
  cases e with
  | normal=>obtain ⟨_,_,M⟩:=B;exact ⟨W,u',rfl,_,o,⟨_,rfl⟩,rfl,V,M⟩
  | ret=>obtain ⟨_,_,M⟩:=B;exact ⟨W,u',rfl,_,o,⟨_,rfl⟩,rfl,V,M⟩
  | panic ch=>exact B.elim
  | outgrown=>exact B.elim
  | exit id=>obtain ⟨_,_,q⟩:=B;exact q.elim
  | goto l=>obtain ⟨_,_,q⟩:=B;exact q.elim
 refine wpSIn_seq (wpSIn_region ?_)
 show wpOpsSIn (Fc none) 0 P #[r1,r2] _ [0,1] m (c0::cs) w
 have z:(execOp m.eval r1).run P w=.ok .recover w:=by
  unfold execOp;simp only[O,resolve,k,A,Sem.run_bind,Sem.run_pure,Result.andThen_ok];simp[invoke,builtin]
 have f:∀t,rest.wpSIn (Fc none) 0 P (bodyPostS P fn c0 cs λe u2 b=>(∃v,e=.returned v)/\u2=u'/\aY w b/\K (aE b)) ((m.put r1.dst rv).put r2.dst rv) t w ->
   wpOpsSIn (Fc none) 0 P #[r1,r2] (Exit.thenS (rest.wpSIn (Fc none) 0 P (bodyPostS P fn c0 cs λe u2 b=>(∃v,e=.returned v)/\u2=u'/\aY w b/\K (aE b))) (bodyPostS P fn c0 cs λe u2 b=>(∃v,e=.returned v)/\u2=u'/\aY w b/\K (aE b))) [1] (m.put r1.dst rv) t w:=by
  intro t hq;unfold wpOpsSIn;simp only[show (#[r1,r2]:Array Oper)[1]? = some r2 from rfl];refine ⟨λ_ _=>trivial,?_⟩;rw[if_pos (by simp[Region.wanted,Q])]
  have y:(execOp (m.put r1.dst rv).eval r2).run P w=.ok (.value rv) w:=by
   unfold execOp;simp only[N,S,Sem.run_pure]
  simp only[y];exact hq
 unfold wpOpsSIn;simp only[show (#[r1,r2]:Array Oper)[0]? = some r1 from rfl];refine ⟨λ_ _=>trivial,?_⟩;rw[if_pos (by simp[Region.wanted,R])]
 simp only[z];rcases hu with ⟨rfl,rfl,rfl⟩ | ⟨rfl,rfl⟩
 ·have c:recoverD (c0::cs)=none:=by simp[recoverD,p]
  simp only[c];refine f _ ?_;have:=n (.inl rfl)
  rwa [show ({ c0 with mode:=FrameMode.returning }:Frame)=c0 by rw[<-p]] at this
 ·have c:recoverD (c0::cs)=some (rv,{ c0 with mode:=.panicking [{ v:=rv,recovered:=true }] }::cs):=by simp[recoverD,p]
  simp only[c];exact f _ (n (.inr rfl))
end Go.Sh
