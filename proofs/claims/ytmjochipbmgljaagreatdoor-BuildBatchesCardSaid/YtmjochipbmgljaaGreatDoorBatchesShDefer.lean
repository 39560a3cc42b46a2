import Derived.Test.YtmjochipbmgljaaGreatDoorBatchesShRange
import Derived.RecoverIn
set_option linter.all false
namespace Go.Sh
variable {N:cG} {fr:Fr}
variable {P:Program}
def oe(P:Program)(g:FuncId)(caps:bg)(u:FrameMode)(w:World)(R:FrameMode->World->Prop):Prop:=
 CallsDIn (Fc none) 0 P g caps.toArray u w λe u' w'=>(∃v,e=.returned v)/\R u' w'
def Du(T:cG)(fr:Fr):Fr:=fr.zipIdx.map λ(v,i)=>bif T.contains i then v else none
theorem abV{i:Nat}{v:Value}(h:(Du N fr).getD i none=some v):i∈N/\fr.getD i none=some v:=by
  simp only[Du,gL]at h ⊢;grind
def CR(T:cG)(fr:Fr):List (Nat×Value):=T.filterMap λt=>(fr.getD t none).map λv=>(t,v)
theorem YY{x:Nat×Value}(h:x∈CR N fr):x.1∈N/\fr.getD x.1 none=some x.2:=by
 simp only[CR,L9]at h;obtain⟨t,b,h⟩:=h;cases a:fr.getD t none with
 |none=>grind
 |some v=>grind
theorem ak2{n:Nat}{v:Value}(a:n∈N)(h:fr.getD n none=some v):(n,v)∈CR N fr:=by
 simp only[CR,L9];grind
theorem apR{b:cG}(c:∀t∈b,t∈N){a:Array Oper}(h:zy N a=true):zy b a=true:=by
  unfold zy at h ⊢;grind
theorem awC{f:cG}{B:Bool}(j:∀t∈f,t∈N):∀c:Code,jZ N B c=true->jZ f B c=true:=by
 intro c
 induction c with
 |region id k i=>exact apR j
 |seq x y e d=>intro h;simp only[jZ,dm]at h ⊢;simp[*]
 |cond c x y e d=>intro h;simp only[jZ,dm]at h ⊢;simp[*]
 |block id x h=>exact h
 |loop x h=>exact h
 |rangeFunc g l a b=>exact id
 |_=>exact λ_=>rfl
theorem abC{m:Func}{Z:Array Value}{n:Nat}{W:World}{R:Ending->World->Prop}{u:FrameMode}{ds:List Deferred}(q:u≠.run)(X:World->Prop)
    (r:∀w,X w->LeavesInM (Fc none) 0 P m Z R ds u w) (p:∀w x,cE W w->n<=x->w.heap[x]? =some (.deferred (some []))->X w->X {w with heap:=w.heap.setIfInBounds x (.deferred none)}) (z:W.heap.size=n):∀(g:cG)(w:World),cE W w->g.Nodup->(∀x∈g,n<=x/\w.heap[x]? =some (.deferred (some [])))->X w->
      LeavesInM (Fc none) 0 P m Z R ((g.map λx=>{target:=.collected x,args:=#[]})++ds) u w:=by
  intro g
  induction g with
  |nil=>grind
  | cons x g o=>
    intro w a f c i;obtain⟨j,h⟩:=c x aA;refine⟨q,.inl ⟨x,_,rfl,Z8 h,(o _ ?_ (List.nodup_cons.1 f).2 ?_ (p w x a j h i))⟩⟩
    · refine⟨a.1,a.2.1,a.2.2.1,bU,λb d l=>?_⟩
      have v:=(kS.1 l).1;simp only[vg];rw[ay];exact a.2.2.2.2 b d l
    grind
theorem aoq{g:FuncId}(b:jV P g=true)(c:Array Value)(w:World):(invoke (.fn (.func g) c) #[]).run P w=.ok (.enter g c) w:=by
  unfold jV at b;split at b
  · rename_i a i
    simp only[dm,tS]at b;obtain⟨h,f⟩:=b;have k:¬a.name="runtime.NumGoroutine":=by simpa using f
    have j:¬a.body=none:=by intro e;simp[e]at h
    simp only[invoke,callFunc];simp[*]
  ·cases b
theorem aop{g:FuncId}(b:jV P g=true)(c:Array Value)(w:World):(invoke (.fn (.func g) #[]) c).run P w=.ok (.enter g c) w:=by
  unfold jV at b;split at b
  · rename_i a i
    simp only[dm,tS]at b;obtain⟨h,f⟩:=b;have k:¬a.name="runtime.NumGoroutine":=by simpa using f
    have j:¬a.body=none:=by intro e;simp[e]at h
    simp only[invoke,callFunc];simp[*]
  ·cases b
def Fu(P:Program)(bS:fS)(D:Nat->Array Oper->(Fr->HP)->PK->Fr->HP):List Code->Qt->Fr->HP
 |[],Q,fr,h=>Q .normal fr h
 |c::cs,Q,fr,h=>fV P bS D none c (zm (λcW h'=>Fu P bS D cs Q cW h') Q) (λ_ _=>False) fr h
def Fl:List Code->Code->Code
 |[],c=>c
 |a::l,c=>.seq a (Fl l c)
theorem aud{bS:fS}{D:Nat->Array Oper->(Fr->HP)->PK->Fr->HP}(hD:vr P none D){f g:FuncId}{fn:Func}{pre:List Code}{c2:Code}{id:Nat}{o:Oper}{call:Call}(T:cG)
    {zs:bg} {args:bg} {h:Hp} {Kv:de} {Kp:PK} (hf:P.funcs[f]? =some fn) (hb:fn.body=some (Fl pre (.seq (.region id #[o] false) c2)))
    (ho:o.op=.defer call) (U:call.callee=.value (.func g)) (hd:o.dst=none) (hg:o.guard=none)
    (hT1:pre.all (jZ [] true)=true) (hT:jZ T false c2=true) (fu:jV P g=true)
    (H:Fu P bS D pre (λe fr h1=>match e with
      |.normal=>∃(j:bg)(B:PK),iH (ev fr) call.args.toList=some j/\fV P bS D none c2 (mM P fn.results.toList zs Kv) B fr h1/\
          (∀w,oe P g j .returning w λM k=>M=.returning/\cE w k/\aT k=aT w)/\
          (∀A w,B A (aT w)->oe P g j (.panicking A) w λM k=>settle M=.returning/\cE w k/\lC P fn.results.toList (Du T fr) (aT k) λvs=>nN zs (mO vs) λv=>Kv v (aT k))
      |.ret=>lC P fn.results.toList fr h1 λvs=>nN zs (mO vs) λv=>Kv v h1
      |_=>False) (args.map some++List.replicate (fn.ntmps-args.length) none) h):dP P f args h (λv h'=>gO zs v λO=>Kv O h') Kp:=by
  intro w hw;subst hw;have:=callsIn_of_wp_marks (F:=Fc none) (n:=0) (args:=args.toArray) (w:=w) (R:=λe k=>cE w k/\match e with
    |.returned v=>gO zs v λO=>Kv O (aT k)
    |.panicked A=>Kp A (aT k)
    |.outgrown=>False) hf hb trivial ?_ rfl
  ·exact(callsIn_wide).1 this
  · have L:∀z x,cE w z->w.heap.size<=x->cE w {z with heap:=z.heap.setIfInBounds x (.deferred none)}:=by
      intro z x m W;refine⟨m.1,m.2.1,m.2.2.1,by simpa using m.2.2.2.1,λb d k'=>?_⟩
      have eW:=(kS.1 k').1;simp only[vg];rw[ay];exact m.2.2.2.2 b d k'
    have m':∀(C:Act)(z:World)(s:Fr),C.defers=[]->cE w z->eC s C->(∃(j:bg)(B:PK),iH (ev s) call.args.toList=some j/\fV P bS D none c2 (mM P fn.results.toList zs Kv) B s (aT z)/\
          (∀w,oe P g j .returning w λM k=>M=.returning/\cE w k/\aT k=aT w)/\
          (∀A w,B A (aT w)->oe P g j (.panicking A) w λM k=>settle M=.returning/\cE w k/\lC P fn.results.toList (Du T s) (aT k) λvs=>nN zs (mO vs) λv=>Kv v (aT k)))->
        (Code.seq (.region id #[o] false) c2).wpIn (Fc none) 0 P (bodyPostM (Fc none) 0 P fn λe k=>cE w k/\match e with
          |.returned v=>gO zs v λO=>Kv O (aT k)
          |.panicked A=>Kp A (aT k)
          |.outgrown=>False) C z:=by
      intro C z s e' m E X;obtain⟨j,B,f',H2,o',p'⟩:=X;refine wpIn_seq (wpIn_region ?_)
      show wpOpsIn (Fc none) 0 P #[o] _ [0] C z
      rw[wpOpsIn_cons];unfold wV;simp only[show(#[o]:Array Oper)[0]? =some o from rfl];rw[aI (by simp[Region.wanted,hg])]
      refine⟨λ_ _=>trivial,?_⟩;have g':=DL (λx v W=>E.ev x v W) f';have G:(o.semAt (Fc none).round C.eval).run P z=.ok (.defer {target:=.fn (.func g) #[],args:=j.toArray}) z:=by
        show(execOp C.eval o).run P z=_
        unfold execOp;have e1:call.args.map C.eval=j.toArray:=by rw[<-g'];apply tR;simp
        have e2:C.eval (.func g)=.func (.func g) #[] #[]:=rfl;simp only[ho,resolve,U,e1,e2,Deferred.ofValue,Sem.run_bind,Sem.run_pure,Result.andThen_ok];simp
      rw[G,Oper.uponIn_defer,hd,e'];have SZ:eC s {C with defers:=[{target:=.fn (.func g) #[],args:=j.toArray}]}:=⟨E.len,E.val⟩
      have n':∀t∈(CR T s).map (·.1),t∈T:=by
        intro t ht;obtain⟨x,W,rfl⟩:=lU.1 ht;exact(YY W).1
      apply wpIn_mono (xx hD w.heap.size [{target:=.fn (.func g) #[],args:=j.toArray}] (CR T s) false c2 (awC n' c2 hT) _ _ _ _ z SZ ⟨⟨[],rfl,aA,aA⟩,λx W=>E.val _ _ (YY W).2,aA⟩ m.2.2.2.1 H2)
      rintro e a4 w4 ⟨⟨⟨rs,q',Dx,y'⟩,c',_⟩,x',he⟩;have Z:=m.trans x';have go:∀(u:FrameMode),u≠.run->(∀I,cE w I->aT I=aT w4->oe P g j u I λM k=>settle M=.returning/\cE I k/\∃p,(∀i v,p.getD i none=some v->a4.tmps.getD i undef=v)/\lC P fn.results.toList p (aT k) λvs=>nN zs (mO vs) λv=>Kv v (aT k))->
          LeavesInM (Fc none) 0 P fn a4.tmps (λe k=>cE w k/\match e with
            |.returned v=>gO zs v λO=>Kv O (aT k)
            |.panicked A=>Kp A (aT k)
            |.outgrown=>False) a4.defers u w4:=by
        intro u hu d';rw[q'];refine abC hu (λI=>cE w I/\aT I=aT w4) ?_ ?_ rfl rs w4 Z Dx y' ⟨Z,rfl⟩
        · rintro I ⟨N,J⟩;refine⟨hu,.inr ⟨(λq=>by cases q),_,_,g,j.toArray,rfl,aop fu _ _,λ_ _=>trivial,(d' I N J).mono ?_⟩⟩
          rintro e6 u6 w6 ⟨⟨v6,rfl⟩,a',Q,p,t',y⟩;simp only[a'];obtain⟨vs,G,hk⟩:=Fz t' y;exact⟨_,G,N.trans Q,FH hk⟩
        ·grind[Ki]
      have Y:∀p,eC p a4->(lC P fn.results.toList p (aT w4) λvs=>nN zs (mO vs) λv=>Kv v (aT w4))->LeavesInM (Fc none) 0 P fn a4.tmps (λe k=>cE w k/\match e with
            |.returned v=>gO zs v λO=>Kv O (aT k)
            |.panicked A=>Kp A (aT k)
            |.outgrown=>False) a4.defers .returning w4:=λp K y=>by
        refine go .returning aA λI N J=>(o' I).mono ?_;rintro e6 u6 w6 ⟨hv,rfl,Q,r'⟩;exact⟨hv,rfl,Q,p,K.val,dM⟩
      cases e with
      |normal=>obtain⟨p,K,y⟩:=he;exact Y p K y
      |ret=>obtain⟨p,K,y⟩:=he;exact Y p K y
      | panic A=>
        refine go (.panicking A) aA λI N J=>(p' A I (by rw[J];exact he)).mono ?_
        rintro e6 u6 w6 ⟨hv,a',Q,z'⟩;exact⟨hv,a',Q,_,λi v hi=>c' _ (ak2 (abV hi).1 (abV hi).2),z'⟩
      |exit id=>obtain⟨p,K,y⟩:=he;exact y.elim
      |goto l=>obtain⟨p,K,y⟩:=he;exact y.elim
      |outgrown=>exact he.elim
    have key:∀(pre:List Code),pre.all (jZ [] true)=true->∀(C:Act)(z:World)(s:Fr),C.defers=[]->cE w z->eC s C->Fu P bS D pre (λe fr h1=>match e with
      |.normal=>∃(j:bg)(B:PK),iH (ev fr) call.args.toList=some j/\fV P bS D none c2 (mM P fn.results.toList zs Kv) B fr h1/\
          (∀w,oe P g j .returning w λM k=>M=.returning/\cE w k/\aT k=aT w)/\
          (∀A w,B A (aT w)->oe P g j (.panicking A) w λM k=>settle M=.returning/\cE w k/\lC P fn.results.toList (Du T fr) (aT k) λvs=>nN zs (mO vs) λv=>Kv v (aT k))
      |.ret=>lC P fn.results.toList fr h1 λvs=>nN zs (mO vs) λv=>Kv v h1
      |_=>False) s (aT z)->(Fl pre (.seq (.region id #[o] false) c2)).wpIn (Fc none) 0 P (bodyPostM (Fc none) 0 P fn λe k=>cE w k/\match e with
          |.returned v=>gO zs v λO=>Kv O (aT k)
          |.panicked A=>Kp A (aT k)
          |.outgrown=>False) C z:=by
      intro pre
      induction pre with
      |nil=>exact λ_ C z s V m E hH=>m' C z s V m E hH
      | cons c cs ih=>
        intro S C z s V m E hH;simp only[List.all_cons,dm]at S;refine wpIn_seq (wpIn_mono (xx hD w.heap.size [] [] true c S.1 _ _ _ _ z E ⟨⟨[],dM,aA,aA⟩,aA,λ_=>V⟩ m.2.2.2.1 hH) ?_)
        rintro e a2 w2 ⟨⟨_,_,Gt⟩,i',X⟩;have j':=Gt aA;cases e with
        |panic A=>exact X.elim
        |outgrown=>exact X.elim
        |exit id=>obtain⟨_,_,q⟩:=X;exact(by cases cs <;> exact q.elim)
        |goto l=>obtain⟨_,_,q⟩:=X;exact(by cases cs <;> exact q.elim)
        | ret=>
          obtain⟨l',b',q⟩:=X
          show LeavesInM _ _ _ _ _ _ a2.defers _ _
          rw[j'];obtain⟨vs,G,hk⟩:=Fz b'.val q;exact⟨_,G,m.trans i',FH hk⟩
        |normal=>obtain⟨l',b',q⟩:=X;exact ih S.2 a2 w2 l' j' (m.trans i') b' q
    grind[cE.refl,eC.start]
theorem avn{bS:fS}{D:Nat->Array Oper->(Fr->HP)->PK->Fr->HP}(hD:vr P none D){g:FuncId}{fn:Func}{rest:Code}{id:Nat}{r1 r2:Oper}{tr t2:Nat}{call:Call}{caps:bg}{h:Hp}{K:Hp->Prop}
  {u u':FrameMode} {rv:Value} (hf:P.funcs[g]? =some fn) (hb:fn.body=some (.seq (.region id #[r1,r2] false) rest)) (O:r1.op=.call call) (k:call.callee=.builtin .recover) (A:call.args=#[]) (E:r1.dst=some tr) (R:r1.guard=none)
  (N:r2.op=.assign (.tmp tr)) (C:r2.dst=some t2) (Q:r2.guard=none) (G:fn.results=#[]) (hT:jZ [] true rest=true)
  (hu:(u=.returning/\rv=.nilIface/\u'=.returning)\/u=.panicking [{v:=rv,recovered:=false}]/\u'=.panicking [{v:=rv,recovered:=true}])
  (d:Nat.blt tr (caps.length+(fn.ntmps-caps.length))=true)
  (H:fV P bS D none rest (λe _ X=>match e with|.normal=>K X|.ret=>K X|_=>False) (λ_ _=>False) (((caps.map some++List.replicate (fn.ntmps-caps.length) none).set tr (some rv)).set t2 (some rv)) h):∀w,aT w=h->oe P g caps u w λu2 b=>u2=u'/\cE w b/\K (aT b):=by
 intro w Z;subst Z;refine callsDIn_of_wpSIn hf hb trivial λc0 cs p=>?_;have r:=eC.start caps fn.ntmps [];generalize I:caps.map some++List.replicate _ none=s at r H;have j:({tmps:=caps.toArray++Array.replicate (fn.ntmps-caps.toArray.size) undef,defers:=[]}:Act).defers=[]:=rfl;generalize({tmps:=caps.toArray++Array.replicate (fn.ntmps-caps.toArray.size) undef,defers:=[]}:Act)=m at r j;have d:tr<s.length:=by rw[<-I];have:=U6 d;simp;omega
 have F:eC (s.set tr (some rv)) (m.put r1.dst rv):=by rw[E];exact r.put (some tr) (λx L=>by cases L;rfl)
 have S:(m.put r1.dst rv).eval _=rv:=F.ev (.tmp tr) _ (by simp[Sh.ev,d])
 have T:eC ((s.set tr (some rv)).set t2 (some rv)) ((m.put r1.dst rv).put r2.dst rv):=by rw[C];exact F.put (some t2) (λx L=>by cases L;rfl)
 have i:((m.put r1.dst rv).put r2.dst rv).defers=[]:=by rw[E,C];exact j
 -- Y U J
 have n:(u'=.returning\/u'=.panicking [{v:=rv,recovered:=true}])->rest.wpSIn (Fc none) 0 P (bodyPostS P fn c0 cs λe u2 b=>(∃v,e=.returned v)/\u2=u'/\cE w b/\K (aT b)) ((m.put r1.dst rv).put r2.dst rv) ({c0 with mode:=u'}::cs) w:=by
  intro _;refine wpSIn_of_wpIn rfl (wpIn_mono (xx hD w.heap.size [] [] true rest hT _ _ _ _ w T ⟨⟨[],by simpa using i,aA,aA⟩,aA,λ_=>i⟩ (bP _) H) ?_)
  rintro e a b ⟨⟨_,_,hm⟩,V,B⟩;have W:=hm aA;have o:(results fn a.tmps).run P b=.ok (.tuple #[]) b:=by simp[results,G]
  cases e with
  |normal=>obtain⟨_,_,M⟩:=B;exact⟨W,u',rfl,_,o,⟨_,rfl⟩,rfl,V,M⟩
  |ret=>obtain⟨_,_,M⟩:=B;exact⟨W,u',rfl,_,o,⟨_,rfl⟩,rfl,V,M⟩
  |panic ch=>exact B.elim
  |outgrown=>exact B.elim
  |exit id=>grind
  |goto l=>grind
 refine wpSIn_seq (wpSIn_region ?_)
 show wpOpsSIn (Fc none) 0 P #[r1,r2] _ [0,1] m (c0::cs) w
 have z:(execOp m.eval r1).run P w=.ok .recover w:=by
  unfold execOp;simp only[O,resolve,k,A,Sem.run_bind,Sem.run_pure,Result.andThen_ok];simp[invoke,builtin]
 have f:∀t,rest.wpSIn (Fc none) 0 P (bodyPostS P fn c0 cs λe u2 b=>(∃v,e=.returned v)/\u2=u'/\cE w b/\K (aT b)) ((m.put r1.dst rv).put r2.dst rv) t w->
   wpOpsSIn (Fc none) 0 P #[r1,r2] (Exit.thenS (rest.wpSIn (Fc none) 0 P (bodyPostS P fn c0 cs λe u2 b=>(∃v,e=.returned v)/\u2=u'/\cE w b/\K (aT b))) (bodyPostS P fn c0 cs λe u2 b=>(∃v,e=.returned v)/\u2=u'/\cE w b/\K (aT b))) [1] (m.put r1.dst rv) t w:=by
  intro t hq;unfold wpOpsSIn;simp only[show(#[r1,r2]:Array Oper)[1]? =some r2 from rfl];refine⟨λ_ _=>trivial,?_⟩;rw[aI (by simp[Region.wanted,Q])]
  have y:(execOp (m.put r1.dst rv).eval r2).run P w=.ok (.value rv) w:=by
   unfold execOp;simp only[N,S,Sem.run_pure]
  simp only[y];exact hq
 unfold wpOpsSIn;simp only[show(#[r1,r2]:Array Oper)[0]? =some r1 from rfl];refine⟨λ_ _=>trivial,?_⟩;rw[aI (by simp[Region.wanted,R])]
 simp only[z];rcases hu with⟨rfl,rfl,rfl⟩|⟨rfl,rfl⟩
 ·have c:recoverD (c0::cs)=none:=by simp[recoverD,p]
  simp only[c];apply f _;have:=n (.inl rfl)
  rwa [show({c0 with mode:=FrameMode.returning}:Frame)=c0 by rw[<-p]]at this
 ·have c:recoverD (c0::cs)=some (rv,{c0 with mode:=.panicking [{v:=rv,recovered:=true}]}::cs):=by simp[recoverD,p]
  grind
end Go.Sh
