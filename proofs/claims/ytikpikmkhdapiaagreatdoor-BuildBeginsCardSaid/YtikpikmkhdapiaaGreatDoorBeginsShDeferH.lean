import Derived.Test.YtikpikmkhdapiaaGreatDoorBeginsShDefer
set_option linter.unusedSimpArgs false
set_option linter.unusedVariables false
set_option maxRecDepth 100000
set_option maxHeartbeats 1000000
namespace Go.Sh
variable {P:Program}
def BD (P:Program) (g:FuncId) (caps:List Value) (rs:List ResultVar) (zs:List Value) (Kv:Value->Hp->Prop):Qt:=λe fr h =>
 match e with
 | .normal=>∀w,aE w=h->jZ P g caps .returning w λu' w'=>u'=.returning/\aY w w'/\gS P rs fr (aE w') λvs=>jI zs (iC vs) λv=>Kv v (aE w')
 | .ret=>∀w,aE w=h->jZ P g caps .returning w λu' w'=>u'=.returning/\aY w w'/\gS P rs fr (aE w') λvs=>jI zs (iC vs) λv=>Kv v (aE w')
 | _=>False
theorem agL {aZ:cZ} {D:Nat->Array Oper->(Fr->Hp->Prop)->(List PanicEntry->Hp->Prop)->Fr->Hp->Prop} (hD:oT P none D) {f g:FuncId} {fn:Func} {pre:List Code} {c2:Code} {id:Nat} {o1 o2:Oper} {tc:Nat} {BI:Array Operand} {call:Call}
    {zs:List Value} {args:List Value} {h:Hp} {Kv:Value->Hp->Prop} {Kp:List PanicEntry->Hp->Prop} (hf:P.funcs[f]? = some fn) (hb:fn.body=some (Az pre (.seq (.region id #[o1,o2] false) c2)))
    (ho1:o1.op=.makeFunc (.func g) #[] BI) (A:o1.dst=some tc) (hg1:o1.guard=none) (ho2:o2.op=.defer call) (N:call.callee=.value (.tmp tc)) (k':call.args=#[]) (c':o2.dst=none) (hg2:o2.guard=none)
    (NW:pre.all (gl [] true)=true) (hT:gl [] false c2=true) (gB:fC P g=true)
    (H:AF P aZ D pre (λe fr h1=>match e with
      | .normal=>∃(j:List Value),Nat.blt tc fr.length=true/\eV (ev fr) BI.toList=some j/\c8 P aZ D none c2 (BD P g j fn.results.toList zs Kv) (λ_ _=>False) (fr.set tc (some (.func (.func g) #[] j.toArray))) h1
      | _=>False) (args.map some++List.replicate (fn.ntmps - args.length) none) h):cr P f args h (λv h'=>dK zs v λC=>Kv C h') Kp:=by
  intro w hw;subst hw;have:=callsIn_of_wp_marks (F:=Fc none) (n:=0) (args:=args.toArray) (w:=w) (R:=λe o=>aY w o/\match e with
          | .returned v=>dK zs v λC=>Kv C (aE o)
          | .panicked E=>Kp E (aE o)
          | .outgrown=>False) hf hb trivial ?_ rfl
  · exact (callsIn_wide (n:=0)).1 this
  · have z:∀s x,aY w s->w.heap.size<=x->aY w { s with heap:=s.heap.setIfInBounds x (.deferred none) }:=by
      intro s x p hx;refine ⟨p.1,p.2.1,p.2.2.1,by simpa using p.2.2.2.1,λb d l' => ?_⟩
      have O:=(Array.getElem?_eq_some_iff.1 l').1;simp only[Array.getElem?_setIfInBounds];rw[if_neg ag];exact p.2.2.2.2 b d l'
    have m':∀(B:Act) (s:World) (m:Fr),B.defers=[]->aY w s->cw m B->(∃(j:List Value),Nat.blt tc m.length=true/\eV (ev m) BI.toList=some j/\c8 P aZ D none c2 (BD P g j fn.results.toList zs Kv) (λ_ _=>False) (m.set tc (some (.func (.func g) #[] j.toArray))) (aE s)) ->
        (Code.seq (.region id #[o1,o2] false) c2).wpIn (Fc none) 0 P (bodyPostM (Fc none) 0 P fn λe o=>aY w o/\match e with
          | .returned v=>dK zs v λC=>Kv C (aE o)
          | .panicked E=>Kp E (aE o)
          | .outgrown=>False) B s:=by
      intro B s m i' p K Q;obtain ⟨j,O,j',H2⟩:=Q;have O:tc < m.length:=Nat.le_of_ble_eq_true O;generalize W:m.set tc (some (.func (.func g) #[] j.toArray))=d' at H2;have e':pn P #[o1,o2] 0 (λbH h'=>bH=d'/\h'=aE s) (λ_ _=>False) m (aE s):=by
        unfold pn;simp only[show (#[o1,o2]:Array Oper)[0]? = some o1 from rfl,hg1,ho1,A,fc,eV,j',dP];exact ⟨W,trivial⟩
      refine wpIn_seq (wpIn_region ?_)
      show wpOpsIn (Fc none) 0 P #[o1,o2] _ [0,1] B s
      rw[wpOpsIn_cons];refine AE (T:=[]) (λ_ _ _ _ _=>by simp) K e' (λbH Z X J o' b' hk => ?_) (λ_ _ _ _ _ hk=>hk.elim)
      obtain ⟨rfl,r'⟩:=hk;have g':Z.defers=[]:=o'.1.trans i';have pM:Z.eval (.tmp tc)=.func (.func g) #[] j.toArray:=by
        refine J.ev (.tmp tc) _ ?_;rw[<-W];simp[Sh.ev,O]
      rw[wpOpsIn_cons];unfold pY;simp only[show (#[o1,o2]:Array Oper)[1]? = some o2 from rfl];rw[if_pos (by simp[Region.wanted,hg2])]
      refine ⟨λ_ _=>trivial,?_⟩;have L:(o2.semAt (Fc none).round Z.eval).run P X=.ok (.defer { target:=.fn (.func g) j.toArray,args:=#[] }) X:=by
        show (execOp Z.eval o2).run P X=_
        unfold execOp;simp only[ho2,resolve,N,pM,k',Deferred.ofValue,Sem.run_bind,Sem.run_pure,Result.andThen_ok];simp
      rw[L,Oper.uponIn_defer,c',g']
      -- p' rest, p' call deferred
      have NU:cw bH { Z with defers:=[{ target:=.fn (.func g) j.toArray,args:=#[] }] }:=⟨J.len,J.val⟩
      have U:=p.trans b';have H3:c8 P aZ D none c2 (BD P g j fn.results.toList zs Kv) (λ_ _=>False) bH (aE X):=by rw[r'];exact H2
      refine wpIn_mono (qI hD w.heap.size [{ target:=.fn (.func g) j.toArray,args:=#[] }] [] false c2 hT _ _ _ _ X NU ⟨⟨[],rfl,by simp,by simp⟩,by simp,by simp⟩ U.2.2.2.1 H3) ?_
      rintro e Y w4 ⟨⟨⟨rs,n',uV,z'⟩,anh,_⟩,y',he⟩;have V:=U.trans y';have go:∀(u:FrameMode),u≠.run->(∀t,aY w t->aE t=aE w4->jZ P g j u t λu' o=>settle u'=.returning/\aY t o/\∃k,(∀i v,k.getD i none=some v->Y.tmps.getD i undef=v)/\gS P fn.results.toList k (aE o) λvs=>jI zs (iC vs) λv=>Kv v (aE o)) ->
          LeavesInM (Fc none) 0 P fn Y.tmps (λe o=>aY w o/\match e with
            | .returned v=>dK zs v λC=>Kv C (aE o)
            | .panicked E=>Kp E (aE o)
            | .outgrown=>False) Y.defers u w4:=by
        intro u hu f';rw[n'];refine S0 hu (λt=>aY w t/\aE t=aE w4) ?_ ?_ rfl rs w4 V uV z' ⟨V,rfl⟩
        · rintro t ⟨G,I⟩;refine ⟨hu, .inr ⟨(λq=>by cases q),_,_,g,j.toArray,rfl,abG gB _ _,λ_ _=>trivial,(f' t G I).mono ?_⟩⟩
          rintro e6 u6 w6 ⟨⟨v6,rfl⟩,x',a',k,t',r⟩;simp only[x'];obtain ⟨vs,L,hk⟩:=AK (P:=P) (a:=Y) t' r;exact ⟨_,L,G.trans a',AP hk⟩
        · rintro t x G hx s' ⟨_,I⟩;exact ⟨z t x G hx,(Fu s').trans I⟩
      have S:∀k,cw k Y->(∀t,aE t=aE w4->jZ P g j .returning t λu' o=>u'=.returning/\aY t o/\gS P fn.results.toList k (aE o) λvs=>jI zs (iC vs) λv=>Kv v (aE o))->LeavesInM (Fc none) 0 P fn Y.tmps (λe o=>aY w o/\match e with
            | .returned v=>dK zs v λC=>Kv C (aE o)
            | .panicked E=>Kp E (aE o)
            | .outgrown=>False) Y.defers .returning w4:=λk y r=>by
        refine go .returning aS λt G I=>(r t I).mono ?_;rintro e6 u6 w6 ⟨hv,rfl,a',q'⟩;exact ⟨hv,rfl,a',k,y.val,q'⟩
      cases e with
      | normal=>obtain ⟨k,y,r⟩:=he;exact S k y r
      | ret=>obtain ⟨k,y,r⟩:=he;exact S k y r
      | panic E=>exact he.elim
      | exit id=>obtain ⟨k,y,r⟩:=he;exact r.elim
      | goto l=>obtain ⟨k,y,r⟩:=he;exact r.elim
      | outgrown=>exact he.elim
    have key:∀(pre:List Code),pre.all (gl [] true)=true->∀(B:Act) (s:World) (m:Fr),B.defers=[]->aY w s->cw m B->AF P aZ D pre (λe fr h1=>match e with
      | .normal=>∃(j:List Value),Nat.blt tc fr.length=true/\eV (ev fr) BI.toList=some j/\c8 P aZ D none c2 (BD P g j fn.results.toList zs Kv) (λ_ _=>False) (fr.set tc (some (.func (.func g) #[] j.toArray))) h1
      | _=>False) m (aE s)->(Az pre (.seq (.region id #[o1,o2] false) c2)).wpIn (Fc none) 0 P (bodyPostM (Fc none) 0 P fn λe o=>aY w o/\match e with
          | .returned v=>dK zs v λC=>Kv C (aE o)
          | .panicked E=>Kp E (aE o)
          | .outgrown=>False) B s:=by
      intro pre
      induction pre with
      | nil=>exact λ_ B s m A p K hH=>m' B s m A p K hH
      | cons c cs ih =>
        intro M B s m A p K hH;simp only[List.all_cons,Bool.and_eq_true] at M;refine wpIn_seq (wpIn_mono (qI hD w.heap.size [] [] true c M.1 _ _ _ _ s K ⟨⟨[],by simpa using A,by simp,by simp⟩,by simp,λ_=>A⟩ p.2.2.2.1 hH) ?_)
        rintro e Z X ⟨⟨_,_,Bo⟩,b',Q⟩;have c':=Bo aS;cases e with
        | panic E=>exact Q.elim
        | outgrown=>exact Q.elim
        | ret=>obtain ⟨_,_,q⟩:=Q;exact (by cases cs <;> exact q.elim)
        | exit id=>obtain ⟨_,_,q⟩:=Q;exact (by cases cs <;> exact q.elim)
        | goto l=>obtain ⟨_,_,q⟩:=Q;exact (by cases cs <;> exact q.elim)
        | normal=>obtain ⟨d',J,q⟩:=Q;exact ih M.2 Z X d' c' (p.trans b') J q
    exact key pre NW _ w _ rfl (aY.refl w) (cw.start args fn.ntmps []) H
theorem ahU {aZ:cZ} {D:Nat->Array Oper->(Fr->Hp->Prop)->(List PanicEntry->Hp->Prop)->Fr->Hp->Prop} (z:oT P none D) {g:FuncId} {fn:Func} {c:Code} {caps:List Value} {h:Hp} {zs:List Value} {Kv:Value->Hp->Prop}
  (x:P.funcs[g]? = some fn) (y:fn.body=some c) (hT:gl [] true c=true)
  (H:c8 P aZ D none c (iT P fn.results.toList zs Kv) (λ_ _=>False) (caps.map some++List.replicate (fn.ntmps - caps.length) none) h) :
  ∀w,aE w=h->jZ P g caps .returning w λu2 b=>u2=.returning/\aY w b/\∃v,dK zs v λm=>Kv m (aE b):=by
 intro w s;subst s;refine callsDIn_of_wpSIn x y trivial λc0 cs j=>wpSIn_of_wpIn rfl (wpIn_mono (qI z w.heap.size [] [] true c hT _ _ _ _ w (cw.start caps fn.ntmps []) ⟨⟨[],rfl,by simp,by simp⟩,by simp,λ_=>rfl⟩ (Nat.le_refl _) H) ?_)
 rintro e a b ⟨⟨_,_,u⟩,p,d⟩;have r:=u aS;have fin:∀fr,cw fr a->(gS P fn.results.toList fr (aE b) λvs=>jI zs (iC vs) λv=>Kv v (aE b))->∃v,(results fn a.tmps).run P b=.ok v b/\dK zs v λm=>Kv m (aE b):=λfr i t=>by
  obtain ⟨vs,k,f⟩:=AK (P:=P) i.val t;exact ⟨_,k,AP f⟩
 cases e with
 | normal=>obtain ⟨fr,i,f⟩:=d;obtain ⟨v,o,n⟩:=fin fr i f;exact ⟨r, .returning,by rw[show ({ c0 with mode:=FrameMode.returning }:Frame)=c0 by rw[<-j]],_,o,⟨_,rfl⟩,rfl,p,_,n⟩
 | ret=>obtain ⟨fr,i,f⟩:=d;obtain ⟨v,o,n⟩:=fin fr i f;exact ⟨r, .returning,by rw[show ({ c0 with mode:=FrameMode.returning }:Frame)=c0 by rw[<-j]],_,o,⟨_,rfl⟩,rfl,p,_,n⟩
 | panic A=>exact d.elim
 | outgrown=>exact d.elim
 | exit id=>obtain ⟨_,_,q⟩:=d;exact q.elim
 | goto l=>obtain ⟨_,_,q⟩:=d;exact q.elim
end Go.Sh
