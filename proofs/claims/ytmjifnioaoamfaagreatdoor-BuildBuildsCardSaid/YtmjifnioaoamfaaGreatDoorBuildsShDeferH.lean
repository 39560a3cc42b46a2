import Derived.Test.YtmjifnioaoamfaaGreatDoorBuildsShDefer
set_option linter.all false
namespace Go.Sh
variable{P:Program}
def I3(P:Program)(g:FuncId)(caps:bg)(rs:List ResultVar)(zs:bg)(Kv:de):Qt:=λe fr h=>
 match e with
 |.normal=>∀w,aV w=h->oc P g caps .returning w λu' w'=>u'=.returning/\cH w w'/\lD P rs fr (aV w') λvs=>nI zs (l9 vs) λv=>Kv v (aV w')
 |.ret=>∀w,aV w=h->oc P g caps .returning w λu' w'=>u'=.returning/\cH w w'/\lD P rs fr (aV w') λvs=>nI zs (l9 vs) λv=>Kv v (aV w')
 |_=>False
theorem arB{bW:fP}{D:Nat->Array Oper->(Fr->HP)->PK->Fr->HP}(hD:uN P none D){f g:FuncId}{fn:Func}{pre:List Code}{c2:Code}{id:Nat}{o1 o2:Oper}{tc:Nat}{I6:Array Operand}{call:Call}
    {zs:bg} {args:bg} {h:Hp} {Kv:de} {Kp:PK} (hf:P.funcs[f]? =some fn) (hb:fn.body=some (Hy pre (.seq (.region id #[o1,o2] false) c2)))
    (ho1:o1.op=.makeFunc (.func g) #[] I6) (A:o1.dst=some tc) (hg1:o1.guard=none) (ho2:o2.op=.defer call) (N:call.callee=.value (.tmp tc)) (k':call.args=#[]) (c':o2.dst=none) (hg2:o2.guard=none)
    (hT1:pre.all (jX [] true)=true) (hT:jX [] false c2=true) (fX:jT P g=true)
    (H:HG P bW D pre (λe fr h1=>match e with
      |.normal=>∃(j:bg),Nat.blt tc fr.length=true/\iF (ev fr) I6.toList=some j/\fT P bW D none c2 (I3 P g j fn.results.toList zs Kv) (λ_ _=>False) (fr.set tc (some (.func (.func g) #[] j.toArray))) h1
      |_=>False) (args.map some++List.replicate (fn.ntmps-args.length) none) h):dW P f args h (λv h'=>gI zs v λC=>Kv C h') Kp:=by
  intro w hw;subst hw;have:=callsIn_of_wp_marks (F:=Fc none) (n:=0) (args:=args.toArray) (w:=w) (R:=λe o=>cH w o/\match e with
          |.returned v=>gI zs v λC=>Kv C (aV o)
          |.panicked E=>Kp E (aV o)
          |.outgrown=>False) hf hb trivial ?_ rfl
  ·exact(callsIn_wide).1 this
  · have z:∀s x,cH w s->w.heap.size<=x->cH w {s with heap:=s.heap.setIfInBounds x (.deferred none)}:=by
      intro s x p hx;refine⟨p.1,p.2.1,p.2.2.1,by simpa using p.2.2.2.1,λb d l'=>?_⟩
      have O:=(mq.1 l').1;simp only[uC];rw[aA];exact p.2.2.2.2 b d l'
    have m':∀(B:Act)(s:World)(m:Fr),B.defers=[]->cH w s->eC m B->(∃(j:bg),Nat.blt tc m.length=true/\iF (ev m) I6.toList=some j/\fT P bW D none c2 (I3 P g j fn.results.toList zs Kv) (λ_ _=>False) (m.set tc (some (.func (.func g) #[] j.toArray))) (aV s))->
        (Code.seq (.region id #[o1,o2] false) c2).wpIn (Fc none) 0 P (bodyPostM (Fc none) 0 P fn λe o=>cH w o/\match e with
          |.returned v=>gI zs v λC=>Kv C (aV o)
          |.panicked E=>Kp E (aV o)
          |.outgrown=>False) B s:=by
      intro B s m i' p K Q;obtain⟨j,O,j',H2⟩:=Q;have O:tc<m.length:=Y1 O;generalize W:m.set tc (some (.func (.func g) #[] j.toArray))=d' at H2;have e':uY P #[o1,o2] 0 (λcZ h'=>cZ=d'/\h'=aV s) (λ_ _=>False) m (aV s):=by
        unfold uY;simp only[show(#[o1,o2]:Array Oper)[0]? =some o1 from rfl,hg1,ho1,A,iL,iF,j',gO];exact⟨W,trivial⟩
      refine wpIn_seq (wpIn_region ?_)
      show wpOpsIn (Fc none) 0 P #[o1,o2] _ [0,1] B s
      rw[wpOpsIn_cons];refine HF (T:=[]) (λ_ _ _ _ _=>aC) K e' (λcZ Z X J o' b' hk=>?_) (λ_ _ _ _ _ hk=>hk.elim)
      obtain⟨rfl,r'⟩:=hk;have g':=o'.1.trans i';have vB:Z.eval (.tmp tc)=.func (.func g) #[] j.toArray:=by
        apply J.ev (.tmp tc) _;rw[<-W];simp[Sh.ev,O]
      rw[wpOpsIn_cons];unfold vY;simp only[show(#[o1,o2]:Array Oper)[1]? =some o2 from rfl];rw[aI (by simp[Region.wanted,hg2])]
      refine⟨λ_ _=>trivial,?_⟩;have L:(o2.semAt (Fc none).round Z.eval).run P X=.ok (.defer {target:=.fn (.func g) j.toArray,args:=#[]}) X:=by
        show(execOp Z.eval o2).run P X=_
        unfold execOp;simp only[ho2,resolve,N,vB,k',Deferred.ofValue,Sem.run_bind,Sem.run_pure,Result.andThen_ok];simp
      rw[L,Oper.uponIn_defer,c',g']
      -- p' rest,p' call deferred
      have Xt:eC cZ {Z with defers:=[{target:=.fn (.func g) j.toArray,args:=#[]}]}:=⟨J.len,J.val⟩
      have U:=p.trans b';have H3:fT P bW D none c2 (I3 P g j fn.results.toList zs Kv) (λ_ _=>False) cZ (aV X):=by rw[r'];exact H2
      apply wpIn_mono (wS hD w.heap.size [{target:=.fn (.func g) j.toArray,args:=#[]}] [] false c2 hT _ _ _ _ X Xt ⟨⟨[],rfl,aC,aC⟩,aC,aC⟩ U.2.2.2.1 H3)
      rintro e Y w4 ⟨⟨⟨rs,n',DV,z'⟩,NO,_⟩,y',he⟩;have V:=U.trans y';have go:∀(u:FrameMode),u≠.run->(∀t,cH w t->aV t=aV w4->oc P g j u t λu' o=>settle u'=.returning/\cH t o/\∃k,(∀i v,k.getD i none=some v->Y.tmps.getD i undef=v)/\lD P fn.results.toList k (aV o) λvs=>nI zs (l9 vs) λv=>Kv v (aV o))->
          LeavesInM (Fc none) 0 P fn Y.tmps (λe o=>cH w o/\match e with
            |.returned v=>gI zs v λC=>Kv C (aV o)
            |.panicked E=>Kp E (aV o)
            |.outgrown=>False) Y.defers u w4:=by
        intro u hu f';rw[n'];refine ac8 hu (λt=>cH w t/\aV t=aV w4) ?_ ?_ rfl rs w4 V DV z' ⟨V,rfl⟩
        · rintro t ⟨G,I⟩;refine⟨hu,.inr ⟨(λq=>by cases q),_,_,g,j.toArray,rfl,al2 fX _ _,λ_ _=>trivial,(f' t G I).mono ?_⟩⟩
          rintro e6 u6 w6 ⟨⟨v6,rfl⟩,x',a',k,t',r⟩;simp only[x'];obtain⟨vs,L,hk⟩:=HM t' r;exact⟨_,L,G.trans a',HV hk⟩
        ·rintro t x G hx s' ⟨_,I⟩;exact⟨z t x G hx,(NT s').trans I⟩
      have S:∀k,eC k Y->(∀t,aV t=aV w4->oc P g j .returning t λu' o=>u'=.returning/\cH t o/\lD P fn.results.toList k (aV o) λvs=>nI zs (l9 vs) λv=>Kv v (aV o))->LeavesInM (Fc none) 0 P fn Y.tmps (λe o=>cH w o/\match e with
            |.returned v=>gI zs v λC=>Kv C (aV o)
            |.panicked E=>Kp E (aV o)
            |.outgrown=>False) Y.defers .returning w4:=λk y r=>by
        refine go .returning aC λt G I=>(r t I).mono ?_;rintro e6 u6 w6 ⟨hv,rfl,a',q'⟩;exact⟨hv,rfl,a',k,y.val,q'⟩
      cases e with
      |normal=>obtain⟨k,y,r⟩:=he;exact S k y r
      |ret=>obtain⟨k,y,r⟩:=he;exact S k y r
      |panic E=>exact he.elim
      |exit id=>obtain⟨k,y,r⟩:=he;exact r.elim
      |goto l=>obtain⟨k,y,r⟩:=he;exact r.elim
      |outgrown=>exact he.elim
    have key:∀(pre:List Code),pre.all (jX [] true)=true->∀(B:Act)(s:World)(m:Fr),B.defers=[]->cH w s->eC m B->HG P bW D pre (λe fr h1=>match e with
      |.normal=>∃(j:bg),Nat.blt tc fr.length=true/\iF (ev fr) I6.toList=some j/\fT P bW D none c2 (I3 P g j fn.results.toList zs Kv) (λ_ _=>False) (fr.set tc (some (.func (.func g) #[] j.toArray))) h1
      |_=>False) m (aV s)->(Hy pre (.seq (.region id #[o1,o2] false) c2)).wpIn (Fc none) 0 P (bodyPostM (Fc none) 0 P fn λe o=>cH w o/\match e with
          |.returned v=>gI zs v λC=>Kv C (aV o)
          |.panicked E=>Kp E (aV o)
          |.outgrown=>False) B s:=by
      intro pre
      induction pre with
      |nil=>exact λ_ B s m A p K hH=>m' B s m A p K hH
      | cons c cs ih=>
        intro M B s m A p K hH;simp only[List.all_cons,dr]at M;refine wpIn_seq (wpIn_mono (wS hD w.heap.size [] [] true c M.1 _ _ _ _ s K ⟨⟨[],by simpa using A,aC,aC⟩,aC,λ_=>A⟩ p.2.2.2.1 hH) ?_)
        rintro e Z X ⟨⟨_,_,IF⟩,b',Q⟩;have c':=IF aC;cases e with
        |panic E=>exact Q.elim
        |outgrown=>exact Q.elim
        |ret=>obtain⟨_,_,q⟩:=Q;exact(by cases cs <;> exact q.elim)
        |exit id=>obtain⟨_,_,q⟩:=Q;exact(by cases cs <;> exact q.elim)
        |goto l=>obtain⟨_,_,q⟩:=Q;exact(by cases cs <;> exact q.elim)
        |normal=>obtain⟨d',J,q⟩:=Q;exact ih M.2 Z X d' c' (p.trans b') J q
    grind[cH.refl,eC.start]
theorem asN{bW:fP}{D:Nat->Array Oper->(Fr->HP)->PK->Fr->HP}(z:uN P none D){g:FuncId}{fn:Func}{c:Code}{caps:bg}{h:Hp}{zs:bg}{Kv:de}
  (x:P.funcs[g]? =some fn) (y:fn.body=some c) (hT:jX [] true c=true)
  (H:fT P bW D none c (mF P fn.results.toList zs Kv) (λ_ _=>False) (caps.map some++List.replicate (fn.ntmps-caps.length) none) h):
  ∀w,aV w=h->oc P g caps .returning w λu2 b=>u2=.returning/\cH w b/\∃v,gI zs v λm=>Kv m (aV b):=by
 intro w s;subst s;refine callsDIn_of_wpSIn x y trivial λc0 cs j=>wpSIn_of_wpIn rfl (wpIn_mono (wS z w.heap.size [] [] true c hT _ _ _ _ w (eC.start caps fn.ntmps []) ⟨⟨[],rfl,aC,aC⟩,aC,λ_=>rfl⟩ (cr _) H) ?_)
 rintro e a b ⟨⟨_,_,u⟩,p,d⟩;have r:=u aC;have fin:∀fr,eC fr a->(lD P fn.results.toList fr (aV b) λvs=>nI zs (l9 vs) λv=>Kv v (aV b))->∃v,(results fn a.tmps).run P b=.ok v b/\gI zs v λm=>Kv m (aV b):=λfr i t=>by
  obtain⟨vs,k,f⟩:=HM i.val t;exact⟨_,k,HV f⟩
 cases e with
 |normal=>obtain⟨fr,i,f⟩:=d;obtain⟨v,o,n⟩:=fin fr i f;exact⟨r,.returning,by rw[show({c0 with mode:=FrameMode.returning}:Frame)=c0 by rw[<-j]],_,o,⟨_,rfl⟩,rfl,p,_,n⟩
 |ret=>obtain⟨fr,i,f⟩:=d;obtain⟨v,o,n⟩:=fin fr i f;exact⟨r,.returning,by rw[show({c0 with mode:=FrameMode.returning}:Frame)=c0 by rw[<-j]],_,o,⟨_,rfl⟩,rfl,p,_,n⟩
 |panic A=>exact d.elim
 |outgrown=>exact d.elim
 |exit id=>obtain⟨_,_,q⟩:=d;exact q.elim
 |goto l=>obtain⟨_,_,q⟩:=d;exact q.elim
end Go.Sh
