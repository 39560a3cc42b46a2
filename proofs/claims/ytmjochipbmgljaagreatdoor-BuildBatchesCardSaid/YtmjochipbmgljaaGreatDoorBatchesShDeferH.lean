import Derived.Test.YtmjochipbmgljaaGreatDoorBatchesShDefer
set_option linter.all false
namespace Go.Sh
variable{P:Program}
def GV(P:Program)(g:FuncId)(caps:bg)(rs:List ResultVar)(zs:bg)(Kv:de):Qt:=λe fr h=>
 match e with
 |.normal=>∀w,aT w=h->oe P g caps .returning w λu' w'=>u'=.returning/\cE w w'/\lC P rs fr (aT w') λvs=>nN zs (mO vs) λv=>Kv v (aT w')
 |.ret=>∀w,aT w=h->oe P g caps .returning w λu' w'=>u'=.returning/\cE w w'/\lC P rs fr (aT w') λvs=>nN zs (mO vs) λv=>Kv v (aT w')
 |_=>False
theorem auc{bS:fS}{D:Nat->Array Oper->(Fr->HP)->PK->Fr->HP}(hD:vr P none D){f g:FuncId}{fn:Func}{pre:List Code}{c2:Code}{id:Nat}{o1 o2:Oper}{tc:Nat}{GY:Array Operand}{call:Call}
    {zs:bg} {args:bg} {h:Hp} {Kv:de} {Kp:PK} (hf:P.funcs[f]? =some fn) (hb:fn.body=some (Fl pre (.seq (.region id #[o1,o2] false) c2)))
    (ho1:o1.op=.makeFunc (.func g) #[] GY) (A:o1.dst=some tc) (hg1:o1.guard=none) (ho2:o2.op=.defer call) (N:call.callee=.value (.tmp tc)) (k':call.args=#[]) (c':o2.dst=none) (hg2:o2.guard=none)
    (hT1:pre.all (jZ [] true)=true) (hT:jZ [] false c2=true) (fu:jV P g=true)
    (H:Fu P bS D pre (λe fr h1=>match e with
      |.normal=>∃(j:bg),Nat.blt tc fr.length=true/\iH (ev fr) GY.toList=some j/\fV P bS D none c2 (GV P g j fn.results.toList zs Kv) (λ_ _=>False) (fr.set tc (some (.func (.func g) #[] j.toArray))) h1
      |_=>False) (args.map some++List.replicate (fn.ntmps-args.length) none) h):dP P f args h (λv h'=>gO zs v λC=>Kv C h') Kp:=by
  intro w hw;subst hw;have:=callsIn_of_wp_marks (F:=Fc none) (n:=0) (args:=args.toArray) (w:=w) (R:=λe o=>cE w o/\match e with
          |.returned v=>gO zs v λC=>Kv C (aT o)
          |.panicked E=>Kp E (aT o)
          |.outgrown=>False) hf hb trivial ?_ rfl
  ·exact(callsIn_wide).1 this
  · have z:∀s x,cE w s->w.heap.size<=x->cE w {s with heap:=s.heap.setIfInBounds x (.deferred none)}:=by
      intro s x p hx;refine⟨p.1,p.2.1,p.2.2.1,by simpa using p.2.2.2.1,λb d l'=>?_⟩
      have O:=(kS.1 l').1;simp only[vg];rw[ay];exact p.2.2.2.2 b d l'
    have m':∀(B:Act)(s:World)(m:Fr),B.defers=[]->cE w s->eC m B->(∃(j:bg),Nat.blt tc m.length=true/\iH (ev m) GY.toList=some j/\fV P bS D none c2 (GV P g j fn.results.toList zs Kv) (λ_ _=>False) (m.set tc (some (.func (.func g) #[] j.toArray))) (aT s))->
        (Code.seq (.region id #[o1,o2] false) c2).wpIn (Fc none) 0 P (bodyPostM (Fc none) 0 P fn λe o=>cE w o/\match e with
          |.returned v=>gO zs v λC=>Kv C (aT o)
          |.panicked E=>Kp E (aT o)
          |.outgrown=>False) B s:=by
      intro B s m i' p K Q;obtain⟨j,O,j',H2⟩:=Q;have O:tc<m.length:=U6 O;generalize W:m.set tc (some (.func (.func g) #[] j.toArray))=d' at H2;have e':vK P #[o1,o2] 0 (λcW h'=>cW=d'/\h'=aT s) (λ_ _=>False) m (aT s):=by
        unfold vK;simp only[show(#[o1,o2]:Array Oper)[0]? =some o1 from rfl,hg1,ho1,A,iL,iH,j',gR];exact⟨W,trivial⟩
      refine wpIn_seq (wpIn_region ?_)
      show wpOpsIn (Fc none) 0 P #[o1,o2] _ [0,1] B s
      rw[wpOpsIn_cons];refine Ft (T:=[]) (λ_ _ _ _ _=>aA) K e' (λcW Z X J o' b' hk=>?_) (λ_ _ _ _ _ hk=>hk.elim)
      obtain⟨rfl,r'⟩:=hk;have g':=o'.1.trans i';have wj:Z.eval (.tmp tc)=.func (.func g) #[] j.toArray:=by
        apply J.ev (.tmp tc) _;rw[<-W];simp[Sh.ev,O]
      rw[wpOpsIn_cons];unfold wV;simp only[show(#[o1,o2]:Array Oper)[1]? =some o2 from rfl];rw[aI (by simp[Region.wanted,hg2])]
      refine⟨λ_ _=>trivial,?_⟩;have L:(o2.semAt (Fc none).round Z.eval).run P X=.ok (.defer {target:=.fn (.func g) j.toArray,args:=#[]}) X:=by
        show(execOp Z.eval o2).run P X=_
        unfold execOp;simp only[ho2,resolve,N,wj,k',Deferred.ofValue,Sem.run_bind,Sem.run_pure,Result.andThen_ok];simp
      rw[L,Oper.uponIn_defer,c',g']
      -- p' rest,p' call deferred
      have SZ:eC cW {Z with defers:=[{target:=.fn (.func g) j.toArray,args:=#[]}]}:=⟨J.len,J.val⟩
      have U:=p.trans b';have H3:fV P bS D none c2 (GV P g j fn.results.toList zs Kv) (λ_ _=>False) cW (aT X):=by rw[r'];exact H2
      apply wpIn_mono (xx hD w.heap.size [{target:=.fn (.func g) j.toArray,args:=#[]}] [] false c2 hT _ _ _ _ X SZ ⟨⟨[],rfl,aA,aA⟩,aA,aA⟩ U.2.2.2.1 H3)
      rintro e Y w4 ⟨⟨⟨rs,n',Dx,z'⟩,Ka,_⟩,y',he⟩;have V:=U.trans y';have go:∀(u:FrameMode),u≠.run->(∀t,cE w t->aT t=aT w4->oe P g j u t λu' o=>settle u'=.returning/\cE t o/\∃k,(∀i v,k.getD i none=some v->Y.tmps.getD i undef=v)/\lC P fn.results.toList k (aT o) λvs=>nN zs (mO vs) λv=>Kv v (aT o))->
          LeavesInM (Fc none) 0 P fn Y.tmps (λe o=>cE w o/\match e with
            |.returned v=>gO zs v λC=>Kv C (aT o)
            |.panicked E=>Kp E (aT o)
            |.outgrown=>False) Y.defers u w4:=by
        intro u hu f';rw[n'];refine abC hu (λt=>cE w t/\aT t=aT w4) ?_ ?_ rfl rs w4 V Dx z' ⟨V,rfl⟩
        · rintro t ⟨G,I⟩;refine⟨hu,.inr ⟨(λq=>by cases q),_,_,g,j.toArray,rfl,aoq fu _ _,λ_ _=>trivial,(f' t G I).mono ?_⟩⟩
          rintro e6 u6 w6 ⟨⟨v6,rfl⟩,x',a',k,t',r⟩;simp only[x'];obtain⟨vs,L,hk⟩:=Fz t' r;exact⟨_,L,G.trans a',FH hk⟩
        ·rintro t x G hx s' ⟨_,I⟩;exact⟨z t x G hx,(Ki s').trans I⟩
      have S:∀k,eC k Y->(∀t,aT t=aT w4->oe P g j .returning t λu' o=>u'=.returning/\cE t o/\lC P fn.results.toList k (aT o) λvs=>nN zs (mO vs) λv=>Kv v (aT o))->LeavesInM (Fc none) 0 P fn Y.tmps (λe o=>cE w o/\match e with
            |.returned v=>gO zs v λC=>Kv C (aT o)
            |.panicked E=>Kp E (aT o)
            |.outgrown=>False) Y.defers .returning w4:=λk y r=>by
        refine go .returning aA λt G I=>(r t I).mono ?_;rintro e6 u6 w6 ⟨hv,rfl,a',q'⟩;exact⟨hv,rfl,a',k,y.val,q'⟩
      cases e with
      |normal=>obtain⟨k,y,r⟩:=he;exact S k y r
      |ret=>obtain⟨k,y,r⟩:=he;exact S k y r
      |panic E=>exact he.elim
      |exit id=>obtain⟨k,y,r⟩:=he;exact r.elim
      |goto l=>obtain⟨k,y,r⟩:=he;exact r.elim
      |outgrown=>exact he.elim
    have key:∀(pre:List Code),pre.all (jZ [] true)=true->∀(B:Act)(s:World)(m:Fr),B.defers=[]->cE w s->eC m B->Fu P bS D pre (λe fr h1=>match e with
      |.normal=>∃(j:bg),Nat.blt tc fr.length=true/\iH (ev fr) GY.toList=some j/\fV P bS D none c2 (GV P g j fn.results.toList zs Kv) (λ_ _=>False) (fr.set tc (some (.func (.func g) #[] j.toArray))) h1
      |_=>False) m (aT s)->(Fl pre (.seq (.region id #[o1,o2] false) c2)).wpIn (Fc none) 0 P (bodyPostM (Fc none) 0 P fn λe o=>cE w o/\match e with
          |.returned v=>gO zs v λC=>Kv C (aT o)
          |.panicked E=>Kp E (aT o)
          |.outgrown=>False) B s:=by
      intro pre
      induction pre with
      |nil=>exact λ_ B s m A p K hH=>m' B s m A p K hH
      | cons c cs ih=>
        intro M B s m A p K hH;simp only[List.all_cons,dm]at M;refine wpIn_seq (wpIn_mono (xx hD w.heap.size [] [] true c M.1 _ _ _ _ s K ⟨⟨[],by simpa using A,aA,aA⟩,aA,λ_=>A⟩ p.2.2.2.1 hH) ?_)
        rintro e Z X ⟨⟨_,_,Gt⟩,b',Q⟩;have c':=Gt aA;cases e with
        |panic E=>exact Q.elim
        |outgrown=>exact Q.elim
        |ret=>obtain⟨_,_,q⟩:=Q;exact(by cases cs <;> exact q.elim)
        |exit id=>obtain⟨_,_,q⟩:=Q;exact(by cases cs <;> exact q.elim)
        |goto l=>obtain⟨_,_,q⟩:=Q;exact(by cases cs <;> exact q.elim)
        |normal=>obtain⟨d',J,q⟩:=Q;exact ih M.2 Z X d' c' (p.trans b') J q
    grind[cE.refl,eC.start]
theorem avo{bS:fS}{D:Nat->Array Oper->(Fr->HP)->PK->Fr->HP}(z:vr P none D){g:FuncId}{fn:Func}{c:Code}{caps:bg}{h:Hp}{zs:bg}{Kv:de}
  (x:P.funcs[g]? =some fn) (y:fn.body=some c) (hT:jZ [] true c=true)
  (H:fV P bS D none c (mM P fn.results.toList zs Kv) (λ_ _=>False) (caps.map some++List.replicate (fn.ntmps-caps.length) none) h):∀w,aT w=h->oe P g caps .returning w λu2 b=>u2=.returning/\cE w b/\∃v,gO zs v λm=>Kv m (aT b):=by
 intro w s;subst s;refine callsDIn_of_wpSIn x y trivial λc0 cs j=>wpSIn_of_wpIn rfl (wpIn_mono (xx z w.heap.size [] [] true c hT _ _ _ _ w (eC.start caps fn.ntmps []) ⟨⟨[],rfl,aA,aA⟩,aA,λ_=>rfl⟩ (bP _) H) ?_)
 rintro e a b ⟨⟨_,_,u⟩,p,d⟩;have r:=u aA;have fin:∀fr,eC fr a->(lC P fn.results.toList fr _ λvs=>nN zs _ λv=>Kv v _)->∃v,(results fn a.tmps).run P b=.ok v b/\gO zs v λm=>Kv m (aT b):=λfr i t=>by
  obtain⟨vs,k,f⟩:=Fz i.val t;exact⟨_,k,FH f⟩
 cases e with
 |normal=>obtain⟨fr,i,f⟩:=d;obtain⟨v,o,n⟩:=fin fr i f;exact⟨r,.returning,by rw[show({c0 with mode:=FrameMode.returning}:Frame)=c0 by rw[<-j]],_,o,⟨_,rfl⟩,rfl,p,_,n⟩
 |ret=>obtain⟨fr,i,f⟩:=d;obtain⟨v,o,n⟩:=fin fr i f;exact⟨r,.returning,by rw[show({c0 with mode:=FrameMode.returning}:Frame)=c0 by rw[<-j]],_,o,⟨_,rfl⟩,rfl,p,_,n⟩
 |panic A=>exact d.elim
 |outgrown=>exact d.elim
 |exit id=>obtain⟨_,_,q⟩:=d;exact q.elim
 |goto l=>obtain⟨_,_,q⟩:=d;exact q.elim
end Go.Sh
