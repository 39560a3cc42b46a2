import Derived.Test.YtmjifnioaoamfaaGreatDoorBuildsShLoop
set_option linter.all false
namespace Go.Sh
variable {l:Nat} {h:Hp}
variable {P:Program}
def qt:PK:=λ_ _=>False
def aB(h h':Hp):Prop:=h.size<=h'.size/\∀b,b<h.size->h'[b]? =h[b]?
theorem aB.refl(h:Hp):aB h h:=⟨cr _,λ_ _=>rfl⟩
abbrev cW:=@aB.refl
theorem aB.trans{a b c:Hp}(h:aB a b)(h':aB b c):aB a c:=⟨jH h.1 h'.1,λx d=>(h'.2 x (mQ d h.1)).trans (h.2 x d)⟩
abbrev aq:=@aB.trans
theorem aB.push(h:Hp)(o:Obj):aB h (h.push o):=⟨aC,λb a=>bZ⟩
abbrev rW:=@aB.push
def Tn(S:aR)(h h':Hp):Prop:=h.size<=h'.size/\∀c,c<h.size->¬S c->h'[c]? =h[c]?
def Tw(l:Nat)(h h':Hp):Prop:=h'.size=h.size/\(∀b,b≠l->h'[b]? =h[b]?)/\∃r st pd,h[l]? =some (.loop r)/\h'[l]? =some (.loop {r with state:=st,pending:=pd})
def Z1(l:Nat)(h0 h:Hp)(K:Hp->Prop):Prop:=h[l]? =h0[l]? /\∀h',Tw l h h'->K h'
def amh(N:Hp->Prop)(X:Code->HP):Qt:=λe _ h=>match e with|.normal=>N h|.ret=>X .ret h|.exit id=>X (.exit id) h|_=>False
def setArgs(fr:Fr):List Nat->List Value->Fr
 |[],_=>fr
 |_,[]=>fr
 |t::ts,v::vs=>setArgs (fr.set t (some v)) ts vs
def Uz(P:Program)(bW:fP)(D:Nat->Array Oper->(Fr->HP)->PK->Fr->HP)(l:Nat)(fr:Fr)(ps:Array Tmp)(assign body:Code)(args:bg)(N:Hp->Prop)(X:Code->HP)(h:Hp):Prop:=
 fT P bW D (some l) assign (λe fr1 h1=>match e with
  |.normal=>Z1 l h h1 λh2=>fT P bW D (some l) body (amh N X) qt fr1 h2
  |_=>False) qt (setArgs fr ps.toList args) h
theorem ali{tm:Array Value}:∀{ts:cV}{vs:bg}{fr:Fr}{ds:List Deferred},eC fr {tmps:=tm,defers:=ds}->ts.length=vs.length->
    eC (setArgs fr ts vs) {tmps:=((ts.zip vs).foldl (λtmps x=>tmps.setIfInBounds x.1 x.2) tm),defers:=ds}:=by
  intro ts
  induction ts generalizing tm with
  |nil=>intro vs fr ds h hl;cases vs with|nil=>simpa[setArgs]using h|cons=>simp at hl
  | cons t ts a=>
    intro vs fr ds h hl;cases vs with
    |nil=>simp at hl
    | cons v vs=>
      have c:=h.set t (v':=some v) (λx b=>by cases b;rfl)
      simpa[setArgs]using(a c (by simpa using hl))
theorem Wz{w:World}{x:Loop}(h:(aV w)[l]? =some (.loop x)):w.heap[l]? =some (.loop x):=WA h
theorem AK{r:Loop}{st:LoopState}{pd:Option Code}(hl:h[l]? =some (.loop r)):Tw l h (h.setIfInBounds l (.loop {r with state:=st,pending:=pd})):=by
 refine⟨aC,λb c=>?_,r,st,pd,hl,?_⟩
 all_goals grind
theorem agA{bW:fP}{D:Nat->Array Oper->(Fr->HP)->PK->Fr->HP}(Z:∀r,uN P r D){l:Nat}{x:Loop}{fr:Fr}{b:bg}{N:Hp->Prop}{X:Code->HP}{h:Hp}{K:de}
    (hl:h[l]? =some (.loop x)) (R:x.state=.ready) (n:b.length=x.params.size) (J:ahA fr x.tmps) (H:Uz P bW D l fr x.params x.assign x.body b N X h)
    (hN:∀s,N s->∃f,s[l]? =some (.loop f)/\K (.bool true) (s.setIfInBounds l (.loop {f with state:=.ready,pending:=none})))
    (Y:∀c s,X c s->∃f,s[l]? =some (.loop f)/\K (.bool false) (s.setIfInBounds l (.loop {f with state:=.done,pending:=some c}))):vV P l b h K qt:=by
  intro w hw;subst hw;refine⟨x.fn,(x.params.zip b.toArray).foldl (λtmps(t,a)=>tmps.setIfInBounds t a) x.tmps,x.assign,x.body,?_,?_⟩
  · have:¬(b.toArray.size≠x.params.size):=by simp[n]
    simp only[Instr.yield,Sem.run_bind,HO (Wz hl),Result.andThen_ok];simp[*]
  · apply roundIn_of_wpIn (F:=Fc none) trivial;have M:eC (setArgs fr x.params.toList b) {tmps:=(x.params.zip b.toArray).foldl (λtmps(t,a)=>tmps.setIfInBounds t a) x.tmps,defers:=[]}:=by
      have e5:(x.params.zip b.toArray).foldl (λtmps(t,a)=>tmps.setIfInBounds t a) x.tmps=(x.params.toList.zip b).foldl (λtmps y=>tmps.setIfInBounds y.1 y.2) x.tmps:=by
        rw[<-Array.foldl_toList];simp
      rw[e5];exact(ali ⟨J.1,J.2⟩ (by simp[n]))
    have Q:∀(a:Act)(o:World),a.defers=[]->Marks w.heap.size [] [] false a o:=λa o ha=>⟨⟨[],by simp[ha],aC,aC⟩,aC,aC⟩
    apply wpIn_mono (wS (r:=some l) (Z (some l)) w.heap.size [] [] false x.assign (XV _) _ qt _ _ w M (Q _ w rfl) (cr _) H);rintro e a1 B ⟨T,G,C⟩;cases e with
    | normal=>
      obtain⟨A,W,V,U⟩:=C;have I:=V.trans hl;have m:=Wz I;have L:(Instr.beginRound l).run P B=.ok () {B with heap:=B.heap.setIfInBounds l (.loop {x with state:=.busy})}:=by
        simp only[Instr.beginRound,Sem.run_bind,HO m,Result.andThen_ok,Uq m,R,Sem.run_pure]
      refine⟨_,L,?_⟩;have u:=Ul (y:={x with state:=.busy}) m
      have p:=U (aV {B with heap:=B.heap.setIfInBounds l (.loop {x with state:=.busy})}) (by rw[NV];exact AK I)
      apply wpIn_mono (wS (r:=some l) (Z (some l)) w.heap.size [] [] false x.body (XV _) _ qt _ a1 _ W (T.vm (xT _ _) u) (jH G.2.2.2.1 u.2.2.2.1) p);rintro e2 a2 E ⟨a',S,j⟩;have fin:∀(d:Option Code)(f:Loop),(aV E)[l]? =some (.loop f)->K (.bool d.isNone) ((aV E).setIfInBounds l (.loop {f with state:=if d.isNone then .ready else .done,pending:=d}))->
          ∃v o,(Instr.endRound l d).run P E=.ok v o/\(cH w o/\match(Ending.returned v)with
            |.returned v=>K v (aV o)
            |.panicked O=>qt O (aV o)
            |.outgrown=>False):=by
        intro d f g q;have k:=Wz g;refine⟨.bool d.isNone,{E with heap:=E.heap.setIfInBounds l (.loop {f with state:=if d.isNone then .ready else .done,pending:=d})},?_,((G.trans u).trans S).trans (Ul k),?_⟩
        ·simp only[Instr.endRound,Sem.run_bind,HO k,Result.andThen_ok,Uq k,Sem.run_pure]
        · show K _ _
          rw[NV];exact q
      cases e2 with
      | normal=>
        obtain⟨z,_,i⟩:=j;obtain⟨f,g,q⟩:=hN _ i;exact fin none f g q
      | ret=>
        obtain⟨z,_,i⟩:=j;obtain⟨f,g,q⟩:=Y _ _ i;exact fin (some .ret) f g q
      | exit id=>
        obtain⟨z,_,i⟩:=j;obtain⟨f,g,q⟩:=Y _ _ i;exact fin (some (.exit id)) f g q
      |goto t=>obtain⟨z,_,i⟩:=j;exact i.elim
      |panic O=>exact j.elim
      |outgrown=>exact j.elim
    |exit id=>grind
    |goto t=>grind
    |ret=>grind
    |panic O=>exact C.elim
    |outgrown=>exact C.elim
def ZT{α:Type}(P:Program)(fv:Value)(xs:List α)(E:α->List Value->Prop)(tq:Hp->Prop):Prop:=
 ∀(l:Nat)(J Jx:List α->HP)(h:Hp),h.size=l+1->J [] h->(∀pre h1,J pre h1->tq h1)->(∀pre h1 h2,aB h1 h2->J pre h1->J pre h2)->(∀pre h1 h2,aB h1 h2->Jx pre h1->Jx pre h2)->
  (∀pre x gH h1 args,E x args->xs=pre++x::gH->J pre h1->vV P l args h1 (λv h2=>Tn (λc=>c<=l) h1 h2/\((v=.bool true/\J (pre++[x]) h2)\/(v=.bool false/\Jx (pre++[x]) h2))) qt)->
  tK P fv [.func (.yield l) #[] #[]] h (λ_ h2=>J xs h2\/∃pre gH,xs=pre++gH/\Jx pre h2) qt
theorem ahs{v:Value}{C:bg}{K i:de}{f e:PK}(a:tK P v C h K f)(k:∀s h,K s h->i s h)(j:∀c h,f c h->e c h):
  tK P v C h i e:=by
 unfold tK at a ⊢;grind[dW.mono]
theorem ajj{g:Hp}{o:Obj}(t:Tn (λc=>c<=l) h g):Tn (λc=>c<=l) h (g.setIfInBounds l o):=
 ⟨by simpa using t.1,λc b a=>by rw[uC,aA];exact t.2 c b a⟩
theorem IS{g:Hp}{r:Loop}(a:aB h g)(hl:h[l]? =some (.loop r)):g[l]? =some (.loop r):=(a.2 l (mq.1 hl).1).trans hl
theorem amB{bW:fP}{D:Nat->Array Oper->(Fr->HP)->PK->Fr->HP}(hD:∀r,uN P r D){rd:Option Nat}{g:Operand}{ps:Array Tmp}{assign body:Code}{Q:Qt}
    {Kp:PK} {fr:Fr} {h:Hp} {fv:Value} (uf:ev fr g=some fv) {α:Type} {xs:List α} {E:α->List Value->Prop} {tq:Hp->Prop} (vu:ZT P fv xs E tq) (adY:∀x args,E x args->args.length=ps.size)
    (hrd:match rd with|none=>True|some l0=>∃r0,h[l0]? =some (.loop r0)) (I:List α->HP) (Ix:Code->List α->HP) (h0:I [] h)
    (hG:∀pre h1 h2,aB h1 h2->I pre h1->I pre h2) (hGx:∀c pre h1 h2,aB h1 h2->Ix c pre h1->Ix c pre h2)
    (hI:∀l pre h1 h2,h.size<=l->Tw l h1 h2->I pre h1->I pre h2) (hIx:∀l c pre h1 h2,h.size<=l->Tw l h1 h2->Ix c pre h1->Ix c pre h2) (xp:∀pre h1,I pre h1->tq h1)
    (IN:∀l pre x gH h1 args,E x args->xs=pre++x::gH->h.size<=l->(∃r,h1[l]? =some (.loop r))->I pre h1->∀(N:Hp->Prop)(X:Code->HP),(∀h' h2,Tw l h1 h'->h2[l]? =h'[l]?->Tn (λc=>c<=l) h1 h2->I (pre++[x]) h2->N h2)->
      (∀c h' h2,Tw l h1 h'->h2[l]? =h'[l]?->Tn (λc=>c<=l) h1 h2->Ix c (pre++[x]) h2->X c h2)->Uz P bW D l (bW.find (iE assign+4000) fr) ps assign body args N X h1)
    (done:∀h2,I xs h2->Q .normal (bW.find (iE assign+4000) fr) h2)
    (stop:∀c pre gH h2,xs=pre++gH->Ix c pre h2->match c with
      |.ret=>Q .ret (bW.find (iE assign+4000) fr) h2
      |.exit id=>Q (.exit id) (bW.find (iE assign+4000) fr) h2
      |_=>False):fT P bW D rd (.rangeFunc g ps assign body) Q Kp fr h:=by
  simp only[fT,uf];intro fn tm xo;have key:∀(hh:Hp)(d:Nat),aB h hh->tK P fv [.func (.yield hh.size) #[] #[]] (hh.push (.loop {state:=.ready,pending:=none,fn,tmps:=tm,params:=ps,assign,body,defers:=d}))
      (λ_ h'=>zw hh.size h' λjump qk=>match jump with
        |none=>Q .normal (bW.find (iE assign+4000) fr) qk
        |some .ret=>Q .ret (bW.find (iE assign+4000) fr) qk
        |some (.exit id)=>Q (.exit id) (bW.find (iE assign+4000) fr) qk
        |_=>False) Kp:=by
    intro hh d Bg;have pn:=Bg.1;have Xd:(hh.push (.loop {state:=.ready,pending:=none,fn,tmps:=tm,params:=ps,assign,body,defers:=d}))[hh.size]? =some (.loop {state:=.ready,pending:=none,fn,tmps:=tm,params:=ps,assign,body,defers:=d}):=UL rfl
    let ak:Loop->Prop:=λr=>r.tmps=tm/\r.params=ps/\r.assign=assign/\r.body=body
    refine ahs (vu hh.size (λpre h1=>I pre h1/\∃r,h1[hh.size]? =some (.loop r)/\r.state=.ready/\r.pending=none/\ak r) (λpre h1=>∃c r,Ix c pre h1/\h1[hh.size]? =some (.loop r)/\r.state=.done/\r.pending=some c) _
      aC ⟨hG _ _ _ (Bg.trans (rW _ _)) h0,_,Xd,rfl,rfl,rfl,rfl,rfl,rfl⟩ (λpre h1 hj=>xp pre h1 hj.1) ?_ ?_ ?_) ?_ (λ_ _ hp=>hp.elim)
    ·grind[IS]
    ·grind[IS]
    · rintro pre x gH h1 args hE zj ⟨hi,r,hr,rH,Be,f1,f2,f3,f4⟩;have hb:=IN hh.size pre x gH h1 args hE zj pn ⟨r,hr⟩ hi
        (λh2=>Tn (λc=>c<=hh.size) h1 h2/\I (pre++[x]) h2/\∃r2,h2[hh.size]? =some (.loop r2)/\ak r2) (λc h2=>Tn (λc=>c<=hh.size) h1 h2/\Ix c (pre++[x]) h2/\∃r2,h2[hh.size]? =some (.loop r2)/\ak r2) ?_ ?_
      · refine agA hD (fr:=bW.find (iE assign+4000) fr) hr rH bZ dH (by rw[f2,f3,f4];exact hb) ?_ ?_
        all_goals grind[ajj,AK]
      ·rintro h' h2 ⟨_,_,r',st',pd',IC,W3⟩ heq htn Xj;grind
      ·rintro c h' h2 ⟨_,_,r',st',pd',IC,W3⟩ heq htn Xj;grind
    · rintro v h2 (⟨hi,r,hr,rH,Be,_⟩|⟨pre,gH,zj,c,r,hi,hr,rH,Be⟩)
      ·simp only[zw,hr,rH,Be];exact⟨aC,done _ (hI _ _ _ _ pn (AK hr) hi)⟩
      · simp only[zw,hr,rH,Be];refine⟨aC,?_⟩
        grind[AK]
  cases rd with
  | none=>
    simp only[Ei];exact key _ _ (rW _ _)
  | some l0=>
    obtain⟨r0,ID⟩:=hrd;simp only[Ei,ID];exact key _ _ (cW _)
end Go.Sh
