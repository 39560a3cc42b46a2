import Derived.Test.YtmjochipbmgljaaGreatDoorBatchesShLoop
set_option linter.all false
namespace Go.Sh
variable {l:Nat} {h:Hp}
variable {P:Program}
def qA:PK:=λ_ _=>False
def az(h h':Hp):Prop:=h.size<=h'.size/\∀b,b<h.size->h'[b]? =h[b]?
theorem az.refl(h:Hp):az h h:=⟨bP _,λ_ _=>rfl⟩
abbrev cK:=@az.refl
theorem az.trans{a b c:Hp}(h:az a b)(h':az b c):az a c:=⟨iY h.1 h'.1,λx d=>(h'.2 x (kZ d h.1)).trans (h.2 x d)⟩
abbrev ak:=@az.trans
theorem az.push(h:Hp)(o:Obj):az h (h.push o):=⟨aA,λb a=>bU⟩
abbrev qW:=@az.push
def Tn(S:aQ)(h h':Hp):Prop:=h.size<=h'.size/\∀c,c<h.size->¬S c->h'[c]? =h[c]?
def Tw(l:Nat)(h h':Hp):Prop:=h'.size=h.size/\(∀b,b≠l->h'[b]? =h[b]?)/\∃r st pd,h[l]? =some (.loop r)/\h'[l]? =some (.loop {r with state:=st,pending:=pd})
def Yy(l:Nat)(h0 h:Hp)(K:Hp->Prop):Prop:=h[l]? =h0[l]? /\∀h',Tw l h h'->K h'
def aoG(N:Hp->Prop)(X:Code->HP):Qt:=λe _ h=>match e with|.normal=>N h|.ret=>X .ret h|.exit id=>X (.exit id) h|_=>False
def setArgs(fr:Fr):List Nat->List Value->Fr
 |[],_=>fr
 |_,[]=>fr
 |t::ts,v::vs=>setArgs (fr.set t (some v)) ts vs
def PG(P:Program)(bS:fS)(D:Nat->Array Oper->(Fr->HP)->PK->Fr->HP)(l:Nat)(fr:Fr)(ps:Array Tmp)(assign body:Code)(args:bg)(N:Hp->Prop)(X:Code->HP)(h:Hp):Prop:=
 fV P bS D (some l) assign (λe fr1 h1=>match e with
  |.normal=>Yy l h h1 λh2=>fV P bS D (some l) body (aoG N X) qA fr1 h2
  |_=>False) qA (setArgs fr ps.toList args) h
theorem anI{tm:Array Value}:∀{ts:cG}{vs:bg}{fr:Fr}{ds:List Deferred},eC fr {tmps:=tm,defers:=ds}->ts.length=vs.length->
    eC (setArgs fr ts vs) {tmps:=((ts.zip vs).foldl (λtmps x=>tmps.setIfInBounds x.1 x.2) tm),defers:=ds}:=by
  intro ts
  induction ts generalizing tm with
  |nil=>intro vs fr ds h hl;cases vs with|nil=>simpa[setArgs]using h|cons=>simp at hl
  | cons t ts a=>
    intro vs fr ds h hl;cases vs with
    |nil=>simp at hl
    | cons v vs=>
      have c:=h.set t (v':=some v) (λx b=>by cases b;rfl)
      simpa[setArgs]using(a c (by simpa using hl))
theorem RW{w:World}{x:Loop}(h:(aT w)[l]? =some (.loop x)):w.heap[l]? =some (.loop x):=RX h
theorem AS{r:Loop}{st:LoopState}{pd:Option Code}(hl:h[l]? =some (.loop r)):Tw l h (h.setIfInBounds l (.loop {r with state:=st,pending:=pd})):=by
 refine⟨aA,λb c=>?_,r,st,pd,hl,?_⟩
 all_goals grind
theorem afl{bS:fS}{D:Nat->Array Oper->(Fr->HP)->PK->Fr->HP}(Z:∀r,vr P r D){l:Nat}{x:Loop}{fr:Fr}{b:bg}{N:Hp->Prop}{X:Code->HP}{h:Hp}{K:de}
    (hl:h[l]? =some (.loop x)) (R:x.state=.ready) (n:b.length=x.params.size) (J:ajO fr x.tmps) (H:PG P bS D l fr x.params x.assign x.body b N X h)
    (hN:∀s,N s->∃f,s[l]? =some (.loop f)/\K (.bool true) (s.setIfInBounds l (.loop {f with state:=.ready,pending:=none})))
    (Y:∀c s,X c s->∃f,s[l]? =some (.loop f)/\K (.bool false) (s.setIfInBounds l (.loop {f with state:=.done,pending:=some c}))):wS P l b h K qA:=by
  intro w hw;subst hw;refine⟨x.fn,(x.params.zip b.toArray).foldl (λtmps(t,a)=>tmps.setIfInBounds t a) x.tmps,x.assign,x.body,?_,?_⟩
  · have:¬(b.toArray.size≠x.params.size):=by simp[n]
    simp only[Instr.yield,Sem.run_bind,FB (RW hl)];simp[*]
  · apply roundIn_of_wpIn (F:=Fc none) trivial;have M:eC (setArgs fr x.params.toList b) {tmps:=(x.params.zip b.toArray).foldl (λtmps(t,a)=>tmps.setIfInBounds t a) x.tmps,defers:=[]}:=by
      have e5:(x.params.zip b.toArray).foldl (λtmps(t,a)=>tmps.setIfInBounds t a) x.tmps=(x.params.toList.zip b).foldl (λtmps y=>tmps.setIfInBounds y.1 y.2) x.tmps:=by
        rw[<-Array.foldl_toList];simp
      rw[e5];exact(anI ⟨J.1,J.2⟩ (by simp[n]))
    have Q:∀(a:Act)(o:World),a.defers=[]->Marks w.heap.size [] [] false a o:=λa o ha=>⟨⟨[],by simp[ha],aA,aA⟩,aA,aA⟩
    apply wpIn_mono (xx (r:=some l) (Z (some l)) w.heap.size [] [] false x.assign (TO _) _ qA _ _ w M (Q _ w rfl) (bP _) H);rintro e a1 B ⟨T,G,C⟩;cases e with
    | normal=>
      obtain⟨A,W,V,U⟩:=C;have I:=V.trans hl;have m:=RW I;have L:(Instr.beginRound l).run P B=.ok () {B with heap:=B.heap.setIfInBounds l (.loop {x with state:=.busy})}:=by
        simp only[Instr.beginRound,Sem.run_bind,FB m,Result.andThen_ok,Pu m,R,Sem.run_pure]
      refine⟨_,L,?_⟩;have u:=Pp (y:={x with state:=.busy}) m
      have p:=U (aT {B with heap:=B.heap.setIfInBounds l (.loop {x with state:=.busy})}) (by rw[Kk];exact AS I)
      apply wpIn_mono (xx (r:=some l) (Z (some l)) w.heap.size [] [] false x.body (TO _) _ qA _ a1 _ W (T.vX (yC _ _) u) (iY G.2.2.2.1 u.2.2.2.1) p);rintro e2 a2 E ⟨a',S,j⟩;have fin:∀(d:Option Code)(f:Loop),(aT E)[l]? =some (.loop f)->K (.bool d.isNone) ((aT E).setIfInBounds l (.loop {f with state:=if d.isNone then .ready else .done,pending:=d}))->
          ∃v o,(Instr.endRound l d).run P E=.ok v o/\(cE w o/\match(Ending.returned v)with
            |.returned v=>K v (aT o)
            |.panicked O=>qA O (aT o)
            |.outgrown=>False):=by
        intro d f g q;have k:=RW g;refine⟨.bool d.isNone,{E with heap:=E.heap.setIfInBounds l (.loop {f with state:=if d.isNone then .ready else .done,pending:=d})},?_,((G.trans u).trans S).trans (Pp k),?_⟩
        ·simp only[Instr.endRound,Sem.run_bind,FB k,Result.andThen_ok,Pu k,Sem.run_pure]
        · show K _ _
          rw[Kk];exact q
      cases e2 with
      | normal=>
        obtain⟨z,_,i⟩:=j;obtain⟨f,g,q⟩:=hN _ i;exact fin none f g q
      | ret=>
        obtain⟨z,_,i⟩:=j;obtain⟨f,g,q⟩:=Y _ _ i;exact fin (some .ret) f g q
      | exit id=>
        obtain⟨z,_,i⟩:=j;obtain⟨f,g,q⟩:=Y _ _ i;exact fin (some (.exit id)) f g q
      |goto t=>obtain⟨z,_,i⟩:=j;exact i.elim
      |panic O=>exact j.elim
      |outgrown=>exact j.elim
    |exit id=>grind
    |goto t=>grind
    |ret=>grind
    |panic O=>exact C.elim
    |outgrown=>exact C.elim
def W8{α:Type}(P:Program)(fv:Value)(xs:List α)(E:α->List Value->Prop)(tZ:Hp->Prop):Prop:=
 ∀(l:Nat)(J Jx:List α->HP)(h:Hp),h.size=l+1->J [] h->(∀pre h1,J pre h1->tZ h1)->(∀pre h1 h2,az h1 h2->J pre h1->J pre h2)->(∀pre h1 h2,az h1 h2->Jx pre h1->Jx pre h2)->
  (∀pre x gE h1 args,E x args->xs=pre++x::gE->J pre h1->wS P l args h1 (λv h2=>Tn (λc=>c<=l) h1 h2/\((v=.bool true/\J (pre++[x]) h2)\/(v=.bool false/\Jx (pre++[x]) h2))) qA)->
  uo P fv [.func (.yield l) #[] #[]] h (λ_ h2=>J xs h2\/∃pre gE,xs=pre++gE/\Jx pre h2) qA
theorem ajG{v:Value}{C:bg}{K i:de}{f e:PK}(a:uo P v C h K f)(k:∀s h,K s h->i s h)(j:∀c h,f c h->e c h):uo P v C h i e:=by
 unfold uo at a ⊢;grind[dP.mono]
theorem alC{g:Hp}{o:Obj}(t:Tn (λc=>c<=l) h g):Tn (λc=>c<=l) h (g.setIfInBounds l o):=
 ⟨by simpa using t.1,λc b a=>by rw[vg,ay];exact t.2 c b a⟩
theorem GK{g:Hp}{r:Loop}(a:az h g)(hl:h[l]? =some (.loop r)):g[l]? =some (.loop r):=(a.2 l (kS.1 hl).1).trans hl
theorem ao3{bS:fS}{D:Nat->Array Oper->(Fr->HP)->PK->Fr->HP}(hD:∀r,vr P r D){rd:Option Nat}{g:Operand}{ps:Array Tmp}{assign body:Code}{Q:Qt}
    {Kp:PK} {fr:Fr} {h:Hp} {fv:Value} (uM:ev fr g=some fv) {α:Type} {xs:List α} {E:α->List Value->Prop} {tZ:Hp->Prop} (v7:W8 P fv xs E tZ) (acA:∀x args,E x args->args.length=ps.size)
    (hrd:match rd with|none=>True|some l0=>∃r0,h[l0]? =some (.loop r0)) (I:List α->HP) (Ix:Code->List α->HP) (h0:I [] h)
    (hG:∀pre h1 h2,az h1 h2->I pre h1->I pre h2) (hGx:∀c pre h1 h2,az h1 h2->Ix c pre h1->Ix c pre h2)
    (hI:∀l pre h1 h2,h.size<=l->Tw l h1 h2->I pre h1->I pre h2) (hIx:∀l c pre h1 h2,h.size<=l->Tw l h1 h2->Ix c pre h1->Ix c pre h2) (tB:∀pre h1,I pre h1->tZ h1)
    (GC:∀l pre x gE h1 args,E x args->xs=pre++x::gE->h.size<=l->(∃r,h1[l]? =some (.loop r))->I pre h1->∀(N:Hp->Prop)(X:Code->HP),(∀h' h2,Tw l h1 h'->h2[l]? =h'[l]?->Tn (λc=>c<=l) h1 h2->I (pre++[x]) h2->N h2)->
      (∀c h' h2,Tw l h1 h'->h2[l]? =h'[l]?->Tn (λc=>c<=l) h1 h2->Ix c (pre++[x]) h2->X c h2)->PG P bS D l (bS.find (iF assign+4000) fr) ps assign body args N X h1)
    (done:∀h2,I xs h2->Q .normal (bS.find (iF assign+4000) fr) h2)
    (stop:∀c pre gE h2,xs=pre++gE->Ix c pre h2->match c with
      |.ret=>Q .ret (bS.find (iF assign+4000) fr) h2
      |.exit id=>Q (.exit id) (bS.find (iF assign+4000) fr) h2
      |_=>False):fV P bS D rd (.rangeFunc g ps assign body) Q Kp fr h:=by
  simp only[fV,uM];intro fn tm xT;have key:∀(hh:Hp)(d:Nat),az h hh->uo P fv [.func (.yield hh.size) #[] #[]] (hh.push (.loop {state:=.ready,pending:=none,fn,tmps:=tm,params:=ps,assign,body,defers:=d}))
      (λ_ h'=>zM hh.size h' λjump qn=>match jump with
        |none=>Q .normal (bS.find (iF assign+4000) fr) qn
        |some .ret=>Q .ret (bS.find (iF assign+4000) fr) qn
        |some (.exit id)=>Q (.exit id) (bS.find (iF assign+4000) fr) qn
        |_=>False) Kp:=by
    intro hh d Br;have ng:=Br.1;have SI:(hh.push _)[hh.size]? =some (.loop {state:=.ready,pending:=none,fn,tmps:=tm,params:=ps,assign,body,defers:=d}):=PX rfl
    let aq:Loop->Prop:=λr=>r.tmps=tm/\r.params=ps/\r.assign=assign/\r.body=body
    refine ajG (v7 hh.size (λpre h1=>I pre h1/\∃r,h1[hh.size]? =some (.loop r)/\r.state=.ready/\r.pending=none/\aq r) (λpre h1=>∃c r,Ix c pre h1/\h1[hh.size]? =some (.loop r)/\r.state=.done/\r.pending=some c) _
      aA ⟨hG _ _ _ (Br.trans (qW _ _)) h0,_,SI,rfl,rfl,rfl,rfl,rfl,rfl⟩ (λpre h1 hj=>tB pre h1 hj.1) ?_ ?_ ?_) ?_ (λ_ _ hp=>hp.elim)
    ·grind[GK]
    ·grind[GK]
    · rintro pre x gE h1 args hE tA ⟨hi,r,hr,si,Bo,f1,f2,f3,f4⟩;have hb:=GC hh.size pre x gE h1 args hE tA ng ⟨r,hr⟩ hi
        (λh2=>Tn (λc=>c<=hh.size) h1 h2/\I (pre++[x]) h2/\∃r2,h2[hh.size]? =some (.loop r2)/\aq r2) (λc h2=>Tn (λc=>c<=hh.size) h1 h2/\Ix c (pre++[x]) h2/\∃r2,h2[hh.size]? =some (.loop r2)/\aq r2) ?_ ?_
      · refine afl hD (fr:=bS.find (iF assign+4000) fr) hr si bU dM (by rw[f2,f3,f4];exact hb) ?_ ?_
        all_goals grind[alC,AS]
      ·rintro h' h2 ⟨_,_,r',ZI,pd',Gp,Sx⟩ heq Gn Gy;grind
      ·rintro c h' h2 ⟨_,_,r',ZI,pd',Gp,Sx⟩ heq Gn Gy;grind
    · rintro v h2 (⟨hi,r,hr,si,Bo,_⟩|⟨pre,gE,tA,c,r,hi,hr,si,Bo⟩)
      ·simp only[zM,hr,si,Bo];exact⟨aA,done _ (hI _ _ _ _ ng (AS hr) hi)⟩
      · simp only[zM,hr,si,Bo];refine⟨aA,?_⟩
        grind[AS]
  cases rd with
  | none=>
    simp only[DM];exact key _ _ (qW _ _)
  | some l0=>
    obtain⟨r0,Gq⟩:=hrd;simp only[DM,Gq];exact key _ _ (cK _)
end Go.Sh
