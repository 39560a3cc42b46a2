import Derived.Test.YtikpikmkhdapiaaGreatDoorBeginsShLoop
set_option linter.unusedSimpArgs false
set_option linter.unusedVariables false
set_option maxRecDepth 100000
set_option maxHeartbeats 1000000
namespace Go.Sh
variable {P:Program}
def kN:List PanicEntry->Hp->Prop:=λ_ _=>False
def ah (h h':Hp):Prop:=h.size<=h'.size/\∀b,b < h.size->h'[b]? = h[b]?
theorem ah.refl (h:Hp):ah h h:=⟨Nat.le_refl _,λ_ _=>rfl⟩
theorem ah.trans {a b c:Hp} (h:ah a b) (e:ah b c):ah a c:=⟨Nat.le_trans h.1 e.1,λx d=>(e.2 x (Nat.lt_of_lt_of_le d h.1)).trans (h.2 x d)⟩
theorem ah.push (h:Hp) (o:Obj):ah h (h.push o):=⟨by simp,λb a=>by rw[Array.getElem?_push,if_neg ag]⟩
def Tn (S:Nat->Prop) (h h':Hp):Prop:=h.size<=h'.size/\∀c,c < h.size->¬S c->h'[c]? = h[c]?
def Tw (l:Nat) (h h':Hp):Prop:=h'.size=h.size/\(∀b,b≠l->h'[b]? = h[b]?)/\∃r st pd,h[l]? = some (.loop r)/\h'[l]? = some (.loop { r with state:=st,pending:=pd })
def P1 (l:Nat) (h0 h:Hp) (K:Hp->Prop):Prop:=h[l]? = h0[l]? /\ ∀h',Tw l h h'->K h'
def abS (N:Hp->Prop) (X:Code->Hp->Prop):Qt:=λe _ h=>match e with | .normal=>N h | .ret=>X .ret h | .exit id=>X (.exit id) h | _=>False
def setArgs (fr:Fr):List Nat->List Value->Fr
 | [],_=>fr
 | _,[]=>fr
 | t::ts,v::vs=>setArgs (fr.set t (some v)) ts vs
def Ll (P:Program) (aZ:cZ) (D:Nat->Array Oper->(Fr->Hp->Prop)->(List PanicEntry->Hp->Prop)->Fr->Hp->Prop) (l:Nat) (fr:Fr) (ps:Array Tmp) (assign body:Code) (args:List Value) (N:Hp->Prop) (X:Code->Hp->Prop) (h:Hp):Prop :=
 c8 P aZ D (some l) assign (λe Uu h1=>match e with
  | .normal=>P1 l h h1 λh2=>c8 P aZ D (some l) body (abS N X) kN Uu h2
  | _=>False) kN (setArgs fr ps.toList args) h
theorem aa2 {tm:Array Value}:∀{ts:List Nat} {vs:List Value} {fr:Fr} {ds:List Deferred},cw fr { tmps:=tm,defers:=ds }->ts.length=vs.length ->
    cw (setArgs fr ts vs) { tmps:=((ts.zip vs).foldl (λtmps x=>tmps.setIfInBounds x.1 x.2) tm),defers:=ds }:=by
  intro ts
  induction ts generalizing tm with
  | nil=>intro vs fr ds h hl;cases vs with | nil=>simpa[setArgs] using h | cons=>simp at hl
  | cons t ts a =>
    intro vs fr ds h hl;cases vs with
    | nil=>simp at hl
    | cons v vs =>
      have c:=h.set t (v':=some v) (v:=v) (λx b=>by cases b;rfl)
      simpa[setArgs] using (a (vs:=vs) c (by simpa using hl))
theorem MU {w:World} {l:Nat} {x:Loop} (h:(aE w)[l]? = some (.loop x)):w.heap[l]? = some (.loop x):=MV h
theorem sA {h:Hp} {l:Nat} {r:Loop} {st:LoopState} {pd:Option Code} (hl:h[l]? = some (.loop r)):Tw l h (h.setIfInBounds l (.loop { r with state:=st,pending:=pd })):=by
 have a:=(Array.getElem?_eq_some_iff.1 hl).1;refine ⟨by simp,λb c => ?_,r,st,pd,hl,?_⟩
 ·rw[Array.getElem?_setIfInBounds,if_neg (λe=>c e.symm)]
 ·rw[Array.getElem?_setIfInBounds];simp[a]
theorem Wv {aZ:cZ} {D:Nat->Array Oper->(Fr->Hp->Prop)->(List PanicEntry->Hp->Prop)->Fr->Hp->Prop} (Z:∀r,oT P r D) {l:Nat} {x:Loop} {fr:Fr} {b:List Value} {N:Hp->Prop} {X:Code->Hp->Prop} {h:Hp} {K:Value->Hp->Prop}
    (hl:h[l]? = some (.loop x)) (R:x.state=.ready) (n:b.length=x.params.size) (J:XG fr x.tmps) (H:Ll P aZ D l fr x.params x.assign x.body b N X h)
    (hN:∀s,N s->∃f,s[l]? = some (.loop f)/\K (.bool true) (s.setIfInBounds l (.loop { f with state:=.ready,pending:=none })))
    (Y:∀c s,X c s->∃f,s[l]? = some (.loop f)/\K (.bool false) (s.setIfInBounds l (.loop { f with state:=.done,pending:=some c }))):pV P l b h K kN:=by
  intro w hw;subst hw;refine ⟨x.fn,(x.params.zip b.toArray).foldl (λtmps (t,a)=>tmps.setIfInBounds t a) x.tmps,x.assign,x.body,?_,?_⟩
  · have:¬(b.toArray.size≠x.params.size):=by simp[n]
    simp only[Instr.yield,Sem.run_bind,AM (MU hl),Result.andThen_ok];rw[if_neg this];simp
  · refine roundIn_of_wpIn (F:=Fc none) trivial ?_;have M:cw (setArgs fr x.params.toList b) { tmps:=(x.params.zip b.toArray).foldl (λtmps (t,a)=>tmps.setIfInBounds t a) x.tmps,defers:=[] }:=by
      have e5:(x.params.zip b.toArray).foldl (λtmps (t,a)=>tmps.setIfInBounds t a) x.tmps=(x.params.toList.zip b).foldl (λtmps y=>tmps.setIfInBounds y.1 y.2) x.tmps:=by
        rw[<-Array.foldl_toList];simp
      rw[e5];exact (aa2 (ts:=x.params.toList) (vs:=b) (fr:=fr) (ds:=[]) (tm:=x.tmps) ⟨J.1,J.2⟩ (by simp[n]))
    have Q:∀(a:Act) (o:World),a.defers=[]->Marks w.heap.size [] [] false a o:=λa o ha=>⟨⟨[],by simp[ha],by simp,by simp⟩,by simp,by simp⟩
    refine wpIn_mono (qI (r:=some l) (Z (some l)) w.heap.size [] [] false x.assign (Ou _) _ kN _ _ w M (Q _ w rfl) (Nat.le_refl _) H) ?_;rintro e a1 B ⟨T,G,C⟩;cases e with
    | normal =>
      obtain ⟨A,W,V,U⟩:=C;have I:(aE B)[l]? = some (.loop x):=V.trans hl;have m:=MU I;have L:(Instr.beginRound l).run P B=.ok () { B with heap:=B.heap.setIfInBounds l (.loop { x with state:=.busy }) }:=by
        simp only[Instr.beginRound,Sem.run_bind,AM m,Result.andThen_ok,K9 m,R,Sem.run_pure]
      refine ⟨_,L,?_⟩;have u:=K7 (y:={ x with state:=.busy }) m
      have p:=U (aE { B with heap:=B.heap.setIfInBounds l (.loop { x with state:=.busy }) }) (by rw[Fw];exact sA (st:=.busy) (pd:=x.pending) I)
      refine wpIn_mono (qI (r:=some l) (Z (some l)) w.heap.size [] [] false x.body (Ou _) _ kN _ a1 _ W (T.fE (Kd.refl _ _) u) (Nat.le_trans G.2.2.2.1 u.2.2.2.1) p) ?_;rintro e2 a2 E ⟨a',S,j⟩;have fin:∀(d:Option Code) (f:Loop),(aE E)[l]? = some (.loop f)->K (.bool d.isNone) ((aE E).setIfInBounds l (.loop { f with state:=if d.isNone then .ready else .done,pending:=d })) ->
          ∃v o,(Instr.endRound l d).run P E=.ok v o/\(aY w o/\match (Ending.returned v) with
            | .returned v=>K v (aE o)
            | .panicked O=>kN O (aE o)
            | .outgrown=>False):=by
        intro d f g q;have k:=MU g;refine ⟨.bool d.isNone,{ E with heap:=E.heap.setIfInBounds l (.loop { f with state:=if d.isNone then .ready else .done,pending:=d }) },?_,((G.trans u).trans S).trans (K7 k),?_⟩
        · simp only[Instr.endRound,Sem.run_bind,AM k,Result.andThen_ok,K9 k,Sem.run_pure]
        · show K _ _
          rw[Fw];exact q
      cases e2 with
      | normal =>
        obtain ⟨z,_,i⟩:=j;obtain ⟨f,g,q⟩:=hN _ i;exact fin none f g q
      | ret =>
        obtain ⟨z,_,i⟩:=j;obtain ⟨f,g,q⟩:=Y _ _ i;exact fin (some .ret) f g q
      | exit id =>
        obtain ⟨z,_,i⟩:=j;obtain ⟨f,g,q⟩:=Y _ _ i;exact fin (some (.exit id)) f g q
      | goto t=>obtain ⟨z,_,i⟩:=j;exact i.elim
      | panic O=>exact j.elim
      | outgrown=>exact j.elim
    | exit id=>obtain ⟨A,_,p⟩:=C;exact p.elim
    | goto t=>obtain ⟨A,_,p⟩:=C;exact p.elim
    | ret=>obtain ⟨A,_,p⟩:=C;exact p.elim
    | panic O=>exact C.elim
    | outgrown=>exact C.elim
def PL {α:Type} (P:Program) (fv:Value) (xs:List α) (E:α->List Value->Prop) (nP:Hp->Prop):Prop :=
 ∀(l:Nat) (J Jx:List α->Hp->Prop) (h:Hp),h.size=l+1->J [] h->(∀pre h1,J pre h1->nP h1)->(∀pre h1 h2,ah h1 h2->J pre h1->J pre h2)->(∀pre h1 h2,ah h1 h2->Jx pre h1->Jx pre h2) ->
  (∀pre x dw h1 args,E x args->xs=pre++x::dw->J pre h1->pV P l args h1 (λv h2=>Tn (λc=>c<=l) h1 h2/\((v=.bool true/\J (pre++[x]) h2)\/(v=.bool false/\Jx (pre++[x]) h2))) kN) ->
  nY P fv [.func (.yield l) #[] #[]] h (λ_ h2=>J xs h2\/∃pre dw,xs=pre++dw/\Jx pre h2) kN
theorem Xu {v:Value} {C:List Value} {h:Hp} {K i:Value->Hp->Prop} {f e:List PanicEntry->Hp->Prop} (a:nY P v C h K f) (k:∀s h,K s h->i s h) (j:∀c h,f c h->e c h) :
  nY P v C h i e:=by
 unfold nY at a ⊢;split at a
 ·rename_i g first b
  cases d:fC P g with
  | false=>rw[d] at a;exact a.elim
  | true=>rw[d] at a;exact cr.mono a k j
 ·exact a.elim
theorem Qw {l:Nat} {h g:Hp} {o:Obj} (t:Tn (λc=>c<=l) h g):Tn (λc=>c<=l) h (g.setIfInBounds l o) :=
 ⟨by simpa using t.1,λc b a=>by rw[Array.getElem?_setIfInBounds,if_neg (by simp only at a;omega)];exact t.2 c b a⟩
theorem Bx {h g:Hp} {l:Nat} {r:Loop} (a:ah h g) (hl:h[l]? = some (.loop r)):g[l]? = some (.loop r):=(a.2 l (Array.getElem?_eq_some_iff.1 hl).1).trans hl
theorem ab4 {aZ:cZ} {D:Nat->Array Oper->(Fr->Hp->Prop)->(List PanicEntry->Hp->Prop)->Fr->Hp->Prop} (hD:∀r,oT P r D) {rd:Option Nat} {g:Operand} {ps:Array Tmp} {assign body:Code} {Q:Qt}
    {Kp:List PanicEntry->Hp->Prop} {fr:Fr} {h:Hp} {fv:Value} (oD:ev fr g=some fv) {α:Type} {xs:List α} {E:α->List Value->Prop} {nP:Hp->Prop} (pL:PL P fv xs E nP) (NQ:∀x args,E x args->args.length=ps.size)
    (hrd:match rd with | none=>True | some l0=>∃r0,h[l0]? = some (.loop r0)) (I:List α->Hp->Prop) (Ix:Code->List α->Hp->Prop) (h0:I [] h)
    (hG:∀pre h1 h2,ah h1 h2->I pre h1->I pre h2) (NY:∀c pre h1 h2,ah h1 h2->Ix c pre h1->Ix c pre h2)
    (hI:∀l pre h1 h2,h.size<=l->Tw l h1 h2->I pre h1->I pre h2) (Uj:∀l c pre h1 h2,h.size<=l->Tw l h1 h2->Ix c pre h1->Ix c pre h2) (q9:∀pre h1,I pre h1->nP h1)
    (Bs:∀l pre x dw h1 args,E x args->xs=pre++x::dw->h.size<=l->(∃r,h1[l]? = some (.loop r))->I pre h1->∀(N:Hp->Prop) (X:Code->Hp->Prop),(∀h' h2,Tw l h1 h'->h2[l]? = h'[l]?->Tn (λc=>c<=l) h1 h2->I (pre++[x]) h2->N h2) ->
      (∀c h' h2,Tw l h1 h'->h2[l]? = h'[l]?->Tn (λc=>c<=l) h1 h2->Ix c (pre++[x]) h2->X c h2)->Ll P aZ D l (aZ.find (eI assign+4000) fr) ps assign body args N X h1)
    (done:∀h2,I xs h2->Q .normal (aZ.find (eI assign+4000) fr) h2)
    (stop:∀c pre dw h2,xs=pre++dw->Ix c pre h2->match c with
      | .ret=>Q .ret (aZ.find (eI assign+4000) fr) h2
      | .exit id=>Q (.exit id) (aZ.find (eI assign+4000) fr) h2
      | _=>False):c8 P aZ D rd (.rangeFunc g ps assign body) Q Kp fr h:=by
  simp only[c8,oD];intro fn tm oG;have key:∀(hh:Hp) (d:Nat),ah h hh->nY P fv [.func (.yield hh.size) #[] #[]] (hh.push (.loop { state:=.ready,pending:=none,fn,tmps:=tm,params:=ps,assign,body,defers:=d }))
      (λ_ h'=>tq hh.size h' λjump lN=>match jump with
        | none=>Q .normal (aZ.find (eI assign+4000) fr) lN
        | some .ret=>Q .ret (aZ.find (eI assign+4000) fr) lN
        | some (.exit id)=>Q (.exit id) (aZ.find (eI assign+4000) fr) lN
        | _=>False) Kp:=by
    intro hh d uW;have jq:=uW.1;have NG:(hh.push (.loop { state:=.ready,pending:=none,fn,tmps:=tm,params:=ps,assign,body,defers:=d }))[hh.size]? = some (.loop { state:=.ready,pending:=none,fn,tmps:=tm,params:=ps,assign,body,defers:=d }):=EW rfl
    let ai:Loop->Prop:=λr=>r.tmps=tm/\r.params=ps/\r.assign=assign/\r.body=body
    refine Xu (pL hh.size (λpre h1=>I pre h1/\∃r,h1[hh.size]? = some (.loop r)/\r.state=.ready/\r.pending=none/\ai r) (λpre h1=>∃c r,Ix c pre h1/\h1[hh.size]? = some (.loop r)/\r.state=.done/\r.pending=some c) _
      aS ⟨hG _ _ _ (uW.trans (ah.push _ _)) h0,_,NG,rfl,rfl,rfl,rfl,rfl,rfl⟩ (λpre h1 hj=>q9 pre h1 hj.1) ?_ ?_ ?_) ?_ (λ_ _ hp=>hp.elim)
    · rintro pre h1 h2 hg ⟨hi,r,hr,Bl⟩;exact ⟨hG _ _ _ hg hi,r,Bx hg hr,Bl⟩
    · rintro pre h1 h2 hg ⟨c,r,hi,hr,Bl⟩;exact ⟨c,r,NY _ _ _ _ hg hi,Bx hg hr,Bl⟩
    · rintro pre x dw h1 args hE qX ⟨hi,r,hr,mW,uU,f1,f2,f3,f4⟩;have hb:=Bs hh.size pre x dw h1 args hE qX jq ⟨r,hr⟩ hi
        (λh2=>Tn (λc=>c<=hh.size) h1 h2/\I (pre++[x]) h2/\∃r2,h2[hh.size]? = some (.loop r2)/\ai r2) (λc h2=>Tn (λc=>c<=hh.size) h1 h2/\Ix c (pre++[x]) h2/\∃r2,h2[hh.size]? = some (.loop r2)/\ai r2) ?_ ?_
      · refine Wv (aZ:=aZ) hD (fr:=aZ.find (eI assign+4000) fr) hr mW (by rw[f2];exact NQ x args hE) (by rw[f1];exact oG) (by rw[f2,f3,f4];exact hb) ?_ ?_
        · rintro h2 ⟨qZ,mX,r2,oC,g1,g2,g3,g4⟩;refine ⟨r2,oC,Qw qZ, .inl ⟨rfl,hI _ _ _ _ jq (sA oC) mX,{ r2 with state:=.ready,pending:=none },?_,rfl,rfl,g1,g2,g3,g4⟩⟩
          rw[Array.getElem?_setIfInBounds];simp[(Array.getElem?_eq_some_iff.1 oC).1]
        · rintro c h2 ⟨qZ,mX,r2,oC,_⟩;refine ⟨r2,oC,Qw qZ, .inr ⟨rfl,c,{ r2 with state:=.done,pending:=some c },Uj _ _ _ _ _ jq (sA oC) mX,?_,rfl,rfl⟩⟩
          rw[Array.getElem?_setIfInBounds];simp[(Array.getElem?_eq_some_iff.1 oC).1]
      · rintro h' h2 ⟨_,_,r',Q4,R4,q7,qZ⟩ heq Np mX;rw[hr] at q7;cases q7;exact ⟨Np,mX,_,heq.trans qZ,f1,f2,f3,f4⟩
      · rintro c h' h2 ⟨_,_,r',Q4,R4,q7,qZ⟩ heq Np mX;rw[hr] at q7;cases q7;exact ⟨Np,mX,_,heq.trans qZ,f1,f2,f3,f4⟩
    · rintro v h2 (⟨hi,r,hr,mW,uU,_⟩ | ⟨pre,dw,qX,c,r,hi,hr,mW,uU⟩)
      · simp only[tq,hr,mW,uU];exact ⟨by simp,done _ (hI _ _ _ _ jq (sA hr) hi)⟩
      · simp only[tq,hr,mW,uU];refine ⟨by simp,?_⟩
        have mX:=Uj _ c pre _ _ jq (sA (st:=.exhausted) (pd:=some c) hr) hi;have:=stop c pre dw _ qX mX;cases c <;> first | exact this | exact this.elim
  cases rd with
  | none =>
    simp only[yh];exact key _ _ (ah.push _ _)
  | some l0 =>
    obtain ⟨r0,Bm⟩:=hrd;simp only[yh,Bm];exact key _ _ (ah.refl _)
end Go.Sh
