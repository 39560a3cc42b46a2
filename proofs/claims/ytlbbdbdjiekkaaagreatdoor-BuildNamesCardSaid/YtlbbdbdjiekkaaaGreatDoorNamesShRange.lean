/- Ranges over functions: a round out of its body's reading; the rule of the statement. -/
import Derived.Test.YtlbbdbdjiekkaaaGreatDoorNamesShLoop
set_option linter.unusedVariables false
set_option linter.unusedSimpArgs false
namespace Go.Sh
variable {P:Program}
def NoP:List PanicEntry→Hp→Prop:=fun _ _=>False
/-- new blocks alone -/
def Grw (h h':Hp):Prop:=h.size≤h'.size∧∀b,b < h.size→h'[b]? = h[b]?
theorem Grw.refl (h:Hp):Grw h h:=⟨Nat.le_refl _,fun _ _=>rfl⟩
theorem Grw.trans {a b c:Hp} (h:Grw a b) (h':Grw b c):Grw a c:=⟨Nat.le_trans h.1 h'.1,fun x hx=>(h'.2 x (Nat.lt_of_lt_of_le hx h.1)).trans (h.2 x hx)⟩
theorem Grw.push (h:Hp) (o:Obj):Grw h (h.push o):=⟨by simp,fun b hb=>by rw [Array.getElem?_push,if_neg (by omega)]⟩
/-- of the old blocks only those of S have turned -/
def Tn (S:Nat→Prop) (h h':Hp):Prop:=h.size≤h'.size∧∀c,c < h.size→¬S c→h'[c]? = h[c]?
/-- the record l alone has turned -/
def Tw (l:Nat) (h h':Hp):Prop:=h'.size=h.size∧(∀b,b≠l→h'[b]? = h[b]?)∧∃r st pd,h[l]? = some (.loop r)∧h'[l]? = some (.loop { r with state:=st,pending:=pd })
def Busy (l:Nat) (h0 h:Hp) (K:Hp→Prop):Prop:=h[l]? = h0[l]? ∧ ∀h',Tw l h h'→K h'
def roundQ (N:Hp→Prop) (X:Code→Hp→Prop):Qt:=fun e _ h=>match e with | .normal=>N h | .ret=>X .ret h | .exit id=>X (.exit id) h | _=>False
def setArgs (fr:Fr):List Nat→List Value→Fr
  | [],_=>fr
  | _,[]=>fr
  | t::ts,v::vs=>setArgs (fr.set t (some v)) ts vs
def roundSem (P:Program) (ann:Ann) (D:Nat→Array Oper→(Fr→Hp→Prop)→(List PanicEntry→Hp→Prop)→Fr→Hp→Prop) (l:Nat) (fr:Fr) (ps:Array Tmp) (assign body:Code) (args:List Value) (N:Hp→Prop) (X:Code→Hp→Prop) (h:Hp):Prop :=
  sem P ann D (some l) assign (fun e fr1 h1=>match e with
    | .normal=>Busy l h h1 fun h2=>sem P ann D (some l) body (roundQ N X) NoP fr1 h2
    | _=>False) NoP (setArgs fr ps.toList args) h
theorem setArgs_agr {tm:Array Value}:∀{ts:List Nat} {vs:List Value} {fr:Fr} {ds:List Deferred},Agr fr { tmps:=tm,defers:=ds }→ts.length=vs.length →
    Agr (setArgs fr ts vs) { tmps:=((ts.zip vs).foldl (fun tmps x=>tmps.setIfInBounds x.1 x.2) tm),defers:=ds }:=by
  intro ts
  induction ts generalizing tm with
  | nil=>intro vs fr ds h hl;cases vs with | nil=>simpa [setArgs] using h | cons=>simp at hl
  | cons t ts ih =>
    intro vs fr ds h hl
    cases vs with
    | nil=>simp at hl
    | cons v vs =>
      have h2:=h.set t (v':=some v) (v:=v) (fun x hx=>by cases hx;rfl)
      have h3:=ih (vs:=vs) h2 (by simpa using hl)
      simpa [setArgs] using h3
theorem loop_of {w:World} {l:Nat} {x:Loop} (h:(hpz w)[l]? = some (.loop x)):w.heap[l]? = some (.loop x):=loop_at h
theorem tw_set {h:Hp} {l:Nat} {r:Loop} {st:LoopState} {pd:Option Code} (hl:h[l]? = some (.loop r)):Tw l h (h.setIfInBounds l (.loop { r with state:=st,pending:=pd })):=by
  have hlt:=(Array.getElem?_eq_some_iff.1 hl).1
  refine ⟨by simp,fun b hb => ?_,r,st,pd,hl,?_⟩
  · rw [Array.getElem?_setIfInBounds,if_neg (fun e=>hb e.symm)]
  · rw [Array.getElem?_setIfInBounds];simp [hlt]
theorem YieldH_of {ann:Ann} {D:Nat→Array Oper→(Fr→Hp→Prop)→(List PanicEntry→Hp→Prop)→Fr→Hp→Prop} (hD:∀r,DrawOk P r D) {l:Nat} {x:Loop} {fr:Fr} {args:List Value} {N:Hp→Prop} {X:Code→Hp→Prop} {h:Hp} {K:Value→Hp→Prop}
    (hl:h[l]? = some (.loop x)) (hst:x.state=.ready) (hlen:args.length=x.params.size) (hag:AgrT fr x.tmps) (H:roundSem P ann D l fr x.params x.assign x.body args N X h)
    (hN:∀h2,N h2→∃r2,h2[l]? = some (.loop r2)∧K (.bool true) (h2.setIfInBounds l (.loop { r2 with state:=.ready,pending:=none })))
    (hX:∀c h2,X c h2→∃r2,h2[l]? = some (.loop r2)∧K (.bool false) (h2.setIfInBounds l (.loop { r2 with state:=.done,pending:=some c }))):YieldH P l args h K NoP:=by
  intro w hw
  subst hw
  have hl':=loop_of hl
  refine ⟨x.fn,(x.params.zip args.toArray).foldl (fun tmps (t,a)=>tmps.setIfInBounds t a) x.tmps,x.assign,x.body,?_,?_⟩
  · have:¬(args.toArray.size≠x.params.size):=by simp [hlen]
    simp only [Instr.yield,Sem.run_bind,run_getLoop hl',Result.andThen_ok]
    rw [if_neg this]
    simp
  · refine roundIn_of_wpIn (F:=Fc none) trivial ?_
    have hagr:Agr (setArgs fr x.params.toList args) { tmps:=(x.params.zip args.toArray).foldl (fun tmps (t,a)=>tmps.setIfInBounds t a) x.tmps,defers:=[] }:=by
      have h5:=setArgs_agr (ts:=x.params.toList) (vs:=args) (fr:=fr) (ds:=[]) (tm:=x.tmps) ⟨hag.1,hag.2⟩ (by simp [hlen])
      have e5:(x.params.zip args.toArray).foldl (fun tmps (t,a)=>tmps.setIfInBounds t a) x.tmps=(x.params.toList.zip args).foldl (fun tmps y=>tmps.setIfInBounds y.1 y.2) x.tmps:=by
        rw [←Array.foldl_toList];simp
      rw [e5]
      exact h5
    have mk0:∀(a:Act) (w':World),a.defers=[]→Marks w.heap.size [] [] false a w':=fun a w' ha=>⟨⟨[],by simp [ha],by simp,by simp⟩,by simp,by simp⟩
    have h1:=sem_sound (r:=some l) (hD (some l)) w.heap.size [] [] false x.assign (codeT_nil _) _ NoP _ _ w hagr (mk0 _ w rfl) (Nat.le_refl _) H
    refine wpIn_mono h1 ?_
    rintro e a1 w1 ⟨hm1,hs1,he⟩
    cases e with
    | normal =>
      obtain ⟨fr1,ha1,hb1,hb2⟩:=he
      have hl1:(hpz w1)[l]? = some (.loop x):=hb1.trans hl
      have hl1':=loop_of hl1
      have hrun:(Instr.beginRound l).run P w1=.ok () { w1 with heap:=w1.heap.setIfInBounds l (.loop { x with state:=.busy }) }:=by
        simp only [Instr.beginRound,Sem.run_bind,run_getLoop hl1',Result.andThen_ok,run_setLoop hl1',hst,Sem.run_pure]
      refine ⟨_,hrun,?_⟩
      have hs2:=same_loop (y:={ x with state:=.busy }) hl1'
      have hk:=hb2 (hpz { w1 with heap:=w1.heap.setIfInBounds l (.loop { x with state:=.busy }) }) (by rw [hpz_set];exact tw_set (st:=.busy) (pd:=x.pending) hl1)
      have h2:=sem_sound (r:=some l) (hD (some l)) w.heap.size [] [] false x.body (codeT_nil _) _ NoP _ a1 _ ha1 (hm1.keep (Kd.refl _ _) hs2) (Nat.le_trans hs1.2.2.2.1 hs2.2.2.2.1) hk
      refine wpIn_mono h2 ?_
      rintro e2 a2 w2 ⟨hm2,hs3,he2⟩
      have fin:∀(jump:Option Code) (r2:Loop),(hpz w2)[l]? = some (.loop r2)→K (.bool jump.isNone) ((hpz w2).setIfInBounds l (.loop { r2 with state:=if jump.isNone then .ready else .done,pending:=jump })) →
          ∃ v w',(Instr.endRound l jump).run P w2=.ok v w'∧(Same w w'∧match (Ending.returned v) with
            | .returned v=>K v (hpz w')
            | .panicked ch=>NoP ch (hpz w')
            | .outgrown=>False):=by
        intro jump r2 hr2 hK
        have hr2':=loop_of hr2
        refine ⟨.bool jump.isNone,{ w2 with heap:=w2.heap.setIfInBounds l (.loop { r2 with state:=if jump.isNone then .ready else .done,pending:=jump }) },?_,((hs1.trans hs2).trans hs3).trans (same_loop hr2'),?_⟩
        · simp only [Instr.endRound,Sem.run_bind,run_getLoop hr2',Result.andThen_ok,run_setLoop hr2',Sem.run_pure]
        · show K _ _
          rw [hpz_set]
          exact hK
      cases e2 with
      | normal =>
        obtain ⟨fr2,_,hk2⟩:=he2
        obtain ⟨r2,hr2,hK⟩:=hN _ hk2
        exact fin none r2 hr2 hK
      | ret =>
        obtain ⟨fr2,_,hk2⟩:=he2
        obtain ⟨r2,hr2,hK⟩:=hX _ _ hk2
        exact fin (some .ret) r2 hr2 hK
      | exit id =>
        obtain ⟨fr2,_,hk2⟩:=he2
        obtain ⟨r2,hr2,hK⟩:=hX _ _ hk2
        exact fin (some (.exit id)) r2 hr2 hK
      | goto t=>obtain ⟨fr2,_,hk2⟩:=he2;exact hk2.elim
      | panic ch=>exact he2.elim
      | outgrown=>exact he2.elim
    | exit id=>obtain ⟨fr1,_,hk⟩:=he;exact hk.elim
    | goto t=>obtain ⟨fr1,_,hk⟩:=he;exact hk.elim
    | ret=>obtain ⟨fr1,_,hk⟩:=he;exact hk.elim
    | panic ch=>exact he.elim
    | outgrown=>exact he.elim
/-- **WHAT AN ITERATOR GIVES**: its function value, called with any yield whose rounds keep J; E tells which arguments stand for a thing. -/
def IterR {α:Type} (P:Program) (fv:Value) (xs:List α) (E:α→List Value→Prop) (Pre:Hp→Prop):Prop :=
  ∀ (l:Nat) (J Jx:List α→Hp→Prop) (h:Hp),h.size=l+1→J [] h→(∀pre h1,J pre h1→Pre h1)→(∀pre h1 h2,Grw h1 h2→J pre h1→J pre h2)→(∀pre h1 h2,Grw h1 h2→Jx pre h1→Jx pre h2) →
    (∀pre x suf h1 args,E x args→xs=pre++x::suf→J pre h1→YieldH P l args h1 (fun v h2=>Tn (fun c=>c≤l) h1 h2∧((v=.bool true∧J (pre++[x]) h2)∨(v=.bool false∧Jx (pre++[x]) h2))) NoP) →
    CallF P fv [.func (.yield l) #[] #[]] h (fun _ h2=>J xs h2∨∃pre suf,xs=pre++suf∧Jx pre h2) NoP
theorem CallF_mono {fv:Value} {args:List Value} {h:Hp} {K K':Value→Hp→Prop} {Kp Kp':List PanicEntry→Hp→Prop} (hh:CallF P fv args h K Kp) (hk:∀s h,K s h→K' s h) (hp:∀c h,Kp c h→Kp' c h) :
    CallF P fv args h K' Kp':=by
  unfold CallF at hh ⊢
  split at hh
  · rename_i g first captured
    cases hok:okFn P g with
    | false=>rw [hok] at hh;exact hh.elim
    | true=>rw [hok] at hh;exact CallH.mono hh hk hp
  · exact hh.elim
theorem tn_set {l:Nat} {h1 h2:Hp} {o:Obj} (t:Tn (fun c=>c≤l) h1 h2):Tn (fun c=>c≤l) h1 (h2.setIfInBounds l o) :=
  ⟨by simpa using t.1,fun c hc hn=>by rw [Array.getElem?_setIfInBounds,if_neg (by simp only at hn;omega)];exact t.2 c hc hn⟩
theorem grw_loop {h1 h2:Hp} {l:Nat} {r:Loop} (hg:Grw h1 h2) (hl:h1[l]? = some (.loop r)):h2[l]? = some (.loop r):=(hg.2 l (Array.getElem?_eq_some_iff.1 hl).1).trans hl
/-- **THE RULE OF 'for .. := range f { .. }'.** -/
theorem range_rule {ann:Ann} {D:Nat→Array Oper→(Fr→Hp→Prop)→(List PanicEntry→Hp→Prop)→Fr→Hp→Prop} (hD:∀r,DrawOk P r D) {rd:Option Nat} {g:Operand} {ps:Array Tmp} {assign body:Code} {Q:Qt}
    {Kp:List PanicEntry→Hp→Prop} {fr:Fr} {h:Hp} {fv:Value} (hfv:ev fr g=some fv) {α:Type} {xs:List α} {E:α→List Value→Prop} {Pre:Hp→Prop} (hit:IterR P fv xs E Pre) (henc:∀x args,E x args→args.length=ps.size)
    (hrd:match rd with | none=>True | some l0=>∃r0,h[l0]? = some (.loop r0)) (I:List α→Hp→Prop) (Ix:Code→List α→Hp→Prop) (h0:I [] h)
    (hG:∀pre h1 h2,Grw h1 h2→I pre h1→I pre h2) (hGx:∀c pre h1 h2,Grw h1 h2→Ix c pre h1→Ix c pre h2)
    (hI:∀l pre h1 h2,h.size≤l→Tw l h1 h2→I pre h1→I pre h2) (hIx:∀l c pre h1 h2,h.size≤l→Tw l h1 h2→Ix c pre h1→Ix c pre h2) (hPre:∀pre h1,I pre h1→Pre h1)
    (hbody:∀l pre x suf h1 args,E x args→xs=pre++x::suf→h.size≤l→(∃r,h1[l]? = some (.loop r))→I pre h1→∀(N:Hp→Prop) (X:Code→Hp→Prop),(∀h' h2,Tw l h1 h'→h2[l]? = h'[l]? → Tn (fun c=>c≤l) h1 h2→I (pre++[x]) h2→N h2) →
      (∀c h' h2,Tw l h1 h'→h2[l]? = h'[l]? → Tn (fun c=>c≤l) h1 h2→Ix c (pre++[x]) h2→X c h2)→roundSem P ann D l (ann.find (firstId assign+4000) fr) ps assign body args N X h1)
    (done:∀h2,I xs h2→Q .normal (ann.find (firstId assign+4000) fr) h2)
    (stop:∀c pre suf h2,xs=pre++suf→Ix c pre h2→match c with
      | .ret=>Q .ret (ann.find (firstId assign+4000) fr) h2
      | .exit id=>Q (.exit id) (ann.find (firstId assign+4000) fr) h2
      | _=>False):sem P ann D rd (.rangeFunc g ps assign body) Q Kp fr h:=by
  simp only [sem,hfv]
  intro fn tm hag
  have key:∀(hh:Hp) (d:Nat),Grw h hh→CallF P fv [.func (.yield hh.size) #[] #[]] (hh.push (.loop { state:=.ready,pending:=none,fn,tmps:=tm,params:=ps,assign,body,defers:=d }))
      (fun _ h'=>endH hh.size h' fun jump h''=>match jump with
        | none=>Q .normal (ann.find (firstId assign+4000) fr) h''
        | some .ret=>Q .ret (ann.find (firstId assign+4000) fr) h''
        | some (.exit id)=>Q (.exit id) (ann.find (firstId assign+4000) fr) h''
        | _=>False) Kp:=by
    intro hh d hgr
    have hsz:=hgr.1
    have hl0:(hh.push (.loop { state:=.ready,pending:=none,fn,tmps:=tm,params:=ps,assign,body,defers:=d }))[hh.size]? = some (.loop { state:=.ready,pending:=none,fn,tmps:=tm,params:=ps,assign,body,defers:=d }):=push_at rfl
    let Fld:Loop→Prop:=fun r=>r.tmps=tm∧r.params=ps∧r.assign=assign∧r.body=body
    refine CallF_mono (hit hh.size (fun pre h1=>I pre h1∧∃r,h1[hh.size]? = some (.loop r)∧r.state=.ready∧r.pending=none∧Fld r) (fun pre h1=>∃c r,Ix c pre h1∧h1[hh.size]? = some (.loop r)∧r.state=.done∧r.pending=some c) _
      (by simp) ⟨hG _ _ _ (hgr.trans (Grw.push _ _)) h0,_,hl0,rfl,rfl,rfl,rfl,rfl,rfl⟩ (fun pre h1 hj=>hPre pre h1 hj.1) ?_ ?_ ?_) ?_ (fun _ _ hp=>hp.elim)
    · rintro pre h1 h2 hg ⟨hi,r,hr,hrest⟩
      exact ⟨hG _ _ _ hg hi,r,grw_loop hg hr,hrest⟩
    · rintro pre h1 h2 hg ⟨c,r,hi,hr,hrest⟩
      exact ⟨c,r,hGx _ _ _ _ hg hi,grw_loop hg hr,hrest⟩
    · rintro pre x suf h1 args hE hxs ⟨hi,r,hr,hst,hpd,f1,f2,f3,f4⟩
      have hb:=hbody hh.size pre x suf h1 args hE hxs hsz ⟨r,hr⟩ hi
        (fun h2=>Tn (fun c=>c≤hh.size) h1 h2∧I (pre++[x]) h2∧∃r2,h2[hh.size]? = some (.loop r2)∧Fld r2) (fun c h2=>Tn (fun c=>c≤hh.size) h1 h2∧Ix c (pre++[x]) h2∧∃r2,h2[hh.size]? = some (.loop r2)∧Fld r2) ?_ ?_
      · refine YieldH_of (ann:=ann) hD (fr:=ann.find (firstId assign+4000) fr) hr hst (by rw [f2];exact henc x args hE) (by rw [f1];exact hag) (by rw [f2,f3,f4];exact hb) ?_ ?_
        · rintro h2 ⟨ht2,hi2,r2,hr2,g1,g2,g3,g4⟩
          refine ⟨r2,hr2,tn_set ht2, .inl ⟨rfl,hI _ _ _ _ hsz (tw_set hr2) hi2,{ r2 with state:=.ready,pending:=none },?_,rfl,rfl,g1,g2,g3,g4⟩⟩
          rw [Array.getElem?_setIfInBounds];simp [(Array.getElem?_eq_some_iff.1 hr2).1]
        · rintro c h2 ⟨ht2,hi2,r2,hr2,_⟩
          refine ⟨r2,hr2,tn_set ht2, .inr ⟨rfl,c,{ r2 with state:=.done,pending:=some c },hIx _ _ _ _ _ hsz (tw_set hr2) hi2,?_,rfl,rfl⟩⟩
          rw [Array.getElem?_setIfInBounds];simp [(Array.getElem?_eq_some_iff.1 hr2).1]
      · rintro h' h2 ⟨_,_,r',st',pd',ht1,ht2⟩ heq htn hi2
        rw [hr] at ht1;cases ht1
        exact ⟨htn,hi2,_,heq.trans ht2,f1,f2,f3,f4⟩
      · rintro c h' h2 ⟨_,_,r',st',pd',ht1,ht2⟩ heq htn hi2
        rw [hr] at ht1;cases ht1
        exact ⟨htn,hi2,_,heq.trans ht2,f1,f2,f3,f4⟩
    · rintro v h2 (⟨hi,r,hr,hst,hpd,_⟩ | ⟨pre,suf,hxs,c,r,hi,hr,hst,hpd⟩)
      · simp only [endH,hr,hst,hpd]
        exact ⟨by simp,done _ (hI _ _ _ _ hsz (tw_set hr) hi)⟩
      · simp only [endH,hr,hst,hpd]
        refine ⟨by simp,?_⟩
        have hi2:=hIx _ c pre _ _ hsz (tw_set (st:=.exhausted) (pd:=some c) hr) hi
        have:=stop c pre suf _ hxs hi2
        cases c <;> first | exact this | exact this.elim
  cases rd with
  | none =>
    simp only [enterH]
    exact key _ _ (Grw.push _ _)
  | some l0 =>
    obtain ⟨r0,hr0⟩:=hrd
    simp only [enterH,hr0]
    exact key _ _ (Grw.refl _)
end Go.Sh
