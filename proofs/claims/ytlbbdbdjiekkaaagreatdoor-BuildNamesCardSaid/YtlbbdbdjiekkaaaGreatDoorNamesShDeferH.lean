/- Functions that defer one closure of their own, which changes the heap. -/
import Derived.Test.YtlbbdbdjiekkaaaGreatDoorNamesShDefer
set_option linter.unusedVariables false
set_option linter.unusedSimpArgs false
namespace Go.Sh
variable {P:Program}
/-- at the end of the function: the closure runs, then the results are read -/
def defQ (P:Program) (g:FuncId) (caps:List Value) (rs:List ResultVar) (zs:List Value) (Kv:Value→Hp→Prop):Qt:=fun e fr h =>
  match e with
  | .normal=>∀w,hpz w=h→DefRun P g caps .returning w fun u' w'=>u'=.returning∧Same w w'∧retV P rs fr (hpz w') fun vs=>resUn zs (oneOr vs) fun v=>Kv v (hpz w')
  | .ret=>∀w,hpz w=h→DefRun P g caps .returning w fun u' w'=>u'=.returning∧Same w w'∧retV P rs fr (hpz w') fun vs=>resUn zs (oneOr vs) fun v=>Kv v (hpz w')
  | _=>False
/-- **A FUNCTION THAT DEFERS A CLOSURE OF ITS OWN, WHICH CHANGES THE HEAP**: what comes ahead, the defer, c2. -/
theorem fn_deferH {ann:Ann} {D:Nat→Array Oper→(Fr→Hp→Prop)→(List PanicEntry→Hp→Prop)→Fr→Hp→Prop} (hD:DrawOk P none D) {f g:FuncId} {fn:Func} {pre:List Code} {c2:Code} {id:Nat} {o1 o2:Oper} {tc:Nat} {capOps:Array Operand} {call:Call}
    {zs:List Value} {args:List Value} {h:Hp} {Kv:Value→Hp→Prop} {Kp:List PanicEntry→Hp→Prop} (hf:P.funcs[f]? = some fn) (hb:fn.body=some (seqs pre (.seq (.region id #[o1,o2] false) c2)))
    (ho1:o1.op=.makeFunc (.func g) #[] capOps) (hd1:o1.dst=some tc) (hg1:o1.guard=none) (ho2:o2.op=.defer call) (hcallee:call.callee=.value (.tmp tc)) (hargs:call.args=#[]) (hd2:o2.dst=none) (hg2:o2.guard=none)
    (hT1:pre.all (codeT [] true)=true) (hT:codeT [] false c2=true) (hok:okFn P g=true)
    (H:semPre P ann D pre (fun e fr h1=>match e with
      | .normal=>∃(caps:List Value),Nat.blt tc fr.length=true∧evs (ev fr) capOps.toList=some caps∧sem P ann D none c2 (defQ P g caps fn.results.toList zs Kv) (fun _ _=>False) (fr.set tc (some (.func (.func g) #[] caps.toArray))) h1
      | _=>False) (args.map some++List.replicate (fn.ntmps - args.length) none) h):CallH P f args h (fun v h'=>resEx zs v fun v'=>Kv v' h') Kp:=by
  intro w hw
  subst hw
  have := callsIn_of_wp_marks (F:=Fc none) (n:=0) (args:=args.toArray) (w:=w) (R:=fun e w'=>Same w w'∧match e with
          | .returned v=>resEx zs v fun v'=>Kv v' (hpz w')
          | .panicked ch=>Kp ch (hpz w')
          | .outgrown=>False) hf hb trivial ?_ rfl
  · exact (callsIn_wide (n:=0)).1 this
  · have same_take:∀w1 x,Same w w1→w.heap.size≤x→Same w { w1 with heap:=w1.heap.setIfInBounds x (.deferred none) }:=by
      intro w1 x hs1 hx
      refine ⟨hs1.1,hs1.2.1,hs1.2.2.1,by simpa using hs1.2.2.2.1,fun b d hbd => ?_⟩
      have hlt:=(Array.getElem?_eq_some_iff.1 hbd).1
      simp only [Array.getElem?_setIfInBounds]
      rw [if_neg (by omega)]
      exact hs1.2.2.2.2 b d hbd
    have tail:∀(a1:Act) (w1:World) (fr1:Fr),a1.defers=[]→Same w w1→Agr fr1 a1→(∃(caps:List Value),Nat.blt tc fr1.length=true∧evs (ev fr1) capOps.toList=some caps∧sem P ann D none c2 (defQ P g caps fn.results.toList zs Kv) (fun _ _=>False) (fr1.set tc (some (.func (.func g) #[] caps.toArray))) (hpz w1)) →
        (Code.seq (.region id #[o1,o2] false) c2).wpIn (Fc none) 0 P (bodyPostM (Fc none) 0 P fn fun e w'=>Same w w'∧match e with
          | .returned v=>resEx zs v fun v'=>Kv v' (hpz w')
          | .panicked ch=>Kp ch (hpz w')
          | .outgrown=>False) a1 w1:=by
      intro a1 w1 fr1 hdef1 hs1 ha1 hq
      obtain ⟨caps,hlt,hcaps,H2⟩:=hq
      have hlt:tc < fr1.length:=Nat.le_of_ble_eq_true hlt
      generalize hfr2:fr1.set tc (some (.func (.func g) #[] caps.toArray))=fr2 at H2
      have hstep:semStep P #[o1,o2] 0 (fun fr' h'=>fr'=fr2∧h'=hpz w1) (fun _ _=>False) fr1 (hpz w1):=by
        unfold semStep
        simp only [show (#[o1,o2]:Array Oper)[0]? = some o1 from rfl,hg1,ho1,hd1,semOp,evs,hcaps,setF]
        exact ⟨hfr2,trivial⟩
      refine wpIn_seq (wpIn_region ?_)
      show wpOpsIn (Fc none) 0 P #[o1,o2] _ [0,1] a1 w1
      rw [wpOpsIn_cons]
      refine semStep_sound (T:=[]) (fun _ _ _ _ _=>by simp) ha1 hstep (fun fr' a2 w2 ha2 hd2' hs2 hk => ?_) (fun _ _ _ _ _ hk=>hk.elim)
      obtain ⟨rfl,hz2⟩:=hk
      have hdef2:a2.defers=[]:=hd2'.1.trans hdef1
      have hcl:a2.eval (.tmp tc)=.func (.func g) #[] caps.toArray:=by
        refine ha2.ev (.tmp tc) _ ?_
        rw [←hfr2]
        simp [Sh.ev,hlt]
      rw [wpOpsIn_cons]
      unfold StepIn
      simp only [show (#[o1,o2]:Array Oper)[1]? = some o2 from rfl]
      rw [if_pos (by simp [Region.wanted,hg2])]
      refine ⟨fun _ _=>trivial,?_⟩
      have hrun:(o2.semAt (Fc none).round a2.eval).run P w2=.ok (.defer { target:=.fn (.func g) caps.toArray,args:=#[] }) w2:=by
        show (execOp a2.eval o2).run P w2=_
        unfold execOp
        simp only [ho2,resolve,hcallee,hcl,hargs,Deferred.ofValue,Sem.run_bind,Sem.run_pure,Result.andThen_ok]
        simp
      rw [hrun,Oper.uponIn_defer,hd2,hdef2]
      -- the rest, the call deferred
      have ha3:Agr fr' { a2 with defers:=[{ target:=.fn (.func g) caps.toArray,args:=#[] }] }:=⟨ha2.len,ha2.val⟩
      have hs12:=hs1.trans hs2
      have H3:sem P ann D none c2 (defQ P g caps fn.results.toList zs Kv) (fun _ _=>False) fr' (hpz w2):=by rw [hz2];exact H2
      refine wpIn_mono (sem_sound hD w.heap.size [{ target:=.fn (.func g) caps.toArray,args:=#[] }] [] false c2 hT _ _ _ _ w2 ha3 ⟨⟨[],rfl,by simp,by simp⟩,by simp,by simp⟩ hs12.2.2.2.1 H3) ?_
      rintro e a4 w4 ⟨⟨⟨rs,hdef,hnd,hrs⟩,hvals,_⟩,hs4,he⟩
      have hs04:=hs12.trans hs4
      have go:∀(u:FrameMode),u≠.run→(∀w5,Same w w5→hpz w5=hpz w4→DefRun P g caps u w5 fun u' w'=>settle u'=.returning∧Same w5 w'∧∃fr5,(∀i v,fr5.getD i none=some v→a4.tmps.getD i undef=v)∧retV P fn.results.toList fr5 (hpz w') fun vs=>resUn zs (oneOr vs) fun v=>Kv v (hpz w')) →
          LeavesInM (Fc none) 0 P fn a4.tmps (fun e w'=>Same w w'∧match e with
            | .returned v=>resEx zs v fun v'=>Kv v' (hpz w')
            | .panicked ch=>Kp ch (hpz w')
            | .outgrown=>False) a4.defers u w4:=by
        intro u hu hrunD
        rw [hdef]
        refine leaves_marksD hu (fun w5=>Same w w5∧hpz w5=hpz w4) ?_ ?_ rfl rs w4 hs04 hnd hrs ⟨hs04,rfl⟩
        · rintro w5 ⟨hs5,he5⟩
          refine ⟨hu, .inr ⟨(fun q=>by cases q),_,_,g,caps.toArray,rfl,run_enter hok _ _,fun _ _=>trivial,(hrunD w5 hs5 he5).mono ?_⟩⟩
          rintro e6 u6 w6 ⟨⟨v6,rfl⟩,hst,hs6,fr5,hv5,hr5⟩
          simp only [hst]
          obtain ⟨vs,hrun,hk⟩:=run_results (P:=P) (a:=a4) hv5 hr5
          exact ⟨_,hrun,hs5.trans hs6,resUn_ex hk⟩
        · rintro w5 x hs5 hx hxx ⟨_,he5⟩
          exact ⟨same_take w5 x hs5 hx,(hpz_take hxx).trans he5⟩
      have norm:∀fr5,Agr fr5 a4→(∀w5,hpz w5=hpz w4→DefRun P g caps .returning w5 fun u' w'=>u'=.returning∧Same w5 w'∧retV P fn.results.toList fr5 (hpz w') fun vs=>resUn zs (oneOr vs) fun v=>Kv v (hpz w'))→LeavesInM (Fc none) 0 P fn a4.tmps (fun e w'=>Same w w'∧match e with
            | .returned v=>resEx zs v fun v'=>Kv v' (hpz w')
            | .panicked ch=>Kp ch (hpz w')
            | .outgrown=>False) a4.defers .returning w4:=fun fr5 ha5 hr5=>by
        refine go .returning (by simp) fun w5 hs5 he5=>(hr5 w5 he5).mono ?_
        rintro e6 u6 w6 ⟨hv,rfl,hs6,hz6⟩
        exact ⟨hv,rfl,hs6,fr5,ha5.val,hz6⟩
      cases e with
      | normal=>obtain ⟨fr5,ha5,hr5⟩:=he;exact norm fr5 ha5 hr5
      | ret=>obtain ⟨fr5,ha5,hr5⟩:=he;exact norm fr5 ha5 hr5
      | panic ch=>exact he.elim
      | exit id=>obtain ⟨fr5,ha5,hr5⟩:=he;exact hr5.elim
      | goto l=>obtain ⟨fr5,ha5,hr5⟩:=he;exact hr5.elim
      | outgrown=>exact he.elim
    have key:∀(pre:List Code),pre.all (codeT [] true)=true→∀(a1:Act) (w1:World) (fr1:Fr),a1.defers=[]→Same w w1→Agr fr1 a1→semPre P ann D pre (fun e fr h1=>match e with
      | .normal=>∃(caps:List Value),Nat.blt tc fr.length=true∧evs (ev fr) capOps.toList=some caps∧sem P ann D none c2 (defQ P g caps fn.results.toList zs Kv) (fun _ _=>False) (fr.set tc (some (.func (.func g) #[] caps.toArray))) h1
      | _ => False) fr1 (hpz w1)→(seqs pre (.seq (.region id #[o1,o2] false) c2)).wpIn (Fc none) 0 P (bodyPostM (Fc none) 0 P fn fun e w'=>Same w w'∧match e with
          | .returned v=>resEx zs v fun v'=>Kv v' (hpz w')
          | .panicked ch=>Kp ch (hpz w')
          | .outgrown=>False) a1 w1:=by
      intro pre
      induction pre with
      | nil=>exact fun _ a1 w1 fr1 hd1 hs1 ha1 hH=>tail a1 w1 fr1 hd1 hs1 ha1 hH
      | cons c cs ih =>
        intro hall a1 w1 fr1 hd1 hs1 ha1 hH
        simp only [List.all_cons,Bool.and_eq_true] at hall
        refine wpIn_seq (wpIn_mono (sem_sound hD w.heap.size [] [] true c hall.1 _ _ _ _ w1 ha1 ⟨⟨[],by simpa using hd1,by simp,by simp⟩,by simp,fun _=>hd1⟩ hs1.2.2.2.1 hH) ?_)
        rintro e a2 w2 ⟨⟨_,_,hm2⟩,hs2,hq⟩
        have hd2:=hm2 (by simp)
        cases e with
        | panic ch=>exact hq.elim
        | outgrown=>exact hq.elim
        | ret=>obtain ⟨_,_,q⟩:=hq;exact (by cases cs <;> exact q.elim)
        | exit id=>obtain ⟨_,_,q⟩:=hq;exact (by cases cs <;> exact q.elim)
        | goto l=>obtain ⟨_,_,q⟩:=hq;exact (by cases cs <;> exact q.elim)
        | normal=>obtain ⟨fr2,ha2,q⟩:=hq;exact ih hall.2 a2 w2 fr2 hd2 (hs1.trans hs2) ha2 q
    exact key pre hT1 _ w _ rfl (Same.refl w) (Agr.start args fn.ntmps []) H
/-- **A CLOSURE THAT DOES NOT RECOVER**, deferred. -/
theorem def_plain {ann:Ann} {D:Nat→Array Oper→(Fr→Hp→Prop)→(List PanicEntry→Hp→Prop)→Fr→Hp→Prop} (hD:DrawOk P none D) {g:FuncId} {fn:Func} {c:Code} {caps:List Value} {h:Hp} {zs:List Value} {Kv:Value→Hp→Prop}
    (hf:P.funcs[g]? = some fn) (hb:fn.body=some c) (hT:codeT [] true c=true)
    (H:sem P ann D none c (retQ P fn.results.toList zs Kv) (fun _ _=>False) (caps.map some++List.replicate (fn.ntmps - caps.length) none) h) :
    ∀w,hpz w=h→DefRun P g caps .returning w fun u2 w'=>u2=.returning∧Same w w'∧∃v,resEx zs v fun v'=>Kv v' (hpz w'):=by
  intro w hw
  subst hw
  refine callsDIn_of_wpSIn hf hb trivial fun c0 cs hc0 => ?_
  refine wpSIn_of_wpIn rfl (wpIn_mono (sem_sound hD w.heap.size [] [] true c hT _ _ _ _ w (Agr.start caps fn.ntmps []) ⟨⟨[],rfl,by simp,by simp⟩,by simp,fun _=>rfl⟩ (Nat.le_refl _) H) ?_)
  rintro e a w' ⟨⟨_,_,hm⟩,hs,he⟩
  have hd:=hm (by simp)
  have fin:∀fr,Agr fr a→(retV P fn.results.toList fr (hpz w') fun vs=>resUn zs (oneOr vs) fun v=>Kv v (hpz w'))→∃v,(results fn a.tmps).run P w'=.ok v w'∧resEx zs v fun v'=>Kv v' (hpz w'):=fun fr ha hr=>by
    obtain ⟨vs,hrun,hk⟩:=run_results (P:=P) ha.val hr
    exact ⟨_,hrun,resUn_ex hk⟩
  cases e with
  | normal=>obtain ⟨fr,ha,hk⟩:=he;obtain ⟨v,h1,h2⟩:=fin fr ha hk;exact ⟨hd, .returning,by rw [show ({ c0 with mode:=FrameMode.returning }:Frame)=c0 by rw [←hc0]],_,h1,⟨_,rfl⟩,rfl,hs,_,h2⟩
  | ret=>obtain ⟨fr,ha,hk⟩:=he;obtain ⟨v,h1,h2⟩:=fin fr ha hk;exact ⟨hd, .returning,by rw [show ({ c0 with mode:=FrameMode.returning }:Frame)=c0 by rw [←hc0]],_,h1,⟨_,rfl⟩,rfl,hs,_,h2⟩
  | panic ch=>exact he.elim
  | outgrown=>exact he.elim
  | exit id=>obtain ⟨_,_,q⟩:=he;exact q.elim
  | goto l=>obtain ⟨_,_,q⟩:=he;exact q.elim
end Go.Sh
