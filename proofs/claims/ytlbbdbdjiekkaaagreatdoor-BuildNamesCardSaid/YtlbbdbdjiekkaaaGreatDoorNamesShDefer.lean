/- Functions that defer one closure, which may recover. -/
import Derived.Test.YtlbbdbdjiekkaaaGreatDoorNamesShRange
import Derived.RecoverIn
set_option linter.unusedVariables false
set_option linter.unusedSimpArgs false
namespace Go.Sh
variable {P:Program}
/-- a deferred closure runs, its caller being in the mode u; it returns -/
def DefRun (P:Program) (g:FuncId) (caps:List Value) (u:FrameMode) (w:World) (R:FrameMode→World→Prop):Prop :=
  CallsDIn (Fc none) 0 P g caps.toArray u w fun e u' w'=>(∃v,e=.returned v)∧R u' w'
def keepT (T:List Nat) (fr:Fr):Fr:=fr.zipIdx.map fun (v,i)=>bif T.contains i then v else none
theorem keepT_get {T:List Nat} {fr:Fr} {i:Nat} {v:Value} (h:(keepT T fr).getD i none=some v):i∈T∧fr.getD i none=some v:=by
  simp only [keepT,List.getD_eq_getElem?_getD,List.getElem?_map,List.getElem?_zipIdx] at h ⊢
  cases hfi:fr[i]? with
  | none=>simp [hfi] at h
  | some x =>
    simp only [hfi,Option.map_some,Nat.zero_add,Option.getD_some] at h ⊢
    cases hc:T.contains i with
    | false=>rw [hc] at h;cases h
    | true=>rw [hc] at h;exact ⟨by simpa using hc,h⟩
def valsT (T:List Nat) (fr:Fr):List (Nat × Value):=T.filterMap fun t=>(fr.getD t none).map fun v=>(t,v)
theorem valsT_get {T:List Nat} {fr:Fr} {x:Nat × Value} (h:x∈valsT T fr):x.1∈T∧fr.getD x.1 none=some x.2:=by
  simp only [valsT,List.mem_filterMap] at h
  obtain ⟨t,ht,h⟩:=h
  cases hf:fr.getD t none with
  | none=>rw [hf] at h;cases h
  | some v=>rw [hf] at h;simp only [Option.map_some,Option.some.injEq] at h;subst h;exact ⟨ht,hf⟩
theorem valsT_mem {T:List Nat} {fr:Fr} {t:Nat} {v:Value} (ht:t∈T) (h:fr.getD t none=some v):(t,v)∈valsT T fr:=by
  simp only [valsT,List.mem_filterMap]
  exact ⟨t,ht,by rw [h];rfl⟩
theorem opsT_sub {T T':List Nat} (hs:∀t∈T',t∈T) {ops:Array Oper} (h:opsT T ops=true):opsT T' ops=true:=by
  unfold opsT at h ⊢
  rw [List.all_eq_true] at h ⊢
  intro o ho
  have:=h o ho
  cases hd:o.dst with
  | none=>rfl
  | some t =>
    rw [hd] at this
    simp only [Bool.not_eq_true',List.contains_eq_mem,decide_eq_false_iff_not] at this ⊢
    exact fun q=>this (hs t q)
theorem codeT_sub {T T':List Nat} {nr:Bool} (hs:∀t∈T',t∈T):∀c:Code,codeT T nr c=true→codeT T' nr c=true:=by
  intro c
  induction c with
  | region id ops draw=>exact opsT_sub hs
  | seq x y h1 h2=>intro h;simp only [codeT,Bool.and_eq_true] at h ⊢;exact ⟨h1 h.1,h2 h.2⟩
  | cond c x y h1 h2=>intro h;simp only [codeT,Bool.and_eq_true] at h ⊢;exact ⟨h1 h.1,h2 h.2⟩
  | block id x h=>exact h
  | loop x h=>exact h
  | rangeFunc g ps a b=>exact id
  | _=>exact fun _=>rfl
/-- leaving, the marks first -/
theorem leaves_marksD {fn:Func} {tmps:Array Value} {n0:Nat} {w0:World} {R:Ending→World→Prop} {u:FrameMode} {ds:List Deferred} (hu:u≠.run) (X:World→Prop)
    (hX:∀w,X w→LeavesInM (Fc none) 0 P fn tmps R ds u w) (hx:∀w x,Same w0 w→n0≤x→w.heap[x]? = some (.deferred (some []))→X w→X { w with heap:=w.heap.setIfInBounds x (.deferred none) }) (h0:w0.heap.size=n0) :
    ∀ (rs:List Nat) (w:World),Same w0 w→rs.Nodup→(∀x∈rs,n0≤x∧w.heap[x]? = some (.deferred (some [])))→X w →
      LeavesInM (Fc none) 0 P fn tmps R ((rs.map fun x=>{ target:=.collected x,args:=#[] })++ds) u w:=by
  intro rs
  induction rs with
  | nil=>intro w hs hnd hrs hw;exact hX w hw
  | cons x rs ih =>
    intro w hs hnd hrs hw
    obtain ⟨hxn,hxh⟩:=hrs x (by simp)
    refine ⟨hu, .inl ⟨x,_,rfl,run_take hxh,?_⟩⟩
    refine ih _ ?_ (List.nodup_cons.1 hnd).2 ?_ (hx w x hs hxn hxh hw)
    · refine ⟨hs.1,hs.2.1,hs.2.2.1,by simpa using hs.2.2.2.1,fun b d hb => ?_⟩
      have hlt:=(Array.getElem?_eq_some_iff.1 hb).1
      simp only [Array.getElem?_setIfInBounds]
      rw [if_neg (by omega)]
      exact hs.2.2.2.2 b d hb
    · intro y hy
      obtain ⟨h1,h2⟩:=hrs y (by simp [hy])
      refine ⟨h1,?_⟩
      have:x≠y:=fun e=>(List.nodup_cons.1 hnd).1 (e ▸ hy)
      simp only [Array.getElem?_setIfInBounds]
      rw [if_neg this]
      exact h2
/-- a closure of the program's own is entered -/
theorem run_enter {g:FuncId} (hok:okFn P g=true) (caps:Array Value) (w:World):(invoke (.fn (.func g) caps) #[]).run P w=.ok (.enter g caps) w:=by
  unfold okFn at hok
  split at hok
  · rename_i fn' hf
    simp only [Bool.and_eq_true,Bool.not_eq_true'] at hok
    obtain ⟨hb1,hb2⟩:=hok
    have h1:¬fn'.name = "runtime.NumGoroutine" := by simpa using hb2
    have h2:¬fn'.body=none:=by intro hbb;simp [hbb] at hb1
    simp only [invoke,callFunc,program,Sem.run_bind,Sem.run,Result.andThen_ok,hf]
    simp [h1,h2,hf,callFunc,program,Sem.run_bind,Sem.run,Result.andThen_ok]
  · cases hok
/-- **A FUNCTION THAT DEFERS A CLOSURE OF ITS OWN**: c1, the defer, c2. -/
theorem fn_defer {ann:Ann} {D:Nat→Array Oper→(Fr→Hp→Prop)→(List PanicEntry→Hp→Prop)→Fr→Hp→Prop} (hD:DrawOk P none D) {f g:FuncId} {fn:Func} {c1 c2:Code} {id:Nat} {o1 o2:Oper} {tc:Nat} {capOps:Array Operand} {call:Call} (T:List Nat)
    {zs:List Value} {args:List Value} {h:Hp} {Kv:Value→Hp→Prop} {Kp:List PanicEntry→Hp→Prop} (hf:P.funcs[f]? = some fn) (hb:fn.body=some (.seq c1 (.seq (.region id #[o1,o2] false) c2)))
    (ho1:o1.op=.makeFunc (.func g) #[] capOps) (hd1:o1.dst=some tc) (hg1:o1.guard=none) (ho2:o2.op=.defer call) (hcallee:call.callee=.value (.tmp tc)) (hargs:call.args=#[]) (hd2:o2.dst=none) (hg2:o2.guard=none)
    (hT1:codeT [] true c1=true) (hT:codeT T false c2=true) (hok:okFn P g=true)
    (H:sem P ann D none c1 (fun e fr h1=>match e with
      | .normal=>∃(caps:List Value) (KpX:List PanicEntry→Hp→Prop),Nat.blt tc fr.length=true∧evs (ev fr) capOps.toList=some caps∧sem P ann D none c2 (retQ P fn.results.toList zs Kv) KpX (fr.set tc (some (.func (.func g) #[] caps.toArray))) h1 ∧
          (∀w,DefRun P g caps .returning w fun u' w'=>u'=.returning∧Same w w'∧hpz w'=hpz w) ∧
          (∀ch w,KpX ch (hpz w)→DefRun P g caps (.panicking ch) w fun u' w'=>settle u'=.returning∧Same w w'∧retV P fn.results.toList (keepT T (fr.set tc (some (.func (.func g) #[] caps.toArray)))) (hpz w') fun vs=>resUn zs (oneOr vs) fun v=>Kv v (hpz w'))
      | _=>False) (fun _ _=>False) (args.map some++List.replicate (fn.ntmps - args.length) none) h):CallH P f args h (fun v h'=>resEx zs v fun v'=>Kv v' h') Kp:=by
  intro w hw
  subst hw
  have:=callsIn_of_wp_marks (F:=Fc none) (n:=0) (args:=args.toArray) (w:=w) (R:=fun e w'=>Same w w'∧match e with
    | .returned v=>resEx zs v fun v'=>Kv v' (hpz w')
    | .panicked ch=>Kp ch (hpz w')
    | .outgrown=>False) hf hb trivial ?_ rfl
  · exact (callsIn_wide (n:=0)).1 this
  · have same_take:∀w1 x,Same w w1→w.heap.size≤x→Same w { w1 with heap:=w1.heap.setIfInBounds x (.deferred none) }:=by
      intro w1 x hs1 hx
      refine ⟨hs1.1,hs1.2.1,hs1.2.2.1,by simpa using hs1.2.2.2.1,fun b d hbd => ?_⟩
      have hlt:=(Array.getElem?_eq_some_iff.1 hbd).1
      simp only [Array.getElem?_setIfInBounds]
      rw [if_neg (by omega)]
      exact hs1.2.2.2.2 b d hbd
    refine wpIn_seq (wpIn_mono (sem_sound hD w.heap.size [] [] true c1 hT1 _ _ _ _ w (Agr.start args fn.ntmps []) ⟨⟨[],rfl,by simp,by simp⟩,by simp,by simp⟩ (Nat.le_refl _) H) ?_)
    rintro e a1 w1 ⟨⟨_,_,hm1⟩,hs1,hq⟩
    have hdef1:=hm1 (by simp)
    cases e with
    | panic ch=>exact hq.elim
    | outgrown=>exact hq.elim
    | ret=>obtain ⟨_,_,q⟩:=hq;exact q.elim
    | exit id=>obtain ⟨_,_,q⟩:=hq;exact q.elim
    | goto l=>obtain ⟨_,_,q⟩:=hq;exact q.elim
    | normal =>
      obtain ⟨fr1,ha1,caps,KpX,hlt,hcaps,H2,hret,hpan⟩:=hq
      have hlt:tc < fr1.length:=Nat.le_of_ble_eq_true hlt
      generalize hfr2:fr1.set tc (some (.func (.func g) #[] caps.toArray))=fr2 at H2 hpan
      have hstep:semStep P #[o1,o2] 0 (fun fr' h'=>fr'=fr2∧h'=hpz w1) (fun _ _=>False) fr1 (hpz w1):=by
        unfold semStep
        simp only [show (#[o1,o2]:Array Oper)[0]? = some o1 from rfl,hg1,ho1,hd1,semOp,evs,hcaps,setF]
        exact ⟨hfr2,trivial⟩
      refine wpIn_seq (wpIn_region ?_)
      show wpOpsIn (Fc none) 0 P #[o1,o2] _ [0,1] a1 w1
      rw [wpOpsIn_cons]
      refine semStep_sound (T:=[]) (fun _ _ _ _ _=>by simp) ha1 hstep (fun fr' a2 w2 ha2 hd2' hs2 hk => ?_) (fun _ _ _ _ _ hk=>hk.elim)
      obtain ⟨rfl,hz2⟩:=hk
      have hdef2:a2.defers=[]:=hd2'.1.trans hdef1
      have hcl:a2.eval (.tmp tc)=.func (.func g) #[] caps.toArray:=by
        refine ha2.ev (.tmp tc) _ ?_
        rw [←hfr2]
        simp [Sh.ev,hlt]
      rw [wpOpsIn_cons]
      unfold StepIn
      simp only [show (#[o1,o2]:Array Oper)[1]? = some o2 from rfl]
      rw [if_pos (by simp [Region.wanted,hg2])]
      refine ⟨fun _ _=>trivial,?_⟩
      have hrun:(o2.semAt (Fc none).round a2.eval).run P w2=.ok (.defer { target:=.fn (.func g) caps.toArray,args:=#[] }) w2:=by
        show (execOp a2.eval o2).run P w2=_
        unfold execOp
        simp only [ho2,resolve,hcallee,hcl,hargs,Deferred.ofValue,Sem.run_bind,Sem.run_pure,Result.andThen_ok]
        simp
      rw [hrun,Oper.uponIn_defer,hd2,hdef2]
      -- the rest, the call deferred
      have ha3:Agr fr' { a2 with defers:=[{ target:=.fn (.func g) caps.toArray,args:=#[] }] }:=⟨ha2.len,ha2.val⟩
      have hs12:=hs1.trans hs2
      have H3:sem P ann D none c2 (retQ P fn.results.toList zs Kv) KpX fr' (hpz w2):=by rw [hz2];exact H2
      have hsub:∀t∈(valsT T fr').map (·.1),t∈T:=by
        intro t ht
        obtain ⟨x,hx,rfl⟩:=List.mem_map.1 ht
        exact (valsT_get hx).1
      refine wpIn_mono (sem_sound hD w.heap.size [{ target:=.fn (.func g) caps.toArray,args:=#[] }] (valsT T fr') false c2 (codeT_sub hsub c2 hT) _ _ _ _ w2 ha3 ⟨⟨[],rfl,by simp,by simp⟩,fun x hx=>ha2.val _ _ (valsT_get hx).2,by simp⟩ hs12.2.2.2.1 H3) ?_
      rintro e a4 w4 ⟨⟨⟨rs,hdef,hnd,hrs⟩,hvals,_⟩,hs4,he⟩
      have hs04:=hs12.trans hs4
      have go:∀(u:FrameMode),u≠.run→(∀w5,Same w w5→hpz w5=hpz w4→DefRun P g caps u w5 fun u' w'=>settle u'=.returning∧Same w5 w'∧∃fr5,(∀i v,fr5.getD i none=some v→a4.tmps.getD i undef=v)∧retV P fn.results.toList fr5 (hpz w') fun vs=>resUn zs (oneOr vs) fun v=>Kv v (hpz w')) →
          LeavesInM (Fc none) 0 P fn a4.tmps (fun e w'=>Same w w'∧match e with
            | .returned v=>resEx zs v fun v'=>Kv v' (hpz w')
            | .panicked ch=>Kp ch (hpz w')
            | .outgrown=>False) a4.defers u w4:=by
        intro u hu hrunD
        rw [hdef]
        refine leaves_marksD hu (fun w5=>Same w w5∧hpz w5=hpz w4) ?_ ?_ rfl rs w4 hs04 hnd hrs ⟨hs04,rfl⟩
        · rintro w5 ⟨hs5,he5⟩
          refine ⟨hu, .inr ⟨(fun q=>by cases q),_,_,g,caps.toArray,rfl,run_enter hok _ _,fun _ _=>trivial,(hrunD w5 hs5 he5).mono ?_⟩⟩
          rintro e6 u6 w6 ⟨⟨v6,rfl⟩,hst,hs6,fr5,hv5,hr5⟩
          simp only [hst]
          obtain ⟨vs,hrun,hk⟩:=run_results (P:=P) (a:=a4) hv5 hr5
          exact ⟨_,hrun,hs5.trans hs6,resUn_ex hk⟩
        · rintro w5 x hs5 hx hxx ⟨_,he5⟩
          exact ⟨same_take w5 x hs5 hx,(hpz_take hxx).trans he5⟩
      have norm:∀fr5,Agr fr5 a4→(retV P fn.results.toList fr5 (hpz w4) fun vs=>resUn zs (oneOr vs) fun v=>Kv v (hpz w4))→LeavesInM (Fc none) 0 P fn a4.tmps (fun e w'=>Same w w'∧match e with
            | .returned v=>resEx zs v fun v'=>Kv v' (hpz w')
            | .panicked ch=>Kp ch (hpz w')
            | .outgrown=>False) a4.defers .returning w4:=fun fr5 ha5 hr5=>by
        refine go .returning (by simp) fun w5 hs5 he5=>(hret w5).mono ?_
        rintro e6 u6 w6 ⟨hv,rfl,hs6,hz6⟩
        exact ⟨hv,rfl,hs6,fr5,ha5.val,by rw [hz6,he5];exact hr5⟩
      cases e with
      | normal=>obtain ⟨fr5,ha5,hr5⟩:=he;exact norm fr5 ha5 hr5
      | ret=>obtain ⟨fr5,ha5,hr5⟩:=he;exact norm fr5 ha5 hr5
      | panic ch =>
        refine go (.panicking ch) (by simp) fun w5 hs5 he5=>(hpan ch w5 (by rw [he5];exact he)).mono ?_
        rintro e6 u6 w6 ⟨hv,hst,hs6,hr6⟩
        exact ⟨hv,hst,hs6,_,fun i v hi=>hvals _ (valsT_mem (keepT_get hi).1 (keepT_get hi).2),hr6⟩
      | exit id=>obtain ⟨fr5,ha5,hr5⟩:=he;exact hr5.elim
      | goto l=>obtain ⟨fr5,ha5,hr5⟩:=he;exact hr5.elim
      | outgrown=>exact he.elim
/-- a function of the program's own is entered -/
theorem run_enterA {g:FuncId} (hok:okFn P g=true) (caps:Array Value) (w:World):(invoke (.fn (.func g) #[]) caps).run P w=.ok (.enter g caps) w:=by
  unfold okFn at hok
  split at hok
  · rename_i fn' hf
    simp only [Bool.and_eq_true,Bool.not_eq_true'] at hok
    obtain ⟨hb1,hb2⟩:=hok
    have h1:¬fn'.name = "runtime.NumGoroutine" := by simpa using hb2
    have h2:¬fn'.body=none:=by intro hbb;simp [hbb] at hb1
    simp only [invoke,callFunc,program,Sem.run_bind,Sem.run,Result.andThen_ok,hf]
    simp [h1,h2,hf,callFunc,program,Sem.run_bind,Sem.run,Result.andThen_ok]
  · cases hok
/-- stretches one after another -/
def semPre (P:Program) (ann:Ann) (D:Nat→Array Oper→(Fr→Hp→Prop)→(List PanicEntry→Hp→Prop)→Fr→Hp→Prop):List Code→Qt→Fr→Hp→Prop
  | [],Q,fr,h=>Q .normal fr h
  | c::cs,Q,fr,h=>sem P ann D none c (thenQ (fun fr' h'=>semPre P ann D cs Q fr' h') Q) (fun _ _=>False) fr h
def seqs:List Code→Code→Code
  | [],c=>c
  | a::l,c=>.seq a (seqs l c)
/-- **A FUNCTION THAT DEFERS A CALL OF A NAMED FUNCTION**: what comes ahead (it may return early), the defer, c2. -/
theorem fn_defer1 {ann:Ann} {D:Nat→Array Oper→(Fr→Hp→Prop)→(List PanicEntry→Hp→Prop)→Fr→Hp→Prop} (hD:DrawOk P none D) {f g:FuncId} {fn:Func} {pre:List Code} {c2:Code} {id:Nat} {o:Oper} {call:Call} (T:List Nat)
    {zs:List Value} {args:List Value} {h:Hp} {Kv:Value→Hp→Prop} {Kp:List PanicEntry→Hp→Prop} (hf:P.funcs[f]? = some fn) (hb:fn.body=some (seqs pre (.seq (.region id #[o] false) c2)))
    (ho:o.op=.defer call) (hcallee:call.callee=.value (.func g)) (hd:o.dst=none) (hg:o.guard=none)
    (hT1:pre.all (codeT [] true)=true) (hT:codeT T false c2=true) (hok:okFn P g=true)
    (H:semPre P ann D pre (fun e fr h1=>match e with
      | .normal=>∃(caps:List Value) (KpX:List PanicEntry→Hp→Prop),evs (ev fr) call.args.toList=some caps∧sem P ann D none c2 (retQ P fn.results.toList zs Kv) KpX fr h1 ∧
          (∀w,DefRun P g caps .returning w fun u' w'=>u'=.returning∧Same w w'∧hpz w'=hpz w) ∧
          (∀ch w,KpX ch (hpz w)→DefRun P g caps (.panicking ch) w fun u' w'=>settle u'=.returning∧Same w w'∧retV P fn.results.toList (keepT T fr) (hpz w') fun vs=>resUn zs (oneOr vs) fun v=>Kv v (hpz w'))
      | .ret=>retV P fn.results.toList fr h1 fun vs=>resUn zs (oneOr vs) fun v=>Kv v h1
      | _=>False) (args.map some++List.replicate (fn.ntmps - args.length) none) h):CallH P f args h (fun v h'=>resEx zs v fun v'=>Kv v' h') Kp:=by
  intro w hw
  subst hw
  have:=callsIn_of_wp_marks (F:=Fc none) (n:=0) (args:=args.toArray) (w:=w) (R:=fun e w'=>Same w w'∧match e with
    | .returned v=>resEx zs v fun v'=>Kv v' (hpz w')
    | .panicked ch=>Kp ch (hpz w')
    | .outgrown=>False) hf hb trivial ?_ rfl
  · exact (callsIn_wide (n:=0)).1 this
  · have same_take:∀w1 x,Same w w1→w.heap.size≤x→Same w { w1 with heap:=w1.heap.setIfInBounds x (.deferred none) }:=by
      intro w1 x hs1 hx
      refine ⟨hs1.1,hs1.2.1,hs1.2.2.1,by simpa using hs1.2.2.2.1,fun b d hbd => ?_⟩
      have hlt:=(Array.getElem?_eq_some_iff.1 hbd).1
      simp only [Array.getElem?_setIfInBounds]
      rw [if_neg (by omega)]
      exact hs1.2.2.2.2 b d hbd
    have tail:∀(a1:Act) (w1:World) (fr1:Fr),a1.defers=[]→Same w w1→Agr fr1 a1→(∃(caps:List Value) (KpX:List PanicEntry→Hp→Prop),evs (ev fr1) call.args.toList=some caps∧sem P ann D none c2 (retQ P fn.results.toList zs Kv) KpX fr1 (hpz w1) ∧
          (∀w,DefRun P g caps .returning w fun u' w'=>u'=.returning∧Same w w'∧hpz w'=hpz w) ∧
          (∀ch w,KpX ch (hpz w)→DefRun P g caps (.panicking ch) w fun u' w'=>settle u'=.returning∧Same w w'∧retV P fn.results.toList (keepT T fr1) (hpz w') fun vs=>resUn zs (oneOr vs) fun v=>Kv v (hpz w'))) →
        (Code.seq (.region id #[o] false) c2).wpIn (Fc none) 0 P (bodyPostM (Fc none) 0 P fn fun e w'=>Same w w'∧match e with
          | .returned v=>resEx zs v fun v'=>Kv v' (hpz w')
          | .panicked ch=>Kp ch (hpz w')
          | .outgrown=>False) a1 w1:=by
      intro a1 w1 fr1 hdef1 hs1 ha1 hq
      obtain ⟨caps,KpX,hcaps,H2,hret,hpan⟩:=hq
      refine wpIn_seq (wpIn_region ?_)
      show wpOpsIn (Fc none) 0 P #[o] _ [0] a1 w1
      rw [wpOpsIn_cons]
      unfold StepIn
      simp only [show (#[o]:Array Oper)[0]? = some o from rfl]
      rw [if_pos (by simp [Region.wanted,hg])]
      refine ⟨fun _ _=>trivial,?_⟩
      have hargs:=evs_run (r:=a1.eval) (fun x v hx=>ha1.ev x v hx) hcaps
      have hrun:(o.semAt (Fc none).round a1.eval).run P w1=.ok (.defer { target:=.fn (.func g) #[],args:=caps.toArray }) w1:=by
        show (execOp a1.eval o).run P w1=_
        unfold execOp
        have e1:call.args.map a1.eval=caps.toArray:=by rw [←hargs];apply Array.ext';simp
        have e2:a1.eval (.func g)=.func (.func g) #[] #[]:=rfl
        simp only [ho,resolve,hcallee,e1,e2,Deferred.ofValue,Sem.run_bind,Sem.run_pure,Result.andThen_ok]
        simp
      rw [hrun,Oper.uponIn_defer,hd,hdef1]
      have ha3:Agr fr1 { a1 with defers:=[{ target:=.fn (.func g) #[],args:=caps.toArray }] }:=⟨ha1.len,ha1.val⟩
      have hsub:∀t∈(valsT T fr1).map (·.1),t∈T:=by
        intro t ht
        obtain ⟨x,hx,rfl⟩:=List.mem_map.1 ht
        exact (valsT_get hx).1
      refine wpIn_mono (sem_sound hD w.heap.size [{ target:=.fn (.func g) #[],args:=caps.toArray }] (valsT T fr1) false c2 (codeT_sub hsub c2 hT) _ _ _ _ w1 ha3 ⟨⟨[],rfl,by simp,by simp⟩,fun x hx=>ha1.val _ _ (valsT_get hx).2,by simp⟩ hs1.2.2.2.1 H2) ?_
      rintro e a4 w4 ⟨⟨⟨rs,hdef,hnd,hrs⟩,hvals,_⟩,hs4,he⟩
      have hs04:=hs1.trans hs4
      have go:∀(u:FrameMode),u≠.run→(∀w5,Same w w5→hpz w5=hpz w4→DefRun P g caps u w5 fun u' w'=>settle u'=.returning∧Same w5 w'∧∃fr5,(∀i v,fr5.getD i none=some v→a4.tmps.getD i undef=v)∧retV P fn.results.toList fr5 (hpz w') fun vs=>resUn zs (oneOr vs) fun v=>Kv v (hpz w')) →
          LeavesInM (Fc none) 0 P fn a4.tmps (fun e w'=>Same w w'∧match e with
            | .returned v=>resEx zs v fun v'=>Kv v' (hpz w')
            | .panicked ch=>Kp ch (hpz w')
            | .outgrown=>False) a4.defers u w4:=by
        intro u hu hrunD
        rw [hdef]
        refine leaves_marksD hu (fun w5=>Same w w5∧hpz w5=hpz w4) ?_ ?_ rfl rs w4 hs04 hnd hrs ⟨hs04,rfl⟩
        · rintro w5 ⟨hs5,he5⟩
          refine ⟨hu, .inr ⟨(fun q=>by cases q),_,_,g,caps.toArray,rfl,run_enterA hok _ _,fun _ _=>trivial,(hrunD w5 hs5 he5).mono ?_⟩⟩
          rintro e6 u6 w6 ⟨⟨v6,rfl⟩,hst,hs6,fr5,hv5,hr5⟩
          simp only [hst]
          obtain ⟨vs,hrun,hk⟩:=run_results (P:=P) (a:=a4) hv5 hr5
          exact ⟨_,hrun,hs5.trans hs6,resUn_ex hk⟩
        · rintro w5 x hs5 hx hxx ⟨_,he5⟩
          exact ⟨same_take w5 x hs5 hx,(hpz_take hxx).trans he5⟩
      have norm:∀fr5,Agr fr5 a4→(retV P fn.results.toList fr5 (hpz w4) fun vs=>resUn zs (oneOr vs) fun v=>Kv v (hpz w4))→LeavesInM (Fc none) 0 P fn a4.tmps (fun e w'=>Same w w'∧match e with
            | .returned v=>resEx zs v fun v'=>Kv v' (hpz w')
            | .panicked ch=>Kp ch (hpz w')
            | .outgrown=>False) a4.defers .returning w4:=fun fr5 ha5 hr5=>by
        refine go .returning (by simp) fun w5 hs5 he5=>(hret w5).mono ?_
        rintro e6 u6 w6 ⟨hv,rfl,hs6,hz6⟩
        exact ⟨hv,rfl,hs6,fr5,ha5.val,by rw [hz6,he5];exact hr5⟩
      cases e with
      | normal=>obtain ⟨fr5,ha5,hr5⟩:=he;exact norm fr5 ha5 hr5
      | ret=>obtain ⟨fr5,ha5,hr5⟩:=he;exact norm fr5 ha5 hr5
      | panic ch =>
        refine go (.panicking ch) (by simp) fun w5 hs5 he5=>(hpan ch w5 (by rw [he5];exact he)).mono ?_
        rintro e6 u6 w6 ⟨hv,hst,hs6,hr6⟩
        exact ⟨hv,hst,hs6,_,fun i v hi=>hvals _ (valsT_mem (keepT_get hi).1 (keepT_get hi).2),hr6⟩
      | exit id=>obtain ⟨fr5,ha5,hr5⟩:=he;exact hr5.elim
      | goto l=>obtain ⟨fr5,ha5,hr5⟩:=he;exact hr5.elim
      | outgrown=>exact he.elim
    have key:∀(pre:List Code),pre.all (codeT [] true)=true→∀(a1:Act) (w1:World) (fr1:Fr),a1.defers=[]→Same w w1→Agr fr1 a1→semPre P ann D pre (fun e fr h1=>match e with
      | .normal=>∃(caps:List Value) (KpX:List PanicEntry→Hp→Prop),evs (ev fr) call.args.toList=some caps∧sem P ann D none c2 (retQ P fn.results.toList zs Kv) KpX fr h1 ∧
          (∀w,DefRun P g caps .returning w fun u' w'=>u'=.returning∧Same w w'∧hpz w'=hpz w) ∧
          (∀ch w,KpX ch (hpz w)→DefRun P g caps (.panicking ch) w fun u' w'=>settle u'=.returning∧Same w w'∧retV P fn.results.toList (keepT T fr) (hpz w') fun vs=>resUn zs (oneOr vs) fun v=>Kv v (hpz w'))
      | .ret=>retV P fn.results.toList fr h1 fun vs=>resUn zs (oneOr vs) fun v=>Kv v h1
      | _ => False) fr1 (hpz w1)→(seqs pre (.seq (.region id #[o] false) c2)).wpIn (Fc none) 0 P (bodyPostM (Fc none) 0 P fn fun e w'=>Same w w'∧match e with
          | .returned v=>resEx zs v fun v'=>Kv v' (hpz w')
          | .panicked ch=>Kp ch (hpz w')
          | .outgrown=>False) a1 w1:=by
      intro pre
      induction pre with
      | nil=>exact fun _ a1 w1 fr1 hd1 hs1 ha1 hH=>tail a1 w1 fr1 hd1 hs1 ha1 hH
      | cons c cs ih =>
        intro hall a1 w1 fr1 hd1 hs1 ha1 hH
        simp only [List.all_cons,Bool.and_eq_true] at hall
        refine wpIn_seq (wpIn_mono (sem_sound hD w.heap.size [] [] true c hall.1 _ _ _ _ w1 ha1 ⟨⟨[],by simpa using hd1,by simp,by simp⟩,by simp,fun _=>hd1⟩ hs1.2.2.2.1 hH) ?_)
        rintro e a2 w2 ⟨⟨_,_,hm2⟩,hs2,hq⟩
        have hd2:=hm2 (by simp)
        cases e with
        | panic ch=>exact hq.elim
        | outgrown=>exact hq.elim
        | exit id=>obtain ⟨_,_,q⟩:=hq;exact (by cases cs <;> exact q.elim)
        | goto l=>obtain ⟨_,_,q⟩:=hq;exact (by cases cs <;> exact q.elim)
        | ret =>
          obtain ⟨fr2,ha2,q⟩:=hq
          show LeavesInM _ _ _ _ _ _ a2.defers _ _
          rw [hd2]
          obtain ⟨vs,hrun,hk⟩:=run_results (P:=P) (a:=a2) ha2.val q
          exact ⟨_,hrun,hs1.trans hs2,resUn_ex hk⟩
        | normal=>obtain ⟨fr2,ha2,q⟩:=hq;exact ih hall.2 a2 w2 fr2 hd2 (hs1.trans hs2) ha2 q
    exact key pre hT1 _ w _ rfl (Same.refl w) (Agr.start args fn.ntmps []) H
/-- **A CLOSURE THAT BEGINS WITH RECOVER**: what it gets, and the rest. -/
theorem def_recover {ann:Ann} {D:Nat→Array Oper→(Fr→Hp→Prop)→(List PanicEntry→Hp→Prop)→Fr→Hp→Prop} (hD:DrawOk P none D) {g:FuncId} {fn:Func} {rest:Code} {id:Nat} {r1 r2:Oper} {tr t2:Nat} {call:Call} {caps:List Value} {h:Hp} {K:Hp→Prop}
    {u u':FrameMode} {rv:Value} (hf:P.funcs[g]? = some fn) (hb:fn.body=some (.seq (.region id #[r1,r2] false) rest)) (hr1:r1.op=.call call) (hcallee:call.callee=.builtin .recover) (hargs:call.args=#[]) (hd1:r1.dst=some tr) (hg1:r1.guard=none)
    (hr2:r2.op=.assign (.tmp tr)) (hd2:r2.dst=some t2) (hg2:r2.guard=none) (hres:fn.results=#[]) (hT:codeT [] true rest=true)
    (hu:(u=.returning∧rv=.nilIface∧u'=.returning)∨u=.panicking [{ v:=rv,recovered:=false }]∧u'=.panicking [{ v:=rv,recovered:=true }])
    (hlen:Nat.blt tr (caps.length+(fn.ntmps - caps.length))=true)
    (H:sem P ann D none rest (fun e _ h'=>match e with | .normal=>K h' | .ret=>K h' | _=>False) (fun _ _=>False) (((caps.map some++List.replicate (fn.ntmps - caps.length) none).set tr (some rv)).set t2 (some rv)) h) :
    ∀w,hpz w=h→DefRun P g caps u w fun u2 w'=>u2=u'∧Same w w'∧K (hpz w'):=by
  intro w hw
  subst hw
  refine callsDIn_of_wpSIn hf hb trivial fun c0 cs hc0 => ?_
  have ha0:=Agr.start caps fn.ntmps []
  generalize hfr0:caps.map some++List.replicate (fn.ntmps - caps.length) none=fr0 at ha0 H
  have hdef0:({ tmps:=caps.toArray++Array.replicate (fn.ntmps - caps.toArray.size) undef,defers:=[] }:Act).defers=[]:=rfl
  generalize ({ tmps:=caps.toArray++Array.replicate (fn.ntmps - caps.toArray.size) undef,defers:=[] }:Act)=a0 at ha0 hdef0
  have hlen:tr < fr0.length:=by rw [←hfr0];have:=Nat.le_of_ble_eq_true hlen;simp;omega
  have ha1:Agr (fr0.set tr (some rv)) (a0.put r1.dst rv):=by rw [hd1];exact ha0.put (some tr) (v':=some rv) (fun x hx=>by cases hx;rfl)
  have hev:(a0.put r1.dst rv).eval (.tmp tr)=rv:=ha1.ev (.tmp tr) _ (by simp [Sh.ev,hlen])
  have ha2:Agr ((fr0.set tr (some rv)).set t2 (some rv)) ((a0.put r1.dst rv).put r2.dst rv):=by rw [hd2];exact ha1.put (some t2) (v':=some rv) (fun x hx=>by cases hx;rfl)
  have hdef2:((a0.put r1.dst rv).put r2.dst rv).defers=[]:=by rw [hd1,hd2];exact hdef0
  -- what comes behind
  have post:(u'=.returning∨u'=.panicking [{ v:=rv,recovered:=true }])→rest.wpSIn (Fc none) 0 P (bodyPostS P fn c0 cs fun e u2 w'=>(∃v,e=.returned v)∧u2=u'∧Same w w'∧K (hpz w')) ((a0.put r1.dst rv).put r2.dst rv) ({ c0 with mode:=u' }::cs) w:=by
    intro _
    refine wpSIn_of_wpIn rfl (wpIn_mono (sem_sound hD w.heap.size [] [] true rest hT _ _ _ _ w ha2 ⟨⟨[],by simpa using hdef2,by simp,by simp⟩,by simp,fun _=>hdef2⟩ (Nat.le_refl _) H) ?_)
    rintro e a w' ⟨⟨_,_,hm⟩,hs,he⟩
    have hd:=hm (by simp)
    have hrun:(results fn a.tmps).run P w'=.ok (.tuple #[]) w':=by simp [results,hres]
    cases e with
    | normal=>obtain ⟨_,_,hk⟩:=he;exact ⟨hd,u',rfl,_,hrun,⟨_,rfl⟩,rfl,hs,hk⟩
    | ret=>obtain ⟨_,_,hk⟩:=he;exact ⟨hd,u',rfl,_,hrun,⟨_,rfl⟩,rfl,hs,hk⟩
    | panic ch=>exact he.elim
    | outgrown=>exact he.elim
    | exit id=>obtain ⟨_,_,q⟩:=he;exact q.elim
    | goto l=>obtain ⟨_,_,q⟩:=he;exact q.elim
  refine wpSIn_seq (wpSIn_region ?_)
  show wpOpsSIn (Fc none) 0 P #[r1,r2] _ [0,1] a0 (c0::cs) w
  have hrun1:(execOp a0.eval r1).run P w=.ok .recover w:=by
    unfold execOp
    simp only [hr1,resolve,hcallee,hargs,Sem.run_bind,Sem.run_pure,Result.andThen_ok]
    simp [invoke,builtin]
  have step2:∀cs',rest.wpSIn (Fc none) 0 P (bodyPostS P fn c0 cs fun e u2 w'=>(∃v,e=.returned v)∧u2=u'∧Same w w'∧K (hpz w')) ((a0.put r1.dst rv).put r2.dst rv) cs' w →
      wpOpsSIn (Fc none) 0 P #[r1,r2] (Exit.thenS (rest.wpSIn (Fc none) 0 P (bodyPostS P fn c0 cs fun e u2 w'=>(∃v,e=.returned v)∧u2=u'∧Same w w'∧K (hpz w'))) (bodyPostS P fn c0 cs fun e u2 w'=>(∃v,e=.returned v)∧u2=u'∧Same w w'∧K (hpz w'))) [1] (a0.put r1.dst rv) cs' w:=by
    intro cs' hq
    unfold wpOpsSIn
    simp only [show (#[r1,r2]:Array Oper)[1]? = some r2 from rfl]
    refine ⟨fun _ _=>trivial,?_⟩
    rw [if_pos (by simp [Region.wanted,hg2])]
    have hrun2:(execOp (a0.put r1.dst rv).eval r2).run P w=.ok (.value rv) w:=by
      unfold execOp
      simp only [hr2,hev,Sem.run_pure]
    simp only [hrun2]
    exact hq
  unfold wpOpsSIn
  simp only [show (#[r1,r2]:Array Oper)[0]? = some r1 from rfl]
  refine ⟨fun _ _=>trivial,?_⟩
  rw [if_pos (by simp [Region.wanted,hg1])]
  simp only [hrun1]
  rcases hu with ⟨rfl,rfl,rfl⟩ | ⟨rfl,rfl⟩
  · have hrec:recoverD (c0::cs)=none:=by simp [recoverD,hc0]
    simp only [hrec]
    refine step2 _ ?_
    have:=post (.inl rfl)
    rwa [show ({ c0 with mode:=FrameMode.returning }:Frame)=c0 by rw [←hc0]] at this
  · have hrec:recoverD (c0::cs)=some (rv,{ c0 with mode:=.panicking [{ v:=rv,recovered:=true }] }::cs):=by simp [recoverD,hc0]
    simp only [hrec]
    exact step2 _ (post (.inr rfl))
end Go.Sh
