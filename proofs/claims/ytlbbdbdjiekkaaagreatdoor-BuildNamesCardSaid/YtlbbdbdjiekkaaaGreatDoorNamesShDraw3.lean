/- Regions that draw their order, with three and more that may come first. -/
import Derived.Test.YtlbbdbdjiekkaaaGreatDoorNamesShLoop
set_option linter.unusedVariables false
set_option linter.unusedSimpArgs false
namespace Go.Sh
variable {P:Program}
def okT3 (P:Program) (ops:Array Oper) (ms:List Nat):Bool→OT→Bool
  | br, .fin=>!br
  | br, .op x t=>(br || (match ops[x]? with
    | some ox=>t.all.all fun j=>match ops[j]? with | some oj=>!(anc ms x j) && (anc ms j x || (isR P ox.op && apartB ops ox oj)) | none=>false
    | none=>false)) && !(t.all.contains x) && okT3 P ops ms false t
  | br, .alt a b=>okT3 P ops ms true a && okT3 P ops ms true b && a.all.all (b.all.contains ·) && b.all.all (a.all.contains ·) && (br || a.all.all fun j=>(a.heads++b.heads).contains j || ((a.heads++b.heads).any fun w=>anc ms j w && a.all.contains w))
def orderOk3 (P:Program) (ops:Array Oper) (l:OT) (ms:List Nat):Bool :=
  P.follows .mixedOrders && (ops.all fun o=>!(o.op matches .defer _)) && msOk ops ms && okT3 P ops ms false l && (List.range ops.size).all (fun i=>l.all.contains i) && l.all.all fun i=>decide (i < ops.size)
theorem okT_op3 {ops:Array Oper} {ms:List Nat} {br:Bool} {x:Nat} {t:OT} (h:okT3 P ops ms br (.op x t)=true):okT3 P ops ms false t=true∧x∉t.all:=by
  simp only [okT3,Bool.and_eq_true,Bool.not_eq_true',List.contains_eq_mem,decide_eq_false_iff_not] at h
  exact ⟨h.2,h.1.2⟩
theorem okT_op13 {ops:Array Oper} {ms:List Nat} {x:Nat} {t:OT} (h:okT3 P ops ms false (.op x t)=true):∃ox,ops[x]? = some ox∧∀j∈t.all,anc ms j x=false→isR P ox.op=true∧∃oj,ops[j]? = some oj∧Apart ops ox oj:=by
  simp only [okT3,Bool.and_eq_true,Bool.false_or] at h
  have h1:=h.1.1
  cases hx:ops[x]? with
  | none=>simp [hx] at h1
  | some ox =>
    rw [hx] at h1
    simp only [List.all_eq_true] at h1
    refine ⟨ox,rfl,fun j hj hn => ?_⟩
    have:=h1 j hj
    cases hjj:ops[j]? with
    | none=>simp [hjj] at this
    | some oj =>
      rw [hjj] at this
      simp only [Bool.and_eq_true,Bool.or_eq_true] at this
      rw [hn] at this
      simp only [Bool.false_eq_true,false_or] at this
      exact ⟨this.2.1,oj,rfl,apart_of this.2.2⟩
theorem okT_pairs3 {ops:Array Oper} {ms:List Nat} {x:Nat} {t t':OT} (h:okT3 P ops ms false (.op x t)=true) (h':okT3 P ops ms false t'=true) (hall:∀j∈t'.all,j∈t.all):okT3 P ops ms false (.op x t')=true:=by
  simp only [okT3,Bool.and_eq_true,Bool.false_or,Bool.not_eq_true',List.contains_eq_mem,decide_eq_false_iff_not] at h ⊢
  refine ⟨⟨?_,fun hx=>h.1.2 (hall x hx)⟩,h'⟩
  have h1:=h.1.1
  cases hx:ops[x]? with
  | none=>simp [hx] at h1
  | some ox =>
    rw [hx] at h1
    simp only [List.all_eq_true] at h1 ⊢
    intro j hj
    exact h1 j (hall j hj)
theorem okT_alt3 {ops:Array Oper} {ms:List Nat} {br:Bool} {a b:OT} (h:okT3 P ops ms br (.alt a b)=true):okT3 P ops ms true a=true∧okT3 P ops ms true b=true∧(∀j,j∈a.all↔j∈b.all) ∧
    (br=true∨∀j∈a.all,j∈a.heads∨j∈b.heads∨∃w∈a.all,anc ms j w=true):=by
  simp only [okT3,Bool.and_eq_true,List.all_eq_true,List.contains_eq_mem,decide_eq_true_eq,Bool.or_eq_true,List.any_eq_true,List.mem_append] at h
  obtain ⟨⟨⟨⟨h1,h2⟩,h3⟩,h4⟩,h5⟩:=h
  refine ⟨h1,h2,fun j=>⟨h3 j,h4 j⟩,h5.imp id fun h5 j hj => ?_⟩
  rcases h5 j hj with (h | h) | ⟨w,_,h6,h7⟩
  · exact .inl h
  · exact .inr (.inl h)
  · exact .inr (.inr ⟨w,h7,h6⟩)
/-- one of the alternatives is begun -/
theorem semDr_head3 {ops:Array Oper} {ms:List Nat} {K:Fr→Hp→Prop} {Kp:List PanicEntry→Hp→Prop} {i:Nat}:∀(T:OT),okT3 P ops ms true T=true→i∈T.heads →
    ∃T',okT3 P ops ms false T'=true∧(∀j,j∈T'.all↔j∈T.all∧j≠i)∧∀{ld:List (Nat × Addr × Nat)} {fr:Fr} {h:Hp},semDr P ops ms ld T K Kp fr h→semDr P ops ms ld (.op i T') K Kp fr h:=by
  intro T
  induction T with
  | fin=>intro _ hm;simp [OT.heads] at hm
  | op x t ih =>
    intro hok hm
    simp only [OT.heads,List.mem_singleton] at hm
    subst hm
    obtain ⟨h1,h2⟩:=okT_op3 hok
    refine ⟨t,h1,fun j => ?_,fun H=>H⟩
    simp only [OT.all,List.mem_cons]
    constructor
    · intro hj;exact ⟨.inr hj,fun e=>h2 (e ▸ hj)⟩
    · rintro ⟨hj | hj,hn⟩
      · exact absurd hj hn
      · exact hj
  | alt a b iha ihb =>
    intro hok hm
    obtain ⟨h1,h2,h3,_⟩:=okT_alt3 hok
    simp only [OT.heads,List.mem_append] at hm
    rcases hm with hm | hm
    · obtain ⟨T',q1,q2,q3⟩:=iha h1 hm
      exact ⟨T',q1,q2,fun H=>q3 H.1⟩
    · obtain ⟨T',q1,q2,q3⟩:=ihb h2 hm
      exact ⟨T',q1,fun j=>by rw [q2 j,←h3 j];exact Iff.rfl,fun H=>q3 H.2⟩
/-- what is ready is moved to the front -/
theorem semDr_front3 {ops:Array Oper} {ms:List Nat} {K:Fr→Hp→Prop} {Kp:List PanicEntry→Hp→Prop} {i:Nat} {oi:Oper} (hi:ops[i]? = some oi) {T:OT} {ld:List (Nat × Addr × Nat)} {fr:Fr} {h:Hp}
    (hok:okT3 P ops ms false T=true) (hm:i∈T.all) (hna:∀x∈T.all,anc ms i x=false) (H:semDr P ops ms ld T K Kp fr h) :
    ∃T',okT3 P ops ms false T'=true∧(∀j,j∈T'.all↔j∈T.all∧j≠i)∧semDr P ops ms ld (.op i T') K Kp fr h:=by
  have key:∀(T:OT),okT3 P ops ms false T=true→i∈T.all→(∀x∈T.all,anc ms i x=false) →
      ∃T',okT3 P ops ms false T'=true∧(∀j,j∈T'.all↔j∈T.all∧j≠i)∧∀{ld:List (Nat × Addr × Nat)} {fr:Fr} {h:Hp},semDr P ops ms ld T K Kp fr h→semDr P ops ms ld (.op i T') K Kp fr h:=by
    intro T
    induction T with
    | fin=>intro _ hm _;simp [OT.all] at hm
    | op x t ih =>
      intro hok hm hna
      obtain ⟨hok',hxt⟩:=okT_op3 hok
      by_cases e:x=i
      · subst e
        refine ⟨t,hok',fun j => ?_,fun H=>H⟩
        simp only [OT.all,List.mem_cons]
        constructor
        · intro hjt;exact ⟨.inr hjt,fun e=>hxt (e ▸ hjt)⟩
        · rintro ⟨h1 | h1,h2⟩
          · exact absurd h1 h2
          · exact h1
      · obtain ⟨ox,hx,hj⟩:=okT_op13 hok
        have hmt:i∈t.all:=by
          simp only [OT.all,List.mem_cons] at hm
          exact hm.resolve_left (fun h=>e h.symm)
        obtain ⟨t',ht',hall,hf⟩:=ih hok' hmt fun y hy=>hna y (by simp [OT.all,hy])
        have hxi:anc ms i x=false:=hna x (by simp [OT.all])
        obtain ⟨hrx,oi',hoi',hap⟩:=hj i hmt hxi
        rw [hi] at hoi';cases hoi'
        refine ⟨.op x t',okT_pairs3 hok ht' fun j hjt=>((hall j).1 hjt).1,fun j => ?_,fun H => ?_⟩
        · simp only [OT.all,List.mem_cons,hall]
          constructor
          · rintro (h1 | ⟨h1,h2⟩)
            · subst h1;exact ⟨.inl rfl,e⟩
            · exact ⟨.inr h1,h2⟩
          · rintro ⟨h1 | h1,h2⟩
            · exact .inl h1
            · exact .inr ⟨h1,h2⟩
        · refine semDr_swap hx hi hrx hap hxi ?_
          rw [semDr_cons hx,hrx,bsel_true] at H
          rw [semDr_cons hx,hrx,bsel_true]
          exact stepF_mono H fun v h' hk=>hf hk
    | alt a b iha ihb =>
      intro hok hm hna
      obtain ⟨h1,h2,h3,h4⟩:=okT_alt3 hok
      have h4:=h4.resolve_left (by simp)
      have hok2:okT3 P ops ms true (.alt a b)=true:=by
        simp only [okT3,Bool.and_eq_true,Bool.true_or,and_true] at hok ⊢
        exact hok.1
      refine semDr_head3 (.alt a b) hok2 ?_
      rcases h4 i hm with h | h | ⟨w,hw,ha⟩
      · simp [OT.heads,h]
      · simp [OT.heads,h]
      · rw [hna w hw] at ha;cases ha
  obtain ⟨T',h1,h2,h3⟩:=key T hok hm hna
  exact ⟨T',h1,h2,h3 H⟩
variable {r:Option Nat}
theorem semDr_any3 {T0:List Nat} {ops:Array Oper} (hT0:OpsT T0 ops) {ms:List Nat} (hms:msOk ops ms=true) {K:Fr→Hp→Prop} {Kp:List PanicEntry→Hp→Prop} {Q:Exit→Act→World→Prop}:∀(fuel:Nat) (listed:Array Bool) (U:List Nat) (l:OT) (ld:List (Nat × Addr × Nat)) (fr:Fr) (a:Act) (w:World),
    Agr fr a→okT3 P ops ms false l=true→(∀i,i∈l.all↔i < ops.size∧listed.getD i false=false)→(∀i,i∈l.all→i∈U)→listed.size=ops.size→(∀j o,ops[j]? = some o→listed.getD j false=true→∀e∈depsOf o,listed.getD e false=true) →
    U.length≤fuel→semDr P ops ms ld l K Kp fr (hpz w)→(∀fr' a' w',Agr fr' a'→Kd T0 a a'→Same w w'→K fr' (hpz w')→Q .normal a' w') →
    (∀ch a' w',Kd T0 a a'→Same w w'→Kp ch (hpz w')→Q (.panic ch) a' w')→wpAnyIn (Fc r) 0 P .any ops Q fuel listed a w:=by
  intro fuel
  have ready_mem:∀(listed:Array Bool) (i:Nat),listed.size=ops.size→(i∈Region.ready .any ops listed↔i < ops.size∧listed.getD i false=false∧∃o,ops[i]? = some o∧∀e∈depsOf o,listed.getD e false=true):=by
    intro listed i hsz
    unfold Region.ready
    simp only [List.mem_filter,List.mem_range,Bool.and_eq_true,Bool.not_eq_true']
    constructor
    · rintro ⟨hi,hl,hd⟩
      have ho:ops[i]? = some ops[i]:=Array.getElem?_eq_getElem hi
      rw [ho] at hd
      simp only [Option.map_some,Option.getD_some] at hd
      exact ⟨hi,by rw [←getD_tf (by omega)];exact hl,_,ho,dep_iff.1 hd⟩
    · rintro ⟨hi,hl,o,ho,hd⟩
      refine ⟨hi,by rw [getD_tf (by omega)];exact hl,?_⟩
      rw [ho]
      simp only [Option.map_some,Option.getD_some]
      exact dep_iff.2 hd
  have none_ready:∀(listed:Array Bool) (l:List Nat),listed.size=ops.size→(∀i,i∈l↔i < ops.size∧listed.getD i false=false)→Region.ready .any ops listed=[]→∀j,j∉l:=by
    intro listed l hsz hl hr
    intro x hx
    · obtain ⟨m,hm,hmin⟩:=least (fun i=>i∈l) ⟨x,hx⟩
      obtain ⟨hlt,hf⟩:=(hl m).1 hm
      have ho:ops[m]? = some ops[m]:=Array.getElem?_eq_getElem hlt
      have:m∈Region.ready .any ops listed:=by
        refine (ready_mem listed m hsz).2 ⟨hlt,hf,_,ho,fun e he => ?_⟩
        have hem:=(msOk_spec hms ho).1 e he
        have:=hmin e hem
        rw [hl e] at this
        cases hle:listed.getD e false with
        | true=>rfl
        | false=>exact absurd ⟨by omega,hle⟩ this
      rw [hr] at this
      simp at this
  induction fuel with
  | zero =>
    intro listed U l ld fr a w ha hp hl hU hsz hc hlen H hN hP
    have hn:∀j,j∉l.all:=fun j hj=>by
      have:U=[]:=by cases U with | nil=>rfl | cons=>simp at hlen
      have:=hU j hj;simp_all
    refine ⟨?_,hN fr a w ha (Kd.refl _ _) (Same.refl w) (semDr_nil hn H)⟩
    apply List.eq_nil_iff_forall_not_mem.2
    intro i hi
    obtain ⟨h1,h2,_⟩:=(ready_mem listed i hsz).1 hi
    exact hn i ((hl i).2 ⟨h1,h2⟩)
  | succ fuel ih =>
    intro listed U l ld fr a w ha hp hl hU hsz hc hlen H hN hP
    refine ⟨fun hr => ?_,fun i hi => ?_⟩
    · exact hN fr a w ha (Kd.refl _ _) (Same.refl w) (semDr_nil (none_ready listed l.all hsz hl hr) H)
    · obtain ⟨hilt,hif,oi,hoi,hdep⟩:=(ready_mem listed i hsz).1 hi
      have him:=(hl i).2 ⟨hilt,hif⟩
      have hanc:∀x∈l.all,anc ms i x=false:=by
        intro x hx
        cases hax:anc ms i x with
        | false=>rfl
        | true =>
          exfalso
          have hxl:listed.getD x false=true:=by
            rcases (msOk_spec hms hoi).2 x hax with h1 | ⟨e,he,h1⟩
            · exact hdep x h1
            · exact anc_listed hms hc hsz e x (hdep e he) h1
          have:=((hl x).1 hx).2
          rw [hxl] at this;cases this
      obtain ⟨T',hok',hall',H2⟩:=semDr_front3 hoi hp him hanc H
      have hl':∀j,j∈T'.all↔j < ops.size∧(listed.setIfInBounds i true).getD j false=false:=by
        intro j
        rw [hall' j]
        by_cases hj:j=i
        · subst hj
          constructor
          · intro h;exact absurd rfl h.2
          · rintro ⟨_,h2⟩
            simp [Array.getD,hsz,hilt] at h2
        · have h1:=hl j
          rw [Array.getD_eq_getD_getElem?,Array.getElem?_setIfInBounds_ne (by omega),←Array.getD_eq_getD_getElem?]
          rw [←h1]
          simp [hj]
      have hU':∀j,j∈T'.all→j∈U.erase i:=fun j hj=>by
        obtain ⟨h1,h2⟩:=(hall' j).1 hj
        exact (List.mem_erase_of_ne h2).2 (hU j h1)
      have hUl:(U.erase i).length≤fuel:=by
        rw [List.length_erase_of_mem (hU i him)];omega
      have hc':∀j o,ops[j]? = some o→(listed.setIfInBounds i true).getD j false=true→∀e∈depsOf o,(listed.setIfInBounds i true).getD e false=true:=by
        intro j o ho hj e he
        have mono:∀k,listed.getD k false=true→(listed.setIfInBounds i true).getD k false=true:=by
          intro k hk
          by_cases hki:k=i
          · subst hki;simp [Array.getD,hsz,hilt]
          · rw [Array.getD_eq_getD_getElem?,Array.getElem?_setIfInBounds_ne (by omega),←Array.getD_eq_getD_getElem?];exact hk
        by_cases hji:j=i
        · subst hji
          rw [hoi] at ho;cases ho
          exact mono e (hdep e he)
        · rw [Array.getD_eq_getD_getElem?,Array.getElem?_setIfInBounds_ne (by omega),←Array.getD_eq_getD_getElem?] at hj
          exact mono e (hc j o ho hj e he)
      have next:∀ld' fr' a' w',Agr fr' a'→Kd T0 a a'→Same w w'→semDr P ops ms ld' T' K Kp fr' (hpz w')→wpAnyIn (Fc r) 0 P .any ops Q fuel (listed.setIfInBounds i true) a' w':=by
        intro ld' fr' a' w' ha' hd hs hk
        refine ih _ (U.erase i) T' ld' fr' a' w' ha' hok' hl' hU' (by simpa using hsz) hc' hUl hk ?_ ?_
        · intro fr'' a'' w'' ha'' hd' hs' hk';exact hN _ _ _ ha'' (hd'.trans hd) (hs.trans hs') hk'
        · intro ch a'' w'' hd' hs' hk';exact hP _ _ _ (hd'.trans hd) (hs.trans hs') hk'
      have step:StepIn r P ops i (wpAnyIn (Fc r) 0 P .any ops Q fuel (listed.setIfInBounds i true)) Q a w:=by
        unfold semDr at H2
        rw [hoi] at H2
        simp only at H2
        cases hr:isR P oi.op with
        | true =>
          rw [hr,bsel_true] at H2
          exact semStep_sound hT0 ha H2 (fun fr' a' w' ha' hd hs hk=>next _ fr' a' w' ha' hd hs hk) hP
        | false =>
          rw [hr,bsel_false] at H2
          exact semStep_sound hT0 ha H2 (fun fr' a' w' ha' hd hs hk=>next _ fr' a' w' ha' hd hs (keeps_iff.1 hk).2) hP
      unfold StepIn at step
      unfold wpOpIn
      rw [hoi] at step ⊢
      exact step
def DrawSem3 (P:Program) (ords:List (Nat × OT × List Nat)) (id:Nat) (ops:Array Oper) (K:Fr→Hp→Prop) (Kp:List PanicEntry→Hp→Prop) (fr:Fr) (h:Hp):Prop :=
  match ords.find? (fun x=>x.1 == id) with
  | some (_,l,ms)=>bsel (orderOk3 P ops l ms) (semDr P ops ms [] l K Kp fr h)<|False
  | none=>False
theorem drawOk3 (ords:List (Nat × OT × List Nat)):DrawOk P r (DrawSem3 P ords):=by
  intro T0 id ops K Kp fr a w Q hT0 ha hD hN hP
  unfold DrawSem3 at hD
  split at hD
  · rename_i l ms _
    cases ho:orderOk3 P ops l ms with
    | false=>rw [ho] at hD;exact hD.elim
    | true =>
      rw [ho,bsel_true] at hD
      simp only [orderOk3,Bool.and_eq_true,List.all_eq_true,List.mem_range,decide_eq_true_eq,List.contains_eq_mem] at ho
      obtain ⟨⟨⟨⟨⟨hm,_⟩,hms⟩,hp⟩,hall⟩,hsub⟩:=ho
      refine wpIn_region_any hm ?_
      refine semDr_any3 (r:=r) hT0 hms ops.size (Array.replicate ops.size false) (List.range ops.size) l [] fr a { w with drawn:=w.drawn+1 } ha hp ?_ (fun i hi=>List.mem_range.2 (hsub i hi)) (by simp) ?_ (by simp) hD ?_ ?_
      · intro i
        constructor
        · intro hi;exact ⟨hsub i hi,by simp [Array.getD,hsub i hi]⟩
        · rintro ⟨hi,_⟩;exact hall i hi
      · intro j o hoj hj
        have:j < ops.size:=(Array.getElem?_eq_some_iff.1 hoj).1
        simp [Array.getD,this] at hj
      · intro fr' a' w' ha' hd hs hk;exact hN fr' a' w' ha' hd hs hk
      · intro ch a' w' hd hs hk;exact hP ch a' w' hd hs hk
  · exact hD.elim
theorem fnof3 {ann:Ann} {o:OrdT} {f:FuncId} {fn:Func} {zs:List Value} {args:List Value} {h:Hp} {Kv:Value→Hp→Prop} {Kp:PK} {S:Prop} {K':Value→Hp→Prop} (hf:P.funcs[f]? = some fn) (hb:fn.body.isSome=true)
    (H:S) (hS:S=sem P ann (DrawSem3 P o) none (fn.body.getD .skip) (retQ P fn.results.toList zs Kv) Kp (args.map some++List.replicate (fn.ntmps - args.length) none) h)
    (hK:(fun v h'=>resEx zs v fun v'=>Kv v' h')=K'):CallH P f args h K' Kp:=by
  obtain ⟨c,hc⟩:=Option.isSome_iff_exists.1 hb
  rw [hc] at hS
  exact hK ▸ fn_of (drawOk3 _) hf hc (hS ▸ H)
end Go.Sh
