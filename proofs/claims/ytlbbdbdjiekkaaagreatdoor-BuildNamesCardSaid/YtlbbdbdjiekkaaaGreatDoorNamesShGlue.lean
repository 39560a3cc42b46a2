/- From the heap reading to the rows: what is read of arguments, what is told of a call that answers true. -/
import Derived.Test.YtlbbdbdjiekkaaaGreatDoorNamesShLoc
import Derived.WalkKit
import Derived.ProofKit
import Derived.OpenShut
import Derived.ReadAgain
import Derived.Deep.DeepHandedRow
import Derived.Lib.LaidTab
set_option linter.unusedVariables false
set_option linter.unusedSimpArgs false
namespace Go.Sh
open Go.ChangeShapes Go.WideShapes Go.RowKit
theorem cell_hpz (W:World) (a:Addr):cell (hpz W) a=W.cell? a:=by
  unfold cell World.cell? hpz
  rw [Array.getElem?_map]
  cases h:W.heap[a.block]? with
  | none=>rfl
  | some o=>cases o <;> rfl
theorem heap_same {W W':World} (hs:Same W W') (g:Grw (hpz W) (hpz W')) {b:Nat} (hb:b < W.heap.size):W'.heap[b]? = W.heap[b]? := by
  have h1:=g.2 b (by simpa [hpz] using hb)
  simp only [hpz,Array.getElem?_map] at h1
  cases h:W.heap[b]? with
  | none=>rw [Array.getElem?_eq_none_iff] at h;omega
  | some o =>
    rw [h] at h1
    cases h':W'.heap[b]? with
    | none=>rw [h'] at h1;simp at h1
    | some o' =>
      rw [h'] at h1
      simp only [Option.map_some,Option.some.injEq] at h1
      cases o with
      | deferred ds=>rw [hs.2.2.2.2 b ds h] at h';exact h'.symm
      | _=>cases o' <;> simp_all [nrm]
section
variable {H:Type} {enc:TypeId × Value→H} {P:Program}
theorem sameAt_of {W W':World} (hs:Same W W') (g:Grw (hpz W) (hpz W')) {p:MemPlace} (hp:p.block < W.heap.size):W.sameAt W' p:=by
  cases p with
  | cell b off =>
    have:=heap_same hs g (b:=b) hp
    show W'.cell? _=W.cell? _
    simp only [World.cell?,this]
  | map b=>exact heap_same hs g (b:=b) hp
theorem trodAll_carry {W W':World} {base:Nat} {sp:Nat→Bool} {held:Bool}:∀{ts:List TypeId} {vs:List Value} {ds:List (DataW H)} {ps:List MemPlace},DataW.TrodAll enc P W base sp held ts vs ds ps→(∀p∈ps,W.sameAt W' p)→DataW.TrodAll enc P W' base sp held ts vs ds ps
  | [],[],[],_,h,_=>h
  | _::_,_::_,_::_,_,⟨p,q,⟨n,h1⟩,h2,e⟩,hs =>
    ⟨p,q,⟨n,DataW.trod_carry n _ _ _ h1 fun x hx=>hs x (by rw [e];exact List.mem_append_left _ hx)⟩,trodAll_carry h2 (fun x hx=>hs x (by rw [e];exact List.mem_append_right _ hx)),e⟩
/-- **A CALL THAT ANSWERS TRUE AND LEAVES ALL OLD BLOCKS AS THEY WERE.** -/
theorem post_true {f:Func} {s:ChangeSpec} {apart fresh handsOn again:Bool} {W W':World} {args:Array Value} {ds:List (DataW H)} {before:List MemPlace} {t:TypeId}
    (hl:laidOutB P=true) (hm:mapsRowed P=true) (hz:((List.range P.types.size).all fun t=>match P.underlying t with | some (.slice e)=>decide (0 < P.cellsOf e) | _=>true)=true)
    (hT:∀t∈f.params.toList,t < P.types.size) (hW:DataW.Whole enc P f.params.toList s.vars apart W args.toList ds [] before) (hv:s.vars=[]) (hr:f.resultTypes=#[t]) (ht:P.underlying t=some .bool)
    (hf1:(s.fn H ds).results=[.lit (.bool true)]) (hf2:(s.fn H ds).args=ds) (hf3:(s.fn H ds).vars=[]) (hs:Same W W') (g:Grw (hpz W) (hpz W')) :
    s.post enc P f apart fresh handsOn again W args (.bool true) W':=by
  have hlt:=hW.lt
  have hW0:=hW
  obtain ⟨p,q,hA,hV,rfl,hfz,hnd⟩:=hW
  rw [hv] at hV
  obtain rfl:q=[]:=by simpa [DataW.TrodVars] using hV
  rw [List.append_nil] at hlt hfz hnd hW0
  have hA':DataW.TrodAll enc P W' 0 (fun _=>true) true f.params.toList args.toList ds p:=trodAll_carry hA fun x hx=>sameAt_of hs g (hlt x hx)
  have hre:∀sp:Nat→Bool,(∀x∈p,sp x.block=true)→DataW.TrodAll enc P W' 0 sp true f.params.toList args.toList ds p:=fun sp hsp =>
    DataW.TrodAll.respare (kids_rows hl hm) (fun t e h1 h2=>slices_full_of P hz t e h1 h2) hT hA' hsp
  have hres:∀(b:Nat) (sp:Nat→Bool) (hd:Bool),DataW.TrodAll enc P W' b sp hd f.resultTypes.toList ((Value.bool true).resultList f.resultTypes.size) [.lit (.bool true)] []:=fun b sp hd=>by
    rw [hr];exact trodAll_cons_mk (shut_bool ht true) trodAll_mk0
  refine ⟨ds,[],p,[],p,[],hW0,?_,?_,?_,?_,fun _=>⟨?_,?_⟩⟩
  · simp only [List.append_nil];rw [hf1];exact hres _ _ _
  · simp only [List.append_nil];rw [hf2];exact hre _ fun x hx=>by simpa using hlt x hx
  · simp only [List.append_nil];rw [hf3,hv];rfl
  · refine ⟨hs.2.1,hs.2.2.1,fun i hi => ?_⟩
    rw [heap_same hs g hi]
    cases W.heap[i]? with
    | none=>rfl
    | some o=>cases o <;> simp
  · intro j t' r h1 h2
    rw [hr] at h1 h2
    rcases j with _ | j
    · simp at h1
      subst h1
      simp [Value.resultList] at h2
      subst h2
      exact okWide_bool_mk ht true
    · simp at h1
  · refine ⟨[.lit (.bool true)]++ds,[],[]++p,⟨[]++p,[],trodAll_append (hre _ fun _ _=>rfl) (hres _ _ _),by rw [hv];rfl,by simp,?_,fun ha=>by simpa using hnd ha⟩,fun x hx _=>by simpa using hx⟩
    intro b off hx
    simp only [List.nil_append] at hx
    have:=hfz b off (by simpa using hx)
    have hb:=hlt _ hx
    simp only [MemPlace.block] at hb
    simpa [World.frozen?,heap_same hs g hb] using this
theorem calls_of {f:FuncId} {args:Array Value} {W:World} {R:Value→World→Prop} (h:CallH P f args.toList (hpz W) (fun v h'=>v=.bool true∧Grw (hpz W) h') NoP)
    (hR:∀W',Same W W'→Grw (hpz W) (hpz W')→R (.bool true) W'):Calls P f args W fun e W'=>∃v,e=.returned v∧R v W':=by
  refine (h W rfl).mono ?_
  rintro e W' ⟨hs,he⟩
  cases e with
  | returned v=>obtain ⟨rfl,g⟩:=he;exact ⟨_,rfl,hR W' hs g⟩
  | panicked ch=>exact he.elim
  | outgrown=>exact he.elim
/-- a reading's measure, by its rules (the rows of each seat have one of their own) -/
structure Bulk (b:DataW H→Nat) (bs:List (DataW H)→Nat):Prop where
  nil:bs []=0
  cons:∀d r,bs (d::r)=b d+bs r
  slice:∀e s,b (.slice e s)=bs e+bs s+1
  agg:∀l,b (.agg l)=bs l+1
  str:∀l,b (.lit (.string l))=l.length+1
  ptr:∀d,b (.ptr d)=b d+1
  one:∀d,1≤b d
section
variable {b:DataW H→Nat} {bs:List (DataW H)→Nat} (B:Bulk b bs)
include B
end
end
end Go.Sh
