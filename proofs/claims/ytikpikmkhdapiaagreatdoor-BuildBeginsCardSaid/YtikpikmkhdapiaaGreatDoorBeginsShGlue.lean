import Derived.Test.YtikpikmkhdapiaaGreatDoorBeginsShLoc
import Derived.WalkKit
import Derived.ProofKit
import Derived.OpenShut
import Derived.ReadAgain
import Derived.Deep.DeepHandedRow
import Derived.Lib.LaidTab
set_option linter.unusedSimpArgs false
set_option linter.unusedVariables false
set_option maxRecDepth 100000
set_option maxHeartbeats 1000000
namespace Go.Sh
open Go.ChangeShapes Go.WideShapes Go.RowKit
theorem Vd (W:World) (a:Addr):cell (aE W) a=W.cell? a:=by
 unfold cell World.cell? aE;rw[Array.getElem?_map];cases h:W.heap[a.block]? with
 | none=>rfl
 | some o=>cases o <;> rfl
theorem FB {W d:World} (f:aY W d) (g:ah (aE W) (aE d)) {b:Nat} (i:b < W.heap.size):d.heap[b]? = W.heap[b]? := by
  have a:=g.2 b (by simpa[aE] using i)
  simp only[aE,Array.getElem?_map] at a;cases h:W.heap[b]? with
  | none=>rw[Array.getElem?_eq_none_iff] at h;omega
  | some o =>
    rw[h] at a;cases c:d.heap[b]? with
    | none=>rw[c] at a;simp at a
    | some e =>
      rw[c] at a;simp only[Option.map_some,Option.some.injEq] at a;cases o with
      | deferred ds=>rw[f.2.2.2.2 b ds h] at c;exact c.symm
      | _=>cases e <;> simp_all [oh]
section
variable {H:Type} {enc:TypeId × Value->H} {P:Program}
theorem abt {W a:World} (c:aY W a) (g:ah (aE W) (aE a)) {p:MemPlace} (d:p.block < W.heap.size):W.sameAt a p:=by
  cases p with
  | cell b off =>
    have:=FB c g (b:=b) d
    show a.cell? _=W.cell? _
    simp only[World.cell?,this]
  | map b=>exact FB c g (b:=b) d
theorem Qv {W i:World} {base:Nat} {sp:Nat->Bool} {a:Bool}:∀{f:List TypeId} {vs:List Value} {ds:List (DataW H)} {c:List MemPlace},DataW.TrodAll enc P W base sp a f vs ds c->(∀p∈c,W.sameAt i p)->DataW.TrodAll enc P i base sp a f vs ds c
  | [],[],[],_,h,_=>h
  | _::_,_::_,_::_,_,⟨p,q,⟨n,k⟩,j,e⟩,g =>
    ⟨p,q,⟨n,DataW.trod_carry n _ _ _ k λx d=>g x (by rw[e];exact List.mem_append_left _ d)⟩,Qv j (λx d=>g x (by rw[e];exact List.mem_append_right _ d)),e⟩
theorem acm {f:Func} {s:ChangeSpec} {apart fresh handsOn again:Bool} {W W':World} {args:Array Value} {ds:List (DataW H)} {before:List MemPlace} {t:TypeId}
  (hl:laidOutB P=true) (hm:mapsRowed P=true) (hz:((List.range P.types.size).all λt=>match P.underlying t with | some (.slice e)=>decide (0 < P.cellsOf e) | _=>true)=true)
  (hT:∀t∈f.params.toList,t < P.types.size) (hW:DataW.Whole enc P f.params.toList s.vars apart W args.toList ds [] before) (hv:s.vars=[]) (hr:f.resultTypes=#[t]) (ht:P.underlying t=some .bool)
  (hf1:(s.fn H ds).results=[.lit (.bool true)]) (hf2:(s.fn H ds).args=ds) (hf3:(s.fn H ds).vars=[]) (hs:aY W W') (g:ah (aE W) (aE W')) :
  s.post enc P f apart fresh handsOn again W args (.bool true) W':=by
 have fO:=hW.lt;have Ug:=hW;obtain ⟨p,q,hA,hV,rfl,NM,uV⟩:=hW;rw[hv] at hV;obtain rfl:q=[]:=by simpa[DataW.TrodVars] using hV
 rw[List.append_nil] at fO NM uV Ug;have hA':DataW.TrodAll enc P W' 0 (λ_=>true) true f.params.toList args.toList ds p:=Qv hA λx hx=>abt hs g (fO x hx);have TS:∀sp:Nat->Bool,(∀x∈p,sp x.block=true)->DataW.TrodAll enc P W' 0 sp true f.params.toList args.toList ds p:=λsp hsp =>
  DataW.TrodAll.respare (kids_rows hl hm) (λt e h1 h2=>slices_full_of P hz t e h1 h2) hT hA' hsp
 have TR:∀(b:Nat) (sp:Nat->Bool) (hd:Bool),DataW.TrodAll enc P W' b sp hd f.resultTypes.toList ((Value.bool true).resultList f.resultTypes.size) [.lit (.bool true)] []:=λb sp hd=>by
  rw[hr];exact trodAll_cons_mk (shut_bool ht true) trodAll_mk0
 refine ⟨ds,[],p,[],p,[],Ug,?_,?_,?_,?_,λ_=>⟨?_,?_⟩⟩
 ·simp only[List.append_nil];rw[hf1];exact TR _ _ _
 ·simp only[List.append_nil];rw[hf2];exact TS _ λx hx=>by simpa using fO x hx
 ·simp only[List.append_nil];rw[hf3,hv];rfl
 ·refine ⟨hs.2.1,hs.2.2.1,λi hi => ?_⟩;rw[FB hs g hi];cases W.heap[i]? with
  | none=>rfl
  | some o=>cases o <;> simp
 ·intro j t' r h1 h2;rw[hr] at h1 h2;rcases j with _ | j
  ·simp at h1;subst h1;simp[Value.resultList] at h2;subst h2;exact okWide_bool_mk ht true
  ·simp at h1
 ·refine ⟨[.lit (.bool true)]++ds,[],[]++p,⟨[]++p,[],trodAll_append (TS _ λ_ _=>rfl) (TR _ _ _),by rw[hv];rfl,by simp,?_,λha=>by simpa using uV ha⟩,λx hx _=>by simpa using hx⟩
  intro b off hx;simp only[List.nil_append] at hx;have:=NM b off (by simpa using hx)
  have hb:=fO _ hx;simp only[MemPlace.block] at hb
  simpa[World.frozen?,FB hs g hb] using this
theorem ajD {f:FuncId} {Z:Array Value} {W:World} {R:Value->World->Prop} (h:cr P f Z.toList (aE W) (λv j=>v=.bool true/\ah (aE W) j) kN)
  (i:∀a,aY W a->ah (aE W) (aE a)->R (.bool true) a):Calls P f Z W λe a=>∃v,e=.returned v/\R v a:=by
 refine (h W rfl).mono ?_;rintro e a ⟨d,c⟩;cases e with
 | returned v=>obtain ⟨rfl,g⟩:=c;exact ⟨_,rfl,i a d g⟩
 | panicked k=>exact c.elim
 | outgrown=>exact c.elim
theorem ajn {W:World} {base:Nat} {a:Addr} {n:Nat} {cs:List Value} (h:W.cells? base a n=some cs):cs.length=n/\Cs (aE W) a cs:=by
 unfold World.cells? at h;split at h
 ·have hl:cs.length=n:=by simpa using mapM_some_length h
  refine ⟨hl,λi v c => ?_⟩;have d:=(List.getElem?_eq_some_iff.1 c).1;have:=mapM_some_get h i i (List.getElem?_range ag);rw[Vd,this];exact c
 ·cases h
theorem acW {W:World} {m:Nat} {t e:TypeId} {cs:List Value} {x:DataW H × List MemPlace} (q:P.underlying t=some (.slice e)) (h:DataW.trod enc P W 0 (λ_=>true) true m t cs=some x) :
  ∃(s:Sl) (vk f:List (DataW H × List MemPlace)) (n:Nat),cs=[s.v]/\m=n+1/\s.n=vk.length/\s.n<=s.c/\(x.1=.nil/\vk=[]/\s=Sl.nil\/x.1=.slice (vk.map (·.1)) (f.map (·.1))/\(s.a.isSome=true)) /\
   ∀i y,vk[i]? = some y->∃a d,s.a=some a/\d.length=P.cellsOf e/\Cs (aE W) (a.add (i*P.cellsOf e)) d/\DataW.trod enc P W 0 (λ_=>true) true n e d=some y:=by
 have C:0 < m:=by cases m with | zero=>simp[DataW.trod] at h | succ n=>omega
 rcases DataW.trod_slice q h with ⟨rfl,rfl⟩ | ⟨a,len,cap,g,f,n,rfl,rfl,rfl,A,hl,z,j,l,_,_⟩
 ·obtain ⟨n,rfl⟩:∃n,m=n+1:=⟨m - 1,by omega⟩
  exact ⟨Sl.nil,[],[],n,rfl,rfl,rfl,Nat.le_refl _, .inl ⟨rfl,rfl,rfl⟩,λi y k=>by simp at k⟩
 ·refine ⟨⟨some a,len,cap⟩,g,f,n,rfl,rfl,j.symm,hl, .inr ⟨rfl,rfl⟩,λi y k => ?_⟩;have r:i < len:=by have:=(List.getElem?_eq_some_iff.1 k).1;omega
  have:=l i r;rw[k,Option.bind_eq_some_iff] at this;obtain ⟨d,w,u⟩:=this;obtain ⟨p,o⟩:=ajn w;exact ⟨a,d,rfl,p,o,u⟩
structure amm (b:DataW H->Nat) (bs:List (DataW H)->Nat):Prop where
 nil:bs []=0
 cons:∀d r,bs (d::r)=b d+bs r
 slice:∀e s,b (.slice e s)=bs e+bs s+1
 agg:∀l,b (.agg l)=bs l+1
 str:∀l,b (.lit (.string l))=l.length+1
 ptr:∀d,b (.ptr d)=b d+1
 one:∀d,1<=b d
section
variable {b:DataW H->Nat} {bs:List (DataW H)->Nat} (B:amm b bs)
include B
end
theorem Sf {W:World} {n:Nat} {e:TypeId} {cs:List Value} {x:DataW H × List MemPlace} {sp:Nat->Bool} (c:P.underlying e=some (.int .i64)) (h:DataW.trod enc P W 0 sp true n e cs=some x):∃v,cs=[.int .i64 v] /\ -9223372036854775808<=v/\v<=9223372036854775807:=by
 obtain ⟨v,rfl,_,a⟩:=DataW.trod_int c h;exact ⟨v,rfl,bounds_i64 a⟩
theorem akw {W:World} {base:Nat} {e:TypeId} {c:Array Field} {v:Value} (a:P.underlying e=some (.struct c)) (h:Value.okWide P W .any base e v):v=.agg v.cells:=by
 unfold Value.okWide at h;rw[a] at h;obtain ⟨cs,rfl,_⟩:=h;rfl
theorem ajl {W:World} {base:Nat} {t e:TypeId} {v:Value} {s:Sl} (c:P.underlying t=some (.slice e)) (h:Value.okWide P W .any base t v) (d:v.cells.toList=[s.v]):v=s.v:=by
 obtain ⟨a,len,cap,rfl⟩:=okWide_slice c h
 simpa[Value.cells] using d
theorem ajm {W:World} {base:Nat} {e:TypeId} {k:IntKind} {v:Value} {n:Int} (c:P.underlying e=some (.int k)) (h:Value.okWide P W .any base e v) (d:v.cells.toList=[.int k n]):v=.int k n:=by
 obtain ⟨a,rfl⟩:=okWide_int c h
 simpa[Value.cells] using d
end
end Go.Sh
