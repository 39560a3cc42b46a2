import Derived.Test.YtbahbhkogflhbaaGreatDoorMakesShLoc
import Derived.WalkKit
import Derived.ProofKit
import Derived.OpenShut
import Derived.ReadAgain
import Derived.Deep.DeepHandedRow
import Derived.Lib.LaidTab
set_option linter.all false
namespace Go.Sh
variable {W:World} {base:Nat} {t e:TypeId} {cs:bq}
open Go.ChangeShapes Go.WideShapes Go.RowKit
theorem aep(W:World)(a:Addr):cell (aU W) a=W.cell? a:=by
 unfold cell World.cell? aU;rw[Cq];cases h:W.heap[a.block]? with
 |none=>rfl
 |some o=>cases o <;> rfl
theorem K8{d:World}(f:cG W d)(g:az (aU W) (aU d)){b:Nat}(i:b<W.heap.size):d.heap[b]? =W.heap[b]? :=by
  have a:=g.2 b (by simpa[aU]using i)
  simp only[aU,Cq]at a;cases h:W.heap[b]? with
  |none=>grind
  | some o=>
    rw[h]at a;cases c:d.heap[b]? with
    |none=>grind
    | some e=>
      rw[c]at a;simp only[pP,mF]at a;cases o with
      |deferred ds=>rw[f.2.2.2.2 b ds h]at c;simp[*]
      |_=>cases e <;> simp_all [uD]
section
variable {H:Type} {enc:TypeId×Value->H} {P:Program}
theorem aoP{a:World}(c:cG W a)(g:az (aU W) (aU a)){p:MemPlace}(d:p.block<W.heap.size):W.sameAt a p:=by
  cases p with
  | cell b off=>
    have:=K8 c g (b:=b) d
    show a.cell? _=W.cell? _
    simp only[World.cell?,this]
  |map b=>exact K8 c g d
theorem ZH{i:World}{sp:Nat->Bool}{a:Bool}:∀{f:List TypeId}{vs:bq}{ds:List (DataW H)}{c:List MemPlace},DataW.TrodAll enc P W base sp a f vs ds c->(∀p∈c,W.sameAt i p)->DataW.TrodAll enc P i base sp a f vs ds c
  |[],[],[],_,h,_=>h
  | _::_,_::_,_::_,_,⟨p,q,⟨n,k⟩,j,e⟩,g=>
    ⟨p,q,⟨n,DataW.trod_carry n _ _ _ k λx d=>g x dG⟩,ZH j (λx d=>g x dG),e⟩
theorem aqa{f:Func}{s:ChangeSpec}{apart fresh handsOn again:Bool}{W':World}{args:Array Value}{ds:List (DataW H)}{before:List MemPlace}
  (hl:laidOutB P=true) (hm:mapsRowed P=true) (hz:((List.range P.types.size).all λt=>match P.underlying t with|some (.slice e)=>decide (0<P.cellsOf e)|_=>true)=true)
  (hT:∀t∈f.params.toList,t<P.types.size) (hW:DataW.Whole enc P f.params.toList s.vars apart W args.toList ds [] before) (hv:s.vars=[]) (hr:f.resultTypes=#[t]) (ht:P.underlying t=some .bool)
  (hf1:(s.fn H ds).results=[.lit (.bool true)]) (hf2:(s.fn H ds).args=ds) (hf3:(s.fn H ds).vars=[]) (hs:cG W W') (g:az (aU W) (aU W')):s.post enc P f apart fresh handsOn again W args (.bool true) W':=by
 have eC:=hW.lt;have hW0:=hW;obtain⟨p,q,hA,hV,rfl,Tz,D6⟩:=hW;rw[hv]at hV;obtain rfl:q=[]:=by simpa[DataW.TrodVars]using hV
 rw[qA]at eC Tz D6 hW0;have hA':=ZH hA λx hx=>aoP hs g (eC x hx);have hre:∀sp:Nat->Bool,(∀x∈p,sp x.block=true)->DataW.TrodAll enc P W' 0 sp true f.params.toList args.toList ds p:=λsp hsp=>
  DataW.TrodAll.respare (kids_rows hl hm) (λt e h1 h2=>slices_full_of P hz t e h1 h2) hT hA' hsp
 have atD:∀(b:Nat)(sp:Nat->Bool)(hd:Bool),DataW.TrodAll enc P W' b sp hd f.resultTypes.toList ((Value.bool true).resultList f.resultTypes.size) [.lit _] []:=λb sp hd=>by
  rw[hr];exact trodAll_cons_mk (shut_bool ht true) trodAll_mk0
 refine⟨ds,[],p,[],p,[],hW0,?_,?_,?_,?_,λ_=>⟨?_,?_⟩⟩
 ·grind
 ·grind
 ·simp only[qA];rw[hf3,hv];rfl
 ·refine⟨hs.2.1,hs.2.2.1,λi hi=>?_⟩;rw[K8 hs g hi];grind
 ·intro j t' r h1 h2;rw[hr]at h1 h2;rcases j with _|j
  ·simp at h1;subst h1;simp[Value.resultList]at h2;grind[okWide_bool_mk]
  ·simp at h1
 ·refine⟨[.lit _]++ds,[],[]++p,⟨[]++p,[],trodAll_append (hre _ λ_ _=>rfl) (atD _ _ _),by rw[hv];rfl,aA,?_,λha=>dG⟩,λx hx _=>by simpa using hx⟩
  intro b off hx;simp only[Az]at hx;have:=Tz b off ag
  have hb:=eC _ hx;simp only[MemPlace.block]at hb
  simpa[World.frozen?,K8 hs g hb]using this
theorem ayc{f:FuncId}{Z:Array Value}{R:Value->World->Prop}(h:dX P f Z.toList (aU W) (λv j=>v=.bool true/\az (aU W) j) qI)
  (i:∀a,cG W a->az (aU W) (aU a)->R (.bool true) a):Calls P f Z W λe a=>∃v,e=.returned v/\R v a:=by
 refine(h W rfl).mono ?_;rintro e a ⟨d,c⟩;cases e with
 |returned v=>simp[*]
 |panicked k=>exact c.elim
 |outgrown=>simp[*]
theorem axV{a:Addr}{n:Nat}(h:W.cells? base a n=some cs):cs.length=n/\Cs (aU W) a cs:=by
 unfold World.cells? at h;split at h
 ·have hl:cs.length=n:=by simpa using mapM_some_length h
  refine⟨hl,λi v c=>?_⟩;have d:=(de.1 c).1;have:=mapM_some_get h i i (EM ag);rw[aep,this];exact c
 ·cases h
theorem aqJ{m:Nat}{x:DataW H×List MemPlace}(q:P.underlying t=some (.slice e))(h:DataW.trod enc P W 0 (λ_=>true) true m t cs=some x):∃(s:Sl)(BW f:List (DataW H×List MemPlace))(n:Nat),cs=[s.v]/\m=n+1/\s.n=BW.length/\s.n<=s.c/\(x.1=.nil/\BW=[]/\s=Sl.nil\/x.1=.slice (BW.map (·.1)) (f.map (·.1))/\(s.a.isSome=true))/\
   ∀i y,BW[i]? =some y->∃a d,s.a=some a/\d.length=P.cellsOf e/\Cs (aU W) (a.add (i*P.cellsOf e)) d/\DataW.trod enc P W 0 (λ_=>true) true n e d=some y:=by
 have C:0<m:=by cases m with|zero=>simp[DataW.trod]at h|succ n=>omega
 rcases DataW.trod_slice q h with⟨rfl,rfl⟩|⟨a,len,cap,g,f,n,rfl,rfl,rfl,A,hl,z,j,l,_,_⟩
 ·obtain⟨n,rfl⟩:∃n,m=n+1:=⟨m-1,ag⟩
  exact⟨Sl.nil,[],[],n,rfl,rfl,rfl,bX _,.inl ⟨rfl,rfl,rfl⟩,λi y k=>by simp at k⟩
 ·refine⟨⟨some a,len,cap⟩,g,f,n,rfl,rfl,j.symm,hl,.inr ⟨rfl,rfl⟩,λi y k=>?_⟩;grind[List.getElem?_eq_some_iff,Option.bind_eq_some_iff,axV]
structure aHo(b:DataW H->Nat)(bs:List (DataW H)->Nat):Prop where
 nil:bs []=0
 cons:∀d r,bs (d::r)=b d+bs r
 slice:∀e s,b (.slice e s)=bs e+bs s+1
 agg:∀l,b (.agg l)=bs l+1
 str:∀l,b (.lit (.string l))=l.length+1
 ptr:∀d,b (.ptr d)=b d+1
 one:∀d,1<=b d
section
variable {b:DataW H->Nat} {bs:List (DataW H)->Nat} (B:aHo b bs)
include B
end
theorem abx{n:Nat}{x:DataW H×List MemPlace}{sp:Nat->Bool}(c:P.underlying e=some (.int .i64))(h:DataW.trod enc P W 0 sp true n e cs=some x):∃v,cs=[ah v]/\ -9223372036854775808<=v/\v<=9223372036854775807:=by
 obtain⟨v,rfl,_,a⟩:=DataW.trod_int c h;exact⟨v,rfl,bounds_i64 a⟩
theorem aen{v:Value}{s:Sl}(c:P.underlying t=some (.slice e))(h:Value.okWide P W .any base t v)(d:v.cells.toList=[s.v]):v=s.v:=by
 obtain⟨a,len,cap,rfl⟩:=okWide_slice c h
 simpa[Value.cells]using d
end
end Go.Sh
