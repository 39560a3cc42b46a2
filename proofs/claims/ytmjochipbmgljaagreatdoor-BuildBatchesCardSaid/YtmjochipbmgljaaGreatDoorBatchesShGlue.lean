import Derived.Test.YtmjochipbmgljaaGreatDoorBatchesShLoc
import Derived.WalkKit
import Derived.ProofKit
import Derived.OpenShut
import Derived.ReadAgain
import Derived.Deep.DeepHandedRow
import Derived.Lib.LaidTab
set_option linter.all false
namespace Go.Sh
variable {W:World} {base:Nat} {t e:TypeId} {cs:bg}
open Go.ChangeShapes Go.WideShapes Go.RowKit
theorem adR(W:World)(a:Addr):cell (aT W) a=W.cell? a:=by
 unfold cell World.cell? aT;rw[B0];cases h:W.heap[a.block]? with
 |none=>rfl
 |some o=>cases o <;> rfl
theorem Ko{d:World}(f:cE W d)(g:az (aT W) (aT d)){b:Nat}(i:b<W.heap.size):d.heap[b]? =W.heap[b]? :=by
  have a:=g.2 b (by simpa[aT]using i)
  simp only[aT,B0]at a;cases h:W.heap[b]? with
  |none=>grind
  | some o=>
    rw[h]at a;cases c:d.heap[b]? with
    |none=>grind
    | some e=>
      rw[c]at a;simp only[pH,mC]at a;cases o with
      |deferred ds=>rw[f.2.2.2.2 b ds h]at c;simp[*]
      |_=>cases e <;> simp_all [uC]
section
variable {H:Type} {enc:TypeId×Value->H} {P:Program}
theorem an8{a:World}(c:cE W a)(g:az (aT W) (aT a)){p:MemPlace}(d:p.block<W.heap.size):W.sameAt a p:=by
  cases p with
  | cell b off=>
    have:=Ko c g (b:=b) d
    show a.cell? _=W.cell? _
    simp only[World.cell?,this]
  |map b=>exact Ko c g d
theorem Ze{i:World}{sp:Nat->Bool}{a:Bool}:∀{f:List TypeId}{vs:bg}{ds:List (DataW H)}{c:List MemPlace},DataW.TrodAll enc P W base sp a f vs ds c->(∀p∈c,W.sameAt i p)->DataW.TrodAll enc P i base sp a f vs ds c
  |[],[],[],_,h,_=>h
  | _::_,_::_,_::_,_,⟨p,q,⟨n,k⟩,j,e⟩,g=>
    ⟨p,q,⟨n,DataW.trod_carry n _ _ _ k λx d=>g x dM⟩,Ze j (λx d=>g x dM),e⟩
theorem apg{f:Func}{s:ChangeSpec}{apart fresh handsOn again:Bool}{W':World}{args:Array Value}{ds:List (DataW H)}{before:List MemPlace}
  (hl:laidOutB P=true) (hm:mapsRowed P=true) (hz:((List.range P.types.size).all λt=>match P.underlying t with|some (.slice e)=>decide (0<P.cellsOf e)|_=>true)=true)
  (hT:∀t∈f.params.toList,t<P.types.size) (hW:DataW.Whole enc P f.params.toList s.vars apart W args.toList ds [] before) (hv:s.vars=[]) (hr:f.resultTypes=#[t]) (ht:P.underlying t=some .bool)
  (hf1:(s.fn H ds).results=[.lit (.bool true)]) (hf2:(s.fn H ds).args=ds) (hf3:(s.fn H ds).vars=[]) (hs:cE W W') (g:az (aT W) (aT W')):s.post enc P f apart fresh handsOn again W args (.bool true) W':=by
 have eW:=hW.lt;have hW0:=hW;obtain⟨p,q,hA,hV,rfl,SR,Dx⟩:=hW;rw[hv]at hV;obtain rfl:q=[]:=by simpa[DataW.TrodVars]using hV
 rw[oH]at eW SR Dx hW0;have hA':=Ze hA λx hx=>an8 hs g (eW x hx);have hre:∀sp:Nat->Bool,(∀x∈p,sp x.block=true)->DataW.TrodAll enc P W' 0 sp true f.params.toList args.toList ds p:=λsp hsp=>
  DataW.TrodAll.respare (kids_rows hl hm) (λt e h1 h2=>slices_full_of P hz t e h1 h2) hT hA' hsp
 have asM:∀(b:Nat)(sp:Nat->Bool)(hd:Bool),DataW.TrodAll enc P W' b sp hd f.resultTypes.toList ((Value.bool true).resultList f.resultTypes.size) [.lit _] []:=λb sp hd=>by
  rw[hr];exact trodAll_cons_mk (shut_bool ht true) trodAll_mk0
 refine⟨ds,[],p,[],p,[],hW0,?_,?_,?_,?_,λ_=>⟨?_,?_⟩⟩
 ·grind
 ·grind
 ·simp only[oH];rw[hf3,hv];rfl
 ·refine⟨hs.2.1,hs.2.2.1,λi hi=>?_⟩;rw[Ko hs g hi];grind
 ·intro j t' r h1 h2;rw[hr]at h1 h2;rcases j with _|j
  ·simp at h1;subst h1;simp[Value.resultList]at h2;grind[okWide_bool_mk]
  ·simp at h1
 ·refine⟨[.lit _]++ds,[],[]++p,⟨[]++p,[],trodAll_append (hre _ λ_ _=>rfl) (asM _ _ _),by rw[hv];rfl,aA,?_,λha=>dM⟩,λx hx _=>by simpa using hx⟩
  intro b off hx;simp only[Ai]at hx;have:=SR b off ag
  have hb:=eW _ hx;simp only[MemPlace.block]at hb
  simpa[World.frozen?,Ko hs g hb]using this
theorem axe{f:FuncId}{Z:Array Value}{R:Value->World->Prop}(h:dP P f Z.toList (aT W) (λv j=>v=.bool true/\az (aT W) j) qA)
  (i:∀a,cE W a->az (aT W) (aT a)->R (.bool true) a):Calls P f Z W λe a=>∃v,e=.returned v/\R v a:=by
 refine(h W rfl).mono ?_;rintro e a ⟨d,c⟩;cases e with
 |returned v=>simp[*]
 |panicked k=>exact c.elim
 |outgrown=>simp[*]
theorem awX{a:Addr}{n:Nat}(h:W.cells? base a n=some cs):cs.length=n/\Cs (aT W) a cs:=by
 unfold World.cells? at h;split at h
 ·have hl:cs.length=n:=by simpa using mapM_some_length h
  refine⟨hl,λi v c=>?_⟩;have d:=(cU.1 c).1;have:=mapM_some_get h i i (Eh ag);rw[adR,this];exact c
 ·cases h
theorem apU{m:Nat}{x:DataW H×List MemPlace}(q:P.underlying t=some (.slice e))(h:DataW.trod enc P W 0 (λ_=>true) true m t cs=some x):∃(s:Sl)(BD f:List (DataW H×List MemPlace))(n:Nat),cs=[s.v]/\m=n+1/\s.n=BD.length/\s.n<=s.c/\(x.1=.nil/\BD=[]/\s=Sl.nil\/x.1=.slice (BD.map (·.1)) (f.map (·.1))/\(s.a.isSome=true))/\
   ∀i y,BD[i]? =some y->∃a d,s.a=some a/\d.length=P.cellsOf e/\Cs (aT W) (a.add (i*P.cellsOf e)) d/\DataW.trod enc P W 0 (λ_=>true) true n e d=some y:=by
 have C:0<m:=by cases m with|zero=>simp[DataW.trod]at h|succ n=>omega
 rcases DataW.trod_slice q h with⟨rfl,rfl⟩|⟨a,len,cap,g,f,n,rfl,rfl,rfl,A,hl,z,j,l,_,_⟩
 ·obtain⟨n,rfl⟩:∃n,m=n+1:=⟨m-1,ag⟩
  exact⟨Sl.nil,[],[],n,rfl,rfl,rfl,bP _,.inl ⟨rfl,rfl,rfl⟩,λi y k=>by simp at k⟩
 ·refine⟨⟨some a,len,cap⟩,g,f,n,rfl,rfl,j.symm,hl,.inr ⟨rfl,rfl⟩,λi y k=>?_⟩;grind[List.getElem?_eq_some_iff,Option.bind_eq_some_iff,awX]
structure aGC(b:DataW H->Nat)(bs:List (DataW H)->Nat):Prop where
 nil:bs []=0
 cons:∀d r,bs (d::r)=b d+bs r
 slice:∀e s,b (.slice e s)=bs e+bs s+1
 agg:∀l,b (.agg l)=bs l+1
 str:∀l,b (.lit (.string l))=l.length+1
 ptr:∀d,b (.ptr d)=b d+1
 one:∀d,1<=b d
section
variable {b:DataW H->Nat} {bs:List (DataW H)->Nat} (B:aGC b bs)
include B
end
theorem aaT{n:Nat}{x:DataW H×List MemPlace}{sp:Nat->Bool}(c:P.underlying e=some (.int .i64))(h:DataW.trod enc P W 0 sp true n e cs=some x):∃v,cs=[ah v]/\ -9223372036854775808<=v/\v<=9223372036854775807:=by
 obtain⟨v,rfl,_,a⟩:=DataW.trod_int c h;exact⟨v,rfl,bounds_i64 a⟩
theorem ayb{c:Array Field}{v:Value}(a:P.underlying t=some (.struct c))(h:Value.okWide P W .any base t v):v=.agg v.cells:=by
 unfold Value.okWide at h;rw[a]at h;obtain⟨cs,rfl,_⟩:=h;rfl
theorem awW{v:Value}{s:Sl}(c:P.underlying t=some (.slice e))(h:Value.okWide P W .any base t v)(d:v.cells.toList=[s.v]):v=s.v:=by
 obtain⟨a,len,cap,rfl⟩:=okWide_slice c h
 simpa[Value.cells]using d
end
end Go.Sh
