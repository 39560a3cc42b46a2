/- 'BuildBatches': the law answers true and leaves its arguments as they were. Conditions: the row's own (the tables of kinds and of UTF-8 as the program's text lays them, which the card ties). -/
import Derived.Test.YtmjochipbmgljaaGreatDoorBatchesJ5
import Derived.Deep.DeepHandedRow
set_option linter.unusedVariables false
set_option linter.unusedSimpArgs false
namespace Go.Proofs.YtmjochipbmgljaaGreatDoor.buildBatches
open Go Go.Sh Go.ChangeShapes Go.WideShapes Go.RowKit
theorem Tk:Tryz.prog.funcs[3]?=some Tryz.f3:=by kernel_rfl
theorem P7:Tryz.f3.params=#[25,26]:=by kernel_rfl
set_option maxRecDepth 100000 in
theorem contract (H:Type) (enc:TypeId × Value->H) (W:World) (base:Nat) (args:Array Value) (ds gs:List (DataW H)) (before:List MemPlace)
    (Gl:∀ (j:Nat) t v,Tryz.f3.params[j]?=some t->args[j]?=some v->Value.okWide Tryz.prog W .any base t v)
    (hW:DataW.Whole enc Tryz.prog Tryz.f3.params.toList Rows.buildBatchesSpec.vars false W args.toList ds gs before) (hL:laidMetH Tryz.prog Rows.buildBatchesRow.laid W) :
    Calls Tryz.prog 3 args W λe W'=>∃ v,e=.returned v/\Rows.buildBatchesSpec.post enc Tryz.prog Tryz.f3 false true false false W args v W':=by
  have hW':=hW
  obtain ⟨p,q,hA,hV,rfl,SR,Dx⟩:=hW
  obtain ⟨rfl,rfl⟩:=trodVars_none hV
  obtain ⟨ht,hu⟩:=amb hL
  rw[P7] at hA Gl
  obtain ⟨v0,vs0,d0,ds0,p0,q0,Ks,rfl,rfl,⟨aIr,h0⟩,r0⟩:=trodAll_cons hA
  obtain ⟨v1,vs1,d1,ds1,p1,q1,rfl,rfl,rfl,⟨aIq,h1⟩,r1⟩:=trodAll_cons r0
  obtain ⟨rfl,rfl,rfl⟩:=trodAll_nil r1
  obtain rfl:args=#[v0,v1]:=by cases args; simp_all
  obtain ⟨s0,t0,F0,M0,eB,hs0,asI,hm0⟩:=aoV h0
  have Gm:v0=.agg #[Sl.v s0,Sl.v t0]:=by
    rw[ayb Y7 (Gl 0 25 v0 rfl rfl)]; congr 1; apply Array.ext'; exact eB
  subst Gm
  obtain ⟨s1,l1,Kq,GJ,SB,SH⟩:=aoW h1
  have xP:v1=s1.v:=awW Y5 (Gl 1 26 v1 rfl rfl) Kq
  subst xP
  refine axe (R:=λv W'=>Rows.buildBatchesSpec.post enc Tryz.prog Tryz.f3 false true false false W _ v W') ?_ λW' hs g=>?_
  · refine dP.mono (arK asI ht hu hs0 hm0 GJ SB SH (K:=λr h'=>r=true/\az (aT W) h') λh' g=>⟨rfl,g⟩) ?_ λ_ _ hh=>hh
    rintro v h' ⟨r,rfl,rfl,g⟩; exact ⟨rfl,g⟩
  · refine apg laidOut aq4 anu ?_ hW' rfl (t:=4) (by kernel_rfl) u4 rfl rfl rfl hs g
    rw[P7]; intro t ht; simp only[List.mem_cons,List.not_mem_nil,or_false] at ht; rcases ht with rfl | rfl<;>exact of_decide_eq_true (by kernel_rfl)
noncomputable def R7 (os:Go.Os):World :=
  { World.holding Tryz.prog os ⟨#[],#[],[]⟩ with heap:=(((World.holding Tryz.prog os ⟨#[],#[],[]⟩).heap.modify 0 (fun | .cells _ t frozen=>.cells #[.string ⟨#[]⟩,.int .i64 0,.int .i64 0,.bool false,.string ⟨#[110,117,108,108]⟩,.int .i64 0,.int .i64 0,.bool false,.string ⟨#[98,111,111,108]⟩,.int .i64 0,.int .i64 2,.bool false,.string ⟨#[105,110,116,56]⟩,.int .i64 1,.int .i64 2,.bool true,.string ⟨#[105,110,116,49,54]⟩,.int .i64 2,.int .i64 2,.bool true,.string ⟨#[105,110,116,51,50]⟩,.int .i64 4,.int .i64 2,.bool true,.string ⟨#[105,110,116,54,52]⟩,.int .i64 8,.int .i64 2,.bool true,.string ⟨#[117,105,110,116,56]⟩,.int .i64 1,.int .i64 2,.bool true,.string ⟨#[117,105,110,116,49,54]⟩,.int .i64 2,.int .i64 2,.bool true,.string ⟨#[117,105,110,116,51,50]⟩,.int .i64 4,.int .i64 2,.bool true,.string ⟨#[117,105,110,116,54,52]⟩,.int .i64 8,.int .i64 2,.bool true,.string ⟨#[102,108,111,97,116,54,52]⟩,.int .i64 8,.int .i64 2,.bool false,.string ⟨#[116,101,120,116]⟩,.int .i64 0,.int .i64 3,.bool false,.string ⟨#[98,121,116,101,115]⟩,.int .i64 0,.int .i64 3,.bool false,.string ⟨#[102,105,120,101,100]⟩,.int .i64 0,.int .i64 2,.bool false,.string ⟨#[108,105,115,116]⟩,.int .i64 0,.int .i64 2,.bool false,.string ⟨#[115,112,97,110]⟩,.int .i64 0,.int .i64 1,.bool false,.string ⟨#[115,116,114,117,99,116]⟩,.int .i64 0,.int .i64 1,.bool false,.string ⟨#[99,104,111,105,99,101]⟩,.int .i64 0,.int .i64 2,.bool false,.string ⟨#[100,105,99,116]⟩,.int .i64 0,.int .i64 2,.bool false,.string ⟨#[114,117,110,115]⟩,.int .i64 0,.int .i64 0,.bool false] t frozen | o=>o)).modify 1
    (fun | .cells _ t frozen=>.cells (Pinned.utf8FirstZ.map λn:Nat=>Value.int .u8 n).toArray t frozen | o=>o)).modify 2 (fun | .cells _ t frozen=>.cells #[.int .u8 128,.int .u8 191,.int .u8 160,.int .u8 191,.int .u8 128,.int .u8 159,.int .u8 144,.int .u8 191,.int .u8 128,.int .u8 143,.int .u8 0,.int .u8 0,.int .u8 0,.int .u8 0,.int .u8 0,.int .u8 0,.int .u8 0,.int .u8 0,.int .u8 0,.int .u8 0,.int .u8 0,.int .u8 0,.int .u8 0,.int .u8 0,.int .u8 0,.int .u8 0,.int .u8 0,.int .u8 0,.int .u8 0,.int .u8 0,.int .u8 0,.int .u8 0] t frozen | o=>o) }
theorem arL (os:Go.Os):laidMet Tryz.prog Rows.buildBatchesRow.laid ((R7 os).forCall (λ_ _=>0) ⟨#[],#[.agg #[.slice none 0 0,.slice none 0 0],.slice none 0 0],[]⟩).memory :=
  laidMet_of_run' 8 (by kernel_rfl) (by kernel_rfl)
theorem reads (os:Go.Os) {H:Type} (enc:TypeId × Value->H):∃ places,DataW.whole enc Tryz.prog ((R7 os).forCall (λ_ _=>0) ⟨#[],#[.agg #[.slice none 0 0,.slice none 0 0],.slice none 0 0],[]⟩).memory Tryz.f3.params.toList Rows.buildBatchesSpec.vars false #[.agg #[.slice none 0 0,.slice none 0 0],.slice none 0 0].toList 8=some ([.agg [.nil,.nil],.nil],[],places) :=
  ⟨[],by kernel_rfl⟩
set_option maxRecDepth 100000 in
theorem lifted (os:Go.Os) (started:os.Started) (H:Type) (enc:TypeId × Value->H) (F:Stop.Interp) :
    ReturnsInHanded {} Tryz.checked os 3 .any ((OpenSpec.ofChange Rows.buildBatchesSpec).preRow enc Tryz.prog Tryz.f3 Rows.buildBatchesRow.domain false Rows.buildBatchesRow.laid) (((OpenSpec.ofChange Rows.buildBatchesSpec).at F).post enc Tryz.prog Tryz.f3 false true false false):=by
  obtain ⟨places,hx⟩:=reads os enc
  refine returnsInHanded_of_row (C:=Tryz.checked) (s:=OpenSpec.ofChange Rows.buildBatchesSpec) own started (by kernel_rfl) Tk
    (witness_row_at (enc:=enc) (C:=Tryz.checked) false (R7 os) #[.agg #[.slice none 0 0,.slice none 0 0],.slice none 0 0] rfl (by kernel_rfl) (by kernel_rfl) (by kernel_rfl)
      (OpenSpec.preRow_of_cond 8 hx (by kernel_rfl) (λk hk=>by cases hk) (by kernel_rfl) (arL os))) ?_
  intro W base args ds gs before Gl hW _ aHZ hwt hL _ _
  exact contract H enc W base args ds gs before Gl hW hL
theorem iW {a b:Bool} (h1:a=true) (h2:b=true):(a&&b)=true:=by rw[h1,h2]; rfl
theorem j1:Rows.buildBatchesRow.wf (OpenSpec.ofChange (OpenSpec.ofChange Rows.buildBatchesSpec).bare)=true:=by kernel_rfl
theorem j2:laidOutB Tryz.pinned.checked.prog=true:=by kernel_rfl
theorem j3:mapsRowed Tryz.pinned.checked.prog=true:=by kernel_rfl
theorem j4:Tryz.f3.params.all (Tryz.pinned.checked.prog.readableRec ·)=true:=by kernel_rfl
theorem j5:namedTie Tryz.pinned.checked.prog Rows.buildBatchesRow.named (OpenSpec.ofChange Rows.buildBatchesSpec).bare.vars=true:=by kernel_rfl
theorem j6:(Rows.buildBatchesRow.stops==[])=true:=by kernel_rfl
theorem j7:(Tryz.pinned.checked.prog.stops==[])=true:=by kernel_rfl
theorem j8:(Rows.buildBatchesRow.knobs==[])=true:=by kernel_rfl
theorem j9:(Tryz.pinned.checked.prog.stopKnobs==[])=true:=by kernel_rfl
theorem Sp:(Rows.buildBatchesRow.inPlace==Tryz.pinned.checked.prog.inPlace 3)=true:=by kernel_rfl
theorem So:(Rows.buildBatchesRow.unfollowed==Tryz.pinned.checked.prog.unfollowed 3)=true:=by kernel_rfl
theorem Sn:(Rows.buildBatchesRow.recurses==Tryz.pinned.checked.prog.recurses 3)=true:=by kernel_rfl
theorem Sm:(Rows.buildBatchesRow.named==Tryz.pinned.checked.prog.varsNamed 3)=true:=by kernel_rfl
theorem j14:(Rows.buildBatchesRow.maps==(Tryz.f3.params.toList++(OpenSpec.ofChange Rows.buildBatchesSpec).bare.plain.varTypes Tryz.pinned.checked.prog).any (Tryz.pinned.checked.prog.mapsRec ·))=true:=by kernel_rfl
theorem j15:(Rows.buildBatchesRow.ifaces==(Tryz.f3.params.toList++(OpenSpec.ofChange Rows.buildBatchesSpec).bare.plain.varTypes Tryz.pinned.checked.prog).any (Tryz.pinned.checked.prog.ifacesRec ·))=true:=by kernel_rfl
theorem j16:(Rows.buildBatchesRow.mapsOut==Tryz.pinned.checked.prog.mapsAmong Tryz.f3.resultTypes.toList)=true:=by kernel_rfl
theorem j17:(Rows.buildBatchesRow.loops==(Tryz.f3.params.toList++(OpenSpec.ofChange Rows.buildBatchesSpec).bare.plain.varTypes Tryz.pinned.checked.prog).any (Tryz.pinned.checked.prog.loopsFrom ·))=true:=by kernel_rfl
theorem j18:(Rows.buildBatchesRow.wideKeys==(Tryz.f3.params.toList++(OpenSpec.ofChange Rows.buildBatchesSpec).bare.plain.varTypes Tryz.pinned.checked.prog++Tryz.f3.resultTypes.toList).any (Tryz.pinned.checked.prog.wideKeysFrom ·))=true:=by kernel_rfl
theorem j19:(OpenSpec.ofChange Rows.buildBatchesSpec).bare.vars.all (Tryz.pinned.checked.prog.varReadable ·)=true:=by kernel_rfl
theorem j20:Tryz.f3.resultTypes.all (λt=>Tryz.pinned.checked.prog.readableRec t&&decide (t < Tryz.pinned.checked.prog.types.size))=true:=by kernel_rfl
theorem j21:(Rows.buildBatchesRow.ifacesOut==Tryz.f3.resultTypes.toList.any (Tryz.pinned.checked.prog.ifacesRec ·))=true:=by kernel_rfl
theorem j22:(Rows.buildBatchesRow.loopsOut==Tryz.f3.resultTypes.toList.any (Tryz.pinned.checked.prog.loopsFrom ·))=true:=by kernel_rfl
theorem j23:(Rows.buildBatchesRow.plainKeys==Tryz.pinned.checked.prog.plainKeys)=true:=by kernel_rfl
theorem j24:Rows.buildBatchesRow.shortTexts.isNone=true:=by kernel_rfl
theorem j25:Tryz.pinned.checked.prog.stopsHeard=true:=by kernel_rfl
theorem j26:Tryz.pinned.checked.prog.mayEnter=true:=by kernel_rfl
theorem j27:(Rows.buildBatchesRow.lifted==Tryz.pinned.checked.prog.liftsFinal)=true:=by kernel_rfl
theorem j28:(Tryz.pinned.checked.prog.make==some Rows.buildBatchesRow.make)=true:=by kernel_rfl
theorem j30:(Rows.buildBatchesRow.pinned==Rows.buildBatchesRow.pinnedBy)=true:=by kernel_rfl
theorem j31:(Rows.buildBatchesRow.veiled==(Tryz.f3.params.toList++(OpenSpec.ofChange Rows.buildBatchesSpec).bare.plain.varTypes Tryz.pinned.checked.prog++Tryz.f3.resultTypes.toList).any (Tryz.pinned.checked.prog.veiledRec ·))=true:=by kernel_rfl
theorem j32:Rows.buildBatchesRow.veiledFits Tryz.pinned.checked.prog Tryz.f3.params.toList (Tryz.f3.params.toList++(OpenSpec.ofChange Rows.buildBatchesSpec).bare.plain.varTypes Tryz.pinned.checked.prog++Tryz.f3.resultTypes.toList)=true:=by kernel_rfl
theorem ar6:joinedFacts Tryz.pinned.checked.prog 3 Tryz.f3 (OpenSpec.ofChange Rows.buildBatchesSpec).bare Rows.buildBatchesRow=true:=by
  unfold joinedFacts
  exact (iW (iW (iW (iW (iW (iW (iW (iW (iW (iW (iW (iW (iW (iW (iW (iW (iW (iW (iW (iW (iW (iW (iW (iW (iW (iW (iW (iW (iW (iW (iW j1 j2) j3) j4) j5) j6) j7) j8) j9) Sp) So) Sn) Sm) j14) j15) j16) j17) j18) j19) j20) j21) j22) j23) j24) j25) j26) j27) j28) (by kernel_rfl)) j30) j31) j32)
theorem named:Tryz.pinned.checked.prog.funcNamed Rows.buildBatchesRow.func=some 3:=by kernel_rfl
theorem asx:Func.isInstance Tryz.pinned.checked.prog Tryz.f3 Rows.buildBatchesRow.origin Rows.buildBatchesRow.targs:=of_decide_eq_true (by kernel_rfl)
theorem akN:Func.isWrapper Tryz.pinned.checked.prog Tryz.f3 Rows.buildBatchesRow.wrapper Rows.buildBatchesRow.mainSum:=by
  unfold Func.isWrapper; first | (rw[if_pos (by decide +kernel)]; kernel_rfl) | (rw[if_neg (by decide +kernel)]; exact ⟨rfl,rfl⟩)
theorem goes:false=Rows.buildBatchesRow.goesBy Tryz.pinned.checked.prog:=by kernel_rfl
theorem looked:true=Tryz.pinned.checked.prog.looks []:=by kernel_rfl
theorem formed:OpenClaim.wfByText (OpenSpec.ofChange Rows.buildBatchesSpec) Rows.buildBatchesRow=true:=by kernel_rfl
theorem said:Rows.BuildBatchesSaid :=
  OpenClaim.holds_of_cond 3 Tryz.f3 rfl rfl rfl rfl rfl rfl rfl ⟨rfl,rfl,rfl,rfl,rfl⟩ rfl rfl rfl rfl rfl named Tk ar6 asx akN
    (λos started H enc _ F=>by rw[OpenClaim.pre_eq_preRow]; exact lifted os started H enc F)
theorem plain (f:FuncId) (fn:Func) (hf:Tryz.pinned.checked.prog.funcNamed Rows.buildBatchesRow.func=some f) (SU:Tryz.pinned.checked.prog.funcs[f]?=some fn) :
    true=Tryz.pinned.checked.prog.looks []/\∀ (j:Nat) t,fn.params[j]?=some t->Tryz.pinned.checked.prog.wantsStandIn t=false:=by
  obtain rfl:f=3:=Option.some.inj (named.symm.trans hf) |>.symm
  obtain rfl:fn=Tryz.f3:=(Option.some.inj (Tk.symm.trans SU)).symm
  refine ⟨looked,λj t ht=>?_⟩
  rw[P7] at ht
  have hm:=Array.mem_of_getElem? ht
  simp only[List.mem_toArray,List.mem_cons,List.not_mem_nil,or_false,or_self] at hm
  rcases hm with rfl | rfl
  · exact (show Tryz.prog.wantsStandIn 25=false by kernel_rfl)
  · exact (show Tryz.prog.wantsStandIn 26=false by kernel_rfl)
theorem card:Rows.BuildBatchesCardSaid :=
  Claim7.holds_tied_plain_at .later [] _ _ _ _ said (λ_ h=>by cases h) formed (λ_ h=>by cases h) buildBatches_row_tie rfl ⟨rfl,rfl⟩ (by kernel_rfl) rfl plain goes
end Go.Proofs.YtmjochipbmgljaaGreatDoor.buildBatches
