/- 'BuildMakes': the law answers true and leaves its arguments as they were. Conditions: the row's own (the tables of kinds and of UTF-8 as the program's text lays them, which the card ties). -/
import Derived.Test.YtbahbhkogflhbaaGreatDoorMakesJ5
import Derived.Deep.DeepHandedRow
set_option linter.unusedVariables false
set_option linter.unusedSimpArgs false
namespace Go.Proofs.YtbahbhkogflhbaaGreatDoor.buildMakes
open Go Go.Sh Go.ChangeShapes Go.WideShapes Go.RowKit
theorem TU:Tryz.prog.funcs[3]?=some Tryz.f3:=by kernel_rfl
theorem QG:Tryz.f3.params=#[22,23]:=by kernel_rfl
set_option maxRecDepth 100000 in
theorem contract (H:Type) (enc:TypeId × Value->H) (W:World) (base:Nat) (args:Array Value) (ds gs:List (DataW H)) (before:List MemPlace)
    (GV:∀ (j:Nat) t v,Tryz.f3.params[j]?=some t->args[j]?=some v->Value.okWide Tryz.prog W .any base t v)
    (hW:DataW.Whole enc Tryz.prog Tryz.f3.params.toList Rows.buildMakesSpec.vars false W args.toList ds gs before) (hL:laidMetH Tryz.prog Rows.buildMakesRow.laid W) :
    Calls Tryz.prog 3 args W λe W'=>∃ v,e=.returned v/\Rows.buildMakesSpec.post enc Tryz.prog Tryz.f3 false true false false W args v W':=by
  have hW':=hW
  obtain ⟨p,q,hA,hV,rfl,Tz,D6⟩:=hW
  obtain ⟨rfl,rfl⟩:=trodVars_none hV
  obtain ⟨ht,hu⟩:=amQ hL
  rw[QG] at hA GV
  obtain ⟨v0,vs0,d0,ds0,p0,q0,Lb,rfl,rfl,⟨aI8,h0⟩,r0⟩:=trodAll_cons hA
  obtain ⟨v1,vs1,d1,ds1,p1,q1,rfl,rfl,rfl,⟨aI7,h1⟩,r1⟩:=trodAll_cons r0
  obtain ⟨rfl,rfl,rfl⟩:=trodAll_nil r1
  obtain rfl:args=#[v0,v1]:=by cases args; simp_all
  obtain ⟨s0,F0,eH,hs0,atz,Hh⟩:=apE _ h0
  have GY:v0=s0.v:=aen ZC (GV 0 22 v0 rfl rfl) eH
  subst GY
  obtain ⟨s1,l1,K9,Hx,Tk⟩:=apB h1
  have uM:v1=s1.v:=aen ZA (GV 1 23 v1 rfl rfl) K9
  subst uM
  refine ayc (R:=λv W'=>Rows.buildMakesSpec.post enc Tryz.prog Tryz.f3 false true false false W _ v W') ?_ λW' hs g=>?_
  · refine dX.mono (asC hs0 atz Hh Hx Tk ht hu (K:=λr h'=>r=true/\az (aU W) h') λh' g=>⟨rfl,g⟩) ?_ λ_ _ hh=>hh
    rintro v h' ⟨r,rfl,rfl,g⟩; exact ⟨rfl,g⟩
  · refine aqa laidOut arW aoa ?_ hW' rfl (t:=4) (by kernel_rfl) u4 rfl rfl rfl hs g
    rw[QG]; intro t ht; simp only[List.mem_cons,List.not_mem_nil,or_false] at ht; rcases ht with rfl | rfl<;>exact of_decide_eq_true (by kernel_rfl)
noncomputable def SI (os:Go.Os):World :=
  { World.holding Tryz.prog os ⟨#[],#[],[]⟩ with heap:=(((World.holding Tryz.prog os ⟨#[],#[],[]⟩).heap.modify 0 (fun | .cells _ t frozen=>.cells #[.string ⟨#[]⟩,.int .i64 0,.int .i64 0,.bool false,.string ⟨#[110,117,108,108]⟩,.int .i64 0,.int .i64 0,.bool false,.string ⟨#[98,111,111,108]⟩,.int .i64 0,.int .i64 2,.bool false,.string ⟨#[105,110,116,56]⟩,.int .i64 1,.int .i64 2,.bool true,.string ⟨#[105,110,116,49,54]⟩,.int .i64 2,.int .i64 2,.bool true,.string ⟨#[105,110,116,51,50]⟩,.int .i64 4,.int .i64 2,.bool true,.string ⟨#[105,110,116,54,52]⟩,.int .i64 8,.int .i64 2,.bool true,.string ⟨#[117,105,110,116,56]⟩,.int .i64 1,.int .i64 2,.bool true,.string ⟨#[117,105,110,116,49,54]⟩,.int .i64 2,.int .i64 2,.bool true,.string ⟨#[117,105,110,116,51,50]⟩,.int .i64 4,.int .i64 2,.bool true,.string ⟨#[117,105,110,116,54,52]⟩,.int .i64 8,.int .i64 2,.bool true,.string ⟨#[102,108,111,97,116,54,52]⟩,.int .i64 8,.int .i64 2,.bool false,.string ⟨#[116,101,120,116]⟩,.int .i64 0,.int .i64 3,.bool false,.string ⟨#[98,121,116,101,115]⟩,.int .i64 0,.int .i64 3,.bool false,.string ⟨#[102,105,120,101,100]⟩,.int .i64 0,.int .i64 2,.bool false,.string ⟨#[108,105,115,116]⟩,.int .i64 0,.int .i64 2,.bool false,.string ⟨#[115,112,97,110]⟩,.int .i64 0,.int .i64 1,.bool false,.string ⟨#[115,116,114,117,99,116]⟩,.int .i64 0,.int .i64 1,.bool false,.string ⟨#[99,104,111,105,99,101]⟩,.int .i64 0,.int .i64 2,.bool false,.string ⟨#[100,105,99,116]⟩,.int .i64 0,.int .i64 2,.bool false,.string ⟨#[114,117,110,115]⟩,.int .i64 0,.int .i64 0,.bool false] t frozen | o=>o)).modify 1
    (fun | .cells _ t frozen=>.cells (Pinned.utf8FirstZ.map λn:Nat=>Value.int .u8 n).toArray t frozen | o=>o)).modify 2 (fun | .cells _ t frozen=>.cells #[.int .u8 128,.int .u8 191,.int .u8 160,.int .u8 191,.int .u8 128,.int .u8 159,.int .u8 144,.int .u8 191,.int .u8 128,.int .u8 143,.int .u8 0,.int .u8 0,.int .u8 0,.int .u8 0,.int .u8 0,.int .u8 0,.int .u8 0,.int .u8 0,.int .u8 0,.int .u8 0,.int .u8 0,.int .u8 0,.int .u8 0,.int .u8 0,.int .u8 0,.int .u8 0,.int .u8 0,.int .u8 0,.int .u8 0,.int .u8 0,.int .u8 0,.int .u8 0] t frozen | o=>o) }
theorem asE (os:Go.Os):laidMet Tryz.prog Rows.buildMakesRow.laid ((SI os).forCall (λ_ _=>0) ⟨#[],#[.slice none 0 0,.slice none 0 0],[]⟩).memory :=
  laidMet_of_run' 8 (by kernel_rfl) (by kernel_rfl)
theorem reads (os:Go.Os) {H:Type} (enc:TypeId × Value->H):∃ places,DataW.whole enc Tryz.prog ((SI os).forCall (λ_ _=>0) ⟨#[],#[.slice none 0 0,.slice none 0 0],[]⟩).memory Tryz.f3.params.toList Rows.buildMakesSpec.vars false #[.slice none 0 0,.slice none 0 0].toList 8=some ([.nil,.nil],[],places) :=
  ⟨[],by kernel_rfl⟩
set_option maxRecDepth 100000 in
theorem lifted (os:Go.Os) (started:os.Started) (H:Type) (enc:TypeId × Value->H) (F:Stop.Interp) :
    ReturnsInHanded {} Tryz.checked os 3 .any ((OpenSpec.ofChange Rows.buildMakesSpec).preRow enc Tryz.prog Tryz.f3 Rows.buildMakesRow.domain false Rows.buildMakesRow.laid) (((OpenSpec.ofChange Rows.buildMakesSpec).at F).post enc Tryz.prog Tryz.f3 false true false false):=by
  obtain ⟨places,hx⟩:=reads os enc
  refine returnsInHanded_of_row (C:=Tryz.checked) (s:=OpenSpec.ofChange Rows.buildMakesSpec) own started (by kernel_rfl) TU
    (witness_row_at (enc:=enc) (C:=Tryz.checked) false (SI os) #[.slice none 0 0,.slice none 0 0] rfl (by kernel_rfl) (by kernel_rfl) (by kernel_rfl)
      (OpenSpec.preRow_of_cond 8 hx (by kernel_rfl) (λk hk=>by cases hk) (by kernel_rfl) (asE os))) ?_
  intro W base args ds gs before GV hW _ aIG hwt hL _ _
  exact contract H enc W base args ds gs before GV hW hL
theorem jm {a b:Bool} (h1:a=true) (h2:b=true):(a&&b)=true:=by rw[h1,h2]; rfl
theorem j1:Rows.buildMakesRow.wf (OpenSpec.ofChange (OpenSpec.ofChange Rows.buildMakesSpec).bare)=true:=by kernel_rfl
theorem j2:laidOutB Tryz.pinned.checked.prog=true:=by kernel_rfl
theorem j3:mapsRowed Tryz.pinned.checked.prog=true:=by kernel_rfl
theorem j4:Tryz.f3.params.all (Tryz.pinned.checked.prog.readableRec ·)=true:=by kernel_rfl
theorem j5:namedTie Tryz.pinned.checked.prog Rows.buildMakesRow.named (OpenSpec.ofChange Rows.buildMakesSpec).bare.vars=true:=by kernel_rfl
theorem j6:(Rows.buildMakesRow.stops==[])=true:=by kernel_rfl
theorem j7:(Tryz.pinned.checked.prog.stops==[])=true:=by kernel_rfl
theorem j8:(Rows.buildMakesRow.knobs==[])=true:=by kernel_rfl
theorem j9:(Tryz.pinned.checked.prog.stopKnobs==[])=true:=by kernel_rfl
theorem SY:(Rows.buildMakesRow.inPlace==Tryz.pinned.checked.prog.inPlace 3)=true:=by kernel_rfl
theorem SX:(Rows.buildMakesRow.unfollowed==Tryz.pinned.checked.prog.unfollowed 3)=true:=by kernel_rfl
theorem SW:(Rows.buildMakesRow.recurses==Tryz.pinned.checked.prog.recurses 3)=true:=by kernel_rfl
theorem SV:(Rows.buildMakesRow.named==Tryz.pinned.checked.prog.varsNamed 3)=true:=by kernel_rfl
theorem j14:(Rows.buildMakesRow.maps==(Tryz.f3.params.toList++(OpenSpec.ofChange Rows.buildMakesSpec).bare.plain.varTypes Tryz.pinned.checked.prog).any (Tryz.pinned.checked.prog.mapsRec ·))=true:=by kernel_rfl
theorem j15:(Rows.buildMakesRow.ifaces==(Tryz.f3.params.toList++(OpenSpec.ofChange Rows.buildMakesSpec).bare.plain.varTypes Tryz.pinned.checked.prog).any (Tryz.pinned.checked.prog.ifacesRec ·))=true:=by kernel_rfl
theorem j16:(Rows.buildMakesRow.mapsOut==Tryz.pinned.checked.prog.mapsAmong Tryz.f3.resultTypes.toList)=true:=by kernel_rfl
theorem j17:(Rows.buildMakesRow.loops==(Tryz.f3.params.toList++(OpenSpec.ofChange Rows.buildMakesSpec).bare.plain.varTypes Tryz.pinned.checked.prog).any (Tryz.pinned.checked.prog.loopsFrom ·))=true:=by kernel_rfl
theorem j18:(Rows.buildMakesRow.wideKeys==(Tryz.f3.params.toList++(OpenSpec.ofChange Rows.buildMakesSpec).bare.plain.varTypes Tryz.pinned.checked.prog++Tryz.f3.resultTypes.toList).any (Tryz.pinned.checked.prog.wideKeysFrom ·))=true:=by kernel_rfl
theorem j19:(OpenSpec.ofChange Rows.buildMakesSpec).bare.vars.all (Tryz.pinned.checked.prog.varReadable ·)=true:=by kernel_rfl
theorem j20:Tryz.f3.resultTypes.all (λt=>Tryz.pinned.checked.prog.readableRec t&&decide (t < Tryz.pinned.checked.prog.types.size))=true:=by kernel_rfl
theorem j21:(Rows.buildMakesRow.ifacesOut==Tryz.f3.resultTypes.toList.any (Tryz.pinned.checked.prog.ifacesRec ·))=true:=by kernel_rfl
theorem j22:(Rows.buildMakesRow.loopsOut==Tryz.f3.resultTypes.toList.any (Tryz.pinned.checked.prog.loopsFrom ·))=true:=by kernel_rfl
theorem j23:(Rows.buildMakesRow.plainKeys==Tryz.pinned.checked.prog.plainKeys)=true:=by kernel_rfl
theorem j24:Rows.buildMakesRow.shortTexts.isNone=true:=by kernel_rfl
theorem j25:Tryz.pinned.checked.prog.stopsHeard=true:=by kernel_rfl
theorem j26:Tryz.pinned.checked.prog.mayEnter=true:=by kernel_rfl
theorem j27:(Rows.buildMakesRow.lifted==Tryz.pinned.checked.prog.liftsFinal)=true:=by kernel_rfl
theorem j28:(Tryz.pinned.checked.prog.make==some Rows.buildMakesRow.make)=true:=by kernel_rfl
theorem j30:(Rows.buildMakesRow.pinned==Rows.buildMakesRow.pinnedBy)=true:=by kernel_rfl
theorem j31:(Rows.buildMakesRow.veiled==(Tryz.f3.params.toList++(OpenSpec.ofChange Rows.buildMakesSpec).bare.plain.varTypes Tryz.pinned.checked.prog++Tryz.f3.resultTypes.toList).any (Tryz.pinned.checked.prog.veiledRec ·))=true:=by kernel_rfl
theorem j32:Rows.buildMakesRow.veiledFits Tryz.pinned.checked.prog Tryz.f3.params.toList (Tryz.f3.params.toList++(OpenSpec.ofChange Rows.buildMakesSpec).bare.plain.varTypes Tryz.pinned.checked.prog++Tryz.f3.resultTypes.toList)=true:=by kernel_rfl
theorem asW:joinedFacts Tryz.pinned.checked.prog 3 Tryz.f3 (OpenSpec.ofChange Rows.buildMakesSpec).bare Rows.buildMakesRow=true:=by
  unfold joinedFacts
  exact (jm (jm (jm (jm (jm (jm (jm (jm (jm (jm (jm (jm (jm (jm (jm (jm (jm (jm (jm (jm (jm (jm (jm (jm (jm (jm (jm (jm (jm (jm (jm j1 j2) j3) j4) j5) j6) j7) j8) j9) SY) SX) SW) SV) j14) j15) j16) j17) j18) j19) j20) j21) j22) j23) j24) j25) j26) j27) j28) (by kernel_rfl)) j30) j31) j32)
theorem named:Tryz.pinned.checked.prog.funcNamed Rows.buildMakesRow.func=some 3:=by kernel_rfl
theorem atl:Func.isInstance Tryz.pinned.checked.prog Tryz.f3 Rows.buildMakesRow.origin Rows.buildMakesRow.targs:=of_decide_eq_true (by kernel_rfl)
theorem als:Func.isWrapper Tryz.pinned.checked.prog Tryz.f3 Rows.buildMakesRow.wrapper Rows.buildMakesRow.mainSum:=by
  unfold Func.isWrapper; first | (rw[if_pos (by decide +kernel)]; kernel_rfl) | (rw[if_neg (by decide +kernel)]; exact ⟨rfl,rfl⟩)
theorem goes:false=Rows.buildMakesRow.goesBy Tryz.pinned.checked.prog:=by kernel_rfl
theorem looked:true=Tryz.pinned.checked.prog.looks []:=by kernel_rfl
theorem formed:OpenClaim.wfByText (OpenSpec.ofChange Rows.buildMakesSpec) Rows.buildMakesRow=true:=by kernel_rfl
theorem said:Rows.BuildMakesSaid :=
  OpenClaim.holds_of_cond 3 Tryz.f3 rfl rfl rfl rfl rfl rfl rfl ⟨rfl,rfl,rfl,rfl,rfl⟩ rfl rfl rfl rfl rfl named TU asW atl als
    (λos started H enc _ F=>by rw[OpenClaim.pre_eq_preRow]; exact lifted os started H enc F)
theorem plain (f:FuncId) (fn:Func) (hf:Tryz.pinned.checked.prog.funcNamed Rows.buildMakesRow.func=some f) (TA:Tryz.pinned.checked.prog.funcs[f]?=some fn) :
    true=Tryz.pinned.checked.prog.looks []/\∀ (j:Nat) t,fn.params[j]?=some t->Tryz.pinned.checked.prog.wantsStandIn t=false:=by
  obtain rfl:f=3:=Option.some.inj (named.symm.trans hf) |>.symm
  obtain rfl:fn=Tryz.f3:=(Option.some.inj (TU.symm.trans TA)).symm
  refine ⟨looked,λj t ht=>?_⟩
  rw[QG] at ht
  have hm:=Array.mem_of_getElem? ht
  simp only[List.mem_toArray,List.mem_cons,List.not_mem_nil,or_false,or_self] at hm
  rcases hm with rfl | rfl
  · exact (show Tryz.prog.wantsStandIn 22=false by kernel_rfl)
  · exact (show Tryz.prog.wantsStandIn 23=false by kernel_rfl)
theorem card:Rows.BuildMakesCardSaid :=
  Claim7.holds_tied_plain_at .later [] _ _ _ _ said (λ_ h=>by cases h) formed (λ_ h=>by cases h) buildMakes_row_tie rfl ⟨rfl,rfl⟩ (by kernel_rfl) rfl plain goes
end Go.Proofs.YtbahbhkogflhbaaGreatDoor.buildMakes
