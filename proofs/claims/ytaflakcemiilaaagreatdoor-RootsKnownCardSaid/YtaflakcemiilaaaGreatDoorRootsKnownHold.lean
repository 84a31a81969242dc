
/- RootsKnown: the row and its card hold. No condition. -/
import Derived.Test.YtaflakcemiilaaaGreatDoorLiftKq
import Derived.Test.YtaflakcemiilaaaGreatDoorRowP
import Derived.Test.YtaflakcemiilaaaGreatDoorKnownR
set_option maxRecDepth 100000
set_option maxHeartbeats 16000000
namespace Go.Proofs.YtaflakcemiilaaaGreatDoor
open Go.ChangeShapes Go.WideShapes Go.ChangeAt Go.RowKit
theorem rootsKnown_lifted (os:Os) (started:os.Started) (H:Type) (enc:TypeId × Value→H) :
  ReturnsInHanded {} Tryz.checked os 10 .any (fun w args=>(Rows.rootsKnownSpec.pre enc Tryz.prog Tryz.f10 Rows.rootsKnownRow.domain false w args∧laidMetH Tryz.prog Rows.rootsKnownRow.laid w)∧sizedMet enc Tryz.prog Tryz.f10 (OpenSpec.ofChange Rows.rootsKnownSpec) false w args)
   (Rows.rootsKnownSpec.post enc Tryz.prog Tryz.f10 false true false false):=by
 refine returnsInHanded_of_change_and (C:=Tryz.checked) (X:=fun w _=>laidMetH Tryz.prog Rows.rootsKnownRow.laid w) (fun _ _ _ hh h=>h.of_heap hh) Tryz.own started (by kernel_rfl) Tryz.func10
  (ChangeSpec.witness_shaped (enc:=enc) (C:=Tryz.checked) (os:=os) (X:=fun w _=>laidMetH Tryz.prog Rows.rootsKnownRow.laid w) false (World.laidAll Tryz.prog os Rows.rootsKnownRow.laid) #[] 8 (World.laidAll_os _ _ _)
   (World.shaped_of_ZipB (by kernel_rfl) (by kernel_rfl)) (by kernel_rfl) (by kernel_rfl) (by kernel_rfl)
   (by rw [MakeChecks.laidMetH_plain _ _ _ (by kernel_rfl)];exact laidMet_laidAll _ (by kernel_rfl) (by kernel_rfl))) ?_
 intro W base args ds gs before hval0 hW hc _ hL _
 have hval:∀ (j:Nat) t v,Tryz.f10.params[j]?=some t→args[j]?=some v→Value.okWide Tryz.prog W .any base t v:=hval0
 have hW':=hW
 obtain ⟨p,q,hA0,hV,rfl,hfz,hnd⟩:=hW
 have hA:DataW.TrodAll enc Tryz.prog W 0 (fun _=>true) true Tryz.f10.params.toList args.toList ds p:=hA0
 rw [Tryz.params10] at hA hval
 obtain ⟨rfl,rfl,rfl⟩:=trodAll_none hA
 obtain ⟨rfl,rfl⟩:=trodVars_none hV
 clear hA0 hval0
 simp only [List.append_nil] at hW'
 have HT:Hid (Tab W):=lh_ (xv9 hL)
 refine (qN9 W HT).mono fun e W' ⟨he,hb⟩=>?_
 subst he
 exact ⟨_,rfl,qy8 (pv:=[]) hW' (fun _ _ _=>trodAll_mk1 (shut_bool Tryz.underlying4 true)) (fun sp hs=>trodAll_mk0) (fun _ _=>rfl) (by simp) hb (ok_one (by kernel_rfl) rfl (okWide_bool_mk Tryz.underlying4 true))⟩
theorem rootsKnown_q1:(Rows.rootsKnownRow.wf (OpenSpec.ofChange Rows.rootsKnownSpec))=true:=by kernel_rfl
theorem rootsKnown_q4:(Tryz.f10.params.all (Tryz.pinned.checked.prog.readableRec ·))=true:=by kernel_rfl
theorem rootsKnown_q5:(namedTie Tryz.pinned.checked.prog Rows.rootsKnownRow.named Rows.rootsKnownSpec.vars)=true:=by kernel_rfl
theorem rootsKnown_q6:((Rows.rootsKnownRow.stops == []))=true:=by kernel_rfl
theorem rootsKnown_q8:((Rows.rootsKnownRow.knobs == []))=true:=by kernel_rfl
theorem rootsKnown_q10:((Rows.rootsKnownRow.inPlace == Tryz.pinned.checked.prog.inPlace 10))=true:=by kernel_rfl
theorem rootsKnown_q11:((Rows.rootsKnownRow.unfollowed == Tryz.pinned.checked.prog.unfollowed 10))=true:=by kernel_rfl
theorem rootsKnown_q12:((Rows.rootsKnownRow.recurses == Tryz.pinned.checked.prog.recurses 10))=true:=by kernel_rfl
theorem rootsKnown_q13:((Rows.rootsKnownRow.named == Tryz.pinned.checked.prog.varsNamed 10))=true:=by kernel_rfl
theorem rootsKnown_q14:((Rows.rootsKnownRow.maps == (Tryz.f10.params.toList ++ Rows.rootsKnownSpec.plain.varTypes Tryz.pinned.checked.prog).any (Tryz.pinned.checked.prog.mapsRec ·)))=true:=by kernel_rfl
theorem rootsKnown_q15:((Rows.rootsKnownRow.ifaces == (Tryz.f10.params.toList ++ Rows.rootsKnownSpec.plain.varTypes Tryz.pinned.checked.prog).any (Tryz.pinned.checked.prog.ifacesRec ·)))=true:=by kernel_rfl
theorem rootsKnown_q16:((Rows.rootsKnownRow.mapsOut == Tryz.pinned.checked.prog.mapsAmong Tryz.f10.resultTypes.toList))=true:=by kernel_rfl
theorem rootsKnown_q17:((Rows.rootsKnownRow.loops == (Tryz.f10.params.toList ++ Rows.rootsKnownSpec.plain.varTypes Tryz.pinned.checked.prog).any (Tryz.pinned.checked.prog.loopsFrom ·)))=true:=by kernel_rfl
theorem rootsKnown_q18:((Rows.rootsKnownRow.wideKeys == (Tryz.f10.params.toList ++ Rows.rootsKnownSpec.plain.varTypes Tryz.pinned.checked.prog ++ Tryz.f10.resultTypes.toList).any (Tryz.pinned.checked.prog.wideKeysFrom ·)))=true:=by kernel_rfl
theorem rootsKnown_q19:(Rows.rootsKnownSpec.vars.all (Tryz.pinned.checked.prog.varReadable ·))=true:=by kernel_rfl
theorem rootsKnown_q20:(Tryz.f10.resultTypes.all (fun t=>Tryz.pinned.checked.prog.readableRec t && decide (t<Tryz.pinned.checked.prog.types.size)))=true:=by kernel_rfl
theorem rootsKnown_q21:((Rows.rootsKnownRow.ifacesOut == Tryz.f10.resultTypes.toList.any (Tryz.pinned.checked.prog.ifacesRec ·)))=true:=by kernel_rfl
theorem rootsKnown_q22:((Rows.rootsKnownRow.loopsOut == Tryz.f10.resultTypes.toList.any (Tryz.pinned.checked.prog.loopsFrom ·)))=true:=by kernel_rfl
theorem rootsKnown_q24:(Rows.rootsKnownRow.shortTexts.isNone)=true:=by kernel_rfl
theorem rootsKnown_q29:((Rows.rootsKnownRow.kinds == (if Rows.rootsKnownRow.domain.isEmpty then [] else Tryz.f10.params.toList.map fun t=>match Tryz.pinned.checked.prog.underlying t with|some (.int k)=>some k|_=>none)))=true:=by kernel_rfl
theorem rootsKnown_q30:((Rows.rootsKnownRow.pinned == Rows.rootsKnownRow.pinnedBy))=true:=by kernel_rfl
theorem rootsKnown_q31:((Rows.rootsKnownRow.veiled == (Tryz.f10.params.toList ++ Rows.rootsKnownSpec.plain.varTypes Tryz.pinned.checked.prog ++ Tryz.f10.resultTypes.toList).any (Tryz.pinned.checked.prog.veiledRec ·)))=true:=by kernel_rfl
theorem rootsKnown_q32:(Rows.rootsKnownRow.veiledFits Tryz.pinned.checked.prog Tryz.f10.params.toList (Tryz.f10.params.toList ++ Rows.rootsKnownSpec.plain.varTypes Tryz.pinned.checked.prog ++ Tryz.f10.resultTypes.toList))=true:=by kernel_rfl
theorem rootsKnown_closed:joinedFacts Tryz.pinned.checked.prog 10 Tryz.f10 Rows.rootsKnownSpec Rows.rootsKnownRow=true:=(band (band (band (band (band (band (band (band (band (band (band (band (band (band (band (band (band (band (band (band (band (band (band (band (band (band (band (band (band (band (band rootsKnown_q1 xw8) xz7) rootsKnown_q4) rootsKnown_q5) rootsKnown_q6) xx5) rootsKnown_q8) xv8) rootsKnown_q10) rootsKnown_q11) rootsKnown_q12) rootsKnown_q13) rootsKnown_q14) rootsKnown_q15) rootsKnown_q16) rootsKnown_q17) rootsKnown_q18) rootsKnown_q19) rootsKnown_q20) rootsKnown_q21) rootsKnown_q22) xn0) rootsKnown_q24) xj_) xk0) xq1) xl8) rootsKnown_q29) rootsKnown_q30) rootsKnown_q31) rootsKnown_q32)
theorem rootsKnown_wft:Rows.rootsKnownRow.wfByText (OpenSpec.ofChange Rows.rootsKnownSpec)=true:=by kernel_rfl
theorem rootsKnown_goes:false=Rows.rootsKnownRow.goesBy Tryz.pinned.checked.prog:=by kernel_rfl
theorem rootsKnown_row:Rows.RootsKnownSaid :=
 OpenClaim.holds_of_wide 10 Tryz.f10 rfl rfl rfl rfl rfl rfl rfl ⟨rfl,rfl,rfl,rfl,rfl⟩ rfl rfl rfl rfl rfl (by kernel_rfl) Tryz.func10 rootsKnown_closed
  (of_decide_eq_true (by kernel_rfl)) (by unfold Func.isWrapper;first|(rw [if_pos (by decide +kernel)];kernel_rfl)|(rw [if_neg (by decide +kernel)];exact ⟨rfl,rfl⟩))
  (fun os started H enc _=>rootsKnown_lifted os started H enc)
theorem rootsKnown_holds:Rows.RootsKnownCardSaid :=
 Claim7.holds_tied_plain_at .later [] [.data,.data,.data] true (true, "eb200b34f50dd3952de1662d94e6dcdd3699821c4ce947b73a861d35f98d002f") false rootsKnown_row (fun _ h=>by cases h) rootsKnown_wft (fun _ h=>by cases h) rootsKnown_row_tie rfl ⟨rfl,rfl⟩ qW6 rfl
  (fun f fn hf hfn=>by
   obtain rfl:f=10:=Option.some.inj ((show Tryz.prog.funcNamed "gusset/gussetlaw05.RootsKnown" = some 10 by kernel_rfl).symm.trans hf) |>.symm
   obtain rfl:fn=Tryz.f10:=(Option.some.inj (Tryz.func10.symm.trans hfn)).symm
   exact ⟨qM5,fun j t ht=>by
    rw [Tryz.params10] at ht
    simp at ht⟩)
  rootsKnown_goes
end Go.Proofs.YtaflakcemiilaaaGreatDoor
