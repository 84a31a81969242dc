
/- DecimalsKnown: the row and its card hold. No condition. -/
import Derived.Test.YtobojnodohjiaaaGreatDoorLiftXq
import Derived.Test.YtobojnodohjiaaaGreatDoorRowP
import Derived.Test.YtobojnodohjiaaaGreatDoorKnownD
set_option maxRecDepth 100000
set_option maxHeartbeats 16000000
namespace Go.Proofs.YtobojnodohjiaaaGreatDoor
open Go.ChangeShapes Go.WideShapes Go.ChangeAt Go.RowKit
theorem decimalsKnown_lifted (os:Os) (started:os.Started) (H:Type) (enc:TypeId × Value→H) :
  ReturnsInHanded {} Tryz.checked os 15 .any (fun w args=>(Rows.decimalsKnownSpec.pre enc Tryz.prog Tryz.f15 Rows.decimalsKnownRow.domain false w args∧laidMetH Tryz.prog Rows.decimalsKnownRow.laid w)∧sizedMet enc Tryz.prog Tryz.f15 (OpenSpec.ofChange Rows.decimalsKnownSpec) false w args)
   (Rows.decimalsKnownSpec.post enc Tryz.prog Tryz.f15 false true false false):=by
 refine returnsInHanded_of_change_and (C:=Tryz.checked) (X:=fun w _=>laidMetH Tryz.prog Rows.decimalsKnownRow.laid w) (fun _ _ _ hh h=>h.of_heap hh) Tryz.own started (by kernel_rfl) Tryz.func15
  (ChangeSpec.witness_shaped (enc:=enc) (C:=Tryz.checked) (os:=os) (X:=fun w _=>laidMetH Tryz.prog Rows.decimalsKnownRow.laid w) false (World.laidAll Tryz.prog os Rows.decimalsKnownRow.laid) #[] 8 (World.laidAll_os _ _ _)
   (World.shaped_of_ZipB (by kernel_rfl) (by kernel_rfl)) (by kernel_rfl) (by kernel_rfl) (by kernel_rfl)
   (by rw [MakeChecks.laidMetH_plain _ _ _ (by kernel_rfl)];exact laidMet_laidAll _ (by kernel_rfl) (by kernel_rfl))) ?_
 intro W base args ds gs before hval0 hW hc _ hL _
 have hval:∀ (j:Nat) t v,Tryz.f15.params[j]?=some t→args[j]?=some v→Value.okWide Tryz.prog W .any base t v:=hval0
 have hW':=hW
 obtain ⟨p,q,hA0,hV,rfl,hfz,hnd⟩:=hW
 have hA:DataW.TrodAll enc Tryz.prog W 0 (fun _=>true) true Tryz.f15.params.toList args.toList ds p:=hA0
 rw [Tryz.params15] at hA hval
 obtain ⟨rfl,rfl,rfl⟩:=trodAll_none hA
 obtain ⟨rfl,rfl⟩:=trodVars_none hV
 clear hA0 hval0
 simp only [List.append_nil] at hW'
 have HT:Hid (Tab W):=lh_ (xK3 hL)
 refine (knownd_law W HT).mono fun e W' ⟨he,hb⟩=>?_
 subst he
 exact ⟨_,rfl,qB9 (pv:=[]) hW' (fun _ _ _=>trodAll_mk1 (shut_bool Tryz.underlying4 true)) (fun sp hs=>trodAll_mk0) (fun _ _=>rfl) (by simp) hb (ok_one (by kernel_rfl) rfl (okWide_bool_mk Tryz.underlying4 true))⟩
theorem decimalsKnown_q1:(Rows.decimalsKnownRow.wf (OpenSpec.ofChange Rows.decimalsKnownSpec))=true:=by kernel_rfl
theorem decimalsKnown_q4:(Tryz.f15.params.all (Tryz.pinned.checked.prog.readableRec ·))=true:=by kernel_rfl
theorem decimalsKnown_q5:(namedTie Tryz.pinned.checked.prog Rows.decimalsKnownRow.named Rows.decimalsKnownSpec.vars)=true:=by kernel_rfl
theorem decimalsKnown_q6:((Rows.decimalsKnownRow.stops == []))=true:=by kernel_rfl
theorem decimalsKnown_q8:((Rows.decimalsKnownRow.knobs == []))=true:=by kernel_rfl
theorem decimalsKnown_q10:((Rows.decimalsKnownRow.inPlace == Tryz.pinned.checked.prog.inPlace 15))=true:=by kernel_rfl
theorem decimalsKnown_q11:((Rows.decimalsKnownRow.unfollowed == Tryz.pinned.checked.prog.unfollowed 15))=true:=by kernel_rfl
theorem decimalsKnown_q12:((Rows.decimalsKnownRow.recurses == Tryz.pinned.checked.prog.recurses 15))=true:=by kernel_rfl
theorem decimalsKnown_q13:((Rows.decimalsKnownRow.named == Tryz.pinned.checked.prog.varsNamed 15))=true:=by kernel_rfl
theorem decimalsKnown_q14:((Rows.decimalsKnownRow.maps == (Tryz.f15.params.toList ++ Rows.decimalsKnownSpec.plain.varTypes Tryz.pinned.checked.prog).any (Tryz.pinned.checked.prog.mapsRec ·)))=true:=by kernel_rfl
theorem decimalsKnown_q15:((Rows.decimalsKnownRow.ifaces == (Tryz.f15.params.toList ++ Rows.decimalsKnownSpec.plain.varTypes Tryz.pinned.checked.prog).any (Tryz.pinned.checked.prog.ifacesRec ·)))=true:=by kernel_rfl
theorem decimalsKnown_q16:((Rows.decimalsKnownRow.mapsOut == Tryz.pinned.checked.prog.mapsAmong Tryz.f15.resultTypes.toList))=true:=by kernel_rfl
theorem decimalsKnown_q17:((Rows.decimalsKnownRow.loops == (Tryz.f15.params.toList ++ Rows.decimalsKnownSpec.plain.varTypes Tryz.pinned.checked.prog).any (Tryz.pinned.checked.prog.loopsFrom ·)))=true:=by kernel_rfl
theorem decimalsKnown_q18:((Rows.decimalsKnownRow.wideKeys == (Tryz.f15.params.toList ++ Rows.decimalsKnownSpec.plain.varTypes Tryz.pinned.checked.prog ++ Tryz.f15.resultTypes.toList).any (Tryz.pinned.checked.prog.wideKeysFrom ·)))=true:=by kernel_rfl
theorem decimalsKnown_q19:(Rows.decimalsKnownSpec.vars.all (Tryz.pinned.checked.prog.varReadable ·))=true:=by kernel_rfl
theorem decimalsKnown_q20:(Tryz.f15.resultTypes.all (fun t=>Tryz.pinned.checked.prog.readableRec t && decide (t<Tryz.pinned.checked.prog.types.size)))=true:=by kernel_rfl
theorem decimalsKnown_q21:((Rows.decimalsKnownRow.ifacesOut == Tryz.f15.resultTypes.toList.any (Tryz.pinned.checked.prog.ifacesRec ·)))=true:=by kernel_rfl
theorem decimalsKnown_q22:((Rows.decimalsKnownRow.loopsOut == Tryz.f15.resultTypes.toList.any (Tryz.pinned.checked.prog.loopsFrom ·)))=true:=by kernel_rfl
theorem decimalsKnown_q24:(Rows.decimalsKnownRow.shortTexts.isNone)=true:=by kernel_rfl
theorem decimalsKnown_q29:((Rows.decimalsKnownRow.kinds == (if Rows.decimalsKnownRow.domain.isEmpty then [] else Tryz.f15.params.toList.map fun t=>match Tryz.pinned.checked.prog.underlying t with|some (.int k)=>some k|_=>none)))=true:=by kernel_rfl
theorem decimalsKnown_q30:((Rows.decimalsKnownRow.pinned == Rows.decimalsKnownRow.pinnedBy))=true:=by kernel_rfl
theorem decimalsKnown_q31:((Rows.decimalsKnownRow.veiled == (Tryz.f15.params.toList ++ Rows.decimalsKnownSpec.plain.varTypes Tryz.pinned.checked.prog ++ Tryz.f15.resultTypes.toList).any (Tryz.pinned.checked.prog.veiledRec ·)))=true:=by kernel_rfl
theorem decimalsKnown_q32:(Rows.decimalsKnownRow.veiledFits Tryz.pinned.checked.prog Tryz.f15.params.toList (Tryz.f15.params.toList ++ Rows.decimalsKnownSpec.plain.varTypes Tryz.pinned.checked.prog ++ Tryz.f15.resultTypes.toList))=true:=by kernel_rfl
theorem decimalsKnown_closed:joinedFacts Tryz.pinned.checked.prog 15 Tryz.f15 Rows.decimalsKnownSpec Rows.decimalsKnownRow=true:=(band (band (band (band (band (band (band (band (band (band (band (band (band (band (band (band (band (band (band (band (band (band (band (band (band (band (band (band (band (band (band decimalsKnown_q1 xL6) xL7) decimalsKnown_q4) decimalsKnown_q5) decimalsKnown_q6) xL8) decimalsKnown_q8) xL9) decimalsKnown_q10) decimalsKnown_q11) decimalsKnown_q12) decimalsKnown_q13) decimalsKnown_q14) decimalsKnown_q15) decimalsKnown_q16) decimalsKnown_q17) decimalsKnown_q18) decimalsKnown_q19) decimalsKnown_q20) decimalsKnown_q21) decimalsKnown_q22) xD0) decimalsKnown_q24) xD1) xD2) xD3) xD4) decimalsKnown_q29) decimalsKnown_q30) decimalsKnown_q31) decimalsKnown_q32)
theorem decimalsKnown_wft:Rows.decimalsKnownRow.wfByText (OpenSpec.ofChange Rows.decimalsKnownSpec)=true:=by kernel_rfl
theorem decimalsKnown_goes:false=Rows.decimalsKnownRow.goesBy Tryz.pinned.checked.prog:=by kernel_rfl
theorem decimalsKnown_row:Rows.DecimalsKnownSaid :=
 OpenClaim.holds_of_wide 15 Tryz.f15 rfl rfl rfl rfl rfl rfl rfl ⟨rfl,rfl,rfl,rfl,rfl⟩ rfl rfl rfl rfl rfl (by kernel_rfl) Tryz.func15 decimalsKnown_closed
  (of_decide_eq_true (by kernel_rfl)) (by unfold Func.isWrapper;first|(rw [if_pos (by decide +kernel)];kernel_rfl)|(rw [if_neg (by decide +kernel)];exact ⟨rfl,rfl⟩))
  (fun os started H enc _=>decimalsKnown_lifted os started H enc)
theorem decimalsKnown_holds:Rows.DecimalsKnownCardSaid :=
 Claim7.holds_tied_plain_at .later [] [.data,.data,.data] true (true, "afc079fd19886976e46ad6200161126b18fba977a1a09a428d032e19cd27660d") false decimalsKnown_row (fun _ h=>by cases h) decimalsKnown_wft (fun _ h=>by cases h) decimalsKnown_row_tie rfl ⟨rfl,rfl⟩ xg6 rfl
  (fun f fn hf hfn=>by
   obtain rfl:f=15:=Option.some.inj ((show Tryz.prog.funcNamed "gusset/gussetlaw04.DecimalsKnown" = some 15 by kernel_rfl).symm.trans hf) |>.symm
   obtain rfl:fn=Tryz.f15:=(Option.some.inj (Tryz.func15.symm.trans hfn)).symm
   exact ⟨qV4,fun j t ht=>by
    rw [Tryz.params15] at ht
    simp at ht⟩)
  decimalsKnown_goes
end Go.Proofs.YtobojnodohjiaaaGreatDoor
