
/- FracsKnown: the row and its card hold. No condition. -/
import Derived.Test.YtobojnodohjiaaaGreatDoorLiftYq
import Derived.Test.YtobojnodohjiaaaGreatDoorRowP
import Derived.Test.YtobojnodohjiaaaGreatDoorKnownQ
set_option maxRecDepth 100000
set_option maxHeartbeats 16000000
namespace Go.Proofs.YtobojnodohjiaaaGreatDoor
open Go.ChangeShapes Go.WideShapes Go.ChangeAt Go.RowKit
theorem fracsKnown_lifted (os:Os) (started:os.Started) (H:Type) (enc:TypeId × Value→H) :
  ReturnsInHanded {} Tryz.checked os 12 .any (fun w args=>(Rows.fracsKnownSpec.pre enc Tryz.prog Tryz.f12 Rows.fracsKnownRow.domain false w args∧laidMetH Tryz.prog Rows.fracsKnownRow.laid w)∧sizedMet enc Tryz.prog Tryz.f12 (OpenSpec.ofChange Rows.fracsKnownSpec) false w args)
   (Rows.fracsKnownSpec.post enc Tryz.prog Tryz.f12 false true false false):=by
 refine returnsInHanded_of_change_and (C:=Tryz.checked) (X:=fun w _=>laidMetH Tryz.prog Rows.fracsKnownRow.laid w) (fun _ _ _ hh h=>h.of_heap hh) Tryz.own started (by kernel_rfl) Tryz.func12
  (ChangeSpec.witness_shaped (enc:=enc) (C:=Tryz.checked) (os:=os) (X:=fun w _=>laidMetH Tryz.prog Rows.fracsKnownRow.laid w) false (World.laidAll Tryz.prog os Rows.fracsKnownRow.laid) #[] 8 (World.laidAll_os _ _ _)
   (World.shaped_of_ZipB (by kernel_rfl) (by kernel_rfl)) (by kernel_rfl) (by kernel_rfl) (by kernel_rfl)
   (by rw [MakeChecks.laidMetH_plain _ _ _ (by kernel_rfl)];exact laidMet_laidAll _ (by kernel_rfl) (by kernel_rfl))) ?_
 intro W base args ds gs before hval0 hW hc _ hL _
 have hval:∀ (j:Nat) t v,Tryz.f12.params[j]?=some t→args[j]?=some v→Value.okWide Tryz.prog W .any base t v:=hval0
 have hW':=hW
 obtain ⟨p,q,hA0,hV,rfl,hfz,hnd⟩:=hW
 have hA:DataW.TrodAll enc Tryz.prog W 0 (fun _=>true) true Tryz.f12.params.toList args.toList ds p:=hA0
 rw [Tryz.params12] at hA hval
 obtain ⟨rfl,rfl,rfl⟩:=trodAll_none hA
 obtain ⟨rfl,rfl⟩:=trodVars_none hV
 clear hA0 hval0
 simp only [List.append_nil] at hW'
 have HT:Hid (Tab W):=lh_ (xx9 hL)
 refine (knownq_law W HT).mono fun e W' ⟨he,hb⟩=>?_
 subst he
 exact ⟨_,rfl,qx6 (pv:=[]) hW' (fun _ _ _=>trodAll_mk1 (shut_bool Tryz.underlying4 true)) (fun sp hs=>trodAll_mk0) (fun _ _=>rfl) (by simp) hb (ok_one (by kernel_rfl) rfl (okWide_bool_mk Tryz.underlying4 true))⟩
theorem fracsKnown_q1:(Rows.fracsKnownRow.wf (OpenSpec.ofChange Rows.fracsKnownSpec))=true:=by kernel_rfl
theorem fracsKnown_q4:(Tryz.f12.params.all (Tryz.pinned.checked.prog.readableRec ·))=true:=by kernel_rfl
theorem fracsKnown_q5:(namedTie Tryz.pinned.checked.prog Rows.fracsKnownRow.named Rows.fracsKnownSpec.vars)=true:=by kernel_rfl
theorem fracsKnown_q6:((Rows.fracsKnownRow.stops == []))=true:=by kernel_rfl
theorem fracsKnown_q8:((Rows.fracsKnownRow.knobs == []))=true:=by kernel_rfl
theorem fracsKnown_q10:((Rows.fracsKnownRow.inPlace == Tryz.pinned.checked.prog.inPlace 12))=true:=by kernel_rfl
theorem fracsKnown_q11:((Rows.fracsKnownRow.unfollowed == Tryz.pinned.checked.prog.unfollowed 12))=true:=by kernel_rfl
theorem fracsKnown_q12:((Rows.fracsKnownRow.recurses == Tryz.pinned.checked.prog.recurses 12))=true:=by kernel_rfl
theorem fracsKnown_q13:((Rows.fracsKnownRow.named == Tryz.pinned.checked.prog.varsNamed 12))=true:=by kernel_rfl
theorem fracsKnown_q14:((Rows.fracsKnownRow.maps == (Tryz.f12.params.toList ++ Rows.fracsKnownSpec.plain.varTypes Tryz.pinned.checked.prog).any (Tryz.pinned.checked.prog.mapsRec ·)))=true:=by kernel_rfl
theorem fracsKnown_q15:((Rows.fracsKnownRow.ifaces == (Tryz.f12.params.toList ++ Rows.fracsKnownSpec.plain.varTypes Tryz.pinned.checked.prog).any (Tryz.pinned.checked.prog.ifacesRec ·)))=true:=by kernel_rfl
theorem fracsKnown_q16:((Rows.fracsKnownRow.mapsOut == Tryz.pinned.checked.prog.mapsAmong Tryz.f12.resultTypes.toList))=true:=by kernel_rfl
theorem fracsKnown_q17:((Rows.fracsKnownRow.loops == (Tryz.f12.params.toList ++ Rows.fracsKnownSpec.plain.varTypes Tryz.pinned.checked.prog).any (Tryz.pinned.checked.prog.loopsFrom ·)))=true:=by kernel_rfl
theorem fracsKnown_q18:((Rows.fracsKnownRow.wideKeys == (Tryz.f12.params.toList ++ Rows.fracsKnownSpec.plain.varTypes Tryz.pinned.checked.prog ++ Tryz.f12.resultTypes.toList).any (Tryz.pinned.checked.prog.wideKeysFrom ·)))=true:=by kernel_rfl
theorem fracsKnown_q19:(Rows.fracsKnownSpec.vars.all (Tryz.pinned.checked.prog.varReadable ·))=true:=by kernel_rfl
theorem fracsKnown_q20:(Tryz.f12.resultTypes.all (fun t=>Tryz.pinned.checked.prog.readableRec t && decide (t<Tryz.pinned.checked.prog.types.size)))=true:=by kernel_rfl
theorem fracsKnown_q21:((Rows.fracsKnownRow.ifacesOut == Tryz.f12.resultTypes.toList.any (Tryz.pinned.checked.prog.ifacesRec ·)))=true:=by kernel_rfl
theorem fracsKnown_q22:((Rows.fracsKnownRow.loopsOut == Tryz.f12.resultTypes.toList.any (Tryz.pinned.checked.prog.loopsFrom ·)))=true:=by kernel_rfl
theorem fracsKnown_q24:(Rows.fracsKnownRow.shortTexts.isNone)=true:=by kernel_rfl
theorem fracsKnown_q29:((Rows.fracsKnownRow.kinds == (if Rows.fracsKnownRow.domain.isEmpty then [] else Tryz.f12.params.toList.map fun t=>match Tryz.pinned.checked.prog.underlying t with|some (.int k)=>some k|_=>none)))=true:=by kernel_rfl
theorem fracsKnown_q30:((Rows.fracsKnownRow.pinned == Rows.fracsKnownRow.pinnedBy))=true:=by kernel_rfl
theorem fracsKnown_q31:((Rows.fracsKnownRow.veiled == (Tryz.f12.params.toList ++ Rows.fracsKnownSpec.plain.varTypes Tryz.pinned.checked.prog ++ Tryz.f12.resultTypes.toList).any (Tryz.pinned.checked.prog.veiledRec ·)))=true:=by kernel_rfl
theorem fracsKnown_q32:(Rows.fracsKnownRow.veiledFits Tryz.pinned.checked.prog Tryz.f12.params.toList (Tryz.f12.params.toList ++ Rows.fracsKnownSpec.plain.varTypes Tryz.pinned.checked.prog ++ Tryz.f12.resultTypes.toList))=true:=by kernel_rfl
theorem fracsKnown_closed:joinedFacts Tryz.pinned.checked.prog 12 Tryz.f12 Rows.fracsKnownSpec Rows.fracsKnownRow=true:=(band (band (band (band (band (band (band (band (band (band (band (band (band (band (band (band (band (band (band (band (band (band (band (band (band (band (band (band (band (band (band fracsKnown_q1 xz0) xz1) fracsKnown_q4) fracsKnown_q5) fracsKnown_q6) xz2) fracsKnown_q8) xz3) fracsKnown_q10) fracsKnown_q11) fracsKnown_q12) fracsKnown_q13) fracsKnown_q14) fracsKnown_q15) fracsKnown_q16) fracsKnown_q17) fracsKnown_q18) fracsKnown_q19) fracsKnown_q20) fracsKnown_q21) fracsKnown_q22) xs0) fracsKnown_q24) xs1) xs2) xs3) xs4) fracsKnown_q29) fracsKnown_q30) fracsKnown_q31) fracsKnown_q32)
theorem fracsKnown_wft:Rows.fracsKnownRow.wfByText (OpenSpec.ofChange Rows.fracsKnownSpec)=true:=by kernel_rfl
theorem fracsKnown_goes:false=Rows.fracsKnownRow.goesBy Tryz.pinned.checked.prog:=by kernel_rfl
theorem fracsKnown_row:Rows.FracsKnownSaid :=
 OpenClaim.holds_of_wide 12 Tryz.f12 rfl rfl rfl rfl rfl rfl rfl ⟨rfl,rfl,rfl,rfl,rfl⟩ rfl rfl rfl rfl rfl (by kernel_rfl) Tryz.func12 fracsKnown_closed
  (of_decide_eq_true (by kernel_rfl)) (by unfold Func.isWrapper;first|(rw [if_pos (by decide +kernel)];kernel_rfl)|(rw [if_neg (by decide +kernel)];exact ⟨rfl,rfl⟩))
  (fun os started H enc _=>fracsKnown_lifted os started H enc)
theorem fracsKnown_holds:Rows.FracsKnownCardSaid :=
 Claim7.holds_tied_plain_at .later [] [.data,.data,.data] true (true, "afc079fd19886976e46ad6200161126b18fba977a1a09a428d032e19cd27660d") false fracsKnown_row (fun _ h=>by cases h) fracsKnown_wft (fun _ h=>by cases h) fracsKnown_row_tie rfl ⟨rfl,rfl⟩ xa0 rfl
  (fun f fn hf hfn=>by
   obtain rfl:f=12:=Option.some.inj ((show Tryz.prog.funcNamed "gusset/gussetlaw03.FracsKnown" = some 12 by kernel_rfl).symm.trans hf) |>.symm
   obtain rfl:fn=Tryz.f12:=(Option.some.inj (Tryz.func12.symm.trans hfn)).symm
   exact ⟨qO_,fun j t ht=>by
    rw [Tryz.params12] at ht
    simp at ht⟩)
  fracsKnown_goes
end Go.Proofs.YtobojnodohjiaaaGreatDoor
