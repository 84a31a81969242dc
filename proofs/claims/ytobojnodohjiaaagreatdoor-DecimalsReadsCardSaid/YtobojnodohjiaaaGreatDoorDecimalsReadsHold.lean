
/- DecimalsReads: the row and its card hold. No condition. -/
import Derived.Test.YtobojnodohjiaaaGreatDoorLiftRq
import Derived.Test.YtobojnodohjiaaaGreatDoorRowP
import Derived.Test.YtobojnodohjiaaaGreatDoorRdsD
namespace Go.Proofs.YtobojnodohjiaaaGreatDoor
open Go.ChangeShapes Go.WideShapes Go.ChangeAt Go.RowKit
set_option maxRecDepth 100000 in
theorem decimalsReads_lifted (os : Os) (started : os.Started) (H : Type) (enc : TypeId × Value → H) :
    ReturnsInHanded {} Tryz.checked os 13 .any (fun w args => (Rows.decimalsReadsSpec.pre enc Tryz.prog Tryz.f13 Rows.decimalsReadsRow.domain false w args ∧ laidMetH Tryz.prog Rows.decimalsReadsRow.laid w) ∧ sizedMet enc Tryz.prog Tryz.f13 (OpenSpec.ofChange Rows.decimalsReadsSpec) false w args)
      (Rows.decimalsReadsSpec.post enc Tryz.prog Tryz.f13 false true false false) := by
  refine returnsInHanded_of_change_and (C := Tryz.checked) (X := fun w _ => laidMetH Tryz.prog Rows.decimalsReadsRow.laid w) (fun _ _ _ hh h => h.of_heap hh) Tryz.own started (by kernel_rfl) Tryz.func13
    (ChangeSpec.witness_shaped (enc := enc) (C := Tryz.checked) (os := os) (X := fun w _ => laidMetH Tryz.prog Rows.decimalsReadsRow.laid w) false (World.laidAll Tryz.prog os Rows.decimalsReadsRow.laid) #[.string ⟨#[]⟩] 8 (World.laidAll_os _ _ _)
      (World.shaped_of_ZipB (by kernel_rfl) (by kernel_rfl)) (by kernel_rfl) (by kernel_rfl) (by kernel_rfl)
      (by rw [MakeChecks.laidMetH_plain _ _ _ (by kernel_rfl)]; exact laidMet_laidAll _ (by kernel_rfl) (by kernel_rfl))) ?_
  intro W base args ds gs before hval0 hW hc _ hL _
  have hval : ∀ (j : Nat) t v, Tryz.f13.params[j]? = some t → args[j]? = some v → Value.okWide Tryz.prog W .any base t v := hval0
  have hW' := hW
  obtain ⟨p, q, hA0, hV, rfl, hfz, hnd⟩ := hW
  have hA : DataW.TrodAll enc Tryz.prog W 0 (fun _ => true) true Tryz.f13.params.toList args.toList ds p := hA0
  rw [Tryz.params13] at hA hval
  obtain ⟨v0, d0, rfl, rfl, h0⟩ := trodAll_one hA
  obtain ⟨rfl, rfl⟩ := trodVars_none hV
  obtain ⟨s0, rfl, rfl, rfl, w0⟩ := Go.ChangeMaps.open_string Tryz.underlying9 (hval 0 9 v0 rfl rfl) h0
  clear hA0 hval0
  simp only [List.append_nil] at hW'
  have HT : Hid (Tab W) := Lib.hid (tab_of hL)
  refine (readsd_law s0 W (by unfold maxLen at w0; omega) HT).mono fun e W' ⟨he, hb⟩ => ?_
  subst he
  exact ⟨_, rfl, post_of_below (pv := []) hW' (fun _ _ _ => trodAll_mk1 (shut_bool Tryz.underlying4 true)) (fun sp hs => trodAll_mk1 (Go.ChangeMaps.shut_string Tryz.underlying9 w0)) (fun _ _ => rfl) (by simp) hb (ok_one (by kernel_rfl) rfl (okWide_bool_mk Tryz.underlying4 true))⟩
theorem decimalsReads_q1 : (Rows.decimalsReadsRow.wf (OpenSpec.ofChange Rows.decimalsReadsSpec)) = true := by kernel_rfl
theorem decimalsReads_q4 : (Tryz.f13.params.all (Tryz.pinned.checked.prog.readableRec ·)) = true := by kernel_rfl
theorem decimalsReads_q5 : (namedTie Tryz.pinned.checked.prog Rows.decimalsReadsRow.named Rows.decimalsReadsSpec.vars) = true := by kernel_rfl
theorem decimalsReads_q6 : ((Rows.decimalsReadsRow.stops == [])) = true := by kernel_rfl
theorem decimalsReads_q8 : ((Rows.decimalsReadsRow.knobs == [])) = true := by kernel_rfl
theorem decimalsReads_q10 : ((Rows.decimalsReadsRow.inPlace == Tryz.pinned.checked.prog.inPlace 13)) = true := by kernel_rfl
theorem decimalsReads_q11 : ((Rows.decimalsReadsRow.unfollowed == Tryz.pinned.checked.prog.unfollowed 13)) = true := by kernel_rfl
theorem decimalsReads_q12 : ((Rows.decimalsReadsRow.recurses == Tryz.pinned.checked.prog.recurses 13)) = true := by kernel_rfl
theorem decimalsReads_q13 : ((Rows.decimalsReadsRow.named == Tryz.pinned.checked.prog.varsNamed 13)) = true := by kernel_rfl
theorem decimalsReads_q14 : ((Rows.decimalsReadsRow.maps == (Tryz.f13.params.toList ++ Rows.decimalsReadsSpec.plain.varTypes Tryz.pinned.checked.prog).any (Tryz.pinned.checked.prog.mapsRec ·))) = true := by kernel_rfl
theorem decimalsReads_q15 : ((Rows.decimalsReadsRow.ifaces == (Tryz.f13.params.toList ++ Rows.decimalsReadsSpec.plain.varTypes Tryz.pinned.checked.prog).any (Tryz.pinned.checked.prog.ifacesRec ·))) = true := by kernel_rfl
theorem decimalsReads_q16 : ((Rows.decimalsReadsRow.mapsOut == Tryz.pinned.checked.prog.mapsAmong Tryz.f13.resultTypes.toList)) = true := by kernel_rfl
theorem decimalsReads_q17 : ((Rows.decimalsReadsRow.loops == (Tryz.f13.params.toList ++ Rows.decimalsReadsSpec.plain.varTypes Tryz.pinned.checked.prog).any (Tryz.pinned.checked.prog.loopsFrom ·))) = true := by kernel_rfl
theorem decimalsReads_q18 : ((Rows.decimalsReadsRow.wideKeys == (Tryz.f13.params.toList ++ Rows.decimalsReadsSpec.plain.varTypes Tryz.pinned.checked.prog ++ Tryz.f13.resultTypes.toList).any (Tryz.pinned.checked.prog.wideKeysFrom ·))) = true := by kernel_rfl
theorem decimalsReads_q19 : (Rows.decimalsReadsSpec.vars.all (Tryz.pinned.checked.prog.varReadable ·)) = true := by kernel_rfl
theorem decimalsReads_q20 : (Tryz.f13.resultTypes.all (fun t => Tryz.pinned.checked.prog.readableRec t && decide (t < Tryz.pinned.checked.prog.types.size))) = true := by kernel_rfl
theorem decimalsReads_q21 : ((Rows.decimalsReadsRow.ifacesOut == Tryz.f13.resultTypes.toList.any (Tryz.pinned.checked.prog.ifacesRec ·))) = true := by kernel_rfl
theorem decimalsReads_q22 : ((Rows.decimalsReadsRow.loopsOut == Tryz.f13.resultTypes.toList.any (Tryz.pinned.checked.prog.loopsFrom ·))) = true := by kernel_rfl
theorem decimalsReads_q24 : (Rows.decimalsReadsRow.shortTexts.isNone) = true := by kernel_rfl
theorem decimalsReads_q29 : ((Rows.decimalsReadsRow.kinds == (if Rows.decimalsReadsRow.domain.isEmpty then [] else Tryz.f13.params.toList.map fun t => match Tryz.pinned.checked.prog.underlying t with | some (.int k) => some k | _ => none))) = true := by kernel_rfl
theorem decimalsReads_q30 : ((Rows.decimalsReadsRow.pinned == Rows.decimalsReadsRow.pinnedBy)) = true := by kernel_rfl
theorem decimalsReads_q31 : ((Rows.decimalsReadsRow.veiled == (Tryz.f13.params.toList ++ Rows.decimalsReadsSpec.plain.varTypes Tryz.pinned.checked.prog ++ Tryz.f13.resultTypes.toList).any (Tryz.pinned.checked.prog.veiledRec ·))) = true := by kernel_rfl
theorem decimalsReads_q32 : (Rows.decimalsReadsRow.veiledFits Tryz.pinned.checked.prog Tryz.f13.params.toList (Tryz.f13.params.toList ++ Rows.decimalsReadsSpec.plain.varTypes Tryz.pinned.checked.prog ++ Tryz.f13.resultTypes.toList)) = true := by kernel_rfl
set_option maxRecDepth 100000 in
theorem decimalsReads_closed : joinedFacts Tryz.pinned.checked.prog 13 Tryz.f13 Rows.decimalsReadsSpec Rows.decimalsReadsRow = true := (band (band (band (band (band (band (band (band (band (band (band (band (band (band (band (band (band (band (band (band (band (band (band (band (band (band (band (band (band (band (band decimalsReads_q1 wide_2) wide_3) decimalsReads_q4) decimalsReads_q5) decimalsReads_q6) wide_7) decimalsReads_q8) wide_9) decimalsReads_q10) decimalsReads_q11) decimalsReads_q12) decimalsReads_q13) decimalsReads_q14) decimalsReads_q15) decimalsReads_q16) decimalsReads_q17) decimalsReads_q18) decimalsReads_q19) decimalsReads_q20) decimalsReads_q21) decimalsReads_q22) wide_23) decimalsReads_q24) wide_25) wide_26) wide_27) wide_28) decimalsReads_q29) decimalsReads_q30) decimalsReads_q31) decimalsReads_q32)
theorem decimalsReads_wft : Rows.decimalsReadsRow.wfByText (OpenSpec.ofChange Rows.decimalsReadsSpec) = true := by kernel_rfl
theorem decimalsReads_goes : false = Rows.decimalsReadsRow.goesBy Tryz.pinned.checked.prog := by kernel_rfl
theorem decimalsReads_row : Rows.DecimalsReadsSaid :=
  OpenClaim.holds_of_wide 13 Tryz.f13 rfl rfl rfl rfl rfl rfl rfl ⟨rfl, rfl, rfl, rfl, rfl⟩ rfl rfl rfl rfl rfl (by kernel_rfl) Tryz.func13 decimalsReads_closed
    (of_decide_eq_true (by kernel_rfl)) (by unfold Func.isWrapper; first | (rw [if_pos (by decide +kernel)]; kernel_rfl) | (rw [if_neg (by decide +kernel)]; exact ⟨rfl, rfl⟩))
    (fun os started H enc _ => decimalsReads_lifted os started H enc)
theorem decimalsReads_holds : Rows.DecimalsReadsCardSaid :=
  Claim7.holds_tied_plain_at .later [] [.data, .data, .data] true (true, "afc079fd19886976e46ad6200161126b18fba977a1a09a428d032e19cd27660d") false decimalsReads_row (fun _ h => by cases h) decimalsReads_wft (fun _ h => by cases h) decimalsReads_row_tie rfl ⟨rfl, rfl⟩ wide_main rfl
    (fun f fn hf hfn => by
      obtain rfl : f = 13 := Option.some.inj ((show Tryz.prog.funcNamed "gusset/gussetlaw04.DecimalsReads" = some 13 by kernel_rfl).symm.trans hf) |>.symm
      obtain rfl : fn = Tryz.f13 := (Option.some.inj (Tryz.func13.symm.trans hfn)).symm
      exact ⟨wide_looks, fun j t ht => by
        rw [Tryz.params13] at ht
        have hm : t ∈ [9] := by simpa using Array.mem_of_getElem? ht
        have hall : ([9].all fun u => !Tryz.prog.wantsStandIn u) = true := by kernel_rfl
        exact (show Tryz.prog.wantsStandIn t = false by simpa using List.all_eq_true.1 hall t hm)⟩)
    decimalsReads_goes
end Go.Proofs.YtobojnodohjiaaaGreatDoor
