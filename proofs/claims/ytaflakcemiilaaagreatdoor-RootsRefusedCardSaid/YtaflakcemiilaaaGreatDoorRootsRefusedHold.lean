
/- RootsRefused: the row and its card hold. No condition. -/
import Derived.Test.YtaflakcemiilaaaGreatDoorLiftRq
import Derived.Test.YtaflakcemiilaaaGreatDoorRowP
import Derived.Test.YtaflakcemiilaaaGreatDoorRefuseR
namespace Go.Proofs.YtaflakcemiilaaaGreatDoor
open Go.ChangeShapes Go.WideShapes Go.ChangeAt Go.RowKit
set_option maxRecDepth 100000 in
theorem rootsRefused_lifted (os : Os) (started : os.Started) (H : Type) (enc : TypeId × Value → H) :
    ReturnsInHanded {} Tryz.checked os 5 .any (fun w args => (Rows.rootsRefusedSpec.pre enc Tryz.prog Tryz.f5 Rows.rootsRefusedRow.domain false w args ∧ laidMetH Tryz.prog Rows.rootsRefusedRow.laid w) ∧ sizedMet enc Tryz.prog Tryz.f5 (OpenSpec.ofChange Rows.rootsRefusedSpec) false w args)
      (Rows.rootsRefusedSpec.post enc Tryz.prog Tryz.f5 false true false false) := by
  refine returnsInHanded_of_change_and (C := Tryz.checked) (X := fun w _ => laidMetH Tryz.prog Rows.rootsRefusedRow.laid w) (fun _ _ _ hh h => h.of_heap hh) Tryz.own started (by kernel_rfl) Tryz.func5
    (ChangeSpec.witness_shaped (enc := enc) (C := Tryz.checked) (os := os) (X := fun w _ => laidMetH Tryz.prog Rows.rootsRefusedRow.laid w) false (World.laidAll Tryz.prog os Rows.rootsRefusedRow.laid) #[.agg #[.int .i64 0, .int .u32 0], .int .i64 0] 8 (World.laidAll_os _ _ _)
      (World.shaped_of_ZipB (by kernel_rfl) (by kernel_rfl)) (by kernel_rfl) (by kernel_rfl) (by kernel_rfl)
      (by rw [MakeChecks.laidMetH_plain _ _ _ (by kernel_rfl)]; exact laidMet_laidAll _ (by kernel_rfl) (by kernel_rfl))) ?_
  intro W base args ds gs before hval0 hW hc _ hL _
  have hval : ∀ (j : Nat) t v, Tryz.f5.params[j]? = some t → args[j]? = some v → Value.okWide Tryz.prog W .any base t v := hval0
  have hW' := hW
  obtain ⟨p, q, hA0, hV, rfl, hfz, hnd⟩ := hW
  have hA : DataW.TrodAll enc Tryz.prog W 0 (fun _ => true) true Tryz.f5.params.toList args.toList ds p := hA0
  rw [Tryz.params5] at hA hval
  obtain ⟨v0, v1, d0, d1, p0, p1, rfl, rfl, rfl, h0, h1⟩ := trodAll_two hA
  obtain ⟨rfl, rfl⟩ := trodVars_none hV
  obtain ⟨n1, rfl, rfl, rfl, w1⟩ := open_int Tryz.underlying3 (hval 1 3 v1 rfl rfl) h1
  obtain ⟨lo1, hi1⟩ := i64_wf w1
  obtain ⟨q0_0, q0_1, rfl, lq0_0, gq0_0, lq0_1, gq0_1⟩ := open_q (hval 0 24 v0 rfl rfl)
  clear hA0 hval0
  simp only [List.append_nil] at hW'
  have HT : Hid (Tab W) := Lib.hid (tab_of hL)
  refine (refuse_law q0_0 q0_1 n1 W lq0_0 gq0_0 lq0_1 gq0_1 HT).mono fun e W' ⟨he, hb⟩ => ?_
  subst he
  exact ⟨_, rfl, post_of_below (pv := []) hW' (fun _ _ _ => trodAll_mk1 (shut_bool Tryz.underlying4 true)) (fun sp hs => trodAll_mk2 (stays (by kernel_rfl) (by decide +kernel) h0 hb (fun x hx => hW'.lt x (by simp [hx])) sp (fun x hx => hs x (by simp [hx]))) (shut_int Tryz.underlying3 w1)) (fun _ _ => rfl) (by simp) hb (ok_one (by kernel_rfl) rfl (okWide_bool_mk Tryz.underlying4 true))⟩
theorem rootsRefused_q1 : (Rows.rootsRefusedRow.wf (OpenSpec.ofChange Rows.rootsRefusedSpec)) = true := by kernel_rfl
theorem rootsRefused_q4 : (Tryz.f5.params.all (Tryz.pinned.checked.prog.readableRec ·)) = true := by kernel_rfl
theorem rootsRefused_q5 : (namedTie Tryz.pinned.checked.prog Rows.rootsRefusedRow.named Rows.rootsRefusedSpec.vars) = true := by kernel_rfl
theorem rootsRefused_q6 : ((Rows.rootsRefusedRow.stops == [])) = true := by kernel_rfl
theorem rootsRefused_q8 : ((Rows.rootsRefusedRow.knobs == [])) = true := by kernel_rfl
theorem rootsRefused_q10 : ((Rows.rootsRefusedRow.inPlace == Tryz.pinned.checked.prog.inPlace 5)) = true := by kernel_rfl
theorem rootsRefused_q11 : ((Rows.rootsRefusedRow.unfollowed == Tryz.pinned.checked.prog.unfollowed 5)) = true := by kernel_rfl
theorem rootsRefused_q12 : ((Rows.rootsRefusedRow.recurses == Tryz.pinned.checked.prog.recurses 5)) = true := by kernel_rfl
theorem rootsRefused_q13 : ((Rows.rootsRefusedRow.named == Tryz.pinned.checked.prog.varsNamed 5)) = true := by kernel_rfl
theorem rootsRefused_q14 : ((Rows.rootsRefusedRow.maps == (Tryz.f5.params.toList ++ Rows.rootsRefusedSpec.plain.varTypes Tryz.pinned.checked.prog).any (Tryz.pinned.checked.prog.mapsRec ·))) = true := by kernel_rfl
theorem rootsRefused_q15 : ((Rows.rootsRefusedRow.ifaces == (Tryz.f5.params.toList ++ Rows.rootsRefusedSpec.plain.varTypes Tryz.pinned.checked.prog).any (Tryz.pinned.checked.prog.ifacesRec ·))) = true := by kernel_rfl
theorem rootsRefused_q16 : ((Rows.rootsRefusedRow.mapsOut == Tryz.pinned.checked.prog.mapsAmong Tryz.f5.resultTypes.toList)) = true := by kernel_rfl
theorem rootsRefused_q17 : ((Rows.rootsRefusedRow.loops == (Tryz.f5.params.toList ++ Rows.rootsRefusedSpec.plain.varTypes Tryz.pinned.checked.prog).any (Tryz.pinned.checked.prog.loopsFrom ·))) = true := by kernel_rfl
theorem rootsRefused_q18 : ((Rows.rootsRefusedRow.wideKeys == (Tryz.f5.params.toList ++ Rows.rootsRefusedSpec.plain.varTypes Tryz.pinned.checked.prog ++ Tryz.f5.resultTypes.toList).any (Tryz.pinned.checked.prog.wideKeysFrom ·))) = true := by kernel_rfl
theorem rootsRefused_q19 : (Rows.rootsRefusedSpec.vars.all (Tryz.pinned.checked.prog.varReadable ·)) = true := by kernel_rfl
theorem rootsRefused_q20 : (Tryz.f5.resultTypes.all (fun t => Tryz.pinned.checked.prog.readableRec t && decide (t < Tryz.pinned.checked.prog.types.size))) = true := by kernel_rfl
theorem rootsRefused_q21 : ((Rows.rootsRefusedRow.ifacesOut == Tryz.f5.resultTypes.toList.any (Tryz.pinned.checked.prog.ifacesRec ·))) = true := by kernel_rfl
theorem rootsRefused_q22 : ((Rows.rootsRefusedRow.loopsOut == Tryz.f5.resultTypes.toList.any (Tryz.pinned.checked.prog.loopsFrom ·))) = true := by kernel_rfl
theorem rootsRefused_q24 : (Rows.rootsRefusedRow.shortTexts.isNone) = true := by kernel_rfl
theorem rootsRefused_q29 : ((Rows.rootsRefusedRow.kinds == (if Rows.rootsRefusedRow.domain.isEmpty then [] else Tryz.f5.params.toList.map fun t => match Tryz.pinned.checked.prog.underlying t with | some (.int k) => some k | _ => none))) = true := by kernel_rfl
theorem rootsRefused_q30 : ((Rows.rootsRefusedRow.pinned == Rows.rootsRefusedRow.pinnedBy)) = true := by kernel_rfl
theorem rootsRefused_q31 : ((Rows.rootsRefusedRow.veiled == (Tryz.f5.params.toList ++ Rows.rootsRefusedSpec.plain.varTypes Tryz.pinned.checked.prog ++ Tryz.f5.resultTypes.toList).any (Tryz.pinned.checked.prog.veiledRec ·))) = true := by kernel_rfl
theorem rootsRefused_q32 : (Rows.rootsRefusedRow.veiledFits Tryz.pinned.checked.prog Tryz.f5.params.toList (Tryz.f5.params.toList ++ Rows.rootsRefusedSpec.plain.varTypes Tryz.pinned.checked.prog ++ Tryz.f5.resultTypes.toList)) = true := by kernel_rfl
set_option maxRecDepth 100000 in
theorem rootsRefused_closed : joinedFacts Tryz.pinned.checked.prog 5 Tryz.f5 Rows.rootsRefusedSpec Rows.rootsRefusedRow = true := (band (band (band (band (band (band (band (band (band (band (band (band (band (band (band (band (band (band (band (band (band (band (band (band (band (band (band (band (band (band (band rootsRefused_q1 wide_2) wide_3) rootsRefused_q4) rootsRefused_q5) rootsRefused_q6) wide_7) rootsRefused_q8) wide_9) rootsRefused_q10) rootsRefused_q11) rootsRefused_q12) rootsRefused_q13) rootsRefused_q14) rootsRefused_q15) rootsRefused_q16) rootsRefused_q17) rootsRefused_q18) rootsRefused_q19) rootsRefused_q20) rootsRefused_q21) rootsRefused_q22) wide_23) rootsRefused_q24) wide_25) wide_26) wide_27) wide_28) rootsRefused_q29) rootsRefused_q30) rootsRefused_q31) rootsRefused_q32)
theorem rootsRefused_wft : Rows.rootsRefusedRow.wfByText (OpenSpec.ofChange Rows.rootsRefusedSpec) = true := by kernel_rfl
theorem rootsRefused_goes : false = Rows.rootsRefusedRow.goesBy Tryz.pinned.checked.prog := by kernel_rfl
theorem rootsRefused_row : Rows.RootsRefusedSaid :=
  OpenClaim.holds_of_wide 5 Tryz.f5 rfl rfl rfl rfl rfl rfl rfl ⟨rfl, rfl, rfl, rfl, rfl⟩ rfl rfl rfl rfl rfl (by kernel_rfl) Tryz.func5 rootsRefused_closed
    (of_decide_eq_true (by kernel_rfl)) (by unfold Func.isWrapper; first | (rw [if_pos (by decide +kernel)]; kernel_rfl) | (rw [if_neg (by decide +kernel)]; exact ⟨rfl, rfl⟩))
    (fun os started H enc _ => rootsRefused_lifted os started H enc)
theorem rootsRefused_holds : Rows.RootsRefusedCardSaid :=
  Claim7.holds_tied_plain_at .later [] [.data, .data, .data] true (true, "eb200b34f50dd3952de1662d94e6dcdd3699821c4ce947b73a861d35f98d002f") false rootsRefused_row (fun _ h => by cases h) rootsRefused_wft (fun _ h => by cases h) rootsRefused_row_tie rfl ⟨rfl, rfl⟩ wide_main rfl
    (fun f fn hf hfn => by
      obtain rfl : f = 5 := Option.some.inj ((show Tryz.prog.funcNamed "gusset/gussetlaw05.RootsRefused" = some 5 by kernel_rfl).symm.trans hf) |>.symm
      obtain rfl : fn = Tryz.f5 := (Option.some.inj (Tryz.func5.symm.trans hfn)).symm
      exact ⟨wide_looks, fun j t ht => by
        rw [Tryz.params5] at ht
        have hm : t ∈ [24, 3] := by simpa using Array.mem_of_getElem? ht
        have hall : ([24, 3].all fun u => !Tryz.prog.wantsStandIn u) = true := by kernel_rfl
        exact (show Tryz.prog.wantsStandIn t = false by simpa using List.all_eq_true.1 hall t hm)⟩)
    rootsRefused_goes
end Go.Proofs.YtaflakcemiilaaaGreatDoor
