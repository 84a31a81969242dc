
/- RootsBoth: the row and its card hold. No condition. -/
import Derived.Test.YtaflakcemiilaaaGreatDoorLiftRq
import Derived.Test.YtaflakcemiilaaaGreatDoorRowP
import Derived.Test.YtaflakcemiilaaaGreatDoorBothR
namespace Go.Proofs.YtaflakcemiilaaaGreatDoor
open Go.ChangeShapes Go.WideShapes Go.ChangeAt Go.RowKit
set_option maxRecDepth 100000 in
theorem rootsBoth_lifted (os : Os) (started : os.Started) (H : Type) (enc : TypeId × Value → H) :
    ReturnsInHanded {} Tryz.checked os 4 .any (fun w args => (Rows.rootsBothSpec.pre enc Tryz.prog Tryz.f4 Rows.rootsBothRow.domain false w args ∧ laidMetH Tryz.prog Rows.rootsBothRow.laid w) ∧ sizedMet enc Tryz.prog Tryz.f4 (OpenSpec.ofChange Rows.rootsBothSpec) false w args)
      (Rows.rootsBothSpec.post enc Tryz.prog Tryz.f4 false true false false) := by
  refine returnsInHanded_of_change_and (C := Tryz.checked) (X := fun w _ => laidMetH Tryz.prog Rows.rootsBothRow.laid w) (fun _ _ _ hh h => h.of_heap hh) Tryz.own started (by kernel_rfl) Tryz.func4
    (ChangeSpec.witness_shaped (enc := enc) (C := Tryz.checked) (os := os) (X := fun w _ => laidMetH Tryz.prog Rows.rootsBothRow.laid w) false (World.laidAll Tryz.prog os Rows.rootsBothRow.laid) #[.agg #[.int .i64 0, .int .u32 0], .int .i64 0] 8 (World.laidAll_os _ _ _)
      (World.shaped_of_ZipB (by kernel_rfl) (by kernel_rfl)) (by kernel_rfl) (by kernel_rfl) (by kernel_rfl)
      (by rw [MakeChecks.laidMetH_plain _ _ _ (by kernel_rfl)]; exact laidMet_laidAll _ (by kernel_rfl) (by kernel_rfl))) ?_
  intro W base args ds gs before hval0 hW hc _ hL _
  have hval : ∀ (j : Nat) t v, Tryz.f4.params[j]? = some t → args[j]? = some v → Value.okWide Tryz.prog W .any base t v := hval0
  have hW' := hW
  obtain ⟨p, q, hA0, hV, rfl, hfz, hnd⟩ := hW
  have hA : DataW.TrodAll enc Tryz.prog W 0 (fun _ => true) true Tryz.f4.params.toList args.toList ds p := hA0
  rw [Tryz.params4] at hA hval
  obtain ⟨v0, v1, d0, d1, p0, p1, rfl, rfl, rfl, h0, h1⟩ := trodAll_two hA
  obtain ⟨rfl, rfl⟩ := trodVars_none hV
  obtain ⟨n1, rfl, rfl, rfl, w1⟩ := open_int Tryz.underlying3 (hval 1 3 v1 rfl rfl) h1
  obtain ⟨lo1, hi1⟩ := i64_wf w1
  obtain ⟨q0_0, q0_1, rfl, lq0_0, gq0_0, lq0_1, gq0_1⟩ := open_q (hval 0 24 v0 rfl rfl)
  clear hA0 hval0
  simp only [List.append_nil] at hW'
  have HT : Hid (Tab W) := Lib.hid (tab_of hL)
  refine (both_law q0_0 q0_1 n1 W lq0_0 gq0_0 lq0_1 gq0_1 HT).mono fun e W' ⟨he, hb⟩ => ?_
  subst he
  exact ⟨_, rfl, post_of_below (pv := []) hW' (fun _ _ _ => trodAll_mk1 (shut_bool Tryz.underlying4 true)) (fun sp hs => trodAll_mk2 (stays (by kernel_rfl) (by decide +kernel) h0 hb (fun x hx => hW'.lt x (by simp [hx])) sp (fun x hx => hs x (by simp [hx]))) (shut_int Tryz.underlying3 w1)) (fun _ _ => rfl) (by simp) hb (ok_one (by kernel_rfl) rfl (okWide_bool_mk Tryz.underlying4 true))⟩
theorem rootsBoth_q1 : (Rows.rootsBothRow.wf (OpenSpec.ofChange Rows.rootsBothSpec)) = true := by kernel_rfl
theorem rootsBoth_q4 : (Tryz.f4.params.all (Tryz.pinned.checked.prog.readableRec ·)) = true := by kernel_rfl
theorem rootsBoth_q5 : (namedTie Tryz.pinned.checked.prog Rows.rootsBothRow.named Rows.rootsBothSpec.vars) = true := by kernel_rfl
theorem rootsBoth_q6 : ((Rows.rootsBothRow.stops == [])) = true := by kernel_rfl
theorem rootsBoth_q8 : ((Rows.rootsBothRow.knobs == [])) = true := by kernel_rfl
theorem rootsBoth_q10 : ((Rows.rootsBothRow.inPlace == Tryz.pinned.checked.prog.inPlace 4)) = true := by kernel_rfl
theorem rootsBoth_q11 : ((Rows.rootsBothRow.unfollowed == Tryz.pinned.checked.prog.unfollowed 4)) = true := by kernel_rfl
theorem rootsBoth_q12 : ((Rows.rootsBothRow.recurses == Tryz.pinned.checked.prog.recurses 4)) = true := by kernel_rfl
theorem rootsBoth_q13 : ((Rows.rootsBothRow.named == Tryz.pinned.checked.prog.varsNamed 4)) = true := by kernel_rfl
theorem rootsBoth_q14 : ((Rows.rootsBothRow.maps == (Tryz.f4.params.toList ++ Rows.rootsBothSpec.plain.varTypes Tryz.pinned.checked.prog).any (Tryz.pinned.checked.prog.mapsRec ·))) = true := by kernel_rfl
theorem rootsBoth_q15 : ((Rows.rootsBothRow.ifaces == (Tryz.f4.params.toList ++ Rows.rootsBothSpec.plain.varTypes Tryz.pinned.checked.prog).any (Tryz.pinned.checked.prog.ifacesRec ·))) = true := by kernel_rfl
theorem rootsBoth_q16 : ((Rows.rootsBothRow.mapsOut == Tryz.pinned.checked.prog.mapsAmong Tryz.f4.resultTypes.toList)) = true := by kernel_rfl
theorem rootsBoth_q17 : ((Rows.rootsBothRow.loops == (Tryz.f4.params.toList ++ Rows.rootsBothSpec.plain.varTypes Tryz.pinned.checked.prog).any (Tryz.pinned.checked.prog.loopsFrom ·))) = true := by kernel_rfl
theorem rootsBoth_q18 : ((Rows.rootsBothRow.wideKeys == (Tryz.f4.params.toList ++ Rows.rootsBothSpec.plain.varTypes Tryz.pinned.checked.prog ++ Tryz.f4.resultTypes.toList).any (Tryz.pinned.checked.prog.wideKeysFrom ·))) = true := by kernel_rfl
theorem rootsBoth_q19 : (Rows.rootsBothSpec.vars.all (Tryz.pinned.checked.prog.varReadable ·)) = true := by kernel_rfl
theorem rootsBoth_q20 : (Tryz.f4.resultTypes.all (fun t => Tryz.pinned.checked.prog.readableRec t && decide (t < Tryz.pinned.checked.prog.types.size))) = true := by kernel_rfl
theorem rootsBoth_q21 : ((Rows.rootsBothRow.ifacesOut == Tryz.f4.resultTypes.toList.any (Tryz.pinned.checked.prog.ifacesRec ·))) = true := by kernel_rfl
theorem rootsBoth_q22 : ((Rows.rootsBothRow.loopsOut == Tryz.f4.resultTypes.toList.any (Tryz.pinned.checked.prog.loopsFrom ·))) = true := by kernel_rfl
theorem rootsBoth_q24 : (Rows.rootsBothRow.shortTexts.isNone) = true := by kernel_rfl
theorem rootsBoth_q29 : ((Rows.rootsBothRow.kinds == (if Rows.rootsBothRow.domain.isEmpty then [] else Tryz.f4.params.toList.map fun t => match Tryz.pinned.checked.prog.underlying t with | some (.int k) => some k | _ => none))) = true := by kernel_rfl
theorem rootsBoth_q30 : ((Rows.rootsBothRow.pinned == Rows.rootsBothRow.pinnedBy)) = true := by kernel_rfl
theorem rootsBoth_q31 : ((Rows.rootsBothRow.veiled == (Tryz.f4.params.toList ++ Rows.rootsBothSpec.plain.varTypes Tryz.pinned.checked.prog ++ Tryz.f4.resultTypes.toList).any (Tryz.pinned.checked.prog.veiledRec ·))) = true := by kernel_rfl
theorem rootsBoth_q32 : (Rows.rootsBothRow.veiledFits Tryz.pinned.checked.prog Tryz.f4.params.toList (Tryz.f4.params.toList ++ Rows.rootsBothSpec.plain.varTypes Tryz.pinned.checked.prog ++ Tryz.f4.resultTypes.toList)) = true := by kernel_rfl
set_option maxRecDepth 100000 in
theorem rootsBoth_closed : joinedFacts Tryz.pinned.checked.prog 4 Tryz.f4 Rows.rootsBothSpec Rows.rootsBothRow = true := (band (band (band (band (band (band (band (band (band (band (band (band (band (band (band (band (band (band (band (band (band (band (band (band (band (band (band (band (band (band (band rootsBoth_q1 wide_2) wide_3) rootsBoth_q4) rootsBoth_q5) rootsBoth_q6) wide_7) rootsBoth_q8) wide_9) rootsBoth_q10) rootsBoth_q11) rootsBoth_q12) rootsBoth_q13) rootsBoth_q14) rootsBoth_q15) rootsBoth_q16) rootsBoth_q17) rootsBoth_q18) rootsBoth_q19) rootsBoth_q20) rootsBoth_q21) rootsBoth_q22) wide_23) rootsBoth_q24) wide_25) wide_26) wide_27) wide_28) rootsBoth_q29) rootsBoth_q30) rootsBoth_q31) rootsBoth_q32)
theorem rootsBoth_wft : Rows.rootsBothRow.wfByText (OpenSpec.ofChange Rows.rootsBothSpec) = true := by kernel_rfl
theorem rootsBoth_goes : false = Rows.rootsBothRow.goesBy Tryz.pinned.checked.prog := by kernel_rfl
theorem rootsBoth_row : Rows.RootsBothSaid :=
  OpenClaim.holds_of_wide 4 Tryz.f4 rfl rfl rfl rfl rfl rfl rfl ⟨rfl, rfl, rfl, rfl, rfl⟩ rfl rfl rfl rfl rfl (by kernel_rfl) Tryz.func4 rootsBoth_closed
    (of_decide_eq_true (by kernel_rfl)) (by unfold Func.isWrapper; first | (rw [if_pos (by decide +kernel)]; kernel_rfl) | (rw [if_neg (by decide +kernel)]; exact ⟨rfl, rfl⟩))
    (fun os started H enc _ => rootsBoth_lifted os started H enc)
theorem rootsBoth_holds : Rows.RootsBothCardSaid :=
  Claim7.holds_tied_plain_at .later [] [.data, .data, .data] true (true, "eb200b34f50dd3952de1662d94e6dcdd3699821c4ce947b73a861d35f98d002f") false rootsBoth_row (fun _ h => by cases h) rootsBoth_wft (fun _ h => by cases h) rootsBoth_row_tie rfl ⟨rfl, rfl⟩ wide_main rfl
    (fun f fn hf hfn => by
      obtain rfl : f = 4 := Option.some.inj ((show Tryz.prog.funcNamed "gusset/gussetlaw05.RootsBoth" = some 4 by kernel_rfl).symm.trans hf) |>.symm
      obtain rfl : fn = Tryz.f4 := (Option.some.inj (Tryz.func4.symm.trans hfn)).symm
      exact ⟨wide_looks, fun j t ht => by
        rw [Tryz.params4] at ht
        have hm : t ∈ [24, 3] := by simpa using Array.mem_of_getElem? ht
        have hall : ([24, 3].all fun u => !Tryz.prog.wantsStandIn u) = true := by kernel_rfl
        exact (show Tryz.prog.wantsStandIn t = false by simpa using List.all_eq_true.1 hall t hm)⟩)
    rootsBoth_goes
end Go.Proofs.YtaflakcemiilaaaGreatDoor
