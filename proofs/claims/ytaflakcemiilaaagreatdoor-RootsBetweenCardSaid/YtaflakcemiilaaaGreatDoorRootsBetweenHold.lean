
/- RootsBetween: the row and its card hold. No condition. -/
import Derived.Test.YtaflakcemiilaaaGreatDoorLiftRq
import Derived.Test.YtaflakcemiilaaaGreatDoorRowP
import Derived.Test.YtaflakcemiilaaaGreatDoorBtwR
namespace Go.Proofs.YtaflakcemiilaaaGreatDoor
open Go.ChangeShapes Go.WideShapes Go.ChangeAt Go.RowKit
set_option maxRecDepth 100000 in
theorem rootsBetween_lifted (os : Os) (started : os.Started) (H : Type) (enc : TypeId × Value → H) :
    ReturnsInHanded {} Tryz.checked os 9 .any (fun w args => (Rows.rootsBetweenSpec.pre enc Tryz.prog Tryz.f9 Rows.rootsBetweenRow.domain false w args ∧ laidMetH Tryz.prog Rows.rootsBetweenRow.laid w) ∧ sizedMet enc Tryz.prog Tryz.f9 (OpenSpec.ofChange Rows.rootsBetweenSpec) false w args)
      (Rows.rootsBetweenSpec.post enc Tryz.prog Tryz.f9 false true false false) := by
  refine returnsInHanded_of_change_and (C := Tryz.checked) (X := fun w _ => laidMetH Tryz.prog Rows.rootsBetweenRow.laid w) (fun _ _ _ hh h => h.of_heap hh) Tryz.own started (by kernel_rfl) Tryz.func9
    (ChangeSpec.witness_shaped (enc := enc) (C := Tryz.checked) (os := os) (X := fun w _ => laidMetH Tryz.prog Rows.rootsBetweenRow.laid w) false (World.laidAll Tryz.prog os Rows.rootsBetweenRow.laid) #[.agg #[.bool false, .slice none 0 0, .slice none 0 0], .int .u8 0] 8 (World.laidAll_os _ _ _)
      (World.shaped_of_ZipB (by kernel_rfl) (by kernel_rfl)) (by kernel_rfl) (by kernel_rfl) (by kernel_rfl)
      (by rw [MakeChecks.laidMetH_plain _ _ _ (by kernel_rfl)]; exact laidMet_laidAll _ (by kernel_rfl) (by kernel_rfl))) ?_
  intro W base args ds gs before hval0 hW hc _ hL _
  have hval : ∀ (j : Nat) t v, Tryz.f9.params[j]? = some t → args[j]? = some v → Value.okWide Tryz.prog W .any base t v := hval0
  have hW' := hW
  obtain ⟨p, q, hA0, hV, rfl, hfz, hnd⟩ := hW
  have hA : DataW.TrodAll enc Tryz.prog W 0 (fun _ => true) true Tryz.f9.params.toList args.toList ds p := hA0
  rw [Tryz.params9] at hA hval
  obtain ⟨v0, v1, d0, d1, p0, p1, rfl, rfl, rfl, h0, h1⟩ := trodAll_two hA
  obtain ⟨rfl, rfl⟩ := trodVars_none hV
  obtain ⟨n1, rfl, rfl, rfl, w1⟩ := open_int Tryz.underlying5 (hval 1 5 v1 rfl rfl) h1
  obtain ⟨lo1, hi1⟩ := u8_wf w1
  obtain ⟨b0, u0, k0, f0, v0', k0', f0', rfl, HW0, HF0, HW0', HF0'⟩ := open_g (hval 0 77 v0 rfl rfl) h0
  clear hA0 hval0
  simp only [List.append_nil] at hW'
  have HT : Hid (Tab W) := Lib.hid (tab_of hL)
  refine (btr_law b0 u0 k0 f0 v0' k0' f0' n1 W HW0 HF0 HW0' HF0' lo1 hi1 HT).mono fun e W' ⟨he, hb⟩ => ?_
  subst he
  exact ⟨_, rfl, post_of_below (pv := []) hW' (fun _ _ _ => trodAll_mk1 (shut_bool Tryz.underlying4 true)) (fun sp hs => trodAll_mk2 (stays (by kernel_rfl) (by decide +kernel) h0 hb (fun x hx => hW'.lt x (by simp [hx])) sp (fun x hx => hs x (by simp [hx]))) (shut_int Tryz.underlying5 w1)) (fun _ _ => rfl) (by simp) hb (ok_one (by kernel_rfl) rfl (okWide_bool_mk Tryz.underlying4 true))⟩
theorem rootsBetween_q1 : (Rows.rootsBetweenRow.wf (OpenSpec.ofChange Rows.rootsBetweenSpec)) = true := by kernel_rfl
theorem rootsBetween_q4 : (Tryz.f9.params.all (Tryz.pinned.checked.prog.readableRec ·)) = true := by kernel_rfl
theorem rootsBetween_q5 : (namedTie Tryz.pinned.checked.prog Rows.rootsBetweenRow.named Rows.rootsBetweenSpec.vars) = true := by kernel_rfl
theorem rootsBetween_q6 : ((Rows.rootsBetweenRow.stops == [])) = true := by kernel_rfl
theorem rootsBetween_q8 : ((Rows.rootsBetweenRow.knobs == [])) = true := by kernel_rfl
theorem rootsBetween_q10 : ((Rows.rootsBetweenRow.inPlace == Tryz.pinned.checked.prog.inPlace 9)) = true := by kernel_rfl
theorem rootsBetween_q11 : ((Rows.rootsBetweenRow.unfollowed == Tryz.pinned.checked.prog.unfollowed 9)) = true := by kernel_rfl
theorem rootsBetween_q12 : ((Rows.rootsBetweenRow.recurses == Tryz.pinned.checked.prog.recurses 9)) = true := by kernel_rfl
theorem rootsBetween_q13 : ((Rows.rootsBetweenRow.named == Tryz.pinned.checked.prog.varsNamed 9)) = true := by kernel_rfl
theorem rootsBetween_q14 : ((Rows.rootsBetweenRow.maps == (Tryz.f9.params.toList ++ Rows.rootsBetweenSpec.plain.varTypes Tryz.pinned.checked.prog).any (Tryz.pinned.checked.prog.mapsRec ·))) = true := by kernel_rfl
theorem rootsBetween_q15 : ((Rows.rootsBetweenRow.ifaces == (Tryz.f9.params.toList ++ Rows.rootsBetweenSpec.plain.varTypes Tryz.pinned.checked.prog).any (Tryz.pinned.checked.prog.ifacesRec ·))) = true := by kernel_rfl
theorem rootsBetween_q16 : ((Rows.rootsBetweenRow.mapsOut == Tryz.pinned.checked.prog.mapsAmong Tryz.f9.resultTypes.toList)) = true := by kernel_rfl
theorem rootsBetween_q17 : ((Rows.rootsBetweenRow.loops == (Tryz.f9.params.toList ++ Rows.rootsBetweenSpec.plain.varTypes Tryz.pinned.checked.prog).any (Tryz.pinned.checked.prog.loopsFrom ·))) = true := by kernel_rfl
theorem rootsBetween_q18 : ((Rows.rootsBetweenRow.wideKeys == (Tryz.f9.params.toList ++ Rows.rootsBetweenSpec.plain.varTypes Tryz.pinned.checked.prog ++ Tryz.f9.resultTypes.toList).any (Tryz.pinned.checked.prog.wideKeysFrom ·))) = true := by kernel_rfl
theorem rootsBetween_q19 : (Rows.rootsBetweenSpec.vars.all (Tryz.pinned.checked.prog.varReadable ·)) = true := by kernel_rfl
theorem rootsBetween_q20 : (Tryz.f9.resultTypes.all (fun t => Tryz.pinned.checked.prog.readableRec t && decide (t < Tryz.pinned.checked.prog.types.size))) = true := by kernel_rfl
theorem rootsBetween_q21 : ((Rows.rootsBetweenRow.ifacesOut == Tryz.f9.resultTypes.toList.any (Tryz.pinned.checked.prog.ifacesRec ·))) = true := by kernel_rfl
theorem rootsBetween_q22 : ((Rows.rootsBetweenRow.loopsOut == Tryz.f9.resultTypes.toList.any (Tryz.pinned.checked.prog.loopsFrom ·))) = true := by kernel_rfl
theorem rootsBetween_q24 : (Rows.rootsBetweenRow.shortTexts.isNone) = true := by kernel_rfl
theorem rootsBetween_q29 : ((Rows.rootsBetweenRow.kinds == (if Rows.rootsBetweenRow.domain.isEmpty then [] else Tryz.f9.params.toList.map fun t => match Tryz.pinned.checked.prog.underlying t with | some (.int k) => some k | _ => none))) = true := by kernel_rfl
theorem rootsBetween_q30 : ((Rows.rootsBetweenRow.pinned == Rows.rootsBetweenRow.pinnedBy)) = true := by kernel_rfl
theorem rootsBetween_q31 : ((Rows.rootsBetweenRow.veiled == (Tryz.f9.params.toList ++ Rows.rootsBetweenSpec.plain.varTypes Tryz.pinned.checked.prog ++ Tryz.f9.resultTypes.toList).any (Tryz.pinned.checked.prog.veiledRec ·))) = true := by kernel_rfl
theorem rootsBetween_q32 : (Rows.rootsBetweenRow.veiledFits Tryz.pinned.checked.prog Tryz.f9.params.toList (Tryz.f9.params.toList ++ Rows.rootsBetweenSpec.plain.varTypes Tryz.pinned.checked.prog ++ Tryz.f9.resultTypes.toList)) = true := by kernel_rfl
set_option maxRecDepth 100000 in
theorem rootsBetween_closed : joinedFacts Tryz.pinned.checked.prog 9 Tryz.f9 Rows.rootsBetweenSpec Rows.rootsBetweenRow = true := (band (band (band (band (band (band (band (band (band (band (band (band (band (band (band (band (band (band (band (band (band (band (band (band (band (band (band (band (band (band (band rootsBetween_q1 wide_2) wide_3) rootsBetween_q4) rootsBetween_q5) rootsBetween_q6) wide_7) rootsBetween_q8) wide_9) rootsBetween_q10) rootsBetween_q11) rootsBetween_q12) rootsBetween_q13) rootsBetween_q14) rootsBetween_q15) rootsBetween_q16) rootsBetween_q17) rootsBetween_q18) rootsBetween_q19) rootsBetween_q20) rootsBetween_q21) rootsBetween_q22) wide_23) rootsBetween_q24) wide_25) wide_26) wide_27) wide_28) rootsBetween_q29) rootsBetween_q30) rootsBetween_q31) rootsBetween_q32)
theorem rootsBetween_wft : Rows.rootsBetweenRow.wfByText (OpenSpec.ofChange Rows.rootsBetweenSpec) = true := by kernel_rfl
theorem rootsBetween_goes : false = Rows.rootsBetweenRow.goesBy Tryz.pinned.checked.prog := by kernel_rfl
theorem rootsBetween_row : Rows.RootsBetweenSaid :=
  OpenClaim.holds_of_wide 9 Tryz.f9 rfl rfl rfl rfl rfl rfl rfl ⟨rfl, rfl, rfl, rfl, rfl⟩ rfl rfl rfl rfl rfl (by kernel_rfl) Tryz.func9 rootsBetween_closed
    (of_decide_eq_true (by kernel_rfl)) (by unfold Func.isWrapper; first | (rw [if_pos (by decide +kernel)]; kernel_rfl) | (rw [if_neg (by decide +kernel)]; exact ⟨rfl, rfl⟩))
    (fun os started H enc _ => rootsBetween_lifted os started H enc)
theorem rootsBetween_holds : Rows.RootsBetweenCardSaid :=
  Claim7.holds_tied_plain_at .later [] [.data, .data, .data] true (true, "eb200b34f50dd3952de1662d94e6dcdd3699821c4ce947b73a861d35f98d002f") false rootsBetween_row (fun _ h => by cases h) rootsBetween_wft (fun _ h => by cases h) rootsBetween_row_tie rfl ⟨rfl, rfl⟩ wide_main rfl
    (fun f fn hf hfn => by
      obtain rfl : f = 9 := Option.some.inj ((show Tryz.prog.funcNamed "gusset/gussetlaw05.RootsBetween" = some 9 by kernel_rfl).symm.trans hf) |>.symm
      obtain rfl : fn = Tryz.f9 := (Option.some.inj (Tryz.func9.symm.trans hfn)).symm
      exact ⟨wide_looks, fun j t ht => by
        rw [Tryz.params9] at ht
        have hm : t ∈ [77, 5] := by simpa using Array.mem_of_getElem? ht
        have hall : ([77, 5].all fun u => !Tryz.prog.wantsStandIn u) = true := by kernel_rfl
        exact (show Tryz.prog.wantsStandIn t = false by simpa using List.all_eq_true.1 hall t hm)⟩)
    rootsBetween_goes
end Go.Proofs.YtaflakcemiilaaaGreatDoor
