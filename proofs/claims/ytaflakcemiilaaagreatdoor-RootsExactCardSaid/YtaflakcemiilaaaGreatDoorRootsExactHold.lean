
/- RootsExact: the row and its card hold. No condition. -/
import Derived.Test.YtaflakcemiilaaaGreatDoorLiftRq
import Derived.Test.YtaflakcemiilaaaGreatDoorRowP
import Derived.Test.YtaflakcemiilaaaGreatDoorExactR
namespace Go.Proofs.YtaflakcemiilaaaGreatDoor
open Go.ChangeShapes Go.WideShapes Go.ChangeAt Go.RowKit
set_option maxRecDepth 100000 in
theorem rootsExact_lifted (os : Os) (started : os.Started) (H : Type) (enc : TypeId × Value → H) :
    ReturnsInHanded {} Tryz.checked os 6 .any (fun w args => (Rows.rootsExactSpec.pre enc Tryz.prog Tryz.f6 Rows.rootsExactRow.domain false w args ∧ laidMetH Tryz.prog Rows.rootsExactRow.laid w) ∧ sizedMet enc Tryz.prog Tryz.f6 (OpenSpec.ofChange Rows.rootsExactSpec) false w args)
      (Rows.rootsExactSpec.post enc Tryz.prog Tryz.f6 false true false false) := by
  refine returnsInHanded_of_change_and (C := Tryz.checked) (X := fun w _ => laidMetH Tryz.prog Rows.rootsExactRow.laid w) (fun _ _ _ hh h => h.of_heap hh) Tryz.own started (by kernel_rfl) Tryz.func6
    (ChangeSpec.witness_shaped (enc := enc) (C := Tryz.checked) (os := os) (X := fun w _ => laidMetH Tryz.prog Rows.rootsExactRow.laid w) false (World.laidAll Tryz.prog os Rows.rootsExactRow.laid) #[.agg #[.bool false, .slice none 0 0, .slice none 0 0], .agg #[.bool false, .slice none 0 0, .slice none 0 0]] 8 (World.laidAll_os _ _ _)
      (World.shaped_of_ZipB (by kernel_rfl) (by kernel_rfl)) (by kernel_rfl) (by kernel_rfl) (by kernel_rfl)
      (by rw [MakeChecks.laidMetH_plain _ _ _ (by kernel_rfl)]; exact laidMet_laidAll _ (by kernel_rfl) (by kernel_rfl))) ?_
  intro W base args ds gs before hval0 hW hc _ hL _
  have hval : ∀ (j : Nat) t v, Tryz.f6.params[j]? = some t → args[j]? = some v → Value.okWide Tryz.prog W .any base t v := hval0
  have hW' := hW
  obtain ⟨p, q, hA0, hV, rfl, hfz, hnd⟩ := hW
  have hA : DataW.TrodAll enc Tryz.prog W 0 (fun _ => true) true Tryz.f6.params.toList args.toList ds p := hA0
  rw [Tryz.params6] at hA hval
  obtain ⟨v0, v1, d0, d1, p0, p1, rfl, rfl, rfl, h0, h1⟩ := trodAll_two hA
  obtain ⟨rfl, rfl⟩ := trodVars_none hV
  obtain ⟨b0, u0, k0, f0, v0', k0', f0', rfl, HW0, HF0, HW0', HF0'⟩ := open_g (hval 0 77 v0 rfl rfl) h0
  obtain ⟨b1, u1, k1, f1, v1', k1', f1', rfl, HW1, HF1, HW1', HF1'⟩ := open_g (hval 1 77 v1 rfl rfl) h1
  clear hA0 hval0
  simp only [List.append_nil] at hW'
  have HT : Hid (Tab W) := Lib.hid (tab_of hL)
  refine (exr_law b0 u0 k0 f0 v0' k0' f0' b1 u1 k1 f1 v1' k1' f1' W HW0 HF0 HW0' HF0' HW1 HF1 HW1' HF1' HT).mono fun e W' ⟨he, hb⟩ => ?_
  subst he
  exact ⟨_, rfl, post_of_below (pv := []) hW' (fun _ _ _ => trodAll_mk1 (shut_bool Tryz.underlying4 true)) (fun sp hs => trodAll_mk2 (stays (by kernel_rfl) (by decide +kernel) h0 hb (fun x hx => hW'.lt x (by simp [hx])) sp (fun x hx => hs x (by simp [hx]))) (stays (by kernel_rfl) (by decide +kernel) h1 hb (fun x hx => hW'.lt x (by simp [hx])) sp (fun x hx => hs x (by simp [hx])))) (fun _ _ => rfl) (by simp) hb (ok_one (by kernel_rfl) rfl (okWide_bool_mk Tryz.underlying4 true))⟩
theorem rootsExact_q1 : (Rows.rootsExactRow.wf (OpenSpec.ofChange Rows.rootsExactSpec)) = true := by kernel_rfl
theorem rootsExact_q4 : (Tryz.f6.params.all (Tryz.pinned.checked.prog.readableRec ·)) = true := by kernel_rfl
theorem rootsExact_q5 : (namedTie Tryz.pinned.checked.prog Rows.rootsExactRow.named Rows.rootsExactSpec.vars) = true := by kernel_rfl
theorem rootsExact_q6 : ((Rows.rootsExactRow.stops == [])) = true := by kernel_rfl
theorem rootsExact_q8 : ((Rows.rootsExactRow.knobs == [])) = true := by kernel_rfl
theorem rootsExact_q10 : ((Rows.rootsExactRow.inPlace == Tryz.pinned.checked.prog.inPlace 6)) = true := by kernel_rfl
theorem rootsExact_q11 : ((Rows.rootsExactRow.unfollowed == Tryz.pinned.checked.prog.unfollowed 6)) = true := by kernel_rfl
theorem rootsExact_q12 : ((Rows.rootsExactRow.recurses == Tryz.pinned.checked.prog.recurses 6)) = true := by kernel_rfl
theorem rootsExact_q13 : ((Rows.rootsExactRow.named == Tryz.pinned.checked.prog.varsNamed 6)) = true := by kernel_rfl
theorem rootsExact_q14 : ((Rows.rootsExactRow.maps == (Tryz.f6.params.toList ++ Rows.rootsExactSpec.plain.varTypes Tryz.pinned.checked.prog).any (Tryz.pinned.checked.prog.mapsRec ·))) = true := by kernel_rfl
theorem rootsExact_q15 : ((Rows.rootsExactRow.ifaces == (Tryz.f6.params.toList ++ Rows.rootsExactSpec.plain.varTypes Tryz.pinned.checked.prog).any (Tryz.pinned.checked.prog.ifacesRec ·))) = true := by kernel_rfl
theorem rootsExact_q16 : ((Rows.rootsExactRow.mapsOut == Tryz.pinned.checked.prog.mapsAmong Tryz.f6.resultTypes.toList)) = true := by kernel_rfl
theorem rootsExact_q17 : ((Rows.rootsExactRow.loops == (Tryz.f6.params.toList ++ Rows.rootsExactSpec.plain.varTypes Tryz.pinned.checked.prog).any (Tryz.pinned.checked.prog.loopsFrom ·))) = true := by kernel_rfl
theorem rootsExact_q18 : ((Rows.rootsExactRow.wideKeys == (Tryz.f6.params.toList ++ Rows.rootsExactSpec.plain.varTypes Tryz.pinned.checked.prog ++ Tryz.f6.resultTypes.toList).any (Tryz.pinned.checked.prog.wideKeysFrom ·))) = true := by kernel_rfl
theorem rootsExact_q19 : (Rows.rootsExactSpec.vars.all (Tryz.pinned.checked.prog.varReadable ·)) = true := by kernel_rfl
theorem rootsExact_q20 : (Tryz.f6.resultTypes.all (fun t => Tryz.pinned.checked.prog.readableRec t && decide (t < Tryz.pinned.checked.prog.types.size))) = true := by kernel_rfl
theorem rootsExact_q21 : ((Rows.rootsExactRow.ifacesOut == Tryz.f6.resultTypes.toList.any (Tryz.pinned.checked.prog.ifacesRec ·))) = true := by kernel_rfl
theorem rootsExact_q22 : ((Rows.rootsExactRow.loopsOut == Tryz.f6.resultTypes.toList.any (Tryz.pinned.checked.prog.loopsFrom ·))) = true := by kernel_rfl
theorem rootsExact_q24 : (Rows.rootsExactRow.shortTexts.isNone) = true := by kernel_rfl
theorem rootsExact_q29 : ((Rows.rootsExactRow.kinds == (if Rows.rootsExactRow.domain.isEmpty then [] else Tryz.f6.params.toList.map fun t => match Tryz.pinned.checked.prog.underlying t with | some (.int k) => some k | _ => none))) = true := by kernel_rfl
theorem rootsExact_q30 : ((Rows.rootsExactRow.pinned == Rows.rootsExactRow.pinnedBy)) = true := by kernel_rfl
theorem rootsExact_q31 : ((Rows.rootsExactRow.veiled == (Tryz.f6.params.toList ++ Rows.rootsExactSpec.plain.varTypes Tryz.pinned.checked.prog ++ Tryz.f6.resultTypes.toList).any (Tryz.pinned.checked.prog.veiledRec ·))) = true := by kernel_rfl
theorem rootsExact_q32 : (Rows.rootsExactRow.veiledFits Tryz.pinned.checked.prog Tryz.f6.params.toList (Tryz.f6.params.toList ++ Rows.rootsExactSpec.plain.varTypes Tryz.pinned.checked.prog ++ Tryz.f6.resultTypes.toList)) = true := by kernel_rfl
set_option maxRecDepth 100000 in
theorem rootsExact_closed : joinedFacts Tryz.pinned.checked.prog 6 Tryz.f6 Rows.rootsExactSpec Rows.rootsExactRow = true := (band (band (band (band (band (band (band (band (band (band (band (band (band (band (band (band (band (band (band (band (band (band (band (band (band (band (band (band (band (band (band rootsExact_q1 wide_2) wide_3) rootsExact_q4) rootsExact_q5) rootsExact_q6) wide_7) rootsExact_q8) wide_9) rootsExact_q10) rootsExact_q11) rootsExact_q12) rootsExact_q13) rootsExact_q14) rootsExact_q15) rootsExact_q16) rootsExact_q17) rootsExact_q18) rootsExact_q19) rootsExact_q20) rootsExact_q21) rootsExact_q22) wide_23) rootsExact_q24) wide_25) wide_26) wide_27) wide_28) rootsExact_q29) rootsExact_q30) rootsExact_q31) rootsExact_q32)
theorem rootsExact_wft : Rows.rootsExactRow.wfByText (OpenSpec.ofChange Rows.rootsExactSpec) = true := by kernel_rfl
theorem rootsExact_goes : false = Rows.rootsExactRow.goesBy Tryz.pinned.checked.prog := by kernel_rfl
theorem rootsExact_row : Rows.RootsExactSaid :=
  OpenClaim.holds_of_wide 6 Tryz.f6 rfl rfl rfl rfl rfl rfl rfl ⟨rfl, rfl, rfl, rfl, rfl⟩ rfl rfl rfl rfl rfl (by kernel_rfl) Tryz.func6 rootsExact_closed
    (of_decide_eq_true (by kernel_rfl)) (by unfold Func.isWrapper; first | (rw [if_pos (by decide +kernel)]; kernel_rfl) | (rw [if_neg (by decide +kernel)]; exact ⟨rfl, rfl⟩))
    (fun os started H enc _ => rootsExact_lifted os started H enc)
theorem rootsExact_holds : Rows.RootsExactCardSaid :=
  Claim7.holds_tied_plain_at .later [] [.data, .data, .data] true (true, "eb200b34f50dd3952de1662d94e6dcdd3699821c4ce947b73a861d35f98d002f") false rootsExact_row (fun _ h => by cases h) rootsExact_wft (fun _ h => by cases h) rootsExact_row_tie rfl ⟨rfl, rfl⟩ wide_main rfl
    (fun f fn hf hfn => by
      obtain rfl : f = 6 := Option.some.inj ((show Tryz.prog.funcNamed "gusset/gussetlaw05.RootsExact" = some 6 by kernel_rfl).symm.trans hf) |>.symm
      obtain rfl : fn = Tryz.f6 := (Option.some.inj (Tryz.func6.symm.trans hfn)).symm
      exact ⟨wide_looks, fun j t ht => by
        rw [Tryz.params6] at ht
        have hm : t ∈ [77, 77] := by simpa using Array.mem_of_getElem? ht
        have hall : ([77, 77].all fun u => !Tryz.prog.wantsStandIn u) = true := by kernel_rfl
        exact (show Tryz.prog.wantsStandIn t = false by simpa using List.all_eq_true.1 hall t hm)⟩)
    rootsExact_goes
end Go.Proofs.YtaflakcemiilaaaGreatDoor
