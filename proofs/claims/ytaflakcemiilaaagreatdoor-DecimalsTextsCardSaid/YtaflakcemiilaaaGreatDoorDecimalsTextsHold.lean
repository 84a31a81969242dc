
/- DecimalsTexts: the row and its card hold. No condition. -/
import Derived.Test.YtaflakcemiilaaaGreatDoorLiftTq
import Derived.Test.YtaflakcemiilaaaGreatDoorRowP
import Derived.Test.YtaflakcemiilaaaGreatDoorTxD
set_option linter.unusedVariables false
set_option linter.unusedSimpArgs false
namespace Go.Proofs.YtaflakcemiilaaaGreatDoor
open Go.ChangeShapes Go.WideShapes Go.ChangeAt Go.RowKit
set_option maxRecDepth 100000 in
theorem decimalsTexts_lifted (os : Os) (started : os.Started) (H : Type) (enc : TypeId × Value → H) :
    ReturnsInHanded {} Tryz.checked os 12 .any (fun w args => (Rows.decimalsTextsSpec.pre enc Tryz.prog Tryz.f12 Rows.decimalsTextsRow.domain false w args ∧ laidMetH Tryz.prog Rows.decimalsTextsRow.laid w) ∧ sizedMet enc Tryz.prog Tryz.f12 (OpenSpec.ofChange Rows.decimalsTextsSpec) false w args)
      (Rows.decimalsTextsSpec.post enc Tryz.prog Tryz.f12 false true false false) := by
  refine returnsInHanded_of_change_and (C := Tryz.checked) (X := fun w _ => laidMetH Tryz.prog Rows.decimalsTextsRow.laid w) (fun _ _ _ hh h => h.of_heap hh) Tryz.own started (by kernel_rfl) Tryz.func12
    (ChangeSpec.witness_shaped (enc := enc) (C := Tryz.checked) (os := os) (X := fun w _ => laidMetH Tryz.prog Rows.decimalsTextsRow.laid w) false (World.laidAll Tryz.prog os Rows.decimalsTextsRow.laid) #[.agg #[.bool false, .slice none 0 0, .slice none 0 0], .int .i64 0, .int .i64 0] 8 (World.laidAll_os _ _ _)
      (World.shaped_of_ZipB (by kernel_rfl) (by kernel_rfl)) (by kernel_rfl) (by kernel_rfl) (by kernel_rfl)
      (by rw [MakeChecks.laidMetH_plain _ _ _ (by kernel_rfl)]; exact laidMet_laidAll _ (by kernel_rfl) (by kernel_rfl))) ?_
  intro W base args ds gs before hval0 hW hc _ hL _
  have hval : ∀ (j : Nat) t v, Tryz.f12.params[j]? = some t → args[j]? = some v → Value.okWide Tryz.prog W .any base t v := hval0
  have hW' := hW
  obtain ⟨p, q, hA0, hV, rfl, hfz, hnd⟩ := hW
  have hA : DataW.TrodAll enc Tryz.prog W 0 (fun _ => true) true Tryz.f12.params.toList args.toList ds p := hA0
  rw [Tryz.params12] at hA hval
  obtain ⟨v0, v1, v2, d0, d1, d2, p0, p1, p2, rfl, rfl, rfl, h0, h1, h2⟩ := trodAll_three hA
  obtain ⟨rfl, rfl⟩ := trodVars_none hV
  obtain ⟨n1, rfl, rfl, rfl, w1⟩ := open_int Tryz.underlying3 (hval 1 3 v1 rfl rfl) h1
  obtain ⟨lo1, hi1⟩ := i64_wf w1
  obtain ⟨n2, rfl, rfl, rfl, w2⟩ := open_int Tryz.underlying3 (hval 2 3 v2 rfl rfl) h2
  obtain ⟨lo2, hi2⟩ := i64_wf w2
  obtain ⟨b0, u0, k0, f0, v0', k0', f0', rfl, HW0, HF0, HW0', HF0'⟩ := open_g (hval 0 77 v0 rfl rfl) h0
  clear hA0 hval0
  simp only [List.append_nil] at hW'
  have HT : Hid (Tab W) := Lib.hid (tab_of hL)
  refine (texts_law b0 u0 k0 f0 v0' k0' f0' n1 n2 W HW0 HF0 HW0' HF0' HT).mono fun e W' ⟨he, hb⟩ => ?_
  subst he
  exact ⟨_, rfl, post_of_below (pv := []) hW' (fun _ _ _ => trodAll_mk1 (shut_bool Tryz.underlying4 true)) (fun sp hs => trodAll_mk3 (stays (by kernel_rfl) (by decide +kernel) h0 hb (fun x hx => hW'.lt x (by simp [hx])) sp (fun x hx => hs x (by simp [hx]))) (shut_int Tryz.underlying3 w1) (shut_int Tryz.underlying3 w2)) (fun _ _ => rfl) (by simp) hb (ok_one (by kernel_rfl) rfl (okWide_bool_mk Tryz.underlying4 true))⟩
theorem decimalsTexts_q1 : (Rows.decimalsTextsRow.wf (OpenSpec.ofChange Rows.decimalsTextsSpec)) = true := by kernel_rfl
theorem decimalsTexts_q4 : (Tryz.f12.params.all (Tryz.pinned.checked.prog.readableRec ·)) = true := by kernel_rfl
theorem decimalsTexts_q5 : (namedTie Tryz.pinned.checked.prog Rows.decimalsTextsRow.named Rows.decimalsTextsSpec.vars) = true := by kernel_rfl
theorem decimalsTexts_q6 : ((Rows.decimalsTextsRow.stops == [])) = true := by kernel_rfl
theorem decimalsTexts_q8 : ((Rows.decimalsTextsRow.knobs == [])) = true := by kernel_rfl
theorem decimalsTexts_q10 : ((Rows.decimalsTextsRow.inPlace == Tryz.pinned.checked.prog.inPlace 12)) = true := by kernel_rfl
theorem decimalsTexts_q11 : ((Rows.decimalsTextsRow.unfollowed == Tryz.pinned.checked.prog.unfollowed 12)) = true := by kernel_rfl
theorem decimalsTexts_q12 : ((Rows.decimalsTextsRow.recurses == Tryz.pinned.checked.prog.recurses 12)) = true := by kernel_rfl
theorem decimalsTexts_q13 : ((Rows.decimalsTextsRow.named == Tryz.pinned.checked.prog.varsNamed 12)) = true := by kernel_rfl
theorem decimalsTexts_q14 : ((Rows.decimalsTextsRow.maps == (Tryz.f12.params.toList ++ Rows.decimalsTextsSpec.plain.varTypes Tryz.pinned.checked.prog).any (Tryz.pinned.checked.prog.mapsRec ·))) = true := by kernel_rfl
theorem decimalsTexts_q15 : ((Rows.decimalsTextsRow.ifaces == (Tryz.f12.params.toList ++ Rows.decimalsTextsSpec.plain.varTypes Tryz.pinned.checked.prog).any (Tryz.pinned.checked.prog.ifacesRec ·))) = true := by kernel_rfl
theorem decimalsTexts_q16 : ((Rows.decimalsTextsRow.mapsOut == Tryz.pinned.checked.prog.mapsAmong Tryz.f12.resultTypes.toList)) = true := by kernel_rfl
theorem decimalsTexts_q17 : ((Rows.decimalsTextsRow.loops == (Tryz.f12.params.toList ++ Rows.decimalsTextsSpec.plain.varTypes Tryz.pinned.checked.prog).any (Tryz.pinned.checked.prog.loopsFrom ·))) = true := by kernel_rfl
theorem decimalsTexts_q18 : ((Rows.decimalsTextsRow.wideKeys == (Tryz.f12.params.toList ++ Rows.decimalsTextsSpec.plain.varTypes Tryz.pinned.checked.prog ++ Tryz.f12.resultTypes.toList).any (Tryz.pinned.checked.prog.wideKeysFrom ·))) = true := by kernel_rfl
theorem decimalsTexts_q19 : (Rows.decimalsTextsSpec.vars.all (Tryz.pinned.checked.prog.varReadable ·)) = true := by kernel_rfl
theorem decimalsTexts_q20 : (Tryz.f12.resultTypes.all (fun t => Tryz.pinned.checked.prog.readableRec t && decide (t < Tryz.pinned.checked.prog.types.size))) = true := by kernel_rfl
theorem decimalsTexts_q21 : ((Rows.decimalsTextsRow.ifacesOut == Tryz.f12.resultTypes.toList.any (Tryz.pinned.checked.prog.ifacesRec ·))) = true := by kernel_rfl
theorem decimalsTexts_q22 : ((Rows.decimalsTextsRow.loopsOut == Tryz.f12.resultTypes.toList.any (Tryz.pinned.checked.prog.loopsFrom ·))) = true := by kernel_rfl
theorem decimalsTexts_q24 : (Rows.decimalsTextsRow.shortTexts.isNone) = true := by kernel_rfl
theorem decimalsTexts_q29 : ((Rows.decimalsTextsRow.kinds == (if Rows.decimalsTextsRow.domain.isEmpty then [] else Tryz.f12.params.toList.map fun t => match Tryz.pinned.checked.prog.underlying t with | some (.int k) => some k | _ => none))) = true := by kernel_rfl
theorem decimalsTexts_q30 : ((Rows.decimalsTextsRow.pinned == Rows.decimalsTextsRow.pinnedBy)) = true := by kernel_rfl
theorem decimalsTexts_q31 : ((Rows.decimalsTextsRow.veiled == (Tryz.f12.params.toList ++ Rows.decimalsTextsSpec.plain.varTypes Tryz.pinned.checked.prog ++ Tryz.f12.resultTypes.toList).any (Tryz.pinned.checked.prog.veiledRec ·))) = true := by kernel_rfl
theorem decimalsTexts_q32 : (Rows.decimalsTextsRow.veiledFits Tryz.pinned.checked.prog Tryz.f12.params.toList (Tryz.f12.params.toList ++ Rows.decimalsTextsSpec.plain.varTypes Tryz.pinned.checked.prog ++ Tryz.f12.resultTypes.toList)) = true := by kernel_rfl
set_option maxRecDepth 100000 in
theorem decimalsTexts_closed : joinedFacts Tryz.pinned.checked.prog 12 Tryz.f12 Rows.decimalsTextsSpec Rows.decimalsTextsRow = true := (band (band (band (band (band (band (band (band (band (band (band (band (band (band (band (band (band (band (band (band (band (band (band (band (band (band (band (band (band (band (band decimalsTexts_q1 wide_2) wide_3) decimalsTexts_q4) decimalsTexts_q5) decimalsTexts_q6) wide_7) decimalsTexts_q8) wide_9) decimalsTexts_q10) decimalsTexts_q11) decimalsTexts_q12) decimalsTexts_q13) decimalsTexts_q14) decimalsTexts_q15) decimalsTexts_q16) decimalsTexts_q17) decimalsTexts_q18) decimalsTexts_q19) decimalsTexts_q20) decimalsTexts_q21) decimalsTexts_q22) wide_23) decimalsTexts_q24) wide_25) wide_26) wide_27) wide_28) decimalsTexts_q29) decimalsTexts_q30) decimalsTexts_q31) decimalsTexts_q32)
theorem decimalsTexts_wft : Rows.decimalsTextsRow.wfByText (OpenSpec.ofChange Rows.decimalsTextsSpec) = true := by kernel_rfl
theorem decimalsTexts_goes : false = Rows.decimalsTextsRow.goesBy Tryz.pinned.checked.prog := by kernel_rfl
theorem decimalsTexts_row : Rows.DecimalsTextsSaid :=
  OpenClaim.holds_of_wide 12 Tryz.f12 rfl rfl rfl rfl rfl rfl rfl ⟨rfl, rfl, rfl, rfl, rfl⟩ rfl rfl rfl rfl rfl (by kernel_rfl) Tryz.func12 decimalsTexts_closed
    (of_decide_eq_true (by kernel_rfl)) (by unfold Func.isWrapper; first | (rw [if_pos (by decide +kernel)]; kernel_rfl) | (rw [if_neg (by decide +kernel)]; exact ⟨rfl, rfl⟩))
    (fun os started H enc _ => decimalsTexts_lifted os started H enc)
theorem decimalsTexts_holds : Rows.DecimalsTextsCardSaid :=
  Claim7.holds_tied_plain_at .later [] [.data, .data, .data] true (true, "eb200b34f50dd3952de1662d94e6dcdd3699821c4ce947b73a861d35f98d002f") false decimalsTexts_row (fun _ h => by cases h) decimalsTexts_wft (fun _ h => by cases h) decimalsTexts_row_tie rfl ⟨rfl, rfl⟩ wide_main rfl
    (fun f fn hf hfn => by
      obtain rfl : f = 12 := Option.some.inj ((show Tryz.prog.funcNamed "gusset/gussetlaw04.DecimalsTexts" = some 12 by kernel_rfl).symm.trans hf) |>.symm
      obtain rfl : fn = Tryz.f12 := (Option.some.inj (Tryz.func12.symm.trans hfn)).symm
      exact ⟨wide_looks, fun j t ht => by
        rw [Tryz.params12] at ht
        have hm : t ∈ [77, 3, 3] := by simpa using Array.mem_of_getElem? ht
        have hall : ([77, 3, 3].all fun u => !Tryz.prog.wantsStandIn u) = true := by kernel_rfl
        exact (show Tryz.prog.wantsStandIn t = false by simpa using List.all_eq_true.1 hall t hm)⟩)
    decimalsTexts_goes
end Go.Proofs.YtaflakcemiilaaaGreatDoor
