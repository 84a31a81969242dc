
/- RootsRise: the row and its card hold. No condition. -/
import Derived.Test.YtaflakcemiilaaaGreatDoorLiftRq
import Derived.Test.YtaflakcemiilaaaGreatDoorRowP
import Derived.Test.YtaflakcemiilaaaGreatDoorRiseR
namespace Go.Proofs.YtaflakcemiilaaaGreatDoor
open Go.ChangeShapes Go.WideShapes Go.ChangeAt Go.RowKit
set_option maxRecDepth 100000 in
theorem rootsRise_lifted (os : Os) (started : os.Started) (H : Type) (enc : TypeId × Value → H) :
    ReturnsInHanded {} Tryz.checked os 7 .any (fun w args => (Rows.rootsRiseSpec.pre enc Tryz.prog Tryz.f7 Rows.rootsRiseRow.domain false w args ∧ laidMetH Tryz.prog Rows.rootsRiseRow.laid w) ∧ sizedMet enc Tryz.prog Tryz.f7 (OpenSpec.ofChange Rows.rootsRiseSpec) false w args)
      (Rows.rootsRiseSpec.post enc Tryz.prog Tryz.f7 false true false false) := by
  refine returnsInHanded_of_change_and (C := Tryz.checked) (X := fun w _ => laidMetH Tryz.prog Rows.rootsRiseRow.laid w) (fun _ _ _ hh h => h.of_heap hh) Tryz.own started (by kernel_rfl) Tryz.func7
    (ChangeSpec.witness_shaped (enc := enc) (C := Tryz.checked) (os := os) (X := fun w _ => laidMetH Tryz.prog Rows.rootsRiseRow.laid w) false (World.laidAll Tryz.prog os Rows.rootsRiseRow.laid) #[.agg #[.int .i64 0, .int .u32 0], .agg #[.int .i64 0, .int .u32 0], .int .u8 0, .int .u8 0] 8 (World.laidAll_os _ _ _)
      (World.shaped_of_ZipB (by kernel_rfl) (by kernel_rfl)) (by kernel_rfl) (by kernel_rfl) (by kernel_rfl)
      (by rw [MakeChecks.laidMetH_plain _ _ _ (by kernel_rfl)]; exact laidMet_laidAll _ (by kernel_rfl) (by kernel_rfl))) ?_
  intro W base args ds gs before hval0 hW hc _ hL _
  have hval : ∀ (j : Nat) t v, Tryz.f7.params[j]? = some t → args[j]? = some v → Value.okWide Tryz.prog W .any base t v := hval0
  have hW' := hW
  obtain ⟨p, q, hA0, hV, rfl, hfz, hnd⟩ := hW
  have hA : DataW.TrodAll enc Tryz.prog W 0 (fun _ => true) true Tryz.f7.params.toList args.toList ds p := hA0
  rw [Tryz.params7] at hA hval
  obtain ⟨v0, v1, v2, v3, d0, d1, d2, d3, p0, p1, p2, p3, rfl, rfl, rfl, h0, h1, h2, h3⟩ := trodAll_four hA
  obtain ⟨rfl, rfl⟩ := trodVars_none hV
  obtain ⟨n2, rfl, rfl, rfl, w2⟩ := open_int Tryz.underlying5 (hval 2 5 v2 rfl rfl) h2
  obtain ⟨lo2, hi2⟩ := u8_wf w2
  obtain ⟨n3, rfl, rfl, rfl, w3⟩ := open_int Tryz.underlying5 (hval 3 5 v3 rfl rfl) h3
  obtain ⟨lo3, hi3⟩ := u8_wf w3
  obtain ⟨q0_0, q0_1, rfl, lq0_0, gq0_0, lq0_1, gq0_1⟩ := open_q (hval 0 24 v0 rfl rfl)
  obtain ⟨q1_0, q1_1, rfl, lq1_0, gq1_0, lq1_1, gq1_1⟩ := open_q (hval 1 24 v1 rfl rfl)
  clear hA0 hval0
  simp only [List.append_nil] at hW'
  have HT : Hid (Tab W) := Lib.hid (tab_of hL)
  refine (rise_law q0_0 q0_1 q1_0 q1_1 n2 n3 W lq0_0 gq0_0 lq0_1 gq0_1 lq1_0 gq1_0 lq1_1 gq1_1 lo2 hi2 lo3 hi3 HT).mono fun e W' ⟨he, hb⟩ => ?_
  subst he
  exact ⟨_, rfl, post_of_below (pv := []) hW' (fun _ _ _ => trodAll_mk1 (shut_bool Tryz.underlying4 true)) (fun sp hs => trodAll_mk4 (stays (by kernel_rfl) (by decide +kernel) h0 hb (fun x hx => hW'.lt x (by simp [hx])) sp (fun x hx => hs x (by simp [hx]))) (stays (by kernel_rfl) (by decide +kernel) h1 hb (fun x hx => hW'.lt x (by simp [hx])) sp (fun x hx => hs x (by simp [hx]))) (shut_int Tryz.underlying5 w2) (shut_int Tryz.underlying5 w3)) (fun _ _ => rfl) (by simp) hb (ok_one (by kernel_rfl) rfl (okWide_bool_mk Tryz.underlying4 true))⟩
theorem rootsRise_q1 : (Rows.rootsRiseRow.wf (OpenSpec.ofChange Rows.rootsRiseSpec)) = true := by kernel_rfl
theorem rootsRise_q4 : (Tryz.f7.params.all (Tryz.pinned.checked.prog.readableRec ·)) = true := by kernel_rfl
theorem rootsRise_q5 : (namedTie Tryz.pinned.checked.prog Rows.rootsRiseRow.named Rows.rootsRiseSpec.vars) = true := by kernel_rfl
theorem rootsRise_q6 : ((Rows.rootsRiseRow.stops == [])) = true := by kernel_rfl
theorem rootsRise_q8 : ((Rows.rootsRiseRow.knobs == [])) = true := by kernel_rfl
theorem rootsRise_q10 : ((Rows.rootsRiseRow.inPlace == Tryz.pinned.checked.prog.inPlace 7)) = true := by kernel_rfl
theorem rootsRise_q11 : ((Rows.rootsRiseRow.unfollowed == Tryz.pinned.checked.prog.unfollowed 7)) = true := by kernel_rfl
theorem rootsRise_q12 : ((Rows.rootsRiseRow.recurses == Tryz.pinned.checked.prog.recurses 7)) = true := by kernel_rfl
theorem rootsRise_q13 : ((Rows.rootsRiseRow.named == Tryz.pinned.checked.prog.varsNamed 7)) = true := by kernel_rfl
theorem rootsRise_q14 : ((Rows.rootsRiseRow.maps == (Tryz.f7.params.toList ++ Rows.rootsRiseSpec.plain.varTypes Tryz.pinned.checked.prog).any (Tryz.pinned.checked.prog.mapsRec ·))) = true := by kernel_rfl
theorem rootsRise_q15 : ((Rows.rootsRiseRow.ifaces == (Tryz.f7.params.toList ++ Rows.rootsRiseSpec.plain.varTypes Tryz.pinned.checked.prog).any (Tryz.pinned.checked.prog.ifacesRec ·))) = true := by kernel_rfl
theorem rootsRise_q16 : ((Rows.rootsRiseRow.mapsOut == Tryz.pinned.checked.prog.mapsAmong Tryz.f7.resultTypes.toList)) = true := by kernel_rfl
theorem rootsRise_q17 : ((Rows.rootsRiseRow.loops == (Tryz.f7.params.toList ++ Rows.rootsRiseSpec.plain.varTypes Tryz.pinned.checked.prog).any (Tryz.pinned.checked.prog.loopsFrom ·))) = true := by kernel_rfl
theorem rootsRise_q18 : ((Rows.rootsRiseRow.wideKeys == (Tryz.f7.params.toList ++ Rows.rootsRiseSpec.plain.varTypes Tryz.pinned.checked.prog ++ Tryz.f7.resultTypes.toList).any (Tryz.pinned.checked.prog.wideKeysFrom ·))) = true := by kernel_rfl
theorem rootsRise_q19 : (Rows.rootsRiseSpec.vars.all (Tryz.pinned.checked.prog.varReadable ·)) = true := by kernel_rfl
theorem rootsRise_q20 : (Tryz.f7.resultTypes.all (fun t => Tryz.pinned.checked.prog.readableRec t && decide (t < Tryz.pinned.checked.prog.types.size))) = true := by kernel_rfl
theorem rootsRise_q21 : ((Rows.rootsRiseRow.ifacesOut == Tryz.f7.resultTypes.toList.any (Tryz.pinned.checked.prog.ifacesRec ·))) = true := by kernel_rfl
theorem rootsRise_q22 : ((Rows.rootsRiseRow.loopsOut == Tryz.f7.resultTypes.toList.any (Tryz.pinned.checked.prog.loopsFrom ·))) = true := by kernel_rfl
theorem rootsRise_q24 : (Rows.rootsRiseRow.shortTexts.isNone) = true := by kernel_rfl
theorem rootsRise_q29 : ((Rows.rootsRiseRow.kinds == (if Rows.rootsRiseRow.domain.isEmpty then [] else Tryz.f7.params.toList.map fun t => match Tryz.pinned.checked.prog.underlying t with | some (.int k) => some k | _ => none))) = true := by kernel_rfl
theorem rootsRise_q30 : ((Rows.rootsRiseRow.pinned == Rows.rootsRiseRow.pinnedBy)) = true := by kernel_rfl
theorem rootsRise_q31 : ((Rows.rootsRiseRow.veiled == (Tryz.f7.params.toList ++ Rows.rootsRiseSpec.plain.varTypes Tryz.pinned.checked.prog ++ Tryz.f7.resultTypes.toList).any (Tryz.pinned.checked.prog.veiledRec ·))) = true := by kernel_rfl
theorem rootsRise_q32 : (Rows.rootsRiseRow.veiledFits Tryz.pinned.checked.prog Tryz.f7.params.toList (Tryz.f7.params.toList ++ Rows.rootsRiseSpec.plain.varTypes Tryz.pinned.checked.prog ++ Tryz.f7.resultTypes.toList)) = true := by kernel_rfl
set_option maxRecDepth 100000 in
theorem rootsRise_closed : joinedFacts Tryz.pinned.checked.prog 7 Tryz.f7 Rows.rootsRiseSpec Rows.rootsRiseRow = true := (band (band (band (band (band (band (band (band (band (band (band (band (band (band (band (band (band (band (band (band (band (band (band (band (band (band (band (band (band (band (band rootsRise_q1 wide_2) wide_3) rootsRise_q4) rootsRise_q5) rootsRise_q6) wide_7) rootsRise_q8) wide_9) rootsRise_q10) rootsRise_q11) rootsRise_q12) rootsRise_q13) rootsRise_q14) rootsRise_q15) rootsRise_q16) rootsRise_q17) rootsRise_q18) rootsRise_q19) rootsRise_q20) rootsRise_q21) rootsRise_q22) wide_23) rootsRise_q24) wide_25) wide_26) wide_27) wide_28) rootsRise_q29) rootsRise_q30) rootsRise_q31) rootsRise_q32)
theorem rootsRise_wft : Rows.rootsRiseRow.wfByText (OpenSpec.ofChange Rows.rootsRiseSpec) = true := by kernel_rfl
theorem rootsRise_goes : false = Rows.rootsRiseRow.goesBy Tryz.pinned.checked.prog := by kernel_rfl
theorem rootsRise_row : Rows.RootsRiseSaid :=
  OpenClaim.holds_of_wide 7 Tryz.f7 rfl rfl rfl rfl rfl rfl rfl ⟨rfl, rfl, rfl, rfl, rfl⟩ rfl rfl rfl rfl rfl (by kernel_rfl) Tryz.func7 rootsRise_closed
    (of_decide_eq_true (by kernel_rfl)) (by unfold Func.isWrapper; first | (rw [if_pos (by decide +kernel)]; kernel_rfl) | (rw [if_neg (by decide +kernel)]; exact ⟨rfl, rfl⟩))
    (fun os started H enc _ => rootsRise_lifted os started H enc)
theorem rootsRise_holds : Rows.RootsRiseCardSaid :=
  Claim7.holds_tied_plain_at .later [] [.data, .data, .data] true (true, "eb200b34f50dd3952de1662d94e6dcdd3699821c4ce947b73a861d35f98d002f") false rootsRise_row (fun _ h => by cases h) rootsRise_wft (fun _ h => by cases h) rootsRise_row_tie rfl ⟨rfl, rfl⟩ wide_main rfl
    (fun f fn hf hfn => by
      obtain rfl : f = 7 := Option.some.inj ((show Tryz.prog.funcNamed "gusset/gussetlaw05.RootsRise" = some 7 by kernel_rfl).symm.trans hf) |>.symm
      obtain rfl : fn = Tryz.f7 := (Option.some.inj (Tryz.func7.symm.trans hfn)).symm
      exact ⟨wide_looks, fun j t ht => by
        rw [Tryz.params7] at ht
        have hm : t ∈ [24, 24, 5, 5] := by simpa using Array.mem_of_getElem? ht
        have hall : ([24, 24, 5, 5].all fun u => !Tryz.prog.wantsStandIn u) = true := by kernel_rfl
        exact (show Tryz.prog.wantsStandIn t = false by simpa using List.all_eq_true.1 hall t hm)⟩)
    rootsRise_goes
end Go.Proofs.YtaflakcemiilaaaGreatDoor
