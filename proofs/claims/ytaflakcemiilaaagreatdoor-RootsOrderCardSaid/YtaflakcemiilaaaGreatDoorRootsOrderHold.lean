
/- RootsOrder: the row and its card hold. No condition. -/
import Derived.Test.YtaflakcemiilaaaGreatDoorLiftOq
import Derived.Test.YtaflakcemiilaaaGreatDoorRowP
import Derived.Test.YtaflakcemiilaaaGreatDoorOrderR
namespace Go.Proofs.YtaflakcemiilaaaGreatDoor
open Go.ChangeShapes Go.WideShapes Go.ChangeAt Go.RowKit
set_option maxRecDepth 100000 in
theorem rootsOrder_lifted (os : Os) (started : os.Started) (H : Type) (enc : TypeId × Value → H) :
    ReturnsInHanded {} Tryz.checked os 8 .any (fun w args => (Rows.rootsOrderSpec.pre enc Tryz.prog Tryz.f8 Rows.rootsOrderRow.domain false w args ∧ laidMetH Tryz.prog Rows.rootsOrderRow.laid w) ∧ sizedMet enc Tryz.prog Tryz.f8 (OpenSpec.ofChange Rows.rootsOrderSpec) false w args)
      (Rows.rootsOrderSpec.post enc Tryz.prog Tryz.f8 false true false false) := by
  refine returnsInHanded_of_change_and (C := Tryz.checked) (X := fun w _ => laidMetH Tryz.prog Rows.rootsOrderRow.laid w) (fun _ _ _ hh h => h.of_heap hh) Tryz.own started (by kernel_rfl) Tryz.func8
    (ChangeSpec.witness_shaped (enc := enc) (C := Tryz.checked) (os := os) (X := fun w _ => laidMetH Tryz.prog Rows.rootsOrderRow.laid w) false (World.laidAll Tryz.prog os Rows.rootsOrderRow.laid) #[.agg #[.int .i64 0, .int .u32 0], .agg #[.int .i64 0, .int .u32 0], .slice none 0 0] 8 (World.laidAll_os _ _ _)
      (World.shaped_of_ZipB (by kernel_rfl) (by kernel_rfl)) (by kernel_rfl) (by kernel_rfl) (by kernel_rfl)
      (by rw [MakeChecks.laidMetH_plain _ _ _ (by kernel_rfl)]; exact laidMet_laidAll _ (by kernel_rfl) (by kernel_rfl))) ?_
  intro W base args ds gs before hval0 hW hc _ hL _
  have hval : ∀ (j : Nat) t v, Tryz.f8.params[j]? = some t → args[j]? = some v → Value.okWide Tryz.prog W .any base t v := hval0
  have hW' := hW
  obtain ⟨p, q, hA0, hV, rfl, hfz, hnd⟩ := hW
  have hA : DataW.TrodAll enc Tryz.prog W 0 (fun _ => true) true Tryz.f8.params.toList args.toList ds p := hA0
  rw [Tryz.params8] at hA hval
  obtain ⟨v0, v1, v2, d0, d1, d2, p0, p1, p2, rfl, rfl, rfl, h0, h1, h2⟩ := trodAll_three hA
  obtain ⟨rfl, rfl⟩ := trodVars_none hV
  obtain ⟨q0_0, q0_1, rfl, lq0_0, gq0_0, lq0_1, gq0_1⟩ := open_q (hval 0 24 v0 rfl rfl)
  obtain ⟨q1_0, q1_1, rfl, lq1_0, gq1_0, lq1_1, gq1_1⟩ := open_q (hval 1 24 v1 rfl rfl)
  obtain ⟨m2, N2, D2, HQ2, HB2⟩ := open_qs (hval 2 81 v2 rfl rfl) h2
  clear hA0 hval0
  simp only [List.append_nil] at hW'
  have HT : Hid (Tab W) := Lib.hid (tab_of hL)
  refine (order_law q0_0 q0_1 q1_0 q1_1 v2 m2 N2 D2 W lq0_0 gq0_0 lq0_1 gq0_1 lq1_0 gq1_0 lq1_1 gq1_1 HQ2 HB2 HT).mono fun e W' ⟨he, hb⟩ => ?_
  subst he
  exact ⟨_, rfl, post_of_below (pv := []) hW' (fun _ _ _ => trodAll_mk1 (shut_bool Tryz.underlying4 true)) (fun sp hs => trodAll_mk3 (stays (by kernel_rfl) (by decide +kernel) h0 hb (fun x hx => hW'.lt x (by simp [hx])) sp (fun x hx => hs x (by simp [hx]))) (stays (by kernel_rfl) (by decide +kernel) h1 hb (fun x hx => hW'.lt x (by simp [hx])) sp (fun x hx => hs x (by simp [hx]))) (stays (by kernel_rfl) (by decide +kernel) h2 hb (fun x hx => hW'.lt x (by simp [hx])) sp (fun x hx => hs x (by simp [hx])))) (fun _ _ => rfl) (by simp) hb (ok_one (by kernel_rfl) rfl (okWide_bool_mk Tryz.underlying4 true))⟩
theorem rootsOrder_q1 : (Rows.rootsOrderRow.wf (OpenSpec.ofChange Rows.rootsOrderSpec)) = true := by kernel_rfl
theorem rootsOrder_q4 : (Tryz.f8.params.all (Tryz.pinned.checked.prog.readableRec ·)) = true := by kernel_rfl
theorem rootsOrder_q5 : (namedTie Tryz.pinned.checked.prog Rows.rootsOrderRow.named Rows.rootsOrderSpec.vars) = true := by kernel_rfl
theorem rootsOrder_q6 : ((Rows.rootsOrderRow.stops == [])) = true := by kernel_rfl
theorem rootsOrder_q8 : ((Rows.rootsOrderRow.knobs == [])) = true := by kernel_rfl
theorem rootsOrder_q10 : ((Rows.rootsOrderRow.inPlace == Tryz.pinned.checked.prog.inPlace 8)) = true := by kernel_rfl
theorem rootsOrder_q11 : ((Rows.rootsOrderRow.unfollowed == Tryz.pinned.checked.prog.unfollowed 8)) = true := by kernel_rfl
theorem rootsOrder_q12 : ((Rows.rootsOrderRow.recurses == Tryz.pinned.checked.prog.recurses 8)) = true := by kernel_rfl
theorem rootsOrder_q13 : ((Rows.rootsOrderRow.named == Tryz.pinned.checked.prog.varsNamed 8)) = true := by kernel_rfl
theorem rootsOrder_q14 : ((Rows.rootsOrderRow.maps == (Tryz.f8.params.toList ++ Rows.rootsOrderSpec.plain.varTypes Tryz.pinned.checked.prog).any (Tryz.pinned.checked.prog.mapsRec ·))) = true := by kernel_rfl
theorem rootsOrder_q15 : ((Rows.rootsOrderRow.ifaces == (Tryz.f8.params.toList ++ Rows.rootsOrderSpec.plain.varTypes Tryz.pinned.checked.prog).any (Tryz.pinned.checked.prog.ifacesRec ·))) = true := by kernel_rfl
theorem rootsOrder_q16 : ((Rows.rootsOrderRow.mapsOut == Tryz.pinned.checked.prog.mapsAmong Tryz.f8.resultTypes.toList)) = true := by kernel_rfl
theorem rootsOrder_q17 : ((Rows.rootsOrderRow.loops == (Tryz.f8.params.toList ++ Rows.rootsOrderSpec.plain.varTypes Tryz.pinned.checked.prog).any (Tryz.pinned.checked.prog.loopsFrom ·))) = true := by kernel_rfl
theorem rootsOrder_q18 : ((Rows.rootsOrderRow.wideKeys == (Tryz.f8.params.toList ++ Rows.rootsOrderSpec.plain.varTypes Tryz.pinned.checked.prog ++ Tryz.f8.resultTypes.toList).any (Tryz.pinned.checked.prog.wideKeysFrom ·))) = true := by kernel_rfl
theorem rootsOrder_q19 : (Rows.rootsOrderSpec.vars.all (Tryz.pinned.checked.prog.varReadable ·)) = true := by kernel_rfl
theorem rootsOrder_q20 : (Tryz.f8.resultTypes.all (fun t => Tryz.pinned.checked.prog.readableRec t && decide (t < Tryz.pinned.checked.prog.types.size))) = true := by kernel_rfl
theorem rootsOrder_q21 : ((Rows.rootsOrderRow.ifacesOut == Tryz.f8.resultTypes.toList.any (Tryz.pinned.checked.prog.ifacesRec ·))) = true := by kernel_rfl
theorem rootsOrder_q22 : ((Rows.rootsOrderRow.loopsOut == Tryz.f8.resultTypes.toList.any (Tryz.pinned.checked.prog.loopsFrom ·))) = true := by kernel_rfl
theorem rootsOrder_q24 : (Rows.rootsOrderRow.shortTexts.isNone) = true := by kernel_rfl
theorem rootsOrder_q29 : ((Rows.rootsOrderRow.kinds == (if Rows.rootsOrderRow.domain.isEmpty then [] else Tryz.f8.params.toList.map fun t => match Tryz.pinned.checked.prog.underlying t with | some (.int k) => some k | _ => none))) = true := by kernel_rfl
theorem rootsOrder_q30 : ((Rows.rootsOrderRow.pinned == Rows.rootsOrderRow.pinnedBy)) = true := by kernel_rfl
theorem rootsOrder_q31 : ((Rows.rootsOrderRow.veiled == (Tryz.f8.params.toList ++ Rows.rootsOrderSpec.plain.varTypes Tryz.pinned.checked.prog ++ Tryz.f8.resultTypes.toList).any (Tryz.pinned.checked.prog.veiledRec ·))) = true := by kernel_rfl
theorem rootsOrder_q32 : (Rows.rootsOrderRow.veiledFits Tryz.pinned.checked.prog Tryz.f8.params.toList (Tryz.f8.params.toList ++ Rows.rootsOrderSpec.plain.varTypes Tryz.pinned.checked.prog ++ Tryz.f8.resultTypes.toList)) = true := by kernel_rfl
set_option maxRecDepth 100000 in
theorem rootsOrder_closed : joinedFacts Tryz.pinned.checked.prog 8 Tryz.f8 Rows.rootsOrderSpec Rows.rootsOrderRow = true := (band (band (band (band (band (band (band (band (band (band (band (band (band (band (band (band (band (band (band (band (band (band (band (band (band (band (band (band (band (band (band rootsOrder_q1 wide_2) wide_3) rootsOrder_q4) rootsOrder_q5) rootsOrder_q6) wide_7) rootsOrder_q8) wide_9) rootsOrder_q10) rootsOrder_q11) rootsOrder_q12) rootsOrder_q13) rootsOrder_q14) rootsOrder_q15) rootsOrder_q16) rootsOrder_q17) rootsOrder_q18) rootsOrder_q19) rootsOrder_q20) rootsOrder_q21) rootsOrder_q22) wide_23) rootsOrder_q24) wide_25) wide_26) wide_27) wide_28) rootsOrder_q29) rootsOrder_q30) rootsOrder_q31) rootsOrder_q32)
theorem rootsOrder_wft : Rows.rootsOrderRow.wfByText (OpenSpec.ofChange Rows.rootsOrderSpec) = true := by kernel_rfl
theorem rootsOrder_goes : false = Rows.rootsOrderRow.goesBy Tryz.pinned.checked.prog := by kernel_rfl
theorem rootsOrder_row : Rows.RootsOrderSaid :=
  OpenClaim.holds_of_wide 8 Tryz.f8 rfl rfl rfl rfl rfl rfl rfl ⟨rfl, rfl, rfl, rfl, rfl⟩ rfl rfl rfl rfl rfl (by kernel_rfl) Tryz.func8 rootsOrder_closed
    (of_decide_eq_true (by kernel_rfl)) (by unfold Func.isWrapper; first | (rw [if_pos (by decide +kernel)]; kernel_rfl) | (rw [if_neg (by decide +kernel)]; exact ⟨rfl, rfl⟩))
    (fun os started H enc _ => rootsOrder_lifted os started H enc)
theorem rootsOrder_holds : Rows.RootsOrderCardSaid :=
  Claim7.holds_tied_plain_at .later [] [.data, .data, .data] true (true, "eb200b34f50dd3952de1662d94e6dcdd3699821c4ce947b73a861d35f98d002f") false rootsOrder_row (fun _ h => by cases h) rootsOrder_wft (fun _ h => by cases h) rootsOrder_row_tie rfl ⟨rfl, rfl⟩ wide_main rfl
    (fun f fn hf hfn => by
      obtain rfl : f = 8 := Option.some.inj ((show Tryz.prog.funcNamed "gusset/gussetlaw05.RootsOrder" = some 8 by kernel_rfl).symm.trans hf) |>.symm
      obtain rfl : fn = Tryz.f8 := (Option.some.inj (Tryz.func8.symm.trans hfn)).symm
      exact ⟨wide_looks, fun j t ht => by
        rw [Tryz.params8] at ht
        have hm : t ∈ [24, 24, 81] := by simpa using Array.mem_of_getElem? ht
        have hall : ([24, 24, 81].all fun u => !Tryz.prog.wantsStandIn u) = true := by kernel_rfl
        exact (show Tryz.prog.wantsStandIn t = false by simpa using List.all_eq_true.1 hall t hm)⟩)
    rootsOrder_goes
end Go.Proofs.YtaflakcemiilaaaGreatDoor
