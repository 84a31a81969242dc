
/- PointsCut: the row and its card hold. No condition. -/
import Derived.Test.YtobojnodohjiaaaGreatDoorLiftUq
import Derived.Test.YtobojnodohjiaaaGreatDoorRowP
import Derived.Test.YtobojnodohjiaaaGreatDoorPCutL
namespace Go.Proofs.YtobojnodohjiaaaGreatDoor
open Go.ChangeShapes Go.WideShapes Go.ChangeAt Go.RowKit
set_option maxRecDepth 100000 in
theorem pointsCut_lifted (os : Os) (started : os.Started) (H : Type) (enc : TypeId × Value → H) :
    ReturnsInHanded {} Tryz.checked os 3 .any (fun w args => (Rows.pointsCutSpec.pre enc Tryz.prog Tryz.f3 Rows.pointsCutRow.domain false w args ∧ laidMetH Tryz.prog Rows.pointsCutRow.laid w) ∧ sizedMet enc Tryz.prog Tryz.f3 (OpenSpec.ofChange Rows.pointsCutSpec) false w args)
      (Rows.pointsCutSpec.post enc Tryz.prog Tryz.f3 false true false false) := by
  refine returnsInHanded_of_change_and (C := Tryz.checked) (X := fun w _ => laidMetH Tryz.prog Rows.pointsCutRow.laid w) (fun _ _ _ hh h => h.of_heap hh) Tryz.own started (by kernel_rfl) Tryz.func3
    (ChangeSpec.witness_shaped (enc := enc) (C := Tryz.checked) (os := os) (X := fun w _ => laidMetH Tryz.prog Rows.pointsCutRow.laid w) false (World.laidAll Tryz.prog os Rows.pointsCutRow.laid) #[.agg #[.int .i64 0, .int .u32 0, .int .i64 0, .int .u32 0, .int .i64 0, .int .u32 0, .int .i64 0, .int .u32 0, .int .i64 0, .int .u32 0, .int .i64 0, .int .u32 0, .int .i64 0, .int .u32 0, .int .i64 0, .int .u32 0]] 8 (World.laidAll_os _ _ _)
      (World.shaped_of_ZipB (by kernel_rfl) (by kernel_rfl)) (by kernel_rfl) (by kernel_rfl) (by kernel_rfl)
      (by rw [MakeChecks.laidMetH_plain _ _ _ (by kernel_rfl)]; exact laidMet_laidAll _ (by kernel_rfl) (by kernel_rfl))) ?_
  intro W base args ds gs before hval0 hW hc _ hL _
  have hval : ∀ (j : Nat) t v, Tryz.f3.params[j]? = some t → args[j]? = some v → Value.okWide Tryz.prog W .any base t v := hval0
  have hW' := hW
  obtain ⟨p, q, hA0, hV, rfl, hfz, hnd⟩ := hW
  have hA : DataW.TrodAll enc Tryz.prog W 0 (fun _ => true) true Tryz.f3.params.toList args.toList ds p := hA0
  rw [Tryz.params3] at hA hval
  obtain ⟨v0, d0, rfl, rfl, h0⟩ := trodAll_one hA
  obtain ⟨rfl, rfl⟩ := trodVars_none hV
  obtain ⟨x0_0, x0_1, x0_2, x0_3, x0_4, x0_5, x0_6, x0_7, x0_8, x0_9, x0_10, x0_11, x0_12, x0_13, x0_14, x0_15, rfl, lx0_0, gx0_0, lx0_1, gx0_1, lx0_2, gx0_2, lx0_3, gx0_3, lx0_4, gx0_4, lx0_5, gx0_5, lx0_6, gx0_6, lx0_7, gx0_7, lx0_8, gx0_8, lx0_9, gx0_9, lx0_10, gx0_10, lx0_11, gx0_11, lx0_12, gx0_12, lx0_13, gx0_13, lx0_14, gx0_14, lx0_15, gx0_15⟩ := open_x (hval 0 27 v0 rfl rfl)
  clear hA0 hval0
  simp only [List.append_nil] at hW'
  have HT : Hid (Tab W) := Lib.hid (tab_of hL)
  refine (pcut_all x0_0 x0_1 x0_2 x0_3 x0_4 x0_5 x0_6 x0_7 x0_8 x0_9 x0_10 x0_11 x0_12 x0_13 x0_14 x0_15 W lx0_0 gx0_0 lx0_1 gx0_1 lx0_2 gx0_2 lx0_3 gx0_3 lx0_4 gx0_4 lx0_5 gx0_5 lx0_6 gx0_6 lx0_7 gx0_7 lx0_8 gx0_8 lx0_9 gx0_9 lx0_10 gx0_10 lx0_11 gx0_11 lx0_12 gx0_12 lx0_13 gx0_13 lx0_14 gx0_14 lx0_15 gx0_15 HT).mono fun e W' ⟨he, hb⟩ => ?_
  subst he
  exact ⟨_, rfl, post_of_below (pv := []) hW' (fun _ _ _ => trodAll_mk1 (shut_bool Tryz.underlying4 true)) (fun sp hs => trodAll_mk1 (stays (by kernel_rfl) (by decide +kernel) h0 hb (fun x hx => hW'.lt x (by simpa using hx)) sp (fun x hx => hs x (by simpa using hx)))) (fun _ _ => rfl) (by simp) hb (ok_one (by kernel_rfl) rfl (okWide_bool_mk Tryz.underlying4 true))⟩
theorem pointsCut_q1 : (Rows.pointsCutRow.wf (OpenSpec.ofChange Rows.pointsCutSpec)) = true := by kernel_rfl
theorem pointsCut_q4 : (Tryz.f3.params.all (Tryz.pinned.checked.prog.readableRec ·)) = true := by kernel_rfl
theorem pointsCut_q5 : (namedTie Tryz.pinned.checked.prog Rows.pointsCutRow.named Rows.pointsCutSpec.vars) = true := by kernel_rfl
theorem pointsCut_q6 : ((Rows.pointsCutRow.stops == [])) = true := by kernel_rfl
theorem pointsCut_q8 : ((Rows.pointsCutRow.knobs == [])) = true := by kernel_rfl
theorem pointsCut_q10 : ((Rows.pointsCutRow.inPlace == Tryz.pinned.checked.prog.inPlace 3)) = true := by kernel_rfl
theorem pointsCut_q11 : ((Rows.pointsCutRow.unfollowed == Tryz.pinned.checked.prog.unfollowed 3)) = true := by kernel_rfl
theorem pointsCut_q12 : ((Rows.pointsCutRow.recurses == Tryz.pinned.checked.prog.recurses 3)) = true := by kernel_rfl
theorem pointsCut_q13 : ((Rows.pointsCutRow.named == Tryz.pinned.checked.prog.varsNamed 3)) = true := by kernel_rfl
theorem pointsCut_q14 : ((Rows.pointsCutRow.maps == (Tryz.f3.params.toList ++ Rows.pointsCutSpec.plain.varTypes Tryz.pinned.checked.prog).any (Tryz.pinned.checked.prog.mapsRec ·))) = true := by kernel_rfl
theorem pointsCut_q15 : ((Rows.pointsCutRow.ifaces == (Tryz.f3.params.toList ++ Rows.pointsCutSpec.plain.varTypes Tryz.pinned.checked.prog).any (Tryz.pinned.checked.prog.ifacesRec ·))) = true := by kernel_rfl
theorem pointsCut_q16 : ((Rows.pointsCutRow.mapsOut == Tryz.pinned.checked.prog.mapsAmong Tryz.f3.resultTypes.toList)) = true := by kernel_rfl
theorem pointsCut_q17 : ((Rows.pointsCutRow.loops == (Tryz.f3.params.toList ++ Rows.pointsCutSpec.plain.varTypes Tryz.pinned.checked.prog).any (Tryz.pinned.checked.prog.loopsFrom ·))) = true := by kernel_rfl
theorem pointsCut_q18 : ((Rows.pointsCutRow.wideKeys == (Tryz.f3.params.toList ++ Rows.pointsCutSpec.plain.varTypes Tryz.pinned.checked.prog ++ Tryz.f3.resultTypes.toList).any (Tryz.pinned.checked.prog.wideKeysFrom ·))) = true := by kernel_rfl
theorem pointsCut_q19 : (Rows.pointsCutSpec.vars.all (Tryz.pinned.checked.prog.varReadable ·)) = true := by kernel_rfl
theorem pointsCut_q20 : (Tryz.f3.resultTypes.all (fun t => Tryz.pinned.checked.prog.readableRec t && decide (t < Tryz.pinned.checked.prog.types.size))) = true := by kernel_rfl
theorem pointsCut_q21 : ((Rows.pointsCutRow.ifacesOut == Tryz.f3.resultTypes.toList.any (Tryz.pinned.checked.prog.ifacesRec ·))) = true := by kernel_rfl
theorem pointsCut_q22 : ((Rows.pointsCutRow.loopsOut == Tryz.f3.resultTypes.toList.any (Tryz.pinned.checked.prog.loopsFrom ·))) = true := by kernel_rfl
theorem pointsCut_q24 : (Rows.pointsCutRow.shortTexts.isNone) = true := by kernel_rfl
theorem pointsCut_q29 : ((Rows.pointsCutRow.kinds == (if Rows.pointsCutRow.domain.isEmpty then [] else Tryz.f3.params.toList.map fun t => match Tryz.pinned.checked.prog.underlying t with | some (.int k) => some k | _ => none))) = true := by kernel_rfl
theorem pointsCut_q30 : ((Rows.pointsCutRow.pinned == Rows.pointsCutRow.pinnedBy)) = true := by kernel_rfl
theorem pointsCut_q31 : ((Rows.pointsCutRow.veiled == (Tryz.f3.params.toList ++ Rows.pointsCutSpec.plain.varTypes Tryz.pinned.checked.prog ++ Tryz.f3.resultTypes.toList).any (Tryz.pinned.checked.prog.veiledRec ·))) = true := by kernel_rfl
theorem pointsCut_q32 : (Rows.pointsCutRow.veiledFits Tryz.pinned.checked.prog Tryz.f3.params.toList (Tryz.f3.params.toList ++ Rows.pointsCutSpec.plain.varTypes Tryz.pinned.checked.prog ++ Tryz.f3.resultTypes.toList)) = true := by kernel_rfl
set_option maxRecDepth 100000 in
theorem pointsCut_closed : joinedFacts Tryz.pinned.checked.prog 3 Tryz.f3 Rows.pointsCutSpec Rows.pointsCutRow = true := (band (band (band (band (band (band (band (band (band (band (band (band (band (band (band (band (band (band (band (band (band (band (band (band (band (band (band (band (band (band (band pointsCut_q1 wide_2) wide_3) pointsCut_q4) pointsCut_q5) pointsCut_q6) wide_7) pointsCut_q8) wide_9) pointsCut_q10) pointsCut_q11) pointsCut_q12) pointsCut_q13) pointsCut_q14) pointsCut_q15) pointsCut_q16) pointsCut_q17) pointsCut_q18) pointsCut_q19) pointsCut_q20) pointsCut_q21) pointsCut_q22) wide_23) pointsCut_q24) wide_25) wide_26) wide_27) wide_28) pointsCut_q29) pointsCut_q30) pointsCut_q31) pointsCut_q32)
theorem pointsCut_wft : Rows.pointsCutRow.wfByText (OpenSpec.ofChange Rows.pointsCutSpec) = true := by kernel_rfl
theorem pointsCut_goes : false = Rows.pointsCutRow.goesBy Tryz.pinned.checked.prog := by kernel_rfl
theorem pointsCut_row : Rows.PointsCutSaid :=
  OpenClaim.holds_of_wide 3 Tryz.f3 rfl rfl rfl rfl rfl rfl rfl ⟨rfl, rfl, rfl, rfl, rfl⟩ rfl rfl rfl rfl rfl (by kernel_rfl) Tryz.func3 pointsCut_closed
    (of_decide_eq_true (by kernel_rfl)) (by unfold Func.isWrapper; first | (rw [if_pos (by decide +kernel)]; kernel_rfl) | (rw [if_neg (by decide +kernel)]; exact ⟨rfl, rfl⟩))
    (fun os started H enc _ => pointsCut_lifted os started H enc)
theorem pointsCut_holds : Rows.PointsCutCardSaid :=
  Claim7.holds_tied_plain_at .later [] [.data, .data, .data] true (true, "afc079fd19886976e46ad6200161126b18fba977a1a09a428d032e19cd27660d") false pointsCut_row (fun _ h => by cases h) pointsCut_wft (fun _ h => by cases h) pointsCut_row_tie rfl ⟨rfl, rfl⟩ wide_main rfl
    (fun f fn hf hfn => by
      obtain rfl : f = 3 := Option.some.inj ((show Tryz.prog.funcNamed "gusset/gussetlaw23.PointsCut" = some 3 by kernel_rfl).symm.trans hf) |>.symm
      obtain rfl : fn = Tryz.f3 := (Option.some.inj (Tryz.func3.symm.trans hfn)).symm
      exact ⟨wide_looks, fun j t ht => by
        rw [Tryz.params3] at ht
        have hm : t ∈ [27] := by simpa using Array.mem_of_getElem? ht
        have hall : ([27].all fun u => !Tryz.prog.wantsStandIn u) = true := by kernel_rfl
        exact (show Tryz.prog.wantsStandIn t = false by simpa using List.all_eq_true.1 hall t hm)⟩)
    pointsCut_goes
end Go.Proofs.YtobojnodohjiaaaGreatDoor
