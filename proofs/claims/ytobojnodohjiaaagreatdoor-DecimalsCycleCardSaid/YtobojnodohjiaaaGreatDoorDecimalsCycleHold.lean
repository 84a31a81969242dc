
/- DecimalsCycle: the row and its card hold. No condition. -/
import Derived.Test.YtobojnodohjiaaaGreatDoorLiftUq
import Derived.Test.YtobojnodohjiaaaGreatDoorRowP
import Derived.Test.YtobojnodohjiaaaGreatDoorCycD
namespace Go.Proofs.YtobojnodohjiaaaGreatDoor
open Go.ChangeShapes Go.WideShapes Go.ChangeAt Go.RowKit
set_option maxRecDepth 100000 in
theorem decimalsCycle_lifted (os : Os) (started : os.Started) (H : Type) (enc : TypeId × Value → H) :
    ReturnsInHanded {} Tryz.checked os 14 .any (fun w args => (Rows.decimalsCycleSpec.pre enc Tryz.prog Tryz.f14 Rows.decimalsCycleRow.domain false w args ∧ laidMetH Tryz.prog Rows.decimalsCycleRow.laid w) ∧ sizedMet enc Tryz.prog Tryz.f14 (OpenSpec.ofChange Rows.decimalsCycleSpec) false w args)
      (Rows.decimalsCycleSpec.post enc Tryz.prog Tryz.f14 false true false false) := by
  refine returnsInHanded_of_change_and (C := Tryz.checked) (X := fun w _ => laidMetH Tryz.prog Rows.decimalsCycleRow.laid w) (fun _ _ _ hh h => h.of_heap hh) Tryz.own started (by kernel_rfl) Tryz.func14
    (ChangeSpec.witness_shaped (enc := enc) (C := Tryz.checked) (os := os) (X := fun w _ => laidMetH Tryz.prog Rows.decimalsCycleRow.laid w) false (World.laidAll Tryz.prog os Rows.decimalsCycleRow.laid) #[.agg #[.int .i64 0, .int .u32 0]] 8 (World.laidAll_os _ _ _)
      (World.shaped_of_ZipB (by kernel_rfl) (by kernel_rfl)) (by kernel_rfl) (by kernel_rfl) (by kernel_rfl)
      (by rw [MakeChecks.laidMetH_plain _ _ _ (by kernel_rfl)]; exact laidMet_laidAll _ (by kernel_rfl) (by kernel_rfl))) ?_
  intro W base args ds gs before hval0 hW hc _ hL _
  have hval : ∀ (j : Nat) t v, Tryz.f14.params[j]? = some t → args[j]? = some v → Value.okWide Tryz.prog W .any base t v := hval0
  have hW' := hW
  obtain ⟨p, q, hA0, hV, rfl, hfz, hnd⟩ := hW
  have hA : DataW.TrodAll enc Tryz.prog W 0 (fun _ => true) true Tryz.f14.params.toList args.toList ds p := hA0
  rw [Tryz.params14] at hA hval
  obtain ⟨v0, d0, rfl, rfl, h0⟩ := trodAll_one hA
  obtain ⟨rfl, rfl⟩ := trodVars_none hV
  obtain ⟨q0_0, q0_1, rfl, lq0_0, gq0_0, lq0_1, gq0_1⟩ := open_q (hval 0 24 v0 rfl rfl)
  clear hA0 hval0
  simp only [List.append_nil] at hW'
  have HT : Hid (Tab W) := Lib.hid (tab_of hL)
  refine (cycled_law q0_0 q0_1 W lq0_0 gq0_0 lq0_1 gq0_1 HT).mono fun e W' ⟨he, hb⟩ => ?_
  subst he
  exact ⟨_, rfl, post_of_below (pv := []) hW' (fun _ _ _ => trodAll_mk1 (shut_bool Tryz.underlying4 true)) (fun sp hs => trodAll_mk1 (stays (by kernel_rfl) (by decide +kernel) h0 hb (fun x hx => hW'.lt x (by simpa using hx)) sp (fun x hx => hs x (by simpa using hx)))) (fun _ _ => rfl) (by simp) hb (ok_one (by kernel_rfl) rfl (okWide_bool_mk Tryz.underlying4 true))⟩
theorem decimalsCycle_q1 : (Rows.decimalsCycleRow.wf (OpenSpec.ofChange Rows.decimalsCycleSpec)) = true := by kernel_rfl
theorem decimalsCycle_q4 : (Tryz.f14.params.all (Tryz.pinned.checked.prog.readableRec ·)) = true := by kernel_rfl
theorem decimalsCycle_q5 : (namedTie Tryz.pinned.checked.prog Rows.decimalsCycleRow.named Rows.decimalsCycleSpec.vars) = true := by kernel_rfl
theorem decimalsCycle_q6 : ((Rows.decimalsCycleRow.stops == [])) = true := by kernel_rfl
theorem decimalsCycle_q8 : ((Rows.decimalsCycleRow.knobs == [])) = true := by kernel_rfl
theorem decimalsCycle_q10 : ((Rows.decimalsCycleRow.inPlace == Tryz.pinned.checked.prog.inPlace 14)) = true := by kernel_rfl
theorem decimalsCycle_q11 : ((Rows.decimalsCycleRow.unfollowed == Tryz.pinned.checked.prog.unfollowed 14)) = true := by kernel_rfl
theorem decimalsCycle_q12 : ((Rows.decimalsCycleRow.recurses == Tryz.pinned.checked.prog.recurses 14)) = true := by kernel_rfl
theorem decimalsCycle_q13 : ((Rows.decimalsCycleRow.named == Tryz.pinned.checked.prog.varsNamed 14)) = true := by kernel_rfl
theorem decimalsCycle_q14 : ((Rows.decimalsCycleRow.maps == (Tryz.f14.params.toList ++ Rows.decimalsCycleSpec.plain.varTypes Tryz.pinned.checked.prog).any (Tryz.pinned.checked.prog.mapsRec ·))) = true := by kernel_rfl
theorem decimalsCycle_q15 : ((Rows.decimalsCycleRow.ifaces == (Tryz.f14.params.toList ++ Rows.decimalsCycleSpec.plain.varTypes Tryz.pinned.checked.prog).any (Tryz.pinned.checked.prog.ifacesRec ·))) = true := by kernel_rfl
theorem decimalsCycle_q16 : ((Rows.decimalsCycleRow.mapsOut == Tryz.pinned.checked.prog.mapsAmong Tryz.f14.resultTypes.toList)) = true := by kernel_rfl
theorem decimalsCycle_q17 : ((Rows.decimalsCycleRow.loops == (Tryz.f14.params.toList ++ Rows.decimalsCycleSpec.plain.varTypes Tryz.pinned.checked.prog).any (Tryz.pinned.checked.prog.loopsFrom ·))) = true := by kernel_rfl
theorem decimalsCycle_q18 : ((Rows.decimalsCycleRow.wideKeys == (Tryz.f14.params.toList ++ Rows.decimalsCycleSpec.plain.varTypes Tryz.pinned.checked.prog ++ Tryz.f14.resultTypes.toList).any (Tryz.pinned.checked.prog.wideKeysFrom ·))) = true := by kernel_rfl
theorem decimalsCycle_q19 : (Rows.decimalsCycleSpec.vars.all (Tryz.pinned.checked.prog.varReadable ·)) = true := by kernel_rfl
theorem decimalsCycle_q20 : (Tryz.f14.resultTypes.all (fun t => Tryz.pinned.checked.prog.readableRec t && decide (t < Tryz.pinned.checked.prog.types.size))) = true := by kernel_rfl
theorem decimalsCycle_q21 : ((Rows.decimalsCycleRow.ifacesOut == Tryz.f14.resultTypes.toList.any (Tryz.pinned.checked.prog.ifacesRec ·))) = true := by kernel_rfl
theorem decimalsCycle_q22 : ((Rows.decimalsCycleRow.loopsOut == Tryz.f14.resultTypes.toList.any (Tryz.pinned.checked.prog.loopsFrom ·))) = true := by kernel_rfl
theorem decimalsCycle_q24 : (Rows.decimalsCycleRow.shortTexts.isNone) = true := by kernel_rfl
theorem decimalsCycle_q29 : ((Rows.decimalsCycleRow.kinds == (if Rows.decimalsCycleRow.domain.isEmpty then [] else Tryz.f14.params.toList.map fun t => match Tryz.pinned.checked.prog.underlying t with | some (.int k) => some k | _ => none))) = true := by kernel_rfl
theorem decimalsCycle_q30 : ((Rows.decimalsCycleRow.pinned == Rows.decimalsCycleRow.pinnedBy)) = true := by kernel_rfl
theorem decimalsCycle_q31 : ((Rows.decimalsCycleRow.veiled == (Tryz.f14.params.toList ++ Rows.decimalsCycleSpec.plain.varTypes Tryz.pinned.checked.prog ++ Tryz.f14.resultTypes.toList).any (Tryz.pinned.checked.prog.veiledRec ·))) = true := by kernel_rfl
theorem decimalsCycle_q32 : (Rows.decimalsCycleRow.veiledFits Tryz.pinned.checked.prog Tryz.f14.params.toList (Tryz.f14.params.toList ++ Rows.decimalsCycleSpec.plain.varTypes Tryz.pinned.checked.prog ++ Tryz.f14.resultTypes.toList)) = true := by kernel_rfl
set_option maxRecDepth 100000 in
theorem decimalsCycle_closed : joinedFacts Tryz.pinned.checked.prog 14 Tryz.f14 Rows.decimalsCycleSpec Rows.decimalsCycleRow = true := (band (band (band (band (band (band (band (band (band (band (band (band (band (band (band (band (band (band (band (band (band (band (band (band (band (band (band (band (band (band (band decimalsCycle_q1 wide_2) wide_3) decimalsCycle_q4) decimalsCycle_q5) decimalsCycle_q6) wide_7) decimalsCycle_q8) wide_9) decimalsCycle_q10) decimalsCycle_q11) decimalsCycle_q12) decimalsCycle_q13) decimalsCycle_q14) decimalsCycle_q15) decimalsCycle_q16) decimalsCycle_q17) decimalsCycle_q18) decimalsCycle_q19) decimalsCycle_q20) decimalsCycle_q21) decimalsCycle_q22) wide_23) decimalsCycle_q24) wide_25) wide_26) wide_27) wide_28) decimalsCycle_q29) decimalsCycle_q30) decimalsCycle_q31) decimalsCycle_q32)
theorem decimalsCycle_wft : Rows.decimalsCycleRow.wfByText (OpenSpec.ofChange Rows.decimalsCycleSpec) = true := by kernel_rfl
theorem decimalsCycle_goes : false = Rows.decimalsCycleRow.goesBy Tryz.pinned.checked.prog := by kernel_rfl
theorem decimalsCycle_row : Rows.DecimalsCycleSaid :=
  OpenClaim.holds_of_wide 14 Tryz.f14 rfl rfl rfl rfl rfl rfl rfl ⟨rfl, rfl, rfl, rfl, rfl⟩ rfl rfl rfl rfl rfl (by kernel_rfl) Tryz.func14 decimalsCycle_closed
    (of_decide_eq_true (by kernel_rfl)) (by unfold Func.isWrapper; first | (rw [if_pos (by decide +kernel)]; kernel_rfl) | (rw [if_neg (by decide +kernel)]; exact ⟨rfl, rfl⟩))
    (fun os started H enc _ => decimalsCycle_lifted os started H enc)
theorem decimalsCycle_holds : Rows.DecimalsCycleCardSaid :=
  Claim7.holds_tied_plain_at .later [] [.data, .data, .data] true (true, "afc079fd19886976e46ad6200161126b18fba977a1a09a428d032e19cd27660d") false decimalsCycle_row (fun _ h => by cases h) decimalsCycle_wft (fun _ h => by cases h) decimalsCycle_row_tie rfl ⟨rfl, rfl⟩ wide_main rfl
    (fun f fn hf hfn => by
      obtain rfl : f = 14 := Option.some.inj ((show Tryz.prog.funcNamed "gusset/gussetlaw04.DecimalsCycle" = some 14 by kernel_rfl).symm.trans hf) |>.symm
      obtain rfl : fn = Tryz.f14 := (Option.some.inj (Tryz.func14.symm.trans hfn)).symm
      exact ⟨wide_looks, fun j t ht => by
        rw [Tryz.params14] at ht
        have hm : t ∈ [24] := by simpa using Array.mem_of_getElem? ht
        have hall : ([24].all fun u => !Tryz.prog.wantsStandIn u) = true := by kernel_rfl
        exact (show Tryz.prog.wantsStandIn t = false by simpa using List.all_eq_true.1 hall t hm)⟩)
    decimalsCycle_goes
end Go.Proofs.YtobojnodohjiaaaGreatDoor
