
/- ReconsChinese: the row and its card hold. No condition. -/
import Derived.Test.YtobojnodohjiaaaGreatDoorLiftCq
import Derived.Test.YtobojnodohjiaaaGreatDoorRowP
import Derived.Test.YtobojnodohjiaaaGreatDoorRecChi
namespace Go.Proofs.YtobojnodohjiaaaGreatDoor
open Go.ChangeShapes Go.WideShapes Go.ChangeAt Go.RowKit
set_option maxRecDepth 100000 in
theorem reconsChinese_lifted (os : Os) (started : os.Started) (H : Type) (enc : TypeId × Value → H) :
    ReturnsInHanded {} Tryz.checked os 5 .any (fun w args => (Rows.reconsChineseSpec.pre enc Tryz.prog Tryz.f5 Rows.reconsChineseRow.domain false w args ∧ laidMetH Tryz.prog Rows.reconsChineseRow.laid w) ∧ sizedMet enc Tryz.prog Tryz.f5 (OpenSpec.ofChange Rows.reconsChineseSpec) false w args)
      (Rows.reconsChineseSpec.post enc Tryz.prog Tryz.f5 false true false false) := by
  refine returnsInHanded_of_change_and (C := Tryz.checked) (X := fun w _ => laidMetH Tryz.prog Rows.reconsChineseRow.laid w) (fun _ _ _ hh h => h.of_heap hh) Tryz.own started (by kernel_rfl) Tryz.func5
    (ChangeSpec.witness_shaped (enc := enc) (C := Tryz.checked) (os := os) (X := fun w _ => laidMetH Tryz.prog Rows.reconsChineseRow.laid w) false (World.laidAll Tryz.prog os Rows.reconsChineseRow.laid) #[.slice none 0 0] 8 (World.laidAll_os _ _ _)
      (World.shaped_of_ZipB (by kernel_rfl) (by kernel_rfl)) (by kernel_rfl) (by kernel_rfl) (by kernel_rfl)
      (by rw [MakeChecks.laidMetH_plain _ _ _ (by kernel_rfl)]; exact laidMet_laidAll _ (by kernel_rfl) (by kernel_rfl))) ?_
  intro W base args ds gs before hval0 hW hc _ hL _
  have hval : ∀ (j : Nat) t v, Tryz.f5.params[j]? = some t → args[j]? = some v → Value.okWide Tryz.prog W .any base t v := hval0
  have hW' := hW
  obtain ⟨p, q, hA0, hV, rfl, hfz, hnd⟩ := hW
  have hA : DataW.TrodAll enc Tryz.prog W 0 (fun _ => true) true Tryz.f5.params.toList args.toList ds p := hA0
  rw [Tryz.params5] at hA hval
  obtain ⟨v0, d0, rfl, rfl, h0⟩ := trodAll_one hA
  obtain ⟨rfl, rfl⟩ := trodVars_none hV
  obtain ⟨m0, N0, D0, HQ0, HB0⟩ := open_rq (hval 0 66 v0 rfl rfl) h0
  clear hA0 hval0
  simp only [List.append_nil] at hW'
  have HT : Hid (Tab W) := Lib.hid (tab_of hL)
  refine (chin_law v0 m0 N0 D0 W HQ0 HB0 HT).mono fun e W' ⟨he, hb⟩ => ?_
  subst he
  exact ⟨_, rfl, post_of_below (pv := []) hW' (fun _ _ _ => trodAll_mk1 (shut_bool Tryz.underlying4 true)) (fun sp hs => trodAll_mk1 (stays (by kernel_rfl) (by decide +kernel) h0 hb (fun x hx => hW'.lt x (by simpa using hx)) sp (fun x hx => hs x (by simpa using hx)))) (fun _ _ => rfl) (by simp) hb (ok_one (by kernel_rfl) rfl (okWide_bool_mk Tryz.underlying4 true))⟩
theorem reconsChinese_q1 : (Rows.reconsChineseRow.wf (OpenSpec.ofChange Rows.reconsChineseSpec)) = true := by kernel_rfl
theorem reconsChinese_q4 : (Tryz.f5.params.all (Tryz.pinned.checked.prog.readableRec ·)) = true := by kernel_rfl
theorem reconsChinese_q5 : (namedTie Tryz.pinned.checked.prog Rows.reconsChineseRow.named Rows.reconsChineseSpec.vars) = true := by kernel_rfl
theorem reconsChinese_q6 : ((Rows.reconsChineseRow.stops == [])) = true := by kernel_rfl
theorem reconsChinese_q8 : ((Rows.reconsChineseRow.knobs == [])) = true := by kernel_rfl
theorem reconsChinese_q10 : ((Rows.reconsChineseRow.inPlace == Tryz.pinned.checked.prog.inPlace 5)) = true := by kernel_rfl
theorem reconsChinese_q11 : ((Rows.reconsChineseRow.unfollowed == Tryz.pinned.checked.prog.unfollowed 5)) = true := by kernel_rfl
theorem reconsChinese_q12 : ((Rows.reconsChineseRow.recurses == Tryz.pinned.checked.prog.recurses 5)) = true := by kernel_rfl
theorem reconsChinese_q13 : ((Rows.reconsChineseRow.named == Tryz.pinned.checked.prog.varsNamed 5)) = true := by kernel_rfl
theorem reconsChinese_q14 : ((Rows.reconsChineseRow.maps == (Tryz.f5.params.toList ++ Rows.reconsChineseSpec.plain.varTypes Tryz.pinned.checked.prog).any (Tryz.pinned.checked.prog.mapsRec ·))) = true := by kernel_rfl
theorem reconsChinese_q15 : ((Rows.reconsChineseRow.ifaces == (Tryz.f5.params.toList ++ Rows.reconsChineseSpec.plain.varTypes Tryz.pinned.checked.prog).any (Tryz.pinned.checked.prog.ifacesRec ·))) = true := by kernel_rfl
theorem reconsChinese_q16 : ((Rows.reconsChineseRow.mapsOut == Tryz.pinned.checked.prog.mapsAmong Tryz.f5.resultTypes.toList)) = true := by kernel_rfl
theorem reconsChinese_q17 : ((Rows.reconsChineseRow.loops == (Tryz.f5.params.toList ++ Rows.reconsChineseSpec.plain.varTypes Tryz.pinned.checked.prog).any (Tryz.pinned.checked.prog.loopsFrom ·))) = true := by kernel_rfl
theorem reconsChinese_q18 : ((Rows.reconsChineseRow.wideKeys == (Tryz.f5.params.toList ++ Rows.reconsChineseSpec.plain.varTypes Tryz.pinned.checked.prog ++ Tryz.f5.resultTypes.toList).any (Tryz.pinned.checked.prog.wideKeysFrom ·))) = true := by kernel_rfl
theorem reconsChinese_q19 : (Rows.reconsChineseSpec.vars.all (Tryz.pinned.checked.prog.varReadable ·)) = true := by kernel_rfl
theorem reconsChinese_q20 : (Tryz.f5.resultTypes.all (fun t => Tryz.pinned.checked.prog.readableRec t && decide (t < Tryz.pinned.checked.prog.types.size))) = true := by kernel_rfl
theorem reconsChinese_q21 : ((Rows.reconsChineseRow.ifacesOut == Tryz.f5.resultTypes.toList.any (Tryz.pinned.checked.prog.ifacesRec ·))) = true := by kernel_rfl
theorem reconsChinese_q22 : ((Rows.reconsChineseRow.loopsOut == Tryz.f5.resultTypes.toList.any (Tryz.pinned.checked.prog.loopsFrom ·))) = true := by kernel_rfl
theorem reconsChinese_q24 : (Rows.reconsChineseRow.shortTexts.isNone) = true := by kernel_rfl
theorem reconsChinese_q29 : ((Rows.reconsChineseRow.kinds == (if Rows.reconsChineseRow.domain.isEmpty then [] else Tryz.f5.params.toList.map fun t => match Tryz.pinned.checked.prog.underlying t with | some (.int k) => some k | _ => none))) = true := by kernel_rfl
theorem reconsChinese_q30 : ((Rows.reconsChineseRow.pinned == Rows.reconsChineseRow.pinnedBy)) = true := by kernel_rfl
theorem reconsChinese_q31 : ((Rows.reconsChineseRow.veiled == (Tryz.f5.params.toList ++ Rows.reconsChineseSpec.plain.varTypes Tryz.pinned.checked.prog ++ Tryz.f5.resultTypes.toList).any (Tryz.pinned.checked.prog.veiledRec ·))) = true := by kernel_rfl
theorem reconsChinese_q32 : (Rows.reconsChineseRow.veiledFits Tryz.pinned.checked.prog Tryz.f5.params.toList (Tryz.f5.params.toList ++ Rows.reconsChineseSpec.plain.varTypes Tryz.pinned.checked.prog ++ Tryz.f5.resultTypes.toList)) = true := by kernel_rfl
set_option maxRecDepth 100000 in
theorem reconsChinese_closed : joinedFacts Tryz.pinned.checked.prog 5 Tryz.f5 Rows.reconsChineseSpec Rows.reconsChineseRow = true := (band (band (band (band (band (band (band (band (band (band (band (band (band (band (band (band (band (band (band (band (band (band (band (band (band (band (band (band (band (band (band reconsChinese_q1 wide_2) wide_3) reconsChinese_q4) reconsChinese_q5) reconsChinese_q6) wide_7) reconsChinese_q8) wide_9) reconsChinese_q10) reconsChinese_q11) reconsChinese_q12) reconsChinese_q13) reconsChinese_q14) reconsChinese_q15) reconsChinese_q16) reconsChinese_q17) reconsChinese_q18) reconsChinese_q19) reconsChinese_q20) reconsChinese_q21) reconsChinese_q22) wide_23) reconsChinese_q24) wide_25) wide_26) wide_27) wide_28) reconsChinese_q29) reconsChinese_q30) reconsChinese_q31) reconsChinese_q32)
theorem reconsChinese_wft : Rows.reconsChineseRow.wfByText (OpenSpec.ofChange Rows.reconsChineseSpec) = true := by kernel_rfl
theorem reconsChinese_goes : false = Rows.reconsChineseRow.goesBy Tryz.pinned.checked.prog := by kernel_rfl
theorem reconsChinese_row : Rows.ReconsChineseSaid :=
  OpenClaim.holds_of_wide 5 Tryz.f5 rfl rfl rfl rfl rfl rfl rfl ⟨rfl, rfl, rfl, rfl, rfl⟩ rfl rfl rfl rfl rfl (by kernel_rfl) Tryz.func5 reconsChinese_closed
    (of_decide_eq_true (by kernel_rfl)) (by unfold Func.isWrapper; first | (rw [if_pos (by decide +kernel)]; kernel_rfl) | (rw [if_neg (by decide +kernel)]; exact ⟨rfl, rfl⟩))
    (fun os started H enc _ => reconsChinese_lifted os started H enc)
theorem reconsChinese_holds : Rows.ReconsChineseCardSaid :=
  Claim7.holds_tied_plain_at .later [] [.data, .data, .data] true (true, "afc079fd19886976e46ad6200161126b18fba977a1a09a428d032e19cd27660d") false reconsChinese_row (fun _ h => by cases h) reconsChinese_wft (fun _ h => by cases h) reconsChinese_row_tie rfl ⟨rfl, rfl⟩ wide_main rfl
    (fun f fn hf hfn => by
      obtain rfl : f = 5 := Option.some.inj ((show Tryz.prog.funcNamed "gusset/gussetlaw07.ReconsChinese" = some 5 by kernel_rfl).symm.trans hf) |>.symm
      obtain rfl : fn = Tryz.f5 := (Option.some.inj (Tryz.func5.symm.trans hfn)).symm
      exact ⟨wide_looks, fun j t ht => by
        rw [Tryz.params5] at ht
        have hm : t ∈ [66] := by simpa using Array.mem_of_getElem? ht
        have hall : ([66].all fun u => !Tryz.prog.wantsStandIn u) = true := by kernel_rfl
        exact (show Tryz.prog.wantsStandIn t = false by simpa using List.all_eq_true.1 hall t hm)⟩)
    reconsChinese_goes
end Go.Proofs.YtobojnodohjiaaaGreatDoor
