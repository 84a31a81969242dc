
/- ReconsThere: the row and its card hold. No condition. -/
import Derived.Test.YtobojnodohjiaaaGreatDoorLiftRq
import Derived.Test.YtobojnodohjiaaaGreatDoorRowP
import Derived.Test.YtobojnodohjiaaaGreatDoorRecThere
namespace Go.Proofs.YtobojnodohjiaaaGreatDoor
open Go.ChangeShapes Go.WideShapes Go.ChangeAt Go.RowKit
set_option maxRecDepth 100000 in
theorem reconsThere_lifted (os : Os) (started : os.Started) (H : Type) (enc : TypeId × Value → H) :
    ReturnsInHanded {} Tryz.checked os 6 .any (fun w args => (Rows.reconsThereSpec.pre enc Tryz.prog Tryz.f6 Rows.reconsThereRow.domain false w args ∧ laidMetH Tryz.prog Rows.reconsThereRow.laid w) ∧ sizedMet enc Tryz.prog Tryz.f6 (OpenSpec.ofChange Rows.reconsThereSpec) false w args)
      (Rows.reconsThereSpec.post enc Tryz.prog Tryz.f6 false true false false) := by
  refine returnsInHanded_of_change_and (C := Tryz.checked) (X := fun w _ => laidMetH Tryz.prog Rows.reconsThereRow.laid w) (fun _ _ _ hh h => h.of_heap hh) Tryz.own started (by kernel_rfl) Tryz.func6
    (ChangeSpec.witness_shaped (enc := enc) (C := Tryz.checked) (os := os) (X := fun w _ => laidMetH Tryz.prog Rows.reconsThereRow.laid w) false (World.laidAll Tryz.prog os Rows.reconsThereRow.laid) #[.agg #[.bool false, .slice none 0 0, .slice none 0 0], .slice none 0 0, .agg #[.bool false, .slice none 0 0]] 8 (World.laidAll_os _ _ _)
      (World.shaped_of_ZipB (by kernel_rfl) (by kernel_rfl)) (by kernel_rfl) (by kernel_rfl) (by kernel_rfl)
      (by rw [MakeChecks.laidMetH_plain _ _ _ (by kernel_rfl)]; exact laidMet_laidAll _ (by kernel_rfl) (by kernel_rfl))) ?_
  intro W base args ds gs before hval0 hW hc _ hL _
  have hval : ∀ (j : Nat) t v, Tryz.f6.params[j]? = some t → args[j]? = some v → Value.okWide Tryz.prog W .any base t v := hval0
  have hW' := hW
  obtain ⟨p, q, hA0, hV, rfl, hfz, hnd⟩ := hW
  have hA : DataW.TrodAll enc Tryz.prog W 0 (fun _ => true) true Tryz.f6.params.toList args.toList ds p := hA0
  rw [Tryz.params6] at hA hval
  obtain ⟨v0, v1, v2, d0, d1, d2, p0, p1, p2, rfl, rfl, rfl, h0, h1, h2⟩ := trodAll_three hA
  obtain ⟨rfl, rfl⟩ := trodVars_none hV
  obtain ⟨k1, f1, HW1, HF1⟩ := open_words (hval 1 79 v1 rfl rfl) h1
  obtain ⟨b0, u0, k0, f0, v0', k0', f0', rfl, HW0, HF0, HW0', HF0'⟩ := open_g (hval 0 83 v0 rfl rfl) h0
  obtain ⟨b2, u2, k2, f2, rfl, HW2, HF2⟩ := open_z (hval 2 81 v2 rfl rfl) h2
  clear hA0 hval0
  simp only [List.append_nil] at hW'
  have HT : Hid (Tab W) := Lib.hid (tab_of hL)
  refine (there_law b0 u0 k0 f0 v0' k0' f0' v1 k1 f1 b2 u2 k2 f2 W HW0 HF0 HW0' HF0' HW1 HF1 HW2 HF2 HT).mono fun e W' ⟨he, hb⟩ => ?_
  subst he
  exact ⟨_, rfl, post_of_below (pv := []) hW' (fun _ _ _ => trodAll_mk1 (shut_bool Tryz.underlying4 true)) (fun sp hs => trodAll_mk3 (stays (by kernel_rfl) (by decide +kernel) h0 hb (fun x hx => hW'.lt x (by simp [hx])) sp (fun x hx => hs x (by simp [hx]))) (stays (by kernel_rfl) (by decide +kernel) h1 hb (fun x hx => hW'.lt x (by simp [hx])) sp (fun x hx => hs x (by simp [hx]))) (stays (by kernel_rfl) (by decide +kernel) h2 hb (fun x hx => hW'.lt x (by simp [hx])) sp (fun x hx => hs x (by simp [hx])))) (fun _ _ => rfl) (by simp) hb (ok_one (by kernel_rfl) rfl (okWide_bool_mk Tryz.underlying4 true))⟩
theorem reconsThere_q1 : (Rows.reconsThereRow.wf (OpenSpec.ofChange Rows.reconsThereSpec)) = true := by kernel_rfl
theorem reconsThere_q4 : (Tryz.f6.params.all (Tryz.pinned.checked.prog.readableRec ·)) = true := by kernel_rfl
theorem reconsThere_q5 : (namedTie Tryz.pinned.checked.prog Rows.reconsThereRow.named Rows.reconsThereSpec.vars) = true := by kernel_rfl
theorem reconsThere_q6 : ((Rows.reconsThereRow.stops == [])) = true := by kernel_rfl
theorem reconsThere_q8 : ((Rows.reconsThereRow.knobs == [])) = true := by kernel_rfl
theorem reconsThere_q10 : ((Rows.reconsThereRow.inPlace == Tryz.pinned.checked.prog.inPlace 6)) = true := by kernel_rfl
theorem reconsThere_q11 : ((Rows.reconsThereRow.unfollowed == Tryz.pinned.checked.prog.unfollowed 6)) = true := by kernel_rfl
theorem reconsThere_q12 : ((Rows.reconsThereRow.recurses == Tryz.pinned.checked.prog.recurses 6)) = true := by kernel_rfl
theorem reconsThere_q13 : ((Rows.reconsThereRow.named == Tryz.pinned.checked.prog.varsNamed 6)) = true := by kernel_rfl
theorem reconsThere_q14 : ((Rows.reconsThereRow.maps == (Tryz.f6.params.toList ++ Rows.reconsThereSpec.plain.varTypes Tryz.pinned.checked.prog).any (Tryz.pinned.checked.prog.mapsRec ·))) = true := by kernel_rfl
theorem reconsThere_q15 : ((Rows.reconsThereRow.ifaces == (Tryz.f6.params.toList ++ Rows.reconsThereSpec.plain.varTypes Tryz.pinned.checked.prog).any (Tryz.pinned.checked.prog.ifacesRec ·))) = true := by kernel_rfl
theorem reconsThere_q16 : ((Rows.reconsThereRow.mapsOut == Tryz.pinned.checked.prog.mapsAmong Tryz.f6.resultTypes.toList)) = true := by kernel_rfl
theorem reconsThere_q17 : ((Rows.reconsThereRow.loops == (Tryz.f6.params.toList ++ Rows.reconsThereSpec.plain.varTypes Tryz.pinned.checked.prog).any (Tryz.pinned.checked.prog.loopsFrom ·))) = true := by kernel_rfl
theorem reconsThere_q18 : ((Rows.reconsThereRow.wideKeys == (Tryz.f6.params.toList ++ Rows.reconsThereSpec.plain.varTypes Tryz.pinned.checked.prog ++ Tryz.f6.resultTypes.toList).any (Tryz.pinned.checked.prog.wideKeysFrom ·))) = true := by kernel_rfl
theorem reconsThere_q19 : (Rows.reconsThereSpec.vars.all (Tryz.pinned.checked.prog.varReadable ·)) = true := by kernel_rfl
theorem reconsThere_q20 : (Tryz.f6.resultTypes.all (fun t => Tryz.pinned.checked.prog.readableRec t && decide (t < Tryz.pinned.checked.prog.types.size))) = true := by kernel_rfl
theorem reconsThere_q21 : ((Rows.reconsThereRow.ifacesOut == Tryz.f6.resultTypes.toList.any (Tryz.pinned.checked.prog.ifacesRec ·))) = true := by kernel_rfl
theorem reconsThere_q22 : ((Rows.reconsThereRow.loopsOut == Tryz.f6.resultTypes.toList.any (Tryz.pinned.checked.prog.loopsFrom ·))) = true := by kernel_rfl
theorem reconsThere_q24 : (Rows.reconsThereRow.shortTexts.isNone) = true := by kernel_rfl
theorem reconsThere_q29 : ((Rows.reconsThereRow.kinds == (if Rows.reconsThereRow.domain.isEmpty then [] else Tryz.f6.params.toList.map fun t => match Tryz.pinned.checked.prog.underlying t with | some (.int k) => some k | _ => none))) = true := by kernel_rfl
theorem reconsThere_q30 : ((Rows.reconsThereRow.pinned == Rows.reconsThereRow.pinnedBy)) = true := by kernel_rfl
theorem reconsThere_q31 : ((Rows.reconsThereRow.veiled == (Tryz.f6.params.toList ++ Rows.reconsThereSpec.plain.varTypes Tryz.pinned.checked.prog ++ Tryz.f6.resultTypes.toList).any (Tryz.pinned.checked.prog.veiledRec ·))) = true := by kernel_rfl
theorem reconsThere_q32 : (Rows.reconsThereRow.veiledFits Tryz.pinned.checked.prog Tryz.f6.params.toList (Tryz.f6.params.toList ++ Rows.reconsThereSpec.plain.varTypes Tryz.pinned.checked.prog ++ Tryz.f6.resultTypes.toList)) = true := by kernel_rfl
set_option maxRecDepth 100000 in
theorem reconsThere_closed : joinedFacts Tryz.pinned.checked.prog 6 Tryz.f6 Rows.reconsThereSpec Rows.reconsThereRow = true := (band (band (band (band (band (band (band (band (band (band (band (band (band (band (band (band (band (band (band (band (band (band (band (band (band (band (band (band (band (band (band reconsThere_q1 wide_2) wide_3) reconsThere_q4) reconsThere_q5) reconsThere_q6) wide_7) reconsThere_q8) wide_9) reconsThere_q10) reconsThere_q11) reconsThere_q12) reconsThere_q13) reconsThere_q14) reconsThere_q15) reconsThere_q16) reconsThere_q17) reconsThere_q18) reconsThere_q19) reconsThere_q20) reconsThere_q21) reconsThere_q22) wide_23) reconsThere_q24) wide_25) wide_26) wide_27) wide_28) reconsThere_q29) reconsThere_q30) reconsThere_q31) reconsThere_q32)
theorem reconsThere_wft : Rows.reconsThereRow.wfByText (OpenSpec.ofChange Rows.reconsThereSpec) = true := by kernel_rfl
theorem reconsThere_goes : false = Rows.reconsThereRow.goesBy Tryz.pinned.checked.prog := by kernel_rfl
theorem reconsThere_row : Rows.ReconsThereSaid :=
  OpenClaim.holds_of_wide 6 Tryz.f6 rfl rfl rfl rfl rfl rfl rfl ⟨rfl, rfl, rfl, rfl, rfl⟩ rfl rfl rfl rfl rfl (by kernel_rfl) Tryz.func6 reconsThere_closed
    (of_decide_eq_true (by kernel_rfl)) (by unfold Func.isWrapper; first | (rw [if_pos (by decide +kernel)]; kernel_rfl) | (rw [if_neg (by decide +kernel)]; exact ⟨rfl, rfl⟩))
    (fun os started H enc _ => reconsThere_lifted os started H enc)
theorem reconsThere_holds : Rows.ReconsThereCardSaid :=
  Claim7.holds_tied_plain_at .later [] [.data, .data, .data] true (true, "afc079fd19886976e46ad6200161126b18fba977a1a09a428d032e19cd27660d") false reconsThere_row (fun _ h => by cases h) reconsThere_wft (fun _ h => by cases h) reconsThere_row_tie rfl ⟨rfl, rfl⟩ wide_main rfl
    (fun f fn hf hfn => by
      obtain rfl : f = 6 := Option.some.inj ((show Tryz.prog.funcNamed "gusset/gussetlaw07.ReconsThere" = some 6 by kernel_rfl).symm.trans hf) |>.symm
      obtain rfl : fn = Tryz.f6 := (Option.some.inj (Tryz.func6.symm.trans hfn)).symm
      exact ⟨wide_looks, fun j t ht => by
        rw [Tryz.params6] at ht
        have hm : t ∈ [83, 79, 81] := by simpa using Array.mem_of_getElem? ht
        have hall : ([83, 79, 81].all fun u => !Tryz.prog.wantsStandIn u) = true := by kernel_rfl
        exact (show Tryz.prog.wantsStandIn t = false by simpa using List.all_eq_true.1 hall t hm)⟩)
    reconsThere_goes
end Go.Proofs.YtobojnodohjiaaaGreatDoor
