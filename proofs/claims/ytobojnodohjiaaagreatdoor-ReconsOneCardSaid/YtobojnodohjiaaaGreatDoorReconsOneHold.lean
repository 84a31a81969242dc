
/- ReconsOne: the row and its card hold. No condition. -/
import Derived.Test.YtobojnodohjiaaaGreatDoorLiftRq
import Derived.Test.YtobojnodohjiaaaGreatDoorRowP
import Derived.Test.YtobojnodohjiaaaGreatDoorRecOne
namespace Go.Proofs.YtobojnodohjiaaaGreatDoor
open Go.ChangeShapes Go.WideShapes Go.ChangeAt Go.RowKit
set_option maxRecDepth 100000 in
theorem reconsOne_lifted (os : Os) (started : os.Started) (H : Type) (enc : TypeId × Value → H) :
    ReturnsInHanded {} Tryz.checked os 8 .any (fun w args => (Rows.reconsOneSpec.pre enc Tryz.prog Tryz.f8 Rows.reconsOneRow.domain false w args ∧ laidMetH Tryz.prog Rows.reconsOneRow.laid w) ∧ sizedMet enc Tryz.prog Tryz.f8 (OpenSpec.ofChange Rows.reconsOneSpec) false w args)
      (Rows.reconsOneSpec.post enc Tryz.prog Tryz.f8 false true false false) := by
  refine returnsInHanded_of_change_and (C := Tryz.checked) (X := fun w _ => laidMetH Tryz.prog Rows.reconsOneRow.laid w) (fun _ _ _ hh h => h.of_heap hh) Tryz.own started (by kernel_rfl) Tryz.func8
    (ChangeSpec.witness_shaped (enc := enc) (C := Tryz.checked) (os := os) (X := fun w _ => laidMetH Tryz.prog Rows.reconsOneRow.laid w) false (World.laidAll Tryz.prog os Rows.reconsOneRow.laid) #[.agg #[.bool false, .slice none 0 0, .slice none 0 0], .agg #[.bool false, .slice none 0 0, .slice none 0 0], .slice none 0 0, .int .i64 0] 8 (World.laidAll_os _ _ _)
      (World.shaped_of_ZipB (by kernel_rfl) (by kernel_rfl)) (by kernel_rfl) (by kernel_rfl) (by kernel_rfl)
      (by rw [MakeChecks.laidMetH_plain _ _ _ (by kernel_rfl)]; exact laidMet_laidAll _ (by kernel_rfl) (by kernel_rfl))) ?_
  intro W base args ds gs before hval0 hW hc _ hL _
  have hval : ∀ (j : Nat) t v, Tryz.f8.params[j]? = some t → args[j]? = some v → Value.okWide Tryz.prog W .any base t v := hval0
  have hW' := hW
  obtain ⟨p, q, hA0, hV, rfl, hfz, hnd⟩ := hW
  have hA : DataW.TrodAll enc Tryz.prog W 0 (fun _ => true) true Tryz.f8.params.toList args.toList ds p := hA0
  rw [Tryz.params8] at hA hval
  obtain ⟨v0, v1, v2, v3, d0, d1, d2, d3, p0, p1, p2, p3, rfl, rfl, rfl, h0, h1, h2, h3⟩ := trodAll_four hA
  obtain ⟨rfl, rfl⟩ := trodVars_none hV
  obtain ⟨k2, f2, HW2, HF2⟩ := open_words (hval 2 79 v2 rfl rfl) h2
  obtain ⟨n3, rfl, rfl, rfl, w3⟩ := open_int Tryz.underlying2 (hval 3 2 v3 rfl rfl) h3
  obtain ⟨lo3, hi3⟩ := i64_wf w3
  obtain ⟨b0, u0, k0, f0, v0', k0', f0', rfl, HW0, HF0, HW0', HF0'⟩ := open_g (hval 0 83 v0 rfl rfl) h0
  obtain ⟨b1, u1, k1, f1, v1', k1', f1', rfl, HW1, HF1, HW1', HF1'⟩ := open_g (hval 1 83 v1 rfl rfl) h1
  clear hA0 hval0
  simp only [List.append_nil] at hW'
  have HT : Hid (Tab W) := Lib.hid (tab_of hL)
  refine (one_law b0 u0 k0 f0 v0' k0' f0' b1 u1 k1 f1 v1' k1' f1' v2 k2 f2 n3 W HW0 HF0 HW0' HF0' HW1 HF1 HW1' HF1' HW2 HF2 lo3 hi3 HT).mono fun e W' ⟨he, hb⟩ => ?_
  subst he
  exact ⟨_, rfl, post_of_below (pv := []) hW' (fun _ _ _ => trodAll_mk1 (shut_bool Tryz.underlying4 true)) (fun sp hs => trodAll_mk4 (stays (by kernel_rfl) (by decide +kernel) h0 hb (fun x hx => hW'.lt x (by simp [hx])) sp (fun x hx => hs x (by simp [hx]))) (stays (by kernel_rfl) (by decide +kernel) h1 hb (fun x hx => hW'.lt x (by simp [hx])) sp (fun x hx => hs x (by simp [hx]))) (stays (by kernel_rfl) (by decide +kernel) h2 hb (fun x hx => hW'.lt x (by simp [hx])) sp (fun x hx => hs x (by simp [hx]))) (shut_int Tryz.underlying2 w3)) (fun _ _ => rfl) (by simp) hb (ok_one (by kernel_rfl) rfl (okWide_bool_mk Tryz.underlying4 true))⟩
theorem reconsOne_q1 : (Rows.reconsOneRow.wf (OpenSpec.ofChange Rows.reconsOneSpec)) = true := by kernel_rfl
theorem reconsOne_q4 : (Tryz.f8.params.all (Tryz.pinned.checked.prog.readableRec ·)) = true := by kernel_rfl
theorem reconsOne_q5 : (namedTie Tryz.pinned.checked.prog Rows.reconsOneRow.named Rows.reconsOneSpec.vars) = true := by kernel_rfl
theorem reconsOne_q6 : ((Rows.reconsOneRow.stops == [])) = true := by kernel_rfl
theorem reconsOne_q8 : ((Rows.reconsOneRow.knobs == [])) = true := by kernel_rfl
theorem reconsOne_q10 : ((Rows.reconsOneRow.inPlace == Tryz.pinned.checked.prog.inPlace 8)) = true := by kernel_rfl
theorem reconsOne_q11 : ((Rows.reconsOneRow.unfollowed == Tryz.pinned.checked.prog.unfollowed 8)) = true := by kernel_rfl
theorem reconsOne_q12 : ((Rows.reconsOneRow.recurses == Tryz.pinned.checked.prog.recurses 8)) = true := by kernel_rfl
theorem reconsOne_q13 : ((Rows.reconsOneRow.named == Tryz.pinned.checked.prog.varsNamed 8)) = true := by kernel_rfl
theorem reconsOne_q14 : ((Rows.reconsOneRow.maps == (Tryz.f8.params.toList ++ Rows.reconsOneSpec.plain.varTypes Tryz.pinned.checked.prog).any (Tryz.pinned.checked.prog.mapsRec ·))) = true := by kernel_rfl
theorem reconsOne_q15 : ((Rows.reconsOneRow.ifaces == (Tryz.f8.params.toList ++ Rows.reconsOneSpec.plain.varTypes Tryz.pinned.checked.prog).any (Tryz.pinned.checked.prog.ifacesRec ·))) = true := by kernel_rfl
theorem reconsOne_q16 : ((Rows.reconsOneRow.mapsOut == Tryz.pinned.checked.prog.mapsAmong Tryz.f8.resultTypes.toList)) = true := by kernel_rfl
theorem reconsOne_q17 : ((Rows.reconsOneRow.loops == (Tryz.f8.params.toList ++ Rows.reconsOneSpec.plain.varTypes Tryz.pinned.checked.prog).any (Tryz.pinned.checked.prog.loopsFrom ·))) = true := by kernel_rfl
theorem reconsOne_q18 : ((Rows.reconsOneRow.wideKeys == (Tryz.f8.params.toList ++ Rows.reconsOneSpec.plain.varTypes Tryz.pinned.checked.prog ++ Tryz.f8.resultTypes.toList).any (Tryz.pinned.checked.prog.wideKeysFrom ·))) = true := by kernel_rfl
theorem reconsOne_q19 : (Rows.reconsOneSpec.vars.all (Tryz.pinned.checked.prog.varReadable ·)) = true := by kernel_rfl
theorem reconsOne_q20 : (Tryz.f8.resultTypes.all (fun t => Tryz.pinned.checked.prog.readableRec t && decide (t < Tryz.pinned.checked.prog.types.size))) = true := by kernel_rfl
theorem reconsOne_q21 : ((Rows.reconsOneRow.ifacesOut == Tryz.f8.resultTypes.toList.any (Tryz.pinned.checked.prog.ifacesRec ·))) = true := by kernel_rfl
theorem reconsOne_q22 : ((Rows.reconsOneRow.loopsOut == Tryz.f8.resultTypes.toList.any (Tryz.pinned.checked.prog.loopsFrom ·))) = true := by kernel_rfl
theorem reconsOne_q24 : (Rows.reconsOneRow.shortTexts.isNone) = true := by kernel_rfl
theorem reconsOne_q29 : ((Rows.reconsOneRow.kinds == (if Rows.reconsOneRow.domain.isEmpty then [] else Tryz.f8.params.toList.map fun t => match Tryz.pinned.checked.prog.underlying t with | some (.int k) => some k | _ => none))) = true := by kernel_rfl
theorem reconsOne_q30 : ((Rows.reconsOneRow.pinned == Rows.reconsOneRow.pinnedBy)) = true := by kernel_rfl
theorem reconsOne_q31 : ((Rows.reconsOneRow.veiled == (Tryz.f8.params.toList ++ Rows.reconsOneSpec.plain.varTypes Tryz.pinned.checked.prog ++ Tryz.f8.resultTypes.toList).any (Tryz.pinned.checked.prog.veiledRec ·))) = true := by kernel_rfl
theorem reconsOne_q32 : (Rows.reconsOneRow.veiledFits Tryz.pinned.checked.prog Tryz.f8.params.toList (Tryz.f8.params.toList ++ Rows.reconsOneSpec.plain.varTypes Tryz.pinned.checked.prog ++ Tryz.f8.resultTypes.toList)) = true := by kernel_rfl
set_option maxRecDepth 100000 in
theorem reconsOne_closed : joinedFacts Tryz.pinned.checked.prog 8 Tryz.f8 Rows.reconsOneSpec Rows.reconsOneRow = true := (band (band (band (band (band (band (band (band (band (band (band (band (band (band (band (band (band (band (band (band (band (band (band (band (band (band (band (band (band (band (band reconsOne_q1 wide_2) wide_3) reconsOne_q4) reconsOne_q5) reconsOne_q6) wide_7) reconsOne_q8) wide_9) reconsOne_q10) reconsOne_q11) reconsOne_q12) reconsOne_q13) reconsOne_q14) reconsOne_q15) reconsOne_q16) reconsOne_q17) reconsOne_q18) reconsOne_q19) reconsOne_q20) reconsOne_q21) reconsOne_q22) wide_23) reconsOne_q24) wide_25) wide_26) wide_27) wide_28) reconsOne_q29) reconsOne_q30) reconsOne_q31) reconsOne_q32)
theorem reconsOne_wft : Rows.reconsOneRow.wfByText (OpenSpec.ofChange Rows.reconsOneSpec) = true := by kernel_rfl
theorem reconsOne_goes : false = Rows.reconsOneRow.goesBy Tryz.pinned.checked.prog := by kernel_rfl
theorem reconsOne_row : Rows.ReconsOneSaid :=
  OpenClaim.holds_of_wide 8 Tryz.f8 rfl rfl rfl rfl rfl rfl rfl ⟨rfl, rfl, rfl, rfl, rfl⟩ rfl rfl rfl rfl rfl (by kernel_rfl) Tryz.func8 reconsOne_closed
    (of_decide_eq_true (by kernel_rfl)) (by unfold Func.isWrapper; first | (rw [if_pos (by decide +kernel)]; kernel_rfl) | (rw [if_neg (by decide +kernel)]; exact ⟨rfl, rfl⟩))
    (fun os started H enc _ => reconsOne_lifted os started H enc)
theorem reconsOne_holds : Rows.ReconsOneCardSaid :=
  Claim7.holds_tied_plain_at .later [] [.data, .data, .data] true (true, "afc079fd19886976e46ad6200161126b18fba977a1a09a428d032e19cd27660d") false reconsOne_row (fun _ h => by cases h) reconsOne_wft (fun _ h => by cases h) reconsOne_row_tie rfl ⟨rfl, rfl⟩ wide_main rfl
    (fun f fn hf hfn => by
      obtain rfl : f = 8 := Option.some.inj ((show Tryz.prog.funcNamed "gusset/gussetlaw07.ReconsOne" = some 8 by kernel_rfl).symm.trans hf) |>.symm
      obtain rfl : fn = Tryz.f8 := (Option.some.inj (Tryz.func8.symm.trans hfn)).symm
      exact ⟨wide_looks, fun j t ht => by
        rw [Tryz.params8] at ht
        have hm : t ∈ [83, 83, 79, 2] := by simpa using Array.mem_of_getElem? ht
        have hall : ([83, 83, 79, 2].all fun u => !Tryz.prog.wantsStandIn u) = true := by kernel_rfl
        exact (show Tryz.prog.wantsStandIn t = false by simpa using List.all_eq_true.1 hall t hm)⟩)
    reconsOne_goes
end Go.Proofs.YtobojnodohjiaaaGreatDoor
