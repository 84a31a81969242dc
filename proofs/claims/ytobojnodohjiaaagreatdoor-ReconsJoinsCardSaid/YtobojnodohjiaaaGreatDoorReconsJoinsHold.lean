
/- ReconsJoins: the row and its card hold. No condition. -/
import Derived.Test.YtobojnodohjiaaaGreatDoorLiftRq
import Derived.Test.YtobojnodohjiaaaGreatDoorRowP
import Derived.Test.YtobojnodohjiaaaGreatDoorRecJJ
namespace Go.Proofs.YtobojnodohjiaaaGreatDoor
open Go.ChangeShapes Go.WideShapes Go.ChangeAt Go.RowKit
set_option maxRecDepth 100000 in
theorem reconsJoins_lifted (os : Os) (started : os.Started) (H : Type) (enc : TypeId × Value → H) :
    ReturnsInHanded {} Tryz.checked os 7 .any (fun w args => (Rows.reconsJoinsSpec.pre enc Tryz.prog Tryz.f7 Rows.reconsJoinsRow.domain false w args ∧ laidMetH Tryz.prog Rows.reconsJoinsRow.laid w) ∧ sizedMet enc Tryz.prog Tryz.f7 (OpenSpec.ofChange Rows.reconsJoinsSpec) false w args)
      (Rows.reconsJoinsSpec.post enc Tryz.prog Tryz.f7 false true false false) := by
  refine returnsInHanded_of_change_and (C := Tryz.checked) (X := fun w _ => laidMetH Tryz.prog Rows.reconsJoinsRow.laid w) (fun _ _ _ hh h => h.of_heap hh) Tryz.own started (by kernel_rfl) Tryz.func7
    (ChangeSpec.witness_shaped (enc := enc) (C := Tryz.checked) (os := os) (X := fun w _ => laidMetH Tryz.prog Rows.reconsJoinsRow.laid w) false (World.laidAll Tryz.prog os Rows.reconsJoinsRow.laid) #[.agg #[.bool false, .slice none 0 0], .slice none 0 0, .int .i64 0] 8 (World.laidAll_os _ _ _)
      (World.shaped_of_ZipB (by kernel_rfl) (by kernel_rfl)) (by kernel_rfl) (by kernel_rfl) (by kernel_rfl)
      (by rw [MakeChecks.laidMetH_plain _ _ _ (by kernel_rfl)]; exact laidMet_laidAll _ (by kernel_rfl) (by kernel_rfl))) ?_
  intro W base args ds gs before hval0 hW hc _ hL _
  have hval : ∀ (j : Nat) t v, Tryz.f7.params[j]? = some t → args[j]? = some v → Value.okWide Tryz.prog W .any base t v := hval0
  have hW' := hW
  obtain ⟨p, q, hA0, hV, rfl, hfz, hnd⟩ := hW
  have hA : DataW.TrodAll enc Tryz.prog W 0 (fun _ => true) true Tryz.f7.params.toList args.toList ds p := hA0
  rw [Tryz.params7] at hA hval
  obtain ⟨v0, v1, v2, d0, d1, d2, p0, p1, p2, rfl, rfl, rfl, h0, h1, h2⟩ := trodAll_three hA
  obtain ⟨rfl, rfl⟩ := trodVars_none hV
  obtain ⟨k1, f1, HW1, HF1⟩ := open_words (hval 1 79 v1 rfl rfl) h1
  obtain ⟨n2, rfl, rfl, rfl, w2⟩ := open_int Tryz.underlying3 (hval 2 3 v2 rfl rfl) h2
  obtain ⟨lo2, hi2⟩ := i64_wf w2
  obtain ⟨b0, u0, k0, f0, rfl, HW0, HF0⟩ := open_z (hval 0 81 v0 rfl rfl) h0
  clear hA0 hval0
  simp only [List.append_nil] at hW'
  have HT : Hid (Tab W) := Lib.hid (tab_of hL)
  refine (joins_law b0 u0 k0 f0 v1 k1 f1 n2 W HW0 HF0 HW1 HF1 lo2 hi2 HT).mono fun e W' ⟨he, hb⟩ => ?_
  subst he
  exact ⟨_, rfl, post_of_below (pv := []) hW' (fun _ _ _ => trodAll_mk1 (shut_bool Tryz.underlying4 true)) (fun sp hs => trodAll_mk3 (stays (by kernel_rfl) (by decide +kernel) h0 hb (fun x hx => hW'.lt x (by simp [hx])) sp (fun x hx => hs x (by simp [hx]))) (stays (by kernel_rfl) (by decide +kernel) h1 hb (fun x hx => hW'.lt x (by simp [hx])) sp (fun x hx => hs x (by simp [hx]))) (shut_int Tryz.underlying3 w2)) (fun _ _ => rfl) (by simp) hb (ok_one (by kernel_rfl) rfl (okWide_bool_mk Tryz.underlying4 true))⟩
theorem reconsJoins_q1 : (Rows.reconsJoinsRow.wf (OpenSpec.ofChange Rows.reconsJoinsSpec)) = true := by kernel_rfl
theorem reconsJoins_q4 : (Tryz.f7.params.all (Tryz.pinned.checked.prog.readableRec ·)) = true := by kernel_rfl
theorem reconsJoins_q5 : (namedTie Tryz.pinned.checked.prog Rows.reconsJoinsRow.named Rows.reconsJoinsSpec.vars) = true := by kernel_rfl
theorem reconsJoins_q6 : ((Rows.reconsJoinsRow.stops == [])) = true := by kernel_rfl
theorem reconsJoins_q8 : ((Rows.reconsJoinsRow.knobs == [])) = true := by kernel_rfl
theorem reconsJoins_q10 : ((Rows.reconsJoinsRow.inPlace == Tryz.pinned.checked.prog.inPlace 7)) = true := by kernel_rfl
theorem reconsJoins_q11 : ((Rows.reconsJoinsRow.unfollowed == Tryz.pinned.checked.prog.unfollowed 7)) = true := by kernel_rfl
theorem reconsJoins_q12 : ((Rows.reconsJoinsRow.recurses == Tryz.pinned.checked.prog.recurses 7)) = true := by kernel_rfl
theorem reconsJoins_q13 : ((Rows.reconsJoinsRow.named == Tryz.pinned.checked.prog.varsNamed 7)) = true := by kernel_rfl
theorem reconsJoins_q14 : ((Rows.reconsJoinsRow.maps == (Tryz.f7.params.toList ++ Rows.reconsJoinsSpec.plain.varTypes Tryz.pinned.checked.prog).any (Tryz.pinned.checked.prog.mapsRec ·))) = true := by kernel_rfl
theorem reconsJoins_q15 : ((Rows.reconsJoinsRow.ifaces == (Tryz.f7.params.toList ++ Rows.reconsJoinsSpec.plain.varTypes Tryz.pinned.checked.prog).any (Tryz.pinned.checked.prog.ifacesRec ·))) = true := by kernel_rfl
theorem reconsJoins_q16 : ((Rows.reconsJoinsRow.mapsOut == Tryz.pinned.checked.prog.mapsAmong Tryz.f7.resultTypes.toList)) = true := by kernel_rfl
theorem reconsJoins_q17 : ((Rows.reconsJoinsRow.loops == (Tryz.f7.params.toList ++ Rows.reconsJoinsSpec.plain.varTypes Tryz.pinned.checked.prog).any (Tryz.pinned.checked.prog.loopsFrom ·))) = true := by kernel_rfl
theorem reconsJoins_q18 : ((Rows.reconsJoinsRow.wideKeys == (Tryz.f7.params.toList ++ Rows.reconsJoinsSpec.plain.varTypes Tryz.pinned.checked.prog ++ Tryz.f7.resultTypes.toList).any (Tryz.pinned.checked.prog.wideKeysFrom ·))) = true := by kernel_rfl
theorem reconsJoins_q19 : (Rows.reconsJoinsSpec.vars.all (Tryz.pinned.checked.prog.varReadable ·)) = true := by kernel_rfl
theorem reconsJoins_q20 : (Tryz.f7.resultTypes.all (fun t => Tryz.pinned.checked.prog.readableRec t && decide (t < Tryz.pinned.checked.prog.types.size))) = true := by kernel_rfl
theorem reconsJoins_q21 : ((Rows.reconsJoinsRow.ifacesOut == Tryz.f7.resultTypes.toList.any (Tryz.pinned.checked.prog.ifacesRec ·))) = true := by kernel_rfl
theorem reconsJoins_q22 : ((Rows.reconsJoinsRow.loopsOut == Tryz.f7.resultTypes.toList.any (Tryz.pinned.checked.prog.loopsFrom ·))) = true := by kernel_rfl
theorem reconsJoins_q24 : (Rows.reconsJoinsRow.shortTexts.isNone) = true := by kernel_rfl
theorem reconsJoins_q29 : ((Rows.reconsJoinsRow.kinds == (if Rows.reconsJoinsRow.domain.isEmpty then [] else Tryz.f7.params.toList.map fun t => match Tryz.pinned.checked.prog.underlying t with | some (.int k) => some k | _ => none))) = true := by kernel_rfl
theorem reconsJoins_q30 : ((Rows.reconsJoinsRow.pinned == Rows.reconsJoinsRow.pinnedBy)) = true := by kernel_rfl
theorem reconsJoins_q31 : ((Rows.reconsJoinsRow.veiled == (Tryz.f7.params.toList ++ Rows.reconsJoinsSpec.plain.varTypes Tryz.pinned.checked.prog ++ Tryz.f7.resultTypes.toList).any (Tryz.pinned.checked.prog.veiledRec ·))) = true := by kernel_rfl
theorem reconsJoins_q32 : (Rows.reconsJoinsRow.veiledFits Tryz.pinned.checked.prog Tryz.f7.params.toList (Tryz.f7.params.toList ++ Rows.reconsJoinsSpec.plain.varTypes Tryz.pinned.checked.prog ++ Tryz.f7.resultTypes.toList)) = true := by kernel_rfl
set_option maxRecDepth 100000 in
theorem reconsJoins_closed : joinedFacts Tryz.pinned.checked.prog 7 Tryz.f7 Rows.reconsJoinsSpec Rows.reconsJoinsRow = true := (band (band (band (band (band (band (band (band (band (band (band (band (band (band (band (band (band (band (band (band (band (band (band (band (band (band (band (band (band (band (band reconsJoins_q1 wide_2) wide_3) reconsJoins_q4) reconsJoins_q5) reconsJoins_q6) wide_7) reconsJoins_q8) wide_9) reconsJoins_q10) reconsJoins_q11) reconsJoins_q12) reconsJoins_q13) reconsJoins_q14) reconsJoins_q15) reconsJoins_q16) reconsJoins_q17) reconsJoins_q18) reconsJoins_q19) reconsJoins_q20) reconsJoins_q21) reconsJoins_q22) wide_23) reconsJoins_q24) wide_25) wide_26) wide_27) wide_28) reconsJoins_q29) reconsJoins_q30) reconsJoins_q31) reconsJoins_q32)
theorem reconsJoins_wft : Rows.reconsJoinsRow.wfByText (OpenSpec.ofChange Rows.reconsJoinsSpec) = true := by kernel_rfl
theorem reconsJoins_goes : false = Rows.reconsJoinsRow.goesBy Tryz.pinned.checked.prog := by kernel_rfl
theorem reconsJoins_row : Rows.ReconsJoinsSaid :=
  OpenClaim.holds_of_wide 7 Tryz.f7 rfl rfl rfl rfl rfl rfl rfl ⟨rfl, rfl, rfl, rfl, rfl⟩ rfl rfl rfl rfl rfl (by kernel_rfl) Tryz.func7 reconsJoins_closed
    (of_decide_eq_true (by kernel_rfl)) (by unfold Func.isWrapper; first | (rw [if_pos (by decide +kernel)]; kernel_rfl) | (rw [if_neg (by decide +kernel)]; exact ⟨rfl, rfl⟩))
    (fun os started H enc _ => reconsJoins_lifted os started H enc)
theorem reconsJoins_holds : Rows.ReconsJoinsCardSaid :=
  Claim7.holds_tied_plain_at .later [] [.data, .data, .data] true (true, "afc079fd19886976e46ad6200161126b18fba977a1a09a428d032e19cd27660d") false reconsJoins_row (fun _ h => by cases h) reconsJoins_wft (fun _ h => by cases h) reconsJoins_row_tie rfl ⟨rfl, rfl⟩ wide_main rfl
    (fun f fn hf hfn => by
      obtain rfl : f = 7 := Option.some.inj ((show Tryz.prog.funcNamed "gusset/gussetlaw07.ReconsJoins" = some 7 by kernel_rfl).symm.trans hf) |>.symm
      obtain rfl : fn = Tryz.f7 := (Option.some.inj (Tryz.func7.symm.trans hfn)).symm
      exact ⟨wide_looks, fun j t ht => by
        rw [Tryz.params7] at ht
        have hm : t ∈ [81, 79, 3] := by simpa using Array.mem_of_getElem? ht
        have hall : ([81, 79, 3].all fun u => !Tryz.prog.wantsStandIn u) = true := by kernel_rfl
        exact (show Tryz.prog.wantsStandIn t = false by simpa using List.all_eq_true.1 hall t hm)⟩)
    reconsJoins_goes
end Go.Proofs.YtobojnodohjiaaaGreatDoor
