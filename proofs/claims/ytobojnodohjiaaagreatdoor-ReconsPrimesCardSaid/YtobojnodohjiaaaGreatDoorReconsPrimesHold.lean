
/- ReconsPrimes: the row and its card hold. No condition. -/
import Derived.Test.YtobojnodohjiaaaGreatDoorLiftRq
import Derived.Test.YtobojnodohjiaaaGreatDoorRowP
import Derived.Test.YtobojnodohjiaaaGreatDoorRecPrimes
namespace Go.Proofs.YtobojnodohjiaaaGreatDoor
open Go.ChangeShapes Go.WideShapes Go.ChangeAt Go.RowKit
set_option maxRecDepth 100000 in
theorem reconsPrimes_lifted (os : Os) (started : os.Started) (H : Type) (enc : TypeId × Value → H) :
    ReturnsInHanded {} Tryz.checked os 10 .any (fun w args => (Rows.reconsPrimesSpec.pre enc Tryz.prog Tryz.f10 Rows.reconsPrimesRow.domain false w args ∧ laidMetH Tryz.prog Rows.reconsPrimesRow.laid w) ∧ sizedMet enc Tryz.prog Tryz.f10 (OpenSpec.ofChange Rows.reconsPrimesSpec) false w args)
      (Rows.reconsPrimesSpec.post enc Tryz.prog Tryz.f10 false true false false) := by
  refine returnsInHanded_of_change_and (C := Tryz.checked) (X := fun w _ => laidMetH Tryz.prog Rows.reconsPrimesRow.laid w) (fun _ _ _ hh h => h.of_heap hh) Tryz.own started (by kernel_rfl) Tryz.func10
    (ChangeSpec.witness_shaped (enc := enc) (C := Tryz.checked) (os := os) (X := fun w _ => laidMetH Tryz.prog Rows.reconsPrimesRow.laid w) false (World.laidAll Tryz.prog os Rows.reconsPrimesRow.laid) #[.agg #[.int .i64 0, .int .u32 0], .slice none 0 0] 8 (World.laidAll_os _ _ _)
      (World.shaped_of_ZipB (by kernel_rfl) (by kernel_rfl)) (by kernel_rfl) (by kernel_rfl) (by kernel_rfl)
      (by rw [MakeChecks.laidMetH_plain _ _ _ (by kernel_rfl)]; exact laidMet_laidAll _ (by kernel_rfl) (by kernel_rfl))) ?_
  intro W base args ds gs before hval0 hW hc _ hL _
  have hval : ∀ (j : Nat) t v, Tryz.f10.params[j]? = some t → args[j]? = some v → Value.okWide Tryz.prog W .any base t v := hval0
  have hW' := hW
  obtain ⟨p, q, hA0, hV, rfl, hfz, hnd⟩ := hW
  have hA : DataW.TrodAll enc Tryz.prog W 0 (fun _ => true) true Tryz.f10.params.toList args.toList ds p := hA0
  rw [Tryz.params10] at hA hval
  obtain ⟨v0, v1, d0, d1, p0, p1, rfl, rfl, rfl, h0, h1⟩ := trodAll_two hA
  obtain ⟨rfl, rfl⟩ := trodVars_none hV
  obtain ⟨k1, f1, HW1, HF1⟩ := open_words (hval 1 79 v1 rfl rfl) h1
  obtain ⟨q0_0, q0_1, rfl, lq0_0, gq0_0, lq0_1, gq0_1⟩ := open_q (hval 0 24 v0 rfl rfl)
  clear hA0 hval0
  simp only [List.append_nil] at hW'
  have HT : Hid (Tab W) := Lib.hid (tab_of hL)
  refine (primes_law q0_0 q0_1 v1 k1 f1 W lq0_0 gq0_0 lq0_1 gq0_1 HW1 HT).mono fun e W' ⟨he, hb⟩ => ?_
  subst he
  exact ⟨_, rfl, post_of_below (pv := []) hW' (fun _ _ _ => trodAll_mk1 (shut_bool Tryz.underlying4 true)) (fun sp hs => trodAll_mk2 (stays (by kernel_rfl) (by decide +kernel) h0 hb (fun x hx => hW'.lt x (by simp [hx])) sp (fun x hx => hs x (by simp [hx]))) (stays (by kernel_rfl) (by decide +kernel) h1 hb (fun x hx => hW'.lt x (by simp [hx])) sp (fun x hx => hs x (by simp [hx])))) (fun _ _ => rfl) (by simp) hb (ok_one (by kernel_rfl) rfl (okWide_bool_mk Tryz.underlying4 true))⟩
theorem reconsPrimes_q1 : (Rows.reconsPrimesRow.wf (OpenSpec.ofChange Rows.reconsPrimesSpec)) = true := by kernel_rfl
theorem reconsPrimes_q4 : (Tryz.f10.params.all (Tryz.pinned.checked.prog.readableRec ·)) = true := by kernel_rfl
theorem reconsPrimes_q5 : (namedTie Tryz.pinned.checked.prog Rows.reconsPrimesRow.named Rows.reconsPrimesSpec.vars) = true := by kernel_rfl
theorem reconsPrimes_q6 : ((Rows.reconsPrimesRow.stops == [])) = true := by kernel_rfl
theorem reconsPrimes_q8 : ((Rows.reconsPrimesRow.knobs == [])) = true := by kernel_rfl
theorem reconsPrimes_q10 : ((Rows.reconsPrimesRow.inPlace == Tryz.pinned.checked.prog.inPlace 10)) = true := by kernel_rfl
theorem reconsPrimes_q11 : ((Rows.reconsPrimesRow.unfollowed == Tryz.pinned.checked.prog.unfollowed 10)) = true := by kernel_rfl
theorem reconsPrimes_q12 : ((Rows.reconsPrimesRow.recurses == Tryz.pinned.checked.prog.recurses 10)) = true := by kernel_rfl
theorem reconsPrimes_q13 : ((Rows.reconsPrimesRow.named == Tryz.pinned.checked.prog.varsNamed 10)) = true := by kernel_rfl
theorem reconsPrimes_q14 : ((Rows.reconsPrimesRow.maps == (Tryz.f10.params.toList ++ Rows.reconsPrimesSpec.plain.varTypes Tryz.pinned.checked.prog).any (Tryz.pinned.checked.prog.mapsRec ·))) = true := by kernel_rfl
theorem reconsPrimes_q15 : ((Rows.reconsPrimesRow.ifaces == (Tryz.f10.params.toList ++ Rows.reconsPrimesSpec.plain.varTypes Tryz.pinned.checked.prog).any (Tryz.pinned.checked.prog.ifacesRec ·))) = true := by kernel_rfl
theorem reconsPrimes_q16 : ((Rows.reconsPrimesRow.mapsOut == Tryz.pinned.checked.prog.mapsAmong Tryz.f10.resultTypes.toList)) = true := by kernel_rfl
theorem reconsPrimes_q17 : ((Rows.reconsPrimesRow.loops == (Tryz.f10.params.toList ++ Rows.reconsPrimesSpec.plain.varTypes Tryz.pinned.checked.prog).any (Tryz.pinned.checked.prog.loopsFrom ·))) = true := by kernel_rfl
theorem reconsPrimes_q18 : ((Rows.reconsPrimesRow.wideKeys == (Tryz.f10.params.toList ++ Rows.reconsPrimesSpec.plain.varTypes Tryz.pinned.checked.prog ++ Tryz.f10.resultTypes.toList).any (Tryz.pinned.checked.prog.wideKeysFrom ·))) = true := by kernel_rfl
theorem reconsPrimes_q19 : (Rows.reconsPrimesSpec.vars.all (Tryz.pinned.checked.prog.varReadable ·)) = true := by kernel_rfl
theorem reconsPrimes_q20 : (Tryz.f10.resultTypes.all (fun t => Tryz.pinned.checked.prog.readableRec t && decide (t < Tryz.pinned.checked.prog.types.size))) = true := by kernel_rfl
theorem reconsPrimes_q21 : ((Rows.reconsPrimesRow.ifacesOut == Tryz.f10.resultTypes.toList.any (Tryz.pinned.checked.prog.ifacesRec ·))) = true := by kernel_rfl
theorem reconsPrimes_q22 : ((Rows.reconsPrimesRow.loopsOut == Tryz.f10.resultTypes.toList.any (Tryz.pinned.checked.prog.loopsFrom ·))) = true := by kernel_rfl
theorem reconsPrimes_q24 : (Rows.reconsPrimesRow.shortTexts.isNone) = true := by kernel_rfl
theorem reconsPrimes_q29 : ((Rows.reconsPrimesRow.kinds == (if Rows.reconsPrimesRow.domain.isEmpty then [] else Tryz.f10.params.toList.map fun t => match Tryz.pinned.checked.prog.underlying t with | some (.int k) => some k | _ => none))) = true := by kernel_rfl
theorem reconsPrimes_q30 : ((Rows.reconsPrimesRow.pinned == Rows.reconsPrimesRow.pinnedBy)) = true := by kernel_rfl
theorem reconsPrimes_q31 : ((Rows.reconsPrimesRow.veiled == (Tryz.f10.params.toList ++ Rows.reconsPrimesSpec.plain.varTypes Tryz.pinned.checked.prog ++ Tryz.f10.resultTypes.toList).any (Tryz.pinned.checked.prog.veiledRec ·))) = true := by kernel_rfl
theorem reconsPrimes_q32 : (Rows.reconsPrimesRow.veiledFits Tryz.pinned.checked.prog Tryz.f10.params.toList (Tryz.f10.params.toList ++ Rows.reconsPrimesSpec.plain.varTypes Tryz.pinned.checked.prog ++ Tryz.f10.resultTypes.toList)) = true := by kernel_rfl
set_option maxRecDepth 100000 in
theorem reconsPrimes_closed : joinedFacts Tryz.pinned.checked.prog 10 Tryz.f10 Rows.reconsPrimesSpec Rows.reconsPrimesRow = true := (band (band (band (band (band (band (band (band (band (band (band (band (band (band (band (band (band (band (band (band (band (band (band (band (band (band (band (band (band (band (band reconsPrimes_q1 wide_2) wide_3) reconsPrimes_q4) reconsPrimes_q5) reconsPrimes_q6) wide_7) reconsPrimes_q8) wide_9) reconsPrimes_q10) reconsPrimes_q11) reconsPrimes_q12) reconsPrimes_q13) reconsPrimes_q14) reconsPrimes_q15) reconsPrimes_q16) reconsPrimes_q17) reconsPrimes_q18) reconsPrimes_q19) reconsPrimes_q20) reconsPrimes_q21) reconsPrimes_q22) wide_23) reconsPrimes_q24) wide_25) wide_26) wide_27) wide_28) reconsPrimes_q29) reconsPrimes_q30) reconsPrimes_q31) reconsPrimes_q32)
theorem reconsPrimes_wft : Rows.reconsPrimesRow.wfByText (OpenSpec.ofChange Rows.reconsPrimesSpec) = true := by kernel_rfl
theorem reconsPrimes_goes : false = Rows.reconsPrimesRow.goesBy Tryz.pinned.checked.prog := by kernel_rfl
theorem reconsPrimes_row : Rows.ReconsPrimesSaid :=
  OpenClaim.holds_of_wide 10 Tryz.f10 rfl rfl rfl rfl rfl rfl rfl ⟨rfl, rfl, rfl, rfl, rfl⟩ rfl rfl rfl rfl rfl (by kernel_rfl) Tryz.func10 reconsPrimes_closed
    (of_decide_eq_true (by kernel_rfl)) (by unfold Func.isWrapper; first | (rw [if_pos (by decide +kernel)]; kernel_rfl) | (rw [if_neg (by decide +kernel)]; exact ⟨rfl, rfl⟩))
    (fun os started H enc _ => reconsPrimes_lifted os started H enc)
theorem reconsPrimes_holds : Rows.ReconsPrimesCardSaid :=
  Claim7.holds_tied_plain_at .later [] [.data, .data, .data] true (true, "afc079fd19886976e46ad6200161126b18fba977a1a09a428d032e19cd27660d") false reconsPrimes_row (fun _ h => by cases h) reconsPrimes_wft (fun _ h => by cases h) reconsPrimes_row_tie rfl ⟨rfl, rfl⟩ wide_main rfl
    (fun f fn hf hfn => by
      obtain rfl : f = 10 := Option.some.inj ((show Tryz.prog.funcNamed "gusset/gussetlaw07.ReconsPrimes" = some 10 by kernel_rfl).symm.trans hf) |>.symm
      obtain rfl : fn = Tryz.f10 := (Option.some.inj (Tryz.func10.symm.trans hfn)).symm
      exact ⟨wide_looks, fun j t ht => by
        rw [Tryz.params10] at ht
        have hm : t ∈ [24, 79] := by simpa using Array.mem_of_getElem? ht
        have hall : ([24, 79].all fun u => !Tryz.prog.wantsStandIn u) = true := by kernel_rfl
        exact (show Tryz.prog.wantsStandIn t = false by simpa using List.all_eq_true.1 hall t hm)⟩)
    reconsPrimes_goes
end Go.Proofs.YtobojnodohjiaaaGreatDoor
