
/- ReconsFits: the row and its card hold. No condition. -/
import Derived.Test.YtobojnodohjiaaaGreatDoorLiftRq
import Derived.Test.YtobojnodohjiaaaGreatDoorRowP
import Derived.Test.YtobojnodohjiaaaGreatDoorRecFits
namespace Go.Proofs.YtobojnodohjiaaaGreatDoor
open Go.ChangeShapes Go.WideShapes Go.ChangeAt Go.RowKit
set_option maxRecDepth 100000 in
theorem reconsFits_lifted (os : Os) (started : os.Started) (H : Type) (enc : TypeId × Value → H) :
    ReturnsInHanded {} Tryz.checked os 9 .any (fun w args => (Rows.reconsFitsSpec.pre enc Tryz.prog Tryz.f9 Rows.reconsFitsRow.domain false w args ∧ laidMetH Tryz.prog Rows.reconsFitsRow.laid w) ∧ sizedMet enc Tryz.prog Tryz.f9 (OpenSpec.ofChange Rows.reconsFitsSpec) false w args)
      (Rows.reconsFitsSpec.post enc Tryz.prog Tryz.f9 false true false false) := by
  refine returnsInHanded_of_change_and (C := Tryz.checked) (X := fun w _ => laidMetH Tryz.prog Rows.reconsFitsRow.laid w) (fun _ _ _ hh h => h.of_heap hh) Tryz.own started (by kernel_rfl) Tryz.func9
    (ChangeSpec.witness_shaped (enc := enc) (C := Tryz.checked) (os := os) (X := fun w _ => laidMetH Tryz.prog Rows.reconsFitsRow.laid w) false (World.laidAll Tryz.prog os Rows.reconsFitsRow.laid) #[.int .i16 0, .int .i16 0, .int .u16 0, .int .u16 0] 8 (World.laidAll_os _ _ _)
      (World.shaped_of_ZipB (by kernel_rfl) (by kernel_rfl)) (by kernel_rfl) (by kernel_rfl) (by kernel_rfl)
      (by rw [MakeChecks.laidMetH_plain _ _ _ (by kernel_rfl)]; exact laidMet_laidAll _ (by kernel_rfl) (by kernel_rfl))) ?_
  intro W base args ds gs before hval0 hW hc _ hL _
  have hval : ∀ (j : Nat) t v, Tryz.f9.params[j]? = some t → args[j]? = some v → Value.okWide Tryz.prog W .any base t v := hval0
  have hW' := hW
  obtain ⟨p, q, hA0, hV, rfl, hfz, hnd⟩ := hW
  have hA : DataW.TrodAll enc Tryz.prog W 0 (fun _ => true) true Tryz.f9.params.toList args.toList ds p := hA0
  rw [Tryz.params9] at hA hval
  obtain ⟨v0, v1, v2, v3, d0, d1, d2, d3, p0, p1, p2, p3, rfl, rfl, rfl, h0, h1, h2, h3⟩ := trodAll_four hA
  obtain ⟨rfl, rfl⟩ := trodVars_none hV
  obtain ⟨n0, rfl, rfl, rfl, w0⟩ := open_int Tryz.underlying56 (hval 0 56 v0 rfl rfl) h0
  obtain ⟨lo0, hi0⟩ := i16_wf w0
  obtain ⟨n1, rfl, rfl, rfl, w1⟩ := open_int Tryz.underlying56 (hval 1 56 v1 rfl rfl) h1
  obtain ⟨lo1, hi1⟩ := i16_wf w1
  obtain ⟨n2, rfl, rfl, rfl, w2⟩ := open_int Tryz.underlying57 (hval 2 57 v2 rfl rfl) h2
  obtain ⟨lo2, hi2⟩ := u16_wf w2
  obtain ⟨n3, rfl, rfl, rfl, w3⟩ := open_int Tryz.underlying57 (hval 3 57 v3 rfl rfl) h3
  obtain ⟨lo3, hi3⟩ := u16_wf w3
  clear hA0 hval0
  simp only [List.append_nil] at hW'
  have HT : Hid (Tab W) := Lib.hid (tab_of hL)
  refine (fits_law7 n0 n1 n2 n3 W lo0 hi0 lo1 hi1 lo2 hi2 lo3 hi3 HT).mono fun e W' ⟨he, hb⟩ => ?_
  subst he
  exact ⟨_, rfl, post_of_below (pv := []) hW' (fun _ _ _ => trodAll_mk1 (shut_bool Tryz.underlying4 true)) (fun sp hs => trodAll_mk4 (shut_int Tryz.underlying56 w0) (shut_int Tryz.underlying56 w1) (shut_int Tryz.underlying57 w2) (shut_int Tryz.underlying57 w3)) (fun _ _ => rfl) (by simp) hb (ok_one (by kernel_rfl) rfl (okWide_bool_mk Tryz.underlying4 true))⟩
theorem reconsFits_q1 : (Rows.reconsFitsRow.wf (OpenSpec.ofChange Rows.reconsFitsSpec)) = true := by kernel_rfl
theorem reconsFits_q4 : (Tryz.f9.params.all (Tryz.pinned.checked.prog.readableRec ·)) = true := by kernel_rfl
theorem reconsFits_q5 : (namedTie Tryz.pinned.checked.prog Rows.reconsFitsRow.named Rows.reconsFitsSpec.vars) = true := by kernel_rfl
theorem reconsFits_q6 : ((Rows.reconsFitsRow.stops == [])) = true := by kernel_rfl
theorem reconsFits_q8 : ((Rows.reconsFitsRow.knobs == [])) = true := by kernel_rfl
theorem reconsFits_q10 : ((Rows.reconsFitsRow.inPlace == Tryz.pinned.checked.prog.inPlace 9)) = true := by kernel_rfl
theorem reconsFits_q11 : ((Rows.reconsFitsRow.unfollowed == Tryz.pinned.checked.prog.unfollowed 9)) = true := by kernel_rfl
theorem reconsFits_q12 : ((Rows.reconsFitsRow.recurses == Tryz.pinned.checked.prog.recurses 9)) = true := by kernel_rfl
theorem reconsFits_q13 : ((Rows.reconsFitsRow.named == Tryz.pinned.checked.prog.varsNamed 9)) = true := by kernel_rfl
theorem reconsFits_q14 : ((Rows.reconsFitsRow.maps == (Tryz.f9.params.toList ++ Rows.reconsFitsSpec.plain.varTypes Tryz.pinned.checked.prog).any (Tryz.pinned.checked.prog.mapsRec ·))) = true := by kernel_rfl
theorem reconsFits_q15 : ((Rows.reconsFitsRow.ifaces == (Tryz.f9.params.toList ++ Rows.reconsFitsSpec.plain.varTypes Tryz.pinned.checked.prog).any (Tryz.pinned.checked.prog.ifacesRec ·))) = true := by kernel_rfl
theorem reconsFits_q16 : ((Rows.reconsFitsRow.mapsOut == Tryz.pinned.checked.prog.mapsAmong Tryz.f9.resultTypes.toList)) = true := by kernel_rfl
theorem reconsFits_q17 : ((Rows.reconsFitsRow.loops == (Tryz.f9.params.toList ++ Rows.reconsFitsSpec.plain.varTypes Tryz.pinned.checked.prog).any (Tryz.pinned.checked.prog.loopsFrom ·))) = true := by kernel_rfl
theorem reconsFits_q18 : ((Rows.reconsFitsRow.wideKeys == (Tryz.f9.params.toList ++ Rows.reconsFitsSpec.plain.varTypes Tryz.pinned.checked.prog ++ Tryz.f9.resultTypes.toList).any (Tryz.pinned.checked.prog.wideKeysFrom ·))) = true := by kernel_rfl
theorem reconsFits_q19 : (Rows.reconsFitsSpec.vars.all (Tryz.pinned.checked.prog.varReadable ·)) = true := by kernel_rfl
theorem reconsFits_q20 : (Tryz.f9.resultTypes.all (fun t => Tryz.pinned.checked.prog.readableRec t && decide (t < Tryz.pinned.checked.prog.types.size))) = true := by kernel_rfl
theorem reconsFits_q21 : ((Rows.reconsFitsRow.ifacesOut == Tryz.f9.resultTypes.toList.any (Tryz.pinned.checked.prog.ifacesRec ·))) = true := by kernel_rfl
theorem reconsFits_q22 : ((Rows.reconsFitsRow.loopsOut == Tryz.f9.resultTypes.toList.any (Tryz.pinned.checked.prog.loopsFrom ·))) = true := by kernel_rfl
theorem reconsFits_q24 : (Rows.reconsFitsRow.shortTexts.isNone) = true := by kernel_rfl
theorem reconsFits_q29 : ((Rows.reconsFitsRow.kinds == (if Rows.reconsFitsRow.domain.isEmpty then [] else Tryz.f9.params.toList.map fun t => match Tryz.pinned.checked.prog.underlying t with | some (.int k) => some k | _ => none))) = true := by kernel_rfl
theorem reconsFits_q30 : ((Rows.reconsFitsRow.pinned == Rows.reconsFitsRow.pinnedBy)) = true := by kernel_rfl
theorem reconsFits_q31 : ((Rows.reconsFitsRow.veiled == (Tryz.f9.params.toList ++ Rows.reconsFitsSpec.plain.varTypes Tryz.pinned.checked.prog ++ Tryz.f9.resultTypes.toList).any (Tryz.pinned.checked.prog.veiledRec ·))) = true := by kernel_rfl
theorem reconsFits_q32 : (Rows.reconsFitsRow.veiledFits Tryz.pinned.checked.prog Tryz.f9.params.toList (Tryz.f9.params.toList ++ Rows.reconsFitsSpec.plain.varTypes Tryz.pinned.checked.prog ++ Tryz.f9.resultTypes.toList)) = true := by kernel_rfl
set_option maxRecDepth 100000 in
theorem reconsFits_closed : joinedFacts Tryz.pinned.checked.prog 9 Tryz.f9 Rows.reconsFitsSpec Rows.reconsFitsRow = true := (band (band (band (band (band (band (band (band (band (band (band (band (band (band (band (band (band (band (band (band (band (band (band (band (band (band (band (band (band (band (band reconsFits_q1 wide_2) wide_3) reconsFits_q4) reconsFits_q5) reconsFits_q6) wide_7) reconsFits_q8) wide_9) reconsFits_q10) reconsFits_q11) reconsFits_q12) reconsFits_q13) reconsFits_q14) reconsFits_q15) reconsFits_q16) reconsFits_q17) reconsFits_q18) reconsFits_q19) reconsFits_q20) reconsFits_q21) reconsFits_q22) wide_23) reconsFits_q24) wide_25) wide_26) wide_27) wide_28) reconsFits_q29) reconsFits_q30) reconsFits_q31) reconsFits_q32)
theorem reconsFits_wft : Rows.reconsFitsRow.wfByText (OpenSpec.ofChange Rows.reconsFitsSpec) = true := by kernel_rfl
theorem reconsFits_goes : false = Rows.reconsFitsRow.goesBy Tryz.pinned.checked.prog := by kernel_rfl
theorem reconsFits_row : Rows.ReconsFitsSaid :=
  OpenClaim.holds_of_wide 9 Tryz.f9 rfl rfl rfl rfl rfl rfl rfl ⟨rfl, rfl, rfl, rfl, rfl⟩ rfl rfl rfl rfl rfl (by kernel_rfl) Tryz.func9 reconsFits_closed
    (of_decide_eq_true (by kernel_rfl)) (by unfold Func.isWrapper; first | (rw [if_pos (by decide +kernel)]; kernel_rfl) | (rw [if_neg (by decide +kernel)]; exact ⟨rfl, rfl⟩))
    (fun os started H enc _ => reconsFits_lifted os started H enc)
theorem reconsFits_holds : Rows.ReconsFitsCardSaid :=
  Claim7.holds_tied_plain_at .later [] [.data, .data, .data] true (true, "afc079fd19886976e46ad6200161126b18fba977a1a09a428d032e19cd27660d") false reconsFits_row (fun _ h => by cases h) reconsFits_wft (fun _ h => by cases h) reconsFits_row_tie rfl ⟨rfl, rfl⟩ wide_main rfl
    (fun f fn hf hfn => by
      obtain rfl : f = 9 := Option.some.inj ((show Tryz.prog.funcNamed "gusset/gussetlaw07.ReconsFits" = some 9 by kernel_rfl).symm.trans hf) |>.symm
      obtain rfl : fn = Tryz.f9 := (Option.some.inj (Tryz.func9.symm.trans hfn)).symm
      exact ⟨wide_looks, fun j t ht => by
        rw [Tryz.params9] at ht
        have hm : t ∈ [56, 56, 57, 57] := by simpa using Array.mem_of_getElem? ht
        have hall : ([56, 56, 57, 57].all fun u => !Tryz.prog.wantsStandIn u) = true := by kernel_rfl
        exact (show Tryz.prog.wantsStandIn t = false by simpa using List.all_eq_true.1 hall t hm)⟩)
    reconsFits_goes
end Go.Proofs.YtobojnodohjiaaaGreatDoor
