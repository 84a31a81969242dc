
/- ReconsBack: the row and its card hold. No condition. -/
import Derived.Test.YtobojnodohjiaaaGreatDoorLiftRq
import Derived.Test.YtobojnodohjiaaaGreatDoorRowP
import Derived.Test.YtobojnodohjiaaaGreatDoorRecBack
namespace Go.Proofs.YtobojnodohjiaaaGreatDoor
open Go.ChangeShapes Go.WideShapes Go.ChangeAt Go.RowKit
set_option maxRecDepth 100000 in
theorem reconsBack_lifted (os : Os) (started : os.Started) (H : Type) (enc : TypeId × Value → H) :
    ReturnsInHanded {} Tryz.checked os 4 .any (fun w args => (Rows.reconsBackSpec.pre enc Tryz.prog Tryz.f4 Rows.reconsBackRow.domain false w args ∧ laidMetH Tryz.prog Rows.reconsBackRow.laid w) ∧ sizedMet enc Tryz.prog Tryz.f4 (OpenSpec.ofChange Rows.reconsBackSpec) false w args)
      (Rows.reconsBackSpec.post enc Tryz.prog Tryz.f4 false true false false) := by
  refine returnsInHanded_of_change_and (C := Tryz.checked) (X := fun w _ => laidMetH Tryz.prog Rows.reconsBackRow.laid w) (fun _ _ _ hh h => h.of_heap hh) Tryz.own started (by kernel_rfl) Tryz.func4
    (ChangeSpec.witness_shaped (enc := enc) (C := Tryz.checked) (os := os) (X := fun w _ => laidMetH Tryz.prog Rows.reconsBackRow.laid w) false (World.laidAll Tryz.prog os Rows.reconsBackRow.laid) #[.int .i16 0, .int .u16 0] 8 (World.laidAll_os _ _ _)
      (World.shaped_of_ZipB (by kernel_rfl) (by kernel_rfl)) (by kernel_rfl) (by kernel_rfl) (by kernel_rfl)
      (by rw [MakeChecks.laidMetH_plain _ _ _ (by kernel_rfl)]; exact laidMet_laidAll _ (by kernel_rfl) (by kernel_rfl))) ?_
  intro W base args ds gs before hval0 hW hc _ hL _
  have hval : ∀ (j : Nat) t v, Tryz.f4.params[j]? = some t → args[j]? = some v → Value.okWide Tryz.prog W .any base t v := hval0
  have hW' := hW
  obtain ⟨p, q, hA0, hV, rfl, hfz, hnd⟩ := hW
  have hA : DataW.TrodAll enc Tryz.prog W 0 (fun _ => true) true Tryz.f4.params.toList args.toList ds p := hA0
  rw [Tryz.params4] at hA hval
  obtain ⟨v0, v1, d0, d1, p0, p1, rfl, rfl, rfl, h0, h1⟩ := trodAll_two hA
  obtain ⟨rfl, rfl⟩ := trodVars_none hV
  obtain ⟨n0, rfl, rfl, rfl, w0⟩ := open_int Tryz.underlying56 (hval 0 56 v0 rfl rfl) h0
  obtain ⟨lo0, hi0⟩ := i16_wf w0
  obtain ⟨n1, rfl, rfl, rfl, w1⟩ := open_int Tryz.underlying57 (hval 1 57 v1 rfl rfl) h1
  obtain ⟨lo1, hi1⟩ := u16_wf w1
  clear hA0 hval0
  simp only [List.append_nil] at hW'
  have HT : Hid (Tab W) := Lib.hid (tab_of hL)
  refine (back_law7 n0 n1 W lo0 hi0 lo1 hi1 HT).mono fun e W' ⟨he, hb⟩ => ?_
  subst he
  exact ⟨_, rfl, post_of_below (pv := []) hW' (fun _ _ _ => trodAll_mk1 (shut_bool Tryz.underlying4 true)) (fun sp hs => trodAll_mk2 (shut_int Tryz.underlying56 w0) (shut_int Tryz.underlying57 w1)) (fun _ _ => rfl) (by simp) hb (ok_one (by kernel_rfl) rfl (okWide_bool_mk Tryz.underlying4 true))⟩
theorem reconsBack_q1 : (Rows.reconsBackRow.wf (OpenSpec.ofChange Rows.reconsBackSpec)) = true := by kernel_rfl
theorem reconsBack_q4 : (Tryz.f4.params.all (Tryz.pinned.checked.prog.readableRec ·)) = true := by kernel_rfl
theorem reconsBack_q5 : (namedTie Tryz.pinned.checked.prog Rows.reconsBackRow.named Rows.reconsBackSpec.vars) = true := by kernel_rfl
theorem reconsBack_q6 : ((Rows.reconsBackRow.stops == [])) = true := by kernel_rfl
theorem reconsBack_q8 : ((Rows.reconsBackRow.knobs == [])) = true := by kernel_rfl
theorem reconsBack_q10 : ((Rows.reconsBackRow.inPlace == Tryz.pinned.checked.prog.inPlace 4)) = true := by kernel_rfl
theorem reconsBack_q11 : ((Rows.reconsBackRow.unfollowed == Tryz.pinned.checked.prog.unfollowed 4)) = true := by kernel_rfl
theorem reconsBack_q12 : ((Rows.reconsBackRow.recurses == Tryz.pinned.checked.prog.recurses 4)) = true := by kernel_rfl
theorem reconsBack_q13 : ((Rows.reconsBackRow.named == Tryz.pinned.checked.prog.varsNamed 4)) = true := by kernel_rfl
theorem reconsBack_q14 : ((Rows.reconsBackRow.maps == (Tryz.f4.params.toList ++ Rows.reconsBackSpec.plain.varTypes Tryz.pinned.checked.prog).any (Tryz.pinned.checked.prog.mapsRec ·))) = true := by kernel_rfl
theorem reconsBack_q15 : ((Rows.reconsBackRow.ifaces == (Tryz.f4.params.toList ++ Rows.reconsBackSpec.plain.varTypes Tryz.pinned.checked.prog).any (Tryz.pinned.checked.prog.ifacesRec ·))) = true := by kernel_rfl
theorem reconsBack_q16 : ((Rows.reconsBackRow.mapsOut == Tryz.pinned.checked.prog.mapsAmong Tryz.f4.resultTypes.toList)) = true := by kernel_rfl
theorem reconsBack_q17 : ((Rows.reconsBackRow.loops == (Tryz.f4.params.toList ++ Rows.reconsBackSpec.plain.varTypes Tryz.pinned.checked.prog).any (Tryz.pinned.checked.prog.loopsFrom ·))) = true := by kernel_rfl
theorem reconsBack_q18 : ((Rows.reconsBackRow.wideKeys == (Tryz.f4.params.toList ++ Rows.reconsBackSpec.plain.varTypes Tryz.pinned.checked.prog ++ Tryz.f4.resultTypes.toList).any (Tryz.pinned.checked.prog.wideKeysFrom ·))) = true := by kernel_rfl
theorem reconsBack_q19 : (Rows.reconsBackSpec.vars.all (Tryz.pinned.checked.prog.varReadable ·)) = true := by kernel_rfl
theorem reconsBack_q20 : (Tryz.f4.resultTypes.all (fun t => Tryz.pinned.checked.prog.readableRec t && decide (t < Tryz.pinned.checked.prog.types.size))) = true := by kernel_rfl
theorem reconsBack_q21 : ((Rows.reconsBackRow.ifacesOut == Tryz.f4.resultTypes.toList.any (Tryz.pinned.checked.prog.ifacesRec ·))) = true := by kernel_rfl
theorem reconsBack_q22 : ((Rows.reconsBackRow.loopsOut == Tryz.f4.resultTypes.toList.any (Tryz.pinned.checked.prog.loopsFrom ·))) = true := by kernel_rfl
theorem reconsBack_q24 : (Rows.reconsBackRow.shortTexts.isNone) = true := by kernel_rfl
theorem reconsBack_q29 : ((Rows.reconsBackRow.kinds == (if Rows.reconsBackRow.domain.isEmpty then [] else Tryz.f4.params.toList.map fun t => match Tryz.pinned.checked.prog.underlying t with | some (.int k) => some k | _ => none))) = true := by kernel_rfl
theorem reconsBack_q30 : ((Rows.reconsBackRow.pinned == Rows.reconsBackRow.pinnedBy)) = true := by kernel_rfl
theorem reconsBack_q31 : ((Rows.reconsBackRow.veiled == (Tryz.f4.params.toList ++ Rows.reconsBackSpec.plain.varTypes Tryz.pinned.checked.prog ++ Tryz.f4.resultTypes.toList).any (Tryz.pinned.checked.prog.veiledRec ·))) = true := by kernel_rfl
theorem reconsBack_q32 : (Rows.reconsBackRow.veiledFits Tryz.pinned.checked.prog Tryz.f4.params.toList (Tryz.f4.params.toList ++ Rows.reconsBackSpec.plain.varTypes Tryz.pinned.checked.prog ++ Tryz.f4.resultTypes.toList)) = true := by kernel_rfl
set_option maxRecDepth 100000 in
theorem reconsBack_closed : joinedFacts Tryz.pinned.checked.prog 4 Tryz.f4 Rows.reconsBackSpec Rows.reconsBackRow = true := (band (band (band (band (band (band (band (band (band (band (band (band (band (band (band (band (band (band (band (band (band (band (band (band (band (band (band (band (band (band (band reconsBack_q1 wide_2) wide_3) reconsBack_q4) reconsBack_q5) reconsBack_q6) wide_7) reconsBack_q8) wide_9) reconsBack_q10) reconsBack_q11) reconsBack_q12) reconsBack_q13) reconsBack_q14) reconsBack_q15) reconsBack_q16) reconsBack_q17) reconsBack_q18) reconsBack_q19) reconsBack_q20) reconsBack_q21) reconsBack_q22) wide_23) reconsBack_q24) wide_25) wide_26) wide_27) wide_28) reconsBack_q29) reconsBack_q30) reconsBack_q31) reconsBack_q32)
theorem reconsBack_wft : Rows.reconsBackRow.wfByText (OpenSpec.ofChange Rows.reconsBackSpec) = true := by kernel_rfl
theorem reconsBack_goes : false = Rows.reconsBackRow.goesBy Tryz.pinned.checked.prog := by kernel_rfl
theorem reconsBack_row : Rows.ReconsBackSaid :=
  OpenClaim.holds_of_wide 4 Tryz.f4 rfl rfl rfl rfl rfl rfl rfl ⟨rfl, rfl, rfl, rfl, rfl⟩ rfl rfl rfl rfl rfl (by kernel_rfl) Tryz.func4 reconsBack_closed
    (of_decide_eq_true (by kernel_rfl)) (by unfold Func.isWrapper; first | (rw [if_pos (by decide +kernel)]; kernel_rfl) | (rw [if_neg (by decide +kernel)]; exact ⟨rfl, rfl⟩))
    (fun os started H enc _ => reconsBack_lifted os started H enc)
theorem reconsBack_holds : Rows.ReconsBackCardSaid :=
  Claim7.holds_tied_plain_at .later [] [.data, .data, .data] true (true, "afc079fd19886976e46ad6200161126b18fba977a1a09a428d032e19cd27660d") false reconsBack_row (fun _ h => by cases h) reconsBack_wft (fun _ h => by cases h) reconsBack_row_tie rfl ⟨rfl, rfl⟩ wide_main rfl
    (fun f fn hf hfn => by
      obtain rfl : f = 4 := Option.some.inj ((show Tryz.prog.funcNamed "gusset/gussetlaw07.ReconsBack" = some 4 by kernel_rfl).symm.trans hf) |>.symm
      obtain rfl : fn = Tryz.f4 := (Option.some.inj (Tryz.func4.symm.trans hfn)).symm
      exact ⟨wide_looks, fun j t ht => by
        rw [Tryz.params4] at ht
        have hm : t ∈ [56, 57] := by simpa using Array.mem_of_getElem? ht
        have hall : ([56, 57].all fun u => !Tryz.prog.wantsStandIn u) = true := by kernel_rfl
        exact (show Tryz.prog.wantsStandIn t = false by simpa using List.all_eq_true.1 hall t hm)⟩)
    reconsBack_goes
end Go.Proofs.YtobojnodohjiaaaGreatDoor
