
/- DecimalsBetween: the row and its card hold. No condition. -/
import Derived.Test.YtgdibedgjndcoaaGreatDoorLiftDq
import Derived.Test.YtgdibedgjndcoaaGreatDoorBtwDJ
namespace Go.Proofs.YtgdibedgjndcoaaGreatDoor
open Go.ChangeShapes Go.WideShapes Go.ChangeAt Go.RowKit
set_option maxRecDepth 100000 in
theorem decimalsBetween_lifted (os : Os) (started : os.Started) (H : Type) (enc : TypeId × Value → H) :
    ReturnsInHanded {} Tryz.checked os 12 .any (fun w args => (Rows.decimalsBetweenSpec.pre enc Tryz.prog Tryz.f12 Rows.decimalsBetweenRow.domain false w args ∧ laidMetH Tryz.prog Rows.decimalsBetweenRow.laid w) ∧ sizedMet enc Tryz.prog Tryz.f12 (OpenSpec.ofChange Rows.decimalsBetweenSpec) false w args)
      (Rows.decimalsBetweenSpec.post enc Tryz.prog Tryz.f12 false true false false) := by
  refine returnsInHanded_of_change_and (C := Tryz.checked) (X := fun w _ => laidMetH Tryz.prog Rows.decimalsBetweenRow.laid w) (fun _ _ _ hh h => h.of_heap hh) Tryz.own started (by kernel_rfl) Tryz.func12
    (ChangeSpec.witness_shaped (enc := enc) (C := Tryz.checked) (os := os) (X := fun w _ => laidMetH Tryz.prog Rows.decimalsBetweenRow.laid w) false (World.laidAll Tryz.prog os Rows.decimalsBetweenRow.laid) #[.agg #[.bool false, .slice none 0 0, .slice none 0 0], .int .u8 0] 8 (World.laidAll_os _ _ _)
      (World.shaped_of_ZipB (by kernel_rfl) (by kernel_rfl)) (by kernel_rfl) (by kernel_rfl) (by kernel_rfl)
      (by rw [MakeChecks.laidMetH_plain _ _ _ (by kernel_rfl)]; exact laidMet_laidAll _ (by kernel_rfl) (by kernel_rfl))) ?_
  intro W base args ds gs before hval0 hW hc _ hL _
  have hval : ∀ (j : Nat) t v, Tryz.f12.params[j]? = some t → args[j]? = some v → Value.okWide Tryz.prog W .any base t v := hval0
  have hW' := hW
  obtain ⟨p, q, hA0, hV, rfl, hfz, hnd⟩ := hW
  have hA : DataW.TrodAll enc Tryz.prog W 0 (fun _ => true) true Tryz.f12.params.toList args.toList ds p := hA0
  rw [Tryz.params12] at hA hval
  obtain ⟨v0, v1, d0, d1, p0, p1, rfl, rfl, rfl, h0, h1⟩ := trodAll_two hA
  obtain ⟨rfl, rfl⟩ := trodVars_none hV
  obtain ⟨n1, rfl, rfl, rfl, w1⟩ := open_int Tryz.underlying5 (hval 1 5 v1 rfl rfl) h1
  obtain ⟨lo1, hi1⟩ := u8_wf w1
  obtain ⟨b0, u0, k0, f0, v0', k0', f0', rfl, HW0, HF0, HW0', HF0'⟩ := open_g (hval 0 68 v0 rfl rfl) h0
  clear hA0 hval0
  simp only [List.append_nil] at hW'
  have HT : Hid (Tab W) := Lib.hid (tab_of hL)
  refine (btwd_law b0 u0 k0 f0 v0' k0' f0' n1 W HW0 HF0 HW0' HF0' lo1 hi1 HT).mono fun e W' ⟨he, hb⟩ => ?_
  subst he
  exact ⟨_, rfl, post_of_below (pv := []) hW' (fun _ _ _ => trodAll_mk1 (shut_bool Tryz.underlying4 true)) (fun sp hs => trodAll_mk2 (stays (by kernel_rfl) (by decide +kernel) h0 hb (fun x hx => hW'.lt x (by simp [hx])) sp (fun x hx => hs x (by simp [hx]))) (shut_int Tryz.underlying5 w1)) (fun _ _ => rfl) (by simp) hb (ok_one (by kernel_rfl) rfl (okWide_bool_mk Tryz.underlying4 true))⟩
theorem decimalsBetween_row : Rows.DecimalsBetweenSaid :=
  OpenClaim.holds_of_wide 12 Tryz.f12 rfl rfl rfl rfl rfl rfl rfl ⟨rfl, rfl, rfl, rfl, rfl⟩ rfl rfl rfl rfl rfl (by kernel_rfl) Tryz.func12 (by kernel_rfl)
    (of_decide_eq_true (by kernel_rfl)) (by unfold Func.isWrapper; first | (rw [if_pos (by decide +kernel)]; kernel_rfl) | (rw [if_neg (by decide +kernel)]; exact ⟨rfl, rfl⟩))
    (fun os started H enc _ => decimalsBetween_lifted os started H enc)
theorem decimalsBetween_holds : Rows.DecimalsBetweenCardSaid :=
  Claim7.holds_tied_plain_at .later [] [.data, .data, .data] true (true, "9389bb22665f6029b7a05bdca96a87f43265fd59c508eced64f5b25694fafd2c") false decimalsBetween_row (fun _ h => by cases h) (by kernel_rfl) (fun _ h => by cases h) decimalsBetween_row_tie rfl ⟨rfl, rfl⟩ (by kernel_rfl) rfl
    (fun f fn hf hfn => by
      obtain rfl : f = 12 := Option.some.inj ((show Tryz.prog.funcNamed "gusset/gussetlaw04.DecimalsBetween" = some 12 by kernel_rfl).symm.trans hf) |>.symm
      obtain rfl : fn = Tryz.f12 := (Option.some.inj (Tryz.func12.symm.trans hfn)).symm
      exact ⟨by kernel_rfl, fun j t ht => by
        rw [Tryz.params12] at ht
        have hm : t ∈ [68, 5] := by simpa using Array.mem_of_getElem? ht
        have hall : ([68, 5].all fun u => !Tryz.prog.wantsStandIn u) = true := by kernel_rfl
        exact (show Tryz.prog.wantsStandIn t = false by simpa using List.all_eq_true.1 hall t hm)⟩)
    (by kernel_rfl)
end Go.Proofs.YtgdibedgjndcoaaGreatDoor
