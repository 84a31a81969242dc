
/- PointsOps: the row and its card hold. No condition. -/
import Derived.Test.YtpcfncbcpknobaaGreatDoorLiftPq
import Derived.Test.YtpcfncbcpknobaaGreatDoorOpsL
namespace Go.Proofs.YtpcfncbcpknobaaGreatDoor
open Go.ChangeShapes Go.WideShapes Go.ChangeAt Go.RowKit
set_option maxRecDepth 100000 in
theorem pointsOps_lifted (os : Os) (started : os.Started) (H : Type) (enc : TypeId × Value → H) :
    ReturnsInHanded {} Tryz.checked os 5 .any (fun w args => (Rows.pointsOpsSpec.pre enc Tryz.prog Tryz.f5 Rows.pointsOpsRow.domain false w args ∧ laidMetH Tryz.prog Rows.pointsOpsRow.laid w) ∧ sizedMet enc Tryz.prog Tryz.f5 (OpenSpec.ofChange Rows.pointsOpsSpec) false w args)
      (Rows.pointsOpsSpec.post enc Tryz.prog Tryz.f5 false true false false) := by
  refine returnsInHanded_of_change_and (C := Tryz.checked) (X := fun w _ => laidMetH Tryz.prog Rows.pointsOpsRow.laid w) (fun _ _ _ hh h => h.of_heap hh) Tryz.own started (by kernel_rfl) Tryz.func5
    (ChangeSpec.witness_shaped (enc := enc) (C := Tryz.checked) (os := os) (X := fun w _ => laidMetH Tryz.prog Rows.pointsOpsRow.laid w) false (World.laidAll Tryz.prog os Rows.pointsOpsRow.laid) #[.agg #[.int .i64 0, .int .u32 0, .int .i64 0, .int .u32 0], .agg #[.int .i64 0, .int .u32 0, .int .i64 0, .int .u32 0], .agg #[.int .i64 0, .int .u32 0]] 8 (World.laidAll_os _ _ _)
      (World.shaped_of_ZipB (by kernel_rfl) (by kernel_rfl)) (by kernel_rfl) (by kernel_rfl) (by kernel_rfl)
      (by rw [MakeChecks.laidMetH_plain _ _ _ (by kernel_rfl)]; exact laidMet_laidAll _ (by kernel_rfl) (by kernel_rfl))) ?_
  intro W base args ds gs before hval0 hW hc _ hL _
  have hval : ∀ (j : Nat) t v, Tryz.f5.params[j]? = some t → args[j]? = some v → Value.okWide Tryz.prog W .any base t v := hval0
  have hW' := hW
  obtain ⟨p, q, hA0, hV, rfl, hfz, hnd⟩ := hW
  have hA : DataW.TrodAll enc Tryz.prog W 0 (fun _ => true) true Tryz.f5.params.toList args.toList ds p := hA0
  rw [Tryz.params5] at hA hval
  obtain ⟨v0, v1, v2, d0, d1, d2, p0, p1, p2, rfl, rfl, rfl, h0, h1, h2⟩ := trodAll_three hA
  obtain ⟨rfl, rfl⟩ := trodVars_none hV
  obtain ⟨p0_0, p0_1, p0_2, p0_3, rfl, lp0_0, gp0_0, lp0_1, gp0_1, lp0_2, gp0_2, lp0_3, gp0_3⟩ := open_p (hval 0 48 v0 rfl rfl)
  obtain ⟨p1_0, p1_1, p1_2, p1_3, rfl, lp1_0, gp1_0, lp1_1, gp1_1, lp1_2, gp1_2, lp1_3, gp1_3⟩ := open_p (hval 1 48 v1 rfl rfl)
  obtain ⟨q2_0, q2_1, rfl, lq2_0, gq2_0, lq2_1, gq2_1⟩ := open_q (hval 2 46 v2 rfl rfl)
  clear hA0 hval0
  simp only [List.append_nil] at hW'
  have HT : Hid (Tab W) := Lib.hid (tab_of hL)
  refine (ops_all p0_0 p0_1 p0_2 p0_3 p1_0 p1_1 p1_2 p1_3 q2_0 q2_1 W lp0_0 gp0_0 lp0_1 gp0_1 lp0_2 gp0_2 lp0_3 gp0_3 lp1_0 gp1_0 lp1_1 gp1_1 lp1_2 gp1_2 lp1_3 gp1_3 lq2_0 gq2_0 lq2_1 gq2_1 HT).mono fun e W' ⟨he, hb⟩ => ?_
  subst he
  exact ⟨_, rfl, post_of_below (pv := []) hW' (fun _ _ _ => trodAll_mk1 (shut_bool Tryz.underlying4 true)) (fun sp hs => trodAll_mk3 (stays (by kernel_rfl) (by decide +kernel) h0 hb (fun x hx => hW'.lt x (by simp [hx])) sp (fun x hx => hs x (by simp [hx]))) (stays (by kernel_rfl) (by decide +kernel) h1 hb (fun x hx => hW'.lt x (by simp [hx])) sp (fun x hx => hs x (by simp [hx]))) (stays (by kernel_rfl) (by decide +kernel) h2 hb (fun x hx => hW'.lt x (by simp [hx])) sp (fun x hx => hs x (by simp [hx])))) (fun _ _ => rfl) (by simp) hb (ok_one (by kernel_rfl) rfl (okWide_bool_mk Tryz.underlying4 true))⟩
theorem pointsOps_row : Rows.PointsOpsSaid :=
  OpenClaim.holds_of_wide 5 Tryz.f5 rfl rfl rfl rfl rfl rfl rfl ⟨rfl, rfl, rfl, rfl, rfl⟩ rfl rfl rfl rfl rfl (by kernel_rfl) Tryz.func5 (by kernel_rfl)
    (of_decide_eq_true (by kernel_rfl)) (by unfold Func.isWrapper; first | (rw [if_pos (by decide +kernel)]; kernel_rfl) | (rw [if_neg (by decide +kernel)]; exact ⟨rfl, rfl⟩))
    (fun os started H enc _ => pointsOps_lifted os started H enc)
theorem pointsOps_holds : Rows.PointsOpsCardSaid :=
  Claim7.holds_tied_plain_at .later [] [.data, .data, .data] true (true, "fff8485c6f5df618159badff144b7dabd539c3e17490dbf26fa7220597f35d5c") false pointsOps_row (fun _ h => by cases h) (by kernel_rfl) (fun _ h => by cases h) pointsOps_row_tie rfl ⟨rfl, rfl⟩ (by kernel_rfl) rfl
    (fun f fn hf hfn => by
      obtain rfl : f = 5 := Option.some.inj ((show Tryz.prog.funcNamed "gusset/gussetlaw23.PointsOps" = some 5 by kernel_rfl).symm.trans hf) |>.symm
      obtain rfl : fn = Tryz.f5 := (Option.some.inj (Tryz.func5.symm.trans hfn)).symm
      exact ⟨by kernel_rfl, fun j t ht => by
        rw [Tryz.params5] at ht
        have hm : t ∈ [48, 48, 46] := by simpa using Array.mem_of_getElem? ht
        have hall : ([48, 48, 46].all fun u => !Tryz.prog.wantsStandIn u) = true := by kernel_rfl
        exact (show Tryz.prog.wantsStandIn t = false by simpa using List.all_eq_true.1 hall t hm)⟩)
    (by kernel_rfl)
end Go.Proofs.YtpcfncbcpknobaaGreatDoor
