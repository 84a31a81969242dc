
/- gussetref04: Text. -/
import Derived.Test.YtaflakcemiilaaaGreatDoorDecB
import Derived.Test.YtaflakcemiilaaaGreatDoorRefV2
import Derived.Test.YtaflakcemiilaaaGreatDoorDecP
import Derived.Test.YtaflakcemiilaaaGreatDoorPN
import Derived.Test.YtaflakcemiilaaaGreatDoorDecT
import Derived.Test.YtaflakcemiilaaaGreatDoorPJ
set_option linter.unusedVariables false
set_option linter.unusedSimpArgs false
namespace Go.Proofs.YtaflakcemiilaaaGreatDoor
open Go.RowKit
attribute [local go_sem ↓] Go.wp_at_zero Go.wp_at_succ
attribute [local go_sem ↓] eq_nat eq_nat_zero eq_int
theorem rz_ten {k : Nat} (h : k ≤ 100) : rz ((10 : Rat) ^ k) ≤ 26 := by
  refine rz_of ?_ ?_
  · rw [Rat.num_pow, show (10 : Rat).num = ((10 : Nat) : Int) from rfl, ← Int.natCast_pow, Int.natAbs_natCast]
    exact Nat.le_trans (tw_mono (Nat.pow_le_pow_right (by decide) h)) (tw_le.2 (by decide +kernel))
  · rw [Rat.den_pow, show (10 : Rat).den = 1 from rfl, Nat.one_pow]; exact tw_le.2 (by decide +kernel)
set_option maxRecDepth 50000 in
set_option maxHeartbeats 8000000 in
theorem rtens_any (a z : Rat) (k : Nat) (va1 va2 : Value) (w : World) (HZ : Hid (a * (10 : Rat) ^ k = z)) (hk : k ≤ 100) (hs : rz a ≤ 9000) (bx21 : Rn w va1 (Int.natAbs ((a).num))) (bx22 : Rn w va2 ((a).den - 1)) :
    Calls Tryz.prog 160 #[(Value.agg #[.bool (decide ((a).num < 0)), va1, va2]), .int .i64 (((k : Nat) : Int))] w fun e w' => (∃ r1 r2 : Value, e = .returned (.agg #[.bool (decide ((z).num < 0)), r1, r2]) ∧ Rn w' r1 (Int.natAbs ((z).num)) ∧ Rn w' r2 ((z).den - 1)) ∧ Below w.heap.size w w' := by
  obtain ⟨ao_va1, n_va1, c_va1, rfl⟩ := Rn.sl bx21
  obtain ⟨ao_va2, n_va2, c_va2, rfl⟩ := Rn.sl bx22
  go_enter Tryz.func160, Tryz.ntmps160
  have HF := Lib.hid (hp0 w)
  replace HF := Lib.hid ((HF.out.ar bx21).ar bx22)
  simp only [lF, lG] at HF
  clear bx21 bx22
  refine kS fun K hK => ?_
  refine wp_region_lit ?_
  go_wp2
  refine kO hK ?_; clear hK K
  refine fH (((HF.out).aL (w.heap.size)).aL (w.heap.size + 1)) fun Wx0 HG => ?_
  clear HF; have HF := HG; clear HG
  generalize w.heap.size + 1 = gx24 at *
  refine wp_seq ?_
  refine kS fun K hK => ?_
  refine wp_region_lit ?_
  go_wp2
  refine kO hK ?_; clear hK K
  refine fH (HF.out) fun Wx1 HG => ?_
  clear HF; have HF := HG; clear HG
  refine wp_block ?_
  replace HF := Lib.hid ((HF.out.er 0).ar (HF.out.rn 0 rfl))
  simp only [List.eraseIdx_cons_zero, List.eraseIdx_cons_succ, List.cons_append, List.nil_append] at HF
  replace HF := Lib.hid ((HF.out.er 0).ar (HF.out.rn 0 rfl))
  simp only [List.eraseIdx_cons_zero, List.eraseIdx_cons_succ, List.cons_append, List.nil_append] at HF
  go_loopg [5] k (fun kk iv wr => ∃ (i : Nat) (q : Rat) (va vb : Value), iv = .int .i64 (i : Int) ∧ i + kk = k ∧ Hid (a * (10 : Rat) ^ i = q) ∧ Hid (HP w wr [Sum.inl (w.heap.size, 47, #[.bool (decide ((q).num < 0)), va, vb]), Sum.inl (gx24, 47, #[.bool false, .slice none 0 0, .slice none 0 0]), Sum.inr (va, Int.natAbs ((q).num)), Sum.inr (vb, (q).den - 1)]))
  case atStart => exact ⟨0, a, _, _, rfl, by omega, Lib.hid (by rw [Rat.pow_zero, Rat.mul_one]), HF⟩
  case round =>
    rename_i J_ K_ hj1_ hj0_
    clear HF
    obtain ⟨i, q, va, vb, rfl, hik, HQ, HF⟩ := hrel
    obtain ⟨aoA, nnA, ccA, rfl⟩ := Rn.sl (HF.out.rn 2 rfl)
    obtain ⟨aoB, nnB, ccB, rfl⟩ := Rn.sl (HF.out.rn 3 rfl)
    have hsq : rz q ≤ 10000 := by rw [← HQ.out]; have e1 := rz_mul a ((10 : Rat) ^ i); have e2 := rz_ten (k := i) (by omega); omega
    rcases gk with _ | kk
    · obtain rfl : k = i := by omega
      have HE : Hid (z = q) := Lib.hid (by rw [← HZ.out]; exact HQ.out)
      obtain rfl := HE.out
      clear HE
      refine wp_seq ?_
      have hlt9 : ¬ (k : Int) < (k : Int) := by omega
      refine kS fun K hK => ?_
      refine sq 3 [(true, 0), (true, 1), (true, 2)] fun T hT => ?_
      iterate 3 refine tk ?_
      refine nlS hT HF fun vw1 HG => ?_
      clear hT T HF
      go_wp2
      refine kO hK ?_; clear hK K
      have HF := HG; clear HG
      clear hlt9
      refine wp_cond_false (by rfl) ?_
      refine wp_exit ?_
      show Code.wp _ _ _ _ _
      have lx23 := HF.out.c 0 rfl
      refine kS fun K hK => ?_
      refine sq 1 [(true, 0)] fun T hT => ?_
      refine tk ?_
      refine nlS hT HF fun vw2 HG => ?_
      clear hT T HF lx23
      have lx24 := HG.out.c 1 rfl; have fx24 := HG.out.f 1 rfl
      have r0 := Gr.refl vw2
      go_wp2
      refine kO hK ?_; clear hK K
      clear r0 lx24 fx24
      refine fH ((((HG.out).put2 1 0 rfl).put 1 2 _ rfl).er 0) fun Wx5 HF => ?_
      clear HG
      refine wp_ret ?_
      try simp only [Exit.then, Exit.inBlock]
      have lx24 := HF.out.c 0 rfl
      have r0 := Gr.refl Wx5
      exact bodyPost_ret (v := .agg #[.bool (decide ((z).num < 0)), (.slice aoA nnA ccA), (.slice aoB nnB ccB)]) (by simp [results, Tryz.results160, go_sem, lx24 _ r0]) rfl ⟨⟨(.slice aoA nnA ccA), (.slice aoB nnB ccB), rfl, (HF.out.rn 1 rfl), (HF.out.rn 2 rfl)⟩, HF.out.1⟩
    · obtain ⟨q', HQ'⟩ : ∃ z, Hid (q * (10 : Rat) = z) := ⟨_, Lib.hid rfl⟩
      refine wp_seq ?_
      have hlt9 : (i : Int) < (k : Int) := by omega
      refine kS fun K hK => ?_
      refine sq 3 [(true, 0), (true, 1), (true, 2)] fun T hT => ?_
      iterate 3 refine tk ?_
      refine nlS hT HF fun vw1 HG => ?_
      clear hT T HF
      go_wp2
      refine kO hK ?_; clear hK K
      have HF := HG; clear HG
      clear hlt9
      refine wp_cond_true (by rfl) ?_
      refine wp_skip ?_
      show Code.wp _ _ _ _ _
      refine wp_seq ?_
      refine wp_block ?_
      have HZ1 : Hid (((10 : Int) : Rat) = (10 : Rat)) := Lib.hid (by decide +kernel)
      have su1 : rz ((10 : Rat)) ≤ 5 := rz_of (tw_le.2 (by decide +kernel)) (tw_le.2 (by decide +kernel))
      have HZ2 : Hid ((q) * (10 : Rat) = q') := Lib.hid (HQ'.out)
      have su2 : rz (q') ≤ 20000 := by have e := HZ2.out; first | omega | (rw [← e]; have := rz_mul (q) (10 : Rat); omega)
      have lx23 := HF.out.c 0 rfl
      refine kL fun K hK => ?_
      have HG0 : Hid (Gr vw1 vw1) := Lib.hid (Gr.refl _)
      refine pd 3 [(true, 0), (false, 1), (false, 2)] fun T hT => ?_
      refine tk ?_
      refine wpPlan_callE rfl (by rfl) Tryz.call161 (by rfl) (fun w' hw => (qint_any (10) (10 : Rat) _ HZ1.out om om).mono ?_)
      rintro e vv26 ⟨⟨rv1, rv2, rfl, bx26, bx27⟩, hg0⟩
      obtain ⟨ao1, nn1, cc1, rfl⟩ := Rn.sl bx26
      obtain ⟨ao2, nn2, cc2, rfl⟩ := Rn.sl bx27
      refine ⟨_, rfl, hg0, ?_⟩
      replace hg0 := Gr.trans hw hg0; clear hw
      replace HG0 := Lib.hid (HG0.out.trans hg0)
      have HGS := Lib.hid hg0; clear hg0
      clear HGS
      have RN26 := Lib.hid bx26; clear bx26
      have RN27 := Lib.hid bx27; clear bx27
      clear lx23; have lx23 := fun w' (h : Gr _ w') => HF.out.c 0 rfl w' (HG0.out.trans h)
      simp only [Act.put, lA, lB, lC]
      refine wpPlan_callE rfl (by rfl) Tryz.call132 (by rfl) (fun w' hw => (qmul_any (q) (10 : Rat) (q') _ _ _ _ _ HZ2.out (by omega) (by omega) (HF.out.r 2 rfl (HG0.out.trans hw)) (HF.out.r 3 rfl (HG0.out.trans hw)) (RN26.out.gr hw) (RN27.out.gr hw)).mono ?_)
      rintro e vv28 ⟨⟨rv3, rv4, rfl, bx28, bx29⟩, hg0⟩
      obtain ⟨ao3, nn3, cc3, rfl⟩ := Rn.sl bx28
      obtain ⟨ao4, nn4, cc4, rfl⟩ := Rn.sl bx29
      refine ⟨_, rfl, hg0, ?_⟩
      replace hg0 := Gr.trans hw hg0; clear hw
      replace HG0 := Lib.hid (HG0.out.trans hg0)
      have HGS := Lib.hid hg0; clear hg0
      replace RN26 := Lib.hid (RN26.out.gr HGS.out)
      replace RN27 := Lib.hid (RN27.out.gr HGS.out)
      clear HGS
      have RN28 := Lib.hid bx28; clear bx28
      have RN29 := Lib.hid bx29; clear bx29
      clear lx23; have lx23 := fun w' (h : Gr _ w') => HF.out.c 0 rfl w' (HG0.out.trans h)
      simp only [Act.put, lA, lB, lC]
      refine wpPlan_nil (hT.out _ _ ?_)
      intro G vw2 hg hf
      simp only [puts, Act.put, lA, lB, lC, lD, lE, ↓reduceIte, Nat.reduceEqDiff]
      have HG := Lib.hid (((((HF.out.gr (HG0.out.trans hg)).ar (RN26.out.gr hg)).ar (RN27.out.gr hg)).ar (RN28.out.gr hg)).ar (RN29.out.gr hg))
      simp only [zq1_, zq2_, zq3_, zq4_, lF, lG] at HG
      clear hT T HF hg hf HG0 RN26 RN27 RN28 RN29 lx23
      have lx23 := HG.out.c 0 rfl; have fx23 := HG.out.f 0 rfl
      have r0 := Gr.refl vw2
      go_wp2
      refine kO hK ?_; clear hK K
      clear r0 lx23 fx23
      refine fH (((HG.out).put2 0 0 rfl).put 0 2 _ rfl) fun Wx4 HF => ?_
      clear HG
      have hwi : IntKind.i64.wrap ((i : Int) + 1) = (i : Int) + 1 := by rw [IntKind.wrap_i64]; omega
      refine kL fun K hK => ?_
      refine sq 3 [(true, 0), (true, 1), (true, 2)] fun T hT => ?_
      iterate 3 refine tk ?_
      refine nlS hT HF fun vw3 HG => ?_
      clear hT T HF
      go_wp2
      refine hK.out _ _ ?_; clear hK K
      try simp only [Exit.then, Exit.inBlock]
      have HF := Lib.hid (HG.out); clear HG
      clear hwi
      refine hj0_ _ _ ?_
      go_roundg kk
      case measure => omega
      case rel => exact ⟨i + 1, q', _, _, rfl, by omega, Lib.hid (by rw [← HQ'.out, ← HQ.out, Rat.pow_succ, Rat.mul_assoc]), Lib.hid (((((HF.out).er 5).er 4).er 3).er 2)⟩
end Go.Proofs.YtaflakcemiilaaaGreatDoor

namespace Go.Proofs.YtaflakcemiilaaaGreatDoor
open Go.RowKit
attribute [local go_sem ↓] Go.wp_at_zero Go.wp_at_succ
attribute [local go_sem ↓] eq_nat eq_nat_zero eq_int
theorem rnd_rest {x : Rat} {w : Int} (h : x - ((x.floor : Int) : Rat) = 0) : rnd w x = x.floor := by
  have e : ((x.floor : Int) : Rat) = x := by grind
  have := rnd_int w x.floor
  rw [e] at this; exact this
theorem ceil_rest {x : Rat} (h : ¬ x - ((x.floor : Int) : Rat) = 0) : x.ceil = x.floor + 1 := fl_ce_frac (fun e => h (by grind))
theorem rnd3_lt {x : Rat} (h : x - ((x.floor : Int) : Rat) - (1 / 2 : Rat) < 0) : rnd 3 x = x.floor := by rw [rnd3, if_pos (.inl (by grind))]
theorem rnd3_gt {x : Rat} (h : 0 < x - ((x.floor : Int) : Rat) - (1 / 2 : Rat)) : rnd 3 x = x.ceil := by rw [rnd3, if_neg (by rintro (e | ⟨e, _⟩) <;> grind)]
theorem rnd3_ev {x : Rat} (h : x - ((x.floor : Int) : Rat) - (1 / 2 : Rat) = 0) (h2 : x.floor % 2 = 0) : rnd 3 x = x.floor := by rw [rnd3, if_pos (.inr ⟨by grind, h2⟩)]
theorem rnd3_od {x : Rat} (h : x - ((x.floor : Int) : Rat) - (1 / 2 : Rat) = 0) (h2 : ¬ x.floor % 2 = 0) : rnd 3 x = x.ceil := by rw [rnd3, if_neg (by rintro (e | ⟨_, e⟩); grind; exact h2 e)]
set_option maxRecDepth 50000 in
set_option maxHeartbeats 8000000 in
theorem rwh_bad (a : Rat) (n way c z0 : Int) (va1 va2 : Value) (w : World) (HZ0 : Hid ((0 : Int) = z0)) (hz0 : tw (Int.natAbs z0) ≤ 1) (HC : Hid (rcode n way = c)) (hc0 : ¬ c = 0) (bx21 : Rn w va1 (Int.natAbs ((a).num))) (bx22 : Rn w va2 ((a).den - 1)) :
    Calls Tryz.prog 159 #[(Value.agg #[.bool (decide ((a).num < 0)), va1, va2]), .int .i64 (n), .int .i64 (way)] w fun e w' => (∃ r1 : Value, e = .returned (.tuple #[(.agg #[.bool (decide ((z0) < 0)), r1]), .int .i64 (c)]) ∧ Rn w' r1 (Int.natAbs (z0))) ∧ Below w.heap.size w w' := by
  obtain ⟨ao_va1, n_va1, c_va1, rfl⟩ := Rn.sl bx21
  obtain ⟨ao_va2, n_va2, c_va2, rfl⟩ := Rn.sl bx22
  go_enter Tryz.func159, Tryz.ntmps159
  have HF := Lib.hid (hp0 w)
  replace HF := Lib.hid ((HF.out.ar bx21).ar bx22)
  simp only [lF, lG] at HF
  clear bx21 bx22
  refine kS fun K hK => ?_
  refine wp_region_lit ?_
  go_wp2
  refine kO hK ?_; clear hK K
  refine fH (((HF.out).aL (w.heap.size)).aL (w.heap.size + 1)) fun Wx0 HG => ?_
  clear HF; have HF := HG; clear HG
  generalize w.heap.size + 1 = gx24 at *
  have HZ1 : Hid ((0 : Int) = z0) := Lib.hid (HZ0.out)
  have su1 : tw (Int.natAbs (z0)) ≤ 1 := by have e := HZ1.out; first | omega | (rw [← e]; exact tw_le.2 (by decide +kernel))
  refine kS fun K hK => ?_
  have HG0 : Hid (Gr Wx0 Wx0) := Lib.hid (Gr.refl _)
  refine sq 1 [(false, 0)] fun T hT => ?_
  refine wpPlan_callE rfl (by rfl) Tryz.call165 (by rfl) (fun w' hw => (zof_any (0) (z0) _ HZ1.out (by decide) (by decide)).mono ?_)
  rintro e vv26 ⟨⟨rv1, rfl, bx26⟩, hg0⟩
  obtain ⟨ao1, nn1, cc1, rfl⟩ := Rn.sl bx26
  refine ⟨_, rfl, hg0, ?_⟩
  replace hg0 := Gr.trans hw hg0; clear hw
  replace HG0 := Lib.hid (HG0.out.trans hg0)
  have HGS := Lib.hid hg0; clear hg0
  clear HGS
  have RN26 := Lib.hid bx26; clear bx26
  simp only [Act.put, lA, lB, lC]
  refine wpPlan_nil (hT.out _ _ ?_)
  intro vw1 hg
  simp only [puts, Act.put, lA, lB, lC, lD, lE, ↓reduceIte, Nat.reduceEqDiff]
  have HG := Lib.hid ((HF.out.gr (HG0.out.trans hg)).ar (RN26.out.gr hg))
  simp only [zq1_, zq2_, zq3_, zq4_, lF, lG] at HG
  clear hT T HF hg HG0 RN26
  go_wp2
  refine kO hK ?_; clear hK K
  refine fH ((HG.out).aL (vw1.heap.size)) fun Wx1 HF => ?_
  clear HG
  generalize vw1.heap.size = gx27 at *
  refine wp_seq ?_
  by_cases c1 : n < 0
  · have HB9 := Lib.hid c1
    obtain rfl : c = 1 := by rw [← HC.out]; exact by unfold rcode; rw [if_pos HB9.out]
    clear c1
    have hb9 : n < 0 := HB9.out
    refine kS fun K hK => ?_
    refine sq 2 [(true, 0), (true, 1)] fun T hT => ?_
    iterate 2 refine tk ?_
    refine nlS hT HF fun vw2 HG => ?_
    clear hT T HF
    go_wp2
    refine kO hK ?_; clear hK K
    have HF := HG; clear HG
    clear hb9
    refine wp_cond_true (by rfl) ?_
    have lx27 := HF.out.c 5 rfl
    refine kS fun K hK => ?_
    refine sq 1 [(true, 0)] fun T hT => ?_
    refine tk ?_
    refine nlS hT HF fun vw3 HG => ?_
    clear hT T HF lx27
    have lx24 := HG.out.c 3 rfl; have fx24 := HG.out.f 3 rfl
    have r0 := Gr.refl vw3
    go_wp2
    refine kO hK ?_; clear hK K
    clear r0 lx24 fx24
    refine fH ((HG.out).put2 3 0 rfl) fun Wx3 HF => ?_
    clear HG
    refine wp_ret ?_
    try simp only [Exit.then, Exit.inBlock]
    have lx24 := HF.out.c 3 rfl
    have r0 := Gr.refl Wx3
    exact bodyPost_ret (v := .tuple #[(.agg #[.bool (decide ((z0) < 0)), (.slice ao1 nn1 cc1)]), .int .i64 1]) (by simp [results, Tryz.results159, go_sem, lx24 _ r0]) rfl ⟨⟨(.slice ao1 nn1 cc1), rfl, (HF.out.rn 4 rfl)⟩, HF.out.1⟩
  · have HN0 := Lib.hid c1
    clear c1
    have hb8 : ¬ n < 0 := HN0.out
    refine kS fun K hK => ?_
    refine sq 2 [(true, 0), (true, 1)] fun T hT => ?_
    iterate 2 refine tk ?_
    refine nlS hT HF fun vw2 HG => ?_
    clear hT T HF
    go_wp2
    refine kO hK ?_; clear hK K
    have HF := HG; clear HG
    clear hb8
    refine wp_cond_false (by rfl) ?_
    refine wp_skip ?_
    show Code.wp _ _ _ _ _
    refine wp_seq ?_
    by_cases c1 : 100 < n
    · have HB9 := Lib.hid c1
      obtain rfl : c = 3 := by rw [← HC.out]; exact by unfold rcode; rw [if_neg (show ¬ n < 0 by have h9 := HN0.out; omega), if_pos HB9.out]
      clear c1
      have hb9 : 100 < n := HB9.out
      refine kS fun K hK => ?_
      refine sq 2 [(true, 0), (true, 1)] fun T hT => ?_
      iterate 2 refine tk ?_
      refine nlS hT HF fun vw3 HG => ?_
      clear hT T HF
      go_wp2
      refine kO hK ?_; clear hK K
      have HF := HG; clear HG
      clear hb9
      refine wp_cond_true (by rfl) ?_
      have lx27 := HF.out.c 5 rfl
      refine kS fun K hK => ?_
      refine sq 1 [(true, 0)] fun T hT => ?_
      refine tk ?_
      refine nlS hT HF fun vw4 HG => ?_
      clear hT T HF lx27
      have lx24 := HG.out.c 3 rfl; have fx24 := HG.out.f 3 rfl
      have r0 := Gr.refl vw4
      go_wp2
      refine kO hK ?_; clear hK K
      clear r0 lx24 fx24
      refine fH ((HG.out).put2 3 0 rfl) fun Wx5 HF => ?_
      clear HG
      refine wp_ret ?_
      try simp only [Exit.then, Exit.inBlock]
      have lx24 := HF.out.c 3 rfl
      have r0 := Gr.refl Wx5
      exact bodyPost_ret (v := .tuple #[(.agg #[.bool (decide ((z0) < 0)), (.slice ao1 nn1 cc1)]), .int .i64 3]) (by simp [results, Tryz.results159, go_sem, lx24 _ r0]) rfl ⟨⟨(.slice ao1 nn1 cc1), rfl, (HF.out.rn 4 rfl)⟩, HF.out.1⟩
    · have HN1 := Lib.hid c1
      clear c1
      have hb7 : ¬ 100 < n := HN1.out
      refine kS fun K hK => ?_
      refine sq 2 [(true, 0), (true, 1)] fun T hT => ?_
      iterate 2 refine tk ?_
      refine nlS hT HF fun vw3 HG => ?_
      clear hT T HF
      go_wp2
      refine kO hK ?_; clear hK K
      have HF := HG; clear HG
      clear hb7
      refine wp_cond_false (by rfl) ?_
      refine wp_skip ?_
      show Code.wp _ _ _ _ _
      refine wp_seq ?_
      by_cases c1 : way < 1
      · have HB9 := Lib.hid c1
        obtain rfl : c = 1 := by rw [← HC.out]; exact by unfold rcode; rw [if_neg (show ¬ n < 0 by have h9 := HN0.out; omega), if_neg (show ¬ 100 < n by have h9 := HN1.out; omega), if_pos (.inl HB9.out)]
        clear c1
        have hb9 : way < 1 := HB9.out
        refine kS fun K hK => ?_
        refine sq 6 [(true, 0), (true, 1), (true, 2), (true, 3), (true, 4), (true, 5)] fun T hT => ?_
        iterate 3 refine tk ?_
        iterate 2 refine sk ?_
        refine tk ?_
        refine nlS hT HF fun vw4 HG => ?_
        clear hT T HF
        go_wp2
        refine kO hK ?_; clear hK K
        have HF := HG; clear HG
        clear hb9
        refine wp_cond_true (by rfl) ?_
        have lx27 := HF.out.c 5 rfl
        refine kS fun K hK => ?_
        refine sq 1 [(true, 0)] fun T hT => ?_
        refine tk ?_
        refine nlS hT HF fun vw5 HG => ?_
        clear hT T HF lx27
        have lx24 := HG.out.c 3 rfl; have fx24 := HG.out.f 3 rfl
        have r0 := Gr.refl vw5
        go_wp2
        refine kO hK ?_; clear hK K
        clear r0 lx24 fx24
        refine fH (((HG.out).put2 3 0 rfl).er 5) fun Wx7 HF => ?_
        clear HG
        refine wp_ret ?_
        try simp only [Exit.then, Exit.inBlock]
        have lx24 := HF.out.c 3 rfl
        have r0 := Gr.refl Wx7
        exact bodyPost_ret (v := .tuple #[(.agg #[.bool (decide ((z0) < 0)), (.slice ao1 nn1 cc1)]), .int .i64 1]) (by simp [results, Tryz.results159, go_sem, lx24 _ r0]) rfl ⟨⟨(.slice ao1 nn1 cc1), rfl, (HF.out.rn 4 rfl)⟩, HF.out.1⟩
      · have HN2 := Lib.hid c1
        clear c1
        obtain rfl : c = 1 := by
          have h1 := HC.out
          unfold rcode at h1
          rw [if_neg (show ¬ n < 0 by have h9 := HN0.out; omega), if_neg (show ¬ 100 < n by have h9 := HN1.out; omega)] at h1
          by_cases h2 : way < 1 ∨ 3 < way
          · rw [if_pos h2] at h1; exact h1.symm
          · rw [if_neg h2] at h1; exact absurd h1.symm hc0
        have hb6 : ¬ way < 1 := HN2.out
        have hb5 : 3 < way := by have h1 := HC.out; have h2 := HN0.out; have h3 := HN1.out; have h4 := HN2.out; unfold rcode at h1; rw [if_neg (show ¬ n < 0 by omega), if_neg (show ¬ 100 < n by omega)] at h1; rcases Int.lt_or_le 3 way with h | h; exact h; rw [if_neg (by omega)] at h1; omega
        refine kS fun K hK => ?_
        refine sq 6 [(true, 0), (true, 1), (true, 2), (true, 3), (true, 4), (true, 5)] fun T hT => ?_
        iterate 6 refine tk ?_
        refine nlS hT HF fun vw4 HG => ?_
        clear hT T HF
        go_wp2
        refine kO hK ?_; clear hK K
        have HF := HG; clear HG
        clear hb6 hb5
        refine wp_cond_true (by rfl) ?_
        have lx27 := HF.out.c 5 rfl
        refine kS fun K hK => ?_
        refine sq 1 [(true, 0)] fun T hT => ?_
        refine tk ?_
        refine nlS hT HF fun vw5 HG => ?_
        clear hT T HF lx27
        have lx24 := HG.out.c 3 rfl; have fx24 := HG.out.f 3 rfl
        have r0 := Gr.refl vw5
        go_wp2
        refine kO hK ?_; clear hK K
        clear r0 lx24 fx24
        refine fH (((HG.out).put2 3 0 rfl).er 5) fun Wx7 HF => ?_
        clear HG
        refine wp_ret ?_
        try simp only [Exit.then, Exit.inBlock]
        have lx24 := HF.out.c 3 rfl
        have r0 := Gr.refl Wx7
        exact bodyPost_ret (v := .tuple #[(.agg #[.bool (decide ((z0) < 0)), (.slice ao1 nn1 cc1)]), .int .i64 1]) (by simp [results, Tryz.results159, go_sem, lx24 _ r0]) rfl ⟨⟨(.slice ao1 nn1 cc1), rfl, (HF.out.rn 4 rfl)⟩, HF.out.1⟩
set_option maxRecDepth 50000 in
set_option maxHeartbeats 8000000 in
theorem rwh_all (a x r : Rat) (k : Nat) (way f c z d : Int) (va1 va2 : Value) (w : World) (HX : Hid (a * (10 : Rat) ^ k = x)) (HFL : Hid (x.floor = f)) (HR : Hid (x - ((f : Int) : Rat) = r)) (HCE : Hid (f + 1 = c)) (HD : Hid (f % 2 = d)) (HZ : Hid (rnd way x = z)) (hw1 : 1 ≤ way) (hw2 : way ≤ 3) (hk : k ≤ 100) (hs : rz a ≤ 1000) (hsx : rz x ≤ 1100) (hsf : tw (Int.natAbs (f)) ≤ 1101) (hszf : rz ((f : Int) : Rat) ≤ 1102) (bx21 : Rn w va1 (Int.natAbs ((a).num))) (bx22 : Rn w va2 ((a).den - 1)) :
    Calls Tryz.prog 159 #[(Value.agg #[.bool (decide ((a).num < 0)), va1, va2]), .int .i64 (((k : Nat) : Int)), .int .i64 (way)] w fun e w' => (∃ r1 : Value, e = .returned (.tuple #[(.agg #[.bool (decide ((z) < 0)), r1]), .int .i64 0]) ∧ Rn w' r1 (Int.natAbs (z))) ∧ Below w.heap.size w w' := by
  obtain ⟨ao_va1, n_va1, c_va1, rfl⟩ := Rn.sl bx21
  obtain ⟨ao_va2, n_va2, c_va2, rfl⟩ := Rn.sl bx22
  go_enter Tryz.func159, Tryz.ntmps159
  have HF := Lib.hid (hp0 w)
  replace HF := Lib.hid ((HF.out.ar bx21).ar bx22)
  simp only [lF, lG] at HF
  clear bx21 bx22
  refine kS fun K hK => ?_
  refine wp_region_lit ?_
  go_wp2
  refine kO hK ?_; clear hK K
  refine fH (((HF.out).aL (w.heap.size)).aL (w.heap.size + 1)) fun Wx0 HG => ?_
  clear HF; have HF := HG; clear HG
  generalize w.heap.size + 1 = gx24 at *
  have HZ1 : Hid ((0 : Int) = 0) := Lib.hid (by decide +kernel)
  have su1 : tw (Int.natAbs (0)) ≤ 1 := tw_le.2 (by decide +kernel)
  refine kS fun K hK => ?_
  have HG0 : Hid (Gr Wx0 Wx0) := Lib.hid (Gr.refl _)
  refine sq 1 [(false, 0)] fun T hT => ?_
  refine wpPlan_callE rfl (by rfl) Tryz.call165 (by rfl) (fun w' hw => (zof_any (0) (0) _ HZ1.out (by decide) (by decide)).mono ?_)
  rintro e vv26 ⟨⟨rv1, rfl, bx26⟩, hg0⟩
  obtain ⟨ao1, nn1, cc1, rfl⟩ := Rn.sl bx26
  refine ⟨_, rfl, hg0, ?_⟩
  replace hg0 := Gr.trans hw hg0; clear hw
  replace HG0 := Lib.hid (HG0.out.trans hg0)
  have HGS := Lib.hid hg0; clear hg0
  clear HGS
  have RN26 := Lib.hid bx26; clear bx26
  simp only [Act.put, lA, lB, lC]
  refine wpPlan_nil (hT.out _ _ ?_)
  intro vw1 hg
  simp only [puts, Act.put, lA, lB, lC, lD, lE, ↓reduceIte, Nat.reduceEqDiff]
  have HG := Lib.hid ((HF.out.gr (HG0.out.trans hg)).ar (RN26.out.gr hg))
  simp only [zq1_, zq2_, zq3_, zq4_, lF, lG] at HG
  clear hT T HF hg HG0 RN26
  go_wp2
  refine kO hK ?_; clear hK K
  refine fH ((HG.out).aL (vw1.heap.size)) fun Wx1 HF => ?_
  clear HG
  generalize vw1.heap.size = gx27 at *
  refine wp_seq ?_
  have hd1 : ¬ ((((k : Nat) : Int)) < 0) := ok
  have hd2 : ¬ (k < 0) := by have e := hd1; omega
  refine kS fun K hK => ?_
  refine sq 2 [(true, 0), (true, 1)] fun T hT => ?_
  iterate 2 refine tk ?_
  refine nlS hT HF fun vw2 HG => ?_
  clear hT T HF
  go_wp2
  refine kO hK ?_; clear hK K
  have HF := HG; clear HG
  clear hd1 hd2
  refine wp_cond_false (by rfl) ?_
  refine wp_skip ?_
  show Code.wp _ _ _ _ _
  refine wp_seq ?_
  have hd3 : ¬ (100 < (((k : Nat) : Int))) := ok
  refine kS fun K hK => ?_
  refine sq 2 [(true, 0), (true, 1)] fun T hT => ?_
  iterate 2 refine tk ?_
  refine nlS hT HF fun vw3 HG => ?_
  clear hT T HF
  go_wp2
  refine kO hK ?_; clear hK K
  have HF := HG; clear HG
  clear hd3
  refine wp_cond_false (by rfl) ?_
  refine wp_skip ?_
  show Code.wp _ _ _ _ _
  refine wp_seq ?_
  have hd4 : ¬ (way < 1) := ok
  have hd5 : ¬ (3 < way) := ok
  refine kS fun K hK => ?_
  refine sq 6 [(true, 0), (true, 1), (true, 2), (true, 3), (true, 4), (true, 5)] fun T hT => ?_
  iterate 6 refine tk ?_
  refine nlS hT HF fun vw4 HG => ?_
  clear hT T HF
  go_wp2
  refine kO hK ?_; clear hK K
  have HF := HG; clear HG
  clear hd4 hd5
  refine wp_cond_false (by rfl) ?_
  refine wp_skip ?_
  show Code.wp _ _ _ _ _
  have HZ2 : Hid ((a) * (10 : Rat) ^ k = x) := Lib.hid (HX.out)
  have su2 : rz (x) ≤ 1100 := by have e := HZ2.out; first | omega | (rw [← e]; have e1 := rz_mul (a) ((10 : Rat) ^ k); have e2 := rz_ten (k := k) (by omega); omega)
  have lx23 := HF.out.c 2 rfl
  refine kS fun K hK => ?_
  have HG0 : Hid (Gr vw4 vw4) := Lib.hid (Gr.refl _)
  refine sq 3 [(true, 0), (true, 1), (false, 2)] fun T hT => ?_
  iterate 2 refine tk ?_
  refine wpPlan_callE rfl (by rfl) Tryz.call160 (by rfl) (fun w' hw => (rtens_any (a) (x) k _ _ _ (Lib.hid HZ2.out) (by omega) (by omega) (HF.out.r 0 rfl (HG0.out.trans hw)) (HF.out.r 1 rfl (HG0.out.trans hw))).mono ?_)
  rintro e vv28 ⟨⟨rv2, rv3, rfl, bx28, bx29⟩, hg0⟩
  obtain ⟨ao2, nn2, cc2, rfl⟩ := Rn.sl bx28
  obtain ⟨ao3, nn3, cc3, rfl⟩ := Rn.sl bx29
  refine ⟨_, rfl, hg0, ?_⟩
  replace hg0 := Gr.trans hw hg0; clear hw
  replace HG0 := Lib.hid (HG0.out.trans hg0)
  have HGS := Lib.hid hg0; clear hg0
  clear HGS
  have RN28 := Lib.hid bx28; clear bx28
  have RN29 := Lib.hid bx29; clear bx29
  clear lx23; have lx23 := fun w' (h : Gr _ w') => HF.out.c 2 rfl w' (HG0.out.trans h)
  simp only [Act.put, lA, lB, lC]
  refine wpPlan_nil (hT.out _ _ ?_)
  intro vw5 hg
  simp only [puts, Act.put, lA, lB, lC, lD, lE, ↓reduceIte, Nat.reduceEqDiff]
  have HG := Lib.hid (((HF.out.gr (HG0.out.trans hg)).ar (RN28.out.gr hg)).ar (RN29.out.gr hg))
  simp only [zq1_, zq2_, zq3_, zq4_, lF, lG] at HG
  clear hT T HF hg HG0 RN28 RN29 lx23
  go_wp2
  refine kO hK ?_; clear hK K
  refine fH (((((((HG.out).aL (vw5.heap.size)).er 5).er 4).er 2).er 1).er 0) fun Wx8 HF => ?_
  clear HG
  generalize vw5.heap.size = gx30 at *
  have HZ3 : Hid ((x).floor = f) := Lib.hid (HFL.out)
  have su3 : tw (Int.natAbs (f)) ≤ 1101 := by have e := HZ3.out; first | omega | (rw [← e]; have := tw_floor (x); omega)
  have lx30 := HF.out.c 3 rfl
  refine kS fun K hK => ?_
  have HG0 : Hid (Gr Wx8 Wx8) := Lib.hid (Gr.refl _)
  refine sq 2 [(true, 0), (false, 1)] fun T hT => ?_
  refine tk ?_
  refine wpPlan_callE rfl (by rfl) Tryz.call138 (by rfl) (fun w' hw => (qfloor_any (x) (f) _ _ _ (Lib.hid HZ3.out) (by omega) (HF.out.r 1 rfl (HG0.out.trans hw)) (HF.out.r 2 rfl (HG0.out.trans hw))).mono ?_)
  rintro e vv31 ⟨⟨rv4, rfl, bx31⟩, hg0⟩
  obtain ⟨ao4, nn4, cc4, rfl⟩ := Rn.sl bx31
  refine ⟨_, rfl, hg0, ?_⟩
  replace hg0 := Gr.trans hw hg0; clear hw
  replace HG0 := Lib.hid (HG0.out.trans hg0)
  have HGS := Lib.hid hg0; clear hg0
  clear HGS
  have RN31 := Lib.hid bx31; clear bx31
  clear lx30; have lx30 := fun w' (h : Gr _ w') => HF.out.c 3 rfl w' (HG0.out.trans h)
  simp only [Act.put, lA, lB, lC]
  refine wpPlan_nil (hT.out _ _ ?_)
  intro vw6 hg
  simp only [puts, Act.put, lA, lB, lC, lD, lE, ↓reduceIte, Nat.reduceEqDiff]
  have HG := Lib.hid ((HF.out.gr (HG0.out.trans hg)).ar (RN31.out.gr hg))
  simp only [zq1_, zq2_, zq3_, zq4_, lF, lG] at HG
  clear hT T HF hg HG0 RN31 lx30
  go_wp2
  refine kO hK ?_; clear hK K
  refine fH ((HG.out).aL (vw6.heap.size)) fun Wx9 HF => ?_
  clear HG
  generalize vw6.heap.size = gx32 at *
  have HZ4 : Hid ((x) - (((f : Int) : Rat)) = r) := Lib.hid (HR.out)
  have su4 : rz (r) ≤ 2203 := by have e := HZ4.out; first | omega | (rw [← e]; have := rz_sub (x) (((f : Int) : Rat)); omega)
  have lx30 := HF.out.c 3 rfl
  have lx32 := HF.out.c 5 rfl
  refine kS fun K hK => ?_
  have HG0 : Hid (Gr Wx9 Wx9) := Lib.hid (Gr.refl _)
  refine sq 4 [(true, 0), (true, 1), (true, 2), (false, 3)] fun T hT => ?_
  iterate 3 refine tk ?_
  refine wpPlan_callE rfl (by rfl) Tryz.call131 (by rfl) (fun w' hw => (qsub_any (x) (((f : Int) : Rat)) (r) _ _ _ _ _ HZ4.out (by omega) (by omega) (HF.out.r 1 rfl (HG0.out.trans hw)) (HF.out.r 2 rfl (HG0.out.trans hw)) (HF.out.r 4 rfl (HG0.out.trans hw)) (Rn.zero _)).mono ?_)
  rintro e vv33 ⟨⟨rv5, rv6, rfl, bx33, bx34⟩, hg0⟩
  obtain ⟨ao5, nn5, cc5, rfl⟩ := Rn.sl bx33
  obtain ⟨ao6, nn6, cc6, rfl⟩ := Rn.sl bx34
  refine ⟨_, rfl, hg0, ?_⟩
  replace hg0 := Gr.trans hw hg0; clear hw
  replace HG0 := Lib.hid (HG0.out.trans hg0)
  have HGS := Lib.hid hg0; clear hg0
  clear HGS
  have RN33 := Lib.hid bx33; clear bx33
  have RN34 := Lib.hid bx34; clear bx34
  clear lx30; have lx30 := fun w' (h : Gr _ w') => HF.out.c 3 rfl w' (HG0.out.trans h)
  clear lx32; have lx32 := fun w' (h : Gr _ w') => HF.out.c 5 rfl w' (HG0.out.trans h)
  simp only [Act.put, lA, lB, lC]
  refine wpPlan_nil (hT.out _ _ ?_)
  intro vw7 hg
  simp only [puts, Act.put, lA, lB, lC, lD, lE, ↓reduceIte, Nat.reduceEqDiff]
  have HG := Lib.hid (((HF.out.gr (HG0.out.trans hg)).ar (RN33.out.gr hg)).ar (RN34.out.gr hg))
  simp only [zq1_, zq2_, zq3_, zq4_, lF, lG] at HG
  clear hT T HF hg HG0 RN33 RN34 lx30 lx32
  go_wp2
  refine kO hK ?_; clear hK K
  refine fH (((((HG.out).aL (vw7.heap.size)).er 3).er 2).er 1) fun Wx10 HF => ?_
  clear HG
  generalize vw7.heap.size = gx35 at *
  refine wp_seq ?_
  by_cases h0 : r = 0
  · have HR0 := Lib.hid h0
    obtain rfl : f = z := by rw [← HZ.out, rnd_rest (by rw [HFL.out, HR.out]; exact h0), HFL.out]
    clear h0
    have lx35 := HF.out.c 5 rfl
    refine kS fun K hK => ?_
    refine sq 7 [(true, 0), (true, 1), (true, 2), (true, 3), (true, 4), (true, 5), (true, 6)] fun T hT => ?_
    refine tk ?_
    refine ck Tryz.call81 (fun w' hw => qsign_any (r) (0) _ _ _ (by have e9 : (r) = (0 : Rat) := (by exact HR0.out); exact sgQ_zero' e9) (HF.out.r 3 rfl hw) (HF.out.r 4 rfl hw)) ?_
    iterate 2 refine tk ?_
    iterate 2 refine sk ?_
    refine tk ?_
    refine nlS hT HF fun vw8 HG => ?_
    clear hT T HF lx35
    go_wp2
    refine kO hK ?_; clear hK K
    have HF := HG; clear HG
    refine wp_cond_true (by rfl) ?_
    have lx32 := HF.out.c 2 rfl
    refine kS fun K hK => ?_
    refine sq 1 [(true, 0)] fun T hT => ?_
    refine tk ?_
    refine nlS hT HF fun vw9 HG => ?_
    clear hT T HF lx32
    have lx24 := HG.out.c 0 rfl; have fx24 := HG.out.f 0 rfl
    have r0 := Gr.refl vw9
    go_wp2
    refine kO hK ?_; clear hK K
    clear r0 lx24 fx24
    refine fH ((HG.out).put2 0 0 rfl) fun Wx12 HF => ?_
    clear HG
    refine wp_ret ?_
    try simp only [Exit.then, Exit.inBlock]
    have lx24 := HF.out.c 0 rfl
    have r0 := Gr.refl Wx12
    exact bodyPost_ret (v := .tuple #[(.agg #[.bool (decide ((f) < 0)), (.slice ao4 nn4 cc4)]), .int .i64 0]) (by simp [results, Tryz.results159, go_sem, lx24 _ r0]) rfl ⟨⟨(.slice ao4 nn4 cc4), rfl, (HF.out.rn 1 rfl)⟩, HF.out.1⟩
  · have HR0 : Hid (0 < r) := Lib.hid (by have h9 := fl_le x; rw [HFL.out] at h9; have h8 := HR.out; grind)
    have HCL : Hid (x.ceil = c) := Lib.hid (by rw [ceil_rest (by rw [HFL.out, HR.out]; exact h0), HFL.out]; exact HCE.out)
    clear h0
    by_cases h1 : way = 1
    · have HW1 := Lib.hid h1
      obtain rfl : f = z := by rw [← HZ.out, h1, rnd1, HFL.out]
      clear h1
      have hw1e : (way == 1) = true := by have h9 := HW1.out; simp [h9]
      have lx35 := HF.out.c 5 rfl
      refine kS fun K hK => ?_
      refine sq 7 [(true, 0), (true, 1), (true, 2), (true, 3), (true, 4), (true, 5), (true, 6)] fun T hT => ?_
      refine tk ?_
      refine ck Tryz.call81 (fun w' hw => qsign_any (r) (1) _ _ _ (by have e9 : (0 : Rat) < (r) := (by exact HR0.out); exact sgQ_pos e9) (HF.out.r 3 rfl hw) (HF.out.r 4 rfl hw)) ?_
      iterate 5 refine tk ?_
      refine nlS hT HF fun vw8 HG => ?_
      clear hT T HF lx35
      go_wp2
      refine kO hK ?_; clear hK K
      have HF := HG; clear HG
      clear hw1e
      refine wp_cond_true (by rfl) ?_
      have lx32 := HF.out.c 2 rfl
      refine kS fun K hK => ?_
      refine sq 1 [(true, 0)] fun T hT => ?_
      refine tk ?_
      refine nlS hT HF fun vw9 HG => ?_
      clear hT T HF lx32
      have lx24 := HG.out.c 0 rfl; have fx24 := HG.out.f 0 rfl
      have r0 := Gr.refl vw9
      go_wp2
      refine kO hK ?_; clear hK K
      clear r0 lx24 fx24
      refine fH ((HG.out).put2 0 0 rfl) fun Wx12 HF => ?_
      clear HG
      refine wp_ret ?_
      try simp only [Exit.then, Exit.inBlock]
      have lx24 := HF.out.c 0 rfl
      have r0 := Gr.refl Wx12
      exact bodyPost_ret (v := .tuple #[(.agg #[.bool (decide ((f) < 0)), (.slice ao4 nn4 cc4)]), .int .i64 0]) (by simp [results, Tryz.results159, go_sem, lx24 _ r0]) rfl ⟨⟨(.slice ao4 nn4 cc4), rfl, (HF.out.rn 1 rfl)⟩, HF.out.1⟩
    · have HW1 := Lib.hid h1
      clear h1
      have hw1e : (way == 1) = false := by simpa using HW1.out
      have lx35 := HF.out.c 5 rfl
      refine kS fun K hK => ?_
      refine sq 7 [(true, 0), (true, 1), (true, 2), (true, 3), (true, 4), (true, 5), (true, 6)] fun T hT => ?_
      refine tk ?_
      refine ck Tryz.call81 (fun w' hw => qsign_any (r) (1) _ _ _ (by have e9 : (0 : Rat) < (r) := (by exact HR0.out); exact sgQ_pos e9) (HF.out.r 3 rfl hw) (HF.out.r 4 rfl hw)) ?_
      iterate 5 refine tk ?_
      refine nlS hT HF fun vw8 HG => ?_
      clear hT T HF lx35
      go_wp2
      refine kO hK ?_; clear hK K
      have HF := HG; clear HG
      clear hw1e
      refine wp_cond_false (by rfl) ?_
      refine wp_skip ?_
      show Code.wp _ _ _ _ _
      have HZ5 : Hid ((1 : Int) = 1) := Lib.hid (by decide +kernel)
      have su5 : tw (Int.natAbs (1)) ≤ 1 := tw_le.2 (by decide +kernel)
      have HZ6 : Hid ((f) + (1) = c) := Lib.hid (HCE.out)
      have su6 : tw (Int.natAbs (c)) ≤ 1102 := by have e := HZ6.out; first | omega | (rw [← e]; have := tw_iadd (f) (1); omega)
      have lx32 := HF.out.c 2 rfl
      refine kS fun K hK => ?_
      have HG0 : Hid (Gr vw8 vw8) := Lib.hid (Gr.refl _)
      refine wp_region_plan 4 [3] [] (fun _ => 12) (fun _ => .cells #[.bool false, .slice none 0 0] 45) [(true, 0), (false, 1), (false, 2)] (by kernel_rfl) (by kernel_rfl) (by intro i hi; simp only [List.mem_cons, List.not_mem_nil, or_false] at hi; rcases hi with rfl <;> exact ⟨_, rfl, rfl, rfl, by simp, fun ρ w => by kernel_rfl⟩) (fun i hi => by cases hi) (fun _ _ _ _ _ h => h) (fun T hT => ?_)
      refine tk ?_
      refine wpPlan_callE rfl (by rfl) Tryz.call165 (by rfl) (fun w' hw => (zof_any (1) (1) _ HZ5.out (by decide) (by decide)).mono ?_)
      rintro e vv36 ⟨⟨rv7, rfl, bx36⟩, hg0⟩
      obtain ⟨ao7, nn7, cc7, rfl⟩ := Rn.sl bx36
      refine ⟨_, rfl, hg0, ?_⟩
      replace hg0 := Gr.trans hw hg0; clear hw
      replace HG0 := Lib.hid (HG0.out.trans hg0)
      have HGS := Lib.hid hg0; clear hg0
      clear HGS
      have RN36 := Lib.hid bx36; clear bx36
      clear lx32; have lx32 := fun w' (h : Gr _ w') => HF.out.c 2 rfl w' (HG0.out.trans h)
      simp only [Act.put, lA, lB, lC]
      refine wpPlan_callE rfl (by rfl) Tryz.call164 (by rfl) (fun w' hw => (zadd_any (f) (1) (c) _ _ _ HZ6.out (by omega) (by omega) (HF.out.r 1 rfl (HG0.out.trans hw)) (RN36.out.gr hw)).mono ?_)
      rintro e vv37 ⟨⟨rv8, rfl, bx37⟩, hg0⟩
      obtain ⟨ao8, nn8, cc8, rfl⟩ := Rn.sl bx37
      refine ⟨_, rfl, hg0, ?_⟩
      replace hg0 := Gr.trans hw hg0; clear hw
      replace HG0 := Lib.hid (HG0.out.trans hg0)
      have HGS := Lib.hid hg0; clear hg0
      replace RN36 := Lib.hid (RN36.out.gr HGS.out)
      clear HGS
      have RN37 := Lib.hid bx37; clear bx37
      clear lx32; have lx32 := fun w' (h : Gr _ w') => HF.out.c 2 rfl w' (HG0.out.trans h)
      simp only [Act.put, lA, lB, lC]
      refine wpPlan_nil (hT.out _ _ ?_)
      intro G vw9 hg hf
      simp only [puts, Act.put, lA, lB, lC, lD, lE, ↓reduceIte, Nat.reduceEqDiff]
      have HG := Lib.hid (((HF.out.fr (HG0.out.trans hg) hf (zs := [(#[.bool false, .slice none 0 0], 45)]) rfl (by decide) (by decide)).ar (RN36.out.gr hg)).ar (RN37.out.gr hg))
      simp only [zq1_, zq2_, zq3_, zq4_, lF, lG] at HG
      clear hT T HF hg hf HG0 RN36 RN37 lx32
      generalize G 3 = gx38 at *
      have lx38 := HG.out.c 6 rfl; have fx38 := HG.out.f 6 rfl
      have r0 := Gr.refl vw9
      go_wp2
      refine kO hK ?_; clear hK K
      clear r0 lx38 fx38
      refine fH (((HG.out).put2 6 0 rfl).er 7) fun Wx13 HF => ?_
      clear HG
      refine wp_seq ?_
      by_cases h2 : way = 2
      · have HW2 := Lib.hid h2
        obtain rfl : c = z := by rw [← HZ.out, h2, rnd2]; exact HCL.out.symm
        clear h2
        have hw2e : (way == 2) = true := by have h9 := HW2.out; simp [h9]
        refine kS fun K hK => ?_
        refine sq 2 [(true, 0), (true, 1)] fun T hT => ?_
        iterate 2 refine tk ?_
        refine nlS hT HF fun vw10 HG => ?_
        clear hT T HF
        go_wp2
        refine kO hK ?_; clear hK K
        have HF := HG; clear HG
        clear hw2e
        refine wp_cond_true (by rfl) ?_
        have lx38 := HF.out.c 6 rfl
        refine kS fun K hK => ?_
        refine sq 1 [(true, 0)] fun T hT => ?_
        refine tk ?_
        refine nlS hT HF fun vw11 HG => ?_
        clear hT T HF lx38
        have lx24 := HG.out.c 0 rfl; have fx24 := HG.out.f 0 rfl
        have r0 := Gr.refl vw11
        go_wp2
        refine kO hK ?_; clear hK K
        clear r0 lx24 fx24
        refine fH ((HG.out).put2 0 0 rfl) fun Wx15 HF => ?_
        clear HG
        refine wp_ret ?_
        try simp only [Exit.then, Exit.inBlock]
        have lx24 := HF.out.c 0 rfl
        have r0 := Gr.refl Wx15
        exact bodyPost_ret (v := .tuple #[(.agg #[.bool (decide ((c) < 0)), (.slice ao8 nn8 cc8)]), .int .i64 0]) (by simp [results, Tryz.results159, go_sem, lx24 _ r0]) rfl ⟨⟨(.slice ao8 nn8 cc8), rfl, (HF.out.rn 7 rfl)⟩, HF.out.1⟩
      · have HW2 := Lib.hid h2
        have HW3 : Hid (rnd 3 x = z) := Lib.hid (by rw [← HZ.out, show way = 3 by have := HW1.out; omega])
        clear h2
        have hw2e : (way == 2) = false := by simpa using HW2.out
        refine kS fun K hK => ?_
        refine sq 2 [(true, 0), (true, 1)] fun T hT => ?_
        iterate 2 refine tk ?_
        refine nlS hT HF fun vw10 HG => ?_
        clear hT T HF
        go_wp2
        refine kO hK ?_; clear hK K
        have HF := HG; clear HG
        clear hw2e
        refine wp_cond_false (by rfl) ?_
        refine wp_skip ?_
        show Code.wp _ _ _ _ _
        rcases (show r - (1 / 2 : Rat) < 0 ∨ r - (1 / 2 : Rat) = 0 ∨ 0 < r - (1 / 2 : Rat) by grind) with h3 | h3 | h3
        · have HO := Lib.hid h3
          obtain rfl : f = z := by rw [← HW3.out, rnd3_lt (by rw [HFL.out, HR.out]; exact HO.out), HFL.out]
          clear h3
          have HZ7 : Hid (((1 : Int) : Rat) / ((2 : Int) : Rat) = (1 / 2 : Rat)) := Lib.hid (by decide +kernel)
          have su7 : rz ((1 / 2 : Rat)) ≤ 10 := by have e := HZ7.out; first | omega | (rw [← e]; exact rz_quot (1) (2) om om om om)
          have lx35 := HF.out.c 5 rfl
          refine kS fun K hK => ?_
          have HG0 : Hid (Gr vw10 vw10) := Lib.hid (Gr.refl _)
          refine pd 3 [(true, 0), (false, 1), (true, 2)] fun T hT => ?_
          refine tk ?_
          refine wpPlan_callE rfl (by rfl) Tryz.call102 (by rfl) (fun w' hw => (qof_ref (1) (2) ((1 / 2 : Rat)) _ HZ7.out om om om om).mono ?_)
          rintro e vv39 ⟨⟨rv9, rv10, rfl, bx39, bx40⟩, hg0⟩
          obtain ⟨ao9, nn9, cc9, rfl⟩ := Rn.sl bx39
          obtain ⟨ao10, nn10, cc10, rfl⟩ := Rn.sl bx40
          refine ⟨_, rfl, hg0, ?_⟩
          replace hg0 := Gr.trans hw hg0; clear hw
          replace HG0 := Lib.hid (HG0.out.trans hg0)
          have HGS := Lib.hid hg0; clear hg0
          clear HGS
          have RN39 := Lib.hid bx39; clear bx39
          have RN40 := Lib.hid bx40; clear bx40
          clear lx35; have lx35 := fun w' (h : Gr _ w') => HF.out.c 5 rfl w' (HG0.out.trans h)
          simp only [Act.put, lA, lB, lC]
          refine ck Tryz.call130 (fun w' hw => qcmp_any (r) ((1 / 2 : Rat)) (-1) _ _ _ _ _ (by have e9 : (r) - ((1 / 2 : Rat)) < (0 : Rat) := (by exact HO.out); exact sgQ_neg e9) (by omega) (by omega) (HF.out.r 3 rfl (HG0.out.trans hw)) (HF.out.r 4 rfl (HG0.out.trans hw)) (RN39.out.gr hw) (RN40.out.gr hw)) ?_
          refine wpPlan_nil (hT.out _ _ ?_)
          intro G vw11 hg hf
          simp only [puts, Act.put, lA, lB, lC, lD, lE, ↓reduceIte, Nat.reduceEqDiff]
          have HG := Lib.hid (((HF.out.gr (HG0.out.trans hg)).ar (RN39.out.gr hg)).ar (RN40.out.gr hg))
          simp only [zq1_, zq2_, zq3_, zq4_, lF, lG] at HG
          clear hT T HF hg hf HG0 RN39 RN40 lx35
          go_wp2
          refine kO hK ?_; clear hK K
          refine fH ((((((HG.out).er 9).er 8).er 5).er 4).er 3) fun Wx16 HF => ?_
          clear HG
          have HZ8 : Hid ((2 : Int) = 2) := Lib.hid (by decide +kernel)
          have su8 : tw (Int.natAbs (2)) ≤ 1 := tw_le.2 (by decide +kernel)
          obtain ⟨u9, HZ9⟩ : ∃ z, Hid ((f) / (2) = z) := ⟨_, Lib.hid rfl⟩
          have su9 : tw (Int.natAbs (u9)) ≤ 1102 := by rw [← HZ9.out]; have := tw_idiv (f) (2); omega
          have HZ10 : Hid ((f) % (2) = d) := Lib.hid (HD.out)
          have su10 : tw (Int.natAbs (d)) ≤ 1101 := by have e := HZ10.out; first | omega | (rw [← e]; have := tw_imod (f) (2) (by first | exact ok | (simp only [← HZ9.out] <;> first | exact ok)); omega)
          have lx32 := HF.out.c 2 rfl
          refine kS fun K hK => ?_
          have HG0 : Hid (Gr Wx16 Wx16) := Lib.hid (Gr.refl _)
          refine wp_region_plan 8 [6, 7] [5] (fun i => if i = 6 then 14 else 15) (fun i => if i = 6 then .cells #[.bool false, .slice none 0 0] 45 else .cells #[.bool false, .slice none 0 0] 45) [(true, 0), (false, 1), (false, 2), (true, 3), (true, 4), (true, 5)] (by kernel_rfl) (by kernel_rfl) (by intro i hi; simp only [List.mem_cons, List.not_mem_nil, or_false] at hi; rcases hi with rfl | rfl <;> exact ⟨_, rfl, rfl, rfl, by simp, fun ρ w => by kernel_rfl⟩) (by intro i hi; simp only [List.mem_cons, List.not_mem_nil, or_false] at hi; rcases hi with rfl <;> exact ⟨_, rfl, pure_extract⟩) (fun _ _ _ _ _ h => h) (fun T hT => ?_)
          refine tk ?_
          refine wpPlan_callE rfl (by rfl) Tryz.call165 (by rfl) (fun w' hw => (zof_any (2) (2) _ HZ8.out (by decide) (by decide)).mono ?_)
          rintro e vv41 ⟨⟨rv11, rfl, bx41⟩, hg0⟩
          obtain ⟨ao11, nn11, cc11, rfl⟩ := Rn.sl bx41
          refine ⟨_, rfl, hg0, ?_⟩
          replace hg0 := Gr.trans hw hg0; clear hw
          replace HG0 := Lib.hid (HG0.out.trans hg0)
          have HGS := Lib.hid hg0; clear hg0
          clear HGS
          have RN41 := Lib.hid bx41; clear bx41
          clear lx32; have lx32 := fun w' (h : Gr _ w') => HF.out.c 2 rfl w' (HG0.out.trans h)
          simp only [Act.put, lA, lB, lC]
          refine wpPlan_callE rfl (by rfl) Tryz.call209 (by rfl) (fun w' hw => (zzdiv (f) (2) (u9) (d) _ _ _ HZ9.out HZ10.out (by first | exact ok | (simp only [← HZ9.out] <;> first | exact ok)) (by omega) (by omega) (HF.out.r 1 rfl (HG0.out.trans hw)) (RN41.out.gr hw)).mono ?_)
          rintro e vv42 ⟨⟨rv12, rv13, rfl, bx42, bx43⟩, hg0⟩
          obtain ⟨ao12, nn12, cc12, rfl⟩ := Rn.sl bx42
          obtain ⟨ao13, nn13, cc13, rfl⟩ := Rn.sl bx43
          refine ⟨_, rfl, hg0, ?_⟩
          replace hg0 := Gr.trans hw hg0; clear hw
          replace HG0 := Lib.hid (HG0.out.trans hg0)
          have HGS := Lib.hid hg0; clear hg0
          replace RN41 := Lib.hid (RN41.out.gr HGS.out)
          clear HGS
          have RN42 := Lib.hid bx42; clear bx42
          have RN43 := Lib.hid bx43; clear bx43
          clear lx32; have lx32 := fun w' (h : Gr _ w') => HF.out.c 2 rfl w' (HG0.out.trans h)
          simp only [Act.put, lA, lB, lC]
          iterate 3 refine tk ?_
          refine wpPlan_nil (hT.out _ _ ?_)
          intro G vw12 hg hf
          simp only [puts, Act.put, lA, lB, lC, lD, lE, ↓reduceIte, Nat.reduceEqDiff]
          have HG := Lib.hid ((((HF.out.fr (HG0.out.trans hg) hf (zs := [(#[.bool false, .slice none 0 0], 45), (#[.bool false, .slice none 0 0], 45)]) rfl (by decide) (by decide)).ar (RN41.out.gr hg)).ar (RN42.out.gr hg)).ar (RN43.out.gr hg))
          simp only [zq1_, zq2_, zq3_, zq4_, lF, lG] at HG
          clear hT T HF hg hf HG0 RN41 RN42 RN43 lx32
          generalize G 6 = gx44 at *
          generalize G 7 = gx45 at *
          have lx44 := HG.out.c 5 rfl; have fx44 := HG.out.f 5 rfl
          have lx45 := HG.out.c 6 rfl; have fx45 := HG.out.f 6 rfl
          have r0 := Gr.refl vw12
          obtain ⟨d44_45, d45_44⟩ := HG.out.ne 5 6 rfl rfl (by decide)
          go_wp2
          refine kO hK ?_; clear hK K
          clear r0 lx44 fx44 lx45 fx45 d44_45 d45_44
          refine fH ((((((HG.out).put2 5 0 rfl).put2 6 0 rfl).er 8).er 7).er 5) fun Wx17 HF => ?_
          clear HG
          refine wp_seq ?_
          have lx45 := HF.out.c 5 rfl
          refine kS fun K hK => ?_
          refine sq 11 [(true, 0), (true, 1), (true, 2), (true, 3), (true, 4), (true, 5), (true, 6), (true, 7), (true, 8), (true, 9), (true, 10)] fun T hT => ?_
          iterate 3 refine tk ?_
          iterate 7 refine sk ?_
          refine tk ?_
          refine nlS hT HF fun vw13 HG => ?_
          clear hT T HF lx45
          go_wp2
          refine kO hK ?_; clear hK K
          refine fH (((HG.out).er 6).er 5) fun Wx18 HF => ?_
          clear HG
          refine wp_cond_true (by rfl) ?_
          have lx32 := HF.out.c 2 rfl
          refine kS fun K hK => ?_
          refine sq 1 [(true, 0)] fun T hT => ?_
          refine tk ?_
          refine nlS hT HF fun vw14 HG => ?_
          clear hT T HF lx32
          have lx24 := HG.out.c 0 rfl; have fx24 := HG.out.f 0 rfl
          have r0 := Gr.refl vw14
          go_wp2
          refine kO hK ?_; clear hK K
          clear r0 lx24 fx24
          refine fH (((HG.out).put2 0 0 rfl).er 2) fun Wx19 HF => ?_
          clear HG
          refine wp_ret ?_
          try simp only [Exit.then, Exit.inBlock]
          have lx24 := HF.out.c 0 rfl
          have r0 := Gr.refl Wx19
          exact bodyPost_ret (v := .tuple #[(.agg #[.bool (decide ((f) < 0)), (.slice ao4 nn4 cc4)]), .int .i64 0]) (by simp [results, Tryz.results159, go_sem, lx24 _ r0]) rfl ⟨⟨(.slice ao4 nn4 cc4), rfl, (HF.out.rn 1 rfl)⟩, HF.out.1⟩
        · have HO := Lib.hid h3
          clear h3
          by_cases h4 : d = 0
          · have HDV := Lib.hid h4
            obtain rfl : f = z := by rw [← HW3.out, rnd3_ev (by rw [HFL.out, HR.out]; exact HO.out) (by rw [HFL.out, HD.out]; exact h4), HFL.out]
            clear h4
            have HZ7 : Hid (((1 : Int) : Rat) / ((2 : Int) : Rat) = (1 / 2 : Rat)) := Lib.hid (by decide +kernel)
            have su7 : rz ((1 / 2 : Rat)) ≤ 10 := by have e := HZ7.out; first | omega | (rw [← e]; exact rz_quot (1) (2) om om om om)
            have lx35 := HF.out.c 5 rfl
            refine kS fun K hK => ?_
            have HG0 : Hid (Gr vw10 vw10) := Lib.hid (Gr.refl _)
            refine pd 3 [(true, 0), (false, 1), (true, 2)] fun T hT => ?_
            refine tk ?_
            refine wpPlan_callE rfl (by rfl) Tryz.call102 (by rfl) (fun w' hw => (qof_ref (1) (2) ((1 / 2 : Rat)) _ HZ7.out om om om om).mono ?_)
            rintro e vv39 ⟨⟨rv9, rv10, rfl, bx39, bx40⟩, hg0⟩
            obtain ⟨ao9, nn9, cc9, rfl⟩ := Rn.sl bx39
            obtain ⟨ao10, nn10, cc10, rfl⟩ := Rn.sl bx40
            refine ⟨_, rfl, hg0, ?_⟩
            replace hg0 := Gr.trans hw hg0; clear hw
            replace HG0 := Lib.hid (HG0.out.trans hg0)
            have HGS := Lib.hid hg0; clear hg0
            clear HGS
            have RN39 := Lib.hid bx39; clear bx39
            have RN40 := Lib.hid bx40; clear bx40
            clear lx35; have lx35 := fun w' (h : Gr _ w') => HF.out.c 5 rfl w' (HG0.out.trans h)
            simp only [Act.put, lA, lB, lC]
            refine ck Tryz.call130 (fun w' hw => qcmp_any (r) ((1 / 2 : Rat)) (0) _ _ _ _ _ (by have e9 : (r) - ((1 / 2 : Rat)) = (0 : Rat) := (by exact HO.out); exact sgQ_zero' e9) (by omega) (by omega) (HF.out.r 3 rfl (HG0.out.trans hw)) (HF.out.r 4 rfl (HG0.out.trans hw)) (RN39.out.gr hw) (RN40.out.gr hw)) ?_
            refine wpPlan_nil (hT.out _ _ ?_)
            intro G vw11 hg hf
            simp only [puts, Act.put, lA, lB, lC, lD, lE, ↓reduceIte, Nat.reduceEqDiff]
            have HG := Lib.hid (((HF.out.gr (HG0.out.trans hg)).ar (RN39.out.gr hg)).ar (RN40.out.gr hg))
            simp only [zq1_, zq2_, zq3_, zq4_, lF, lG] at HG
            clear hT T HF hg hf HG0 RN39 RN40 lx35
            go_wp2
            refine kO hK ?_; clear hK K
            refine fH ((((((HG.out).er 9).er 8).er 5).er 4).er 3) fun Wx16 HF => ?_
            clear HG
            have HZ8 : Hid ((2 : Int) = 2) := Lib.hid (by decide +kernel)
            have su8 : tw (Int.natAbs (2)) ≤ 1 := tw_le.2 (by decide +kernel)
            obtain ⟨u9, HZ9⟩ : ∃ z, Hid ((f) / (2) = z) := ⟨_, Lib.hid rfl⟩
            have su9 : tw (Int.natAbs (u9)) ≤ 1102 := by rw [← HZ9.out]; have := tw_idiv (f) (2); omega
            have HZ10 : Hid ((f) % (2) = d) := Lib.hid (HD.out)
            have su10 : tw (Int.natAbs (d)) ≤ 1101 := by have e := HZ10.out; first | omega | (rw [← e]; have := tw_imod (f) (2) (by first | exact ok | (simp only [← HZ9.out] <;> first | exact ok)); omega)
            have lx32 := HF.out.c 2 rfl
            refine kS fun K hK => ?_
            have HG0 : Hid (Gr Wx16 Wx16) := Lib.hid (Gr.refl _)
            refine wp_region_plan 8 [6, 7] [5] (fun i => if i = 6 then 14 else 15) (fun i => if i = 6 then .cells #[.bool false, .slice none 0 0] 45 else .cells #[.bool false, .slice none 0 0] 45) [(true, 0), (false, 1), (false, 2), (true, 3), (true, 4), (true, 5)] (by kernel_rfl) (by kernel_rfl) (by intro i hi; simp only [List.mem_cons, List.not_mem_nil, or_false] at hi; rcases hi with rfl | rfl <;> exact ⟨_, rfl, rfl, rfl, by simp, fun ρ w => by kernel_rfl⟩) (by intro i hi; simp only [List.mem_cons, List.not_mem_nil, or_false] at hi; rcases hi with rfl <;> exact ⟨_, rfl, pure_extract⟩) (fun _ _ _ _ _ h => h) (fun T hT => ?_)
            refine tk ?_
            refine wpPlan_callE rfl (by rfl) Tryz.call165 (by rfl) (fun w' hw => (zof_any (2) (2) _ HZ8.out (by decide) (by decide)).mono ?_)
            rintro e vv41 ⟨⟨rv11, rfl, bx41⟩, hg0⟩
            obtain ⟨ao11, nn11, cc11, rfl⟩ := Rn.sl bx41
            refine ⟨_, rfl, hg0, ?_⟩
            replace hg0 := Gr.trans hw hg0; clear hw
            replace HG0 := Lib.hid (HG0.out.trans hg0)
            have HGS := Lib.hid hg0; clear hg0
            clear HGS
            have RN41 := Lib.hid bx41; clear bx41
            clear lx32; have lx32 := fun w' (h : Gr _ w') => HF.out.c 2 rfl w' (HG0.out.trans h)
            simp only [Act.put, lA, lB, lC]
            refine wpPlan_callE rfl (by rfl) Tryz.call209 (by rfl) (fun w' hw => (zzdiv (f) (2) (u9) (d) _ _ _ HZ9.out HZ10.out (by first | exact ok | (simp only [← HZ9.out] <;> first | exact ok)) (by omega) (by omega) (HF.out.r 1 rfl (HG0.out.trans hw)) (RN41.out.gr hw)).mono ?_)
            rintro e vv42 ⟨⟨rv12, rv13, rfl, bx42, bx43⟩, hg0⟩
            obtain ⟨ao12, nn12, cc12, rfl⟩ := Rn.sl bx42
            obtain ⟨ao13, nn13, cc13, rfl⟩ := Rn.sl bx43
            refine ⟨_, rfl, hg0, ?_⟩
            replace hg0 := Gr.trans hw hg0; clear hw
            replace HG0 := Lib.hid (HG0.out.trans hg0)
            have HGS := Lib.hid hg0; clear hg0
            replace RN41 := Lib.hid (RN41.out.gr HGS.out)
            clear HGS
            have RN42 := Lib.hid bx42; clear bx42
            have RN43 := Lib.hid bx43; clear bx43
            clear lx32; have lx32 := fun w' (h : Gr _ w') => HF.out.c 2 rfl w' (HG0.out.trans h)
            simp only [Act.put, lA, lB, lC]
            iterate 3 refine tk ?_
            refine wpPlan_nil (hT.out _ _ ?_)
            intro G vw12 hg hf
            simp only [puts, Act.put, lA, lB, lC, lD, lE, ↓reduceIte, Nat.reduceEqDiff]
            have HG := Lib.hid ((((HF.out.fr (HG0.out.trans hg) hf (zs := [(#[.bool false, .slice none 0 0], 45), (#[.bool false, .slice none 0 0], 45)]) rfl (by decide) (by decide)).ar (RN41.out.gr hg)).ar (RN42.out.gr hg)).ar (RN43.out.gr hg))
            simp only [zq1_, zq2_, zq3_, zq4_, lF, lG] at HG
            clear hT T HF hg hf HG0 RN41 RN42 RN43 lx32
            generalize G 6 = gx44 at *
            generalize G 7 = gx45 at *
            have lx44 := HG.out.c 5 rfl; have fx44 := HG.out.f 5 rfl
            have lx45 := HG.out.c 6 rfl; have fx45 := HG.out.f 6 rfl
            have r0 := Gr.refl vw12
            obtain ⟨d44_45, d45_44⟩ := HG.out.ne 5 6 rfl rfl (by decide)
            go_wp2
            refine kO hK ?_; clear hK K
            clear r0 lx44 fx44 lx45 fx45 d44_45 d45_44
            refine fH ((((((HG.out).put2 5 0 rfl).put2 6 0 rfl).er 8).er 7).er 5) fun Wx17 HF => ?_
            clear HG
            refine wp_seq ?_
            have lx45 := HF.out.c 5 rfl
            refine kS fun K hK => ?_
            refine sq 11 [(true, 0), (true, 1), (true, 2), (true, 3), (true, 4), (true, 5), (true, 6), (true, 7), (true, 8), (true, 9), (true, 10)] fun T hT => ?_
            iterate 7 refine tk ?_
            refine ck Tryz.call186 (fun w' hw => zrsign (d) (0) _ _ (by have e9 : (d) = (0 : Int) := (by exact HDV.out); exact sgI_eq e9) (HF.out.r 6 rfl hw)) ?_
            iterate 3 refine tk ?_
            refine nlS hT HF fun vw13 HG => ?_
            clear hT T HF lx45
            go_wp2
            refine kO hK ?_; clear hK K
            refine fH (((HG.out).er 6).er 5) fun Wx18 HF => ?_
            clear HG
            refine wp_cond_true (by rfl) ?_
            have lx32 := HF.out.c 2 rfl
            refine kS fun K hK => ?_
            refine sq 1 [(true, 0)] fun T hT => ?_
            refine tk ?_
            refine nlS hT HF fun vw14 HG => ?_
            clear hT T HF lx32
            have lx24 := HG.out.c 0 rfl; have fx24 := HG.out.f 0 rfl
            have r0 := Gr.refl vw14
            go_wp2
            refine kO hK ?_; clear hK K
            clear r0 lx24 fx24
            refine fH (((HG.out).put2 0 0 rfl).er 2) fun Wx19 HF => ?_
            clear HG
            refine wp_ret ?_
            try simp only [Exit.then, Exit.inBlock]
            have lx24 := HF.out.c 0 rfl
            have r0 := Gr.refl Wx19
            exact bodyPost_ret (v := .tuple #[(.agg #[.bool (decide ((f) < 0)), (.slice ao4 nn4 cc4)]), .int .i64 0]) (by simp [results, Tryz.results159, go_sem, lx24 _ r0]) rfl ⟨⟨(.slice ao4 nn4 cc4), rfl, (HF.out.rn 1 rfl)⟩, HF.out.1⟩
          · have HDV : Hid (0 < d) := Lib.hid (by have := HD.out; omega)
            obtain rfl : c = z := by rw [← HW3.out, rnd3_od (by rw [HFL.out, HR.out]; exact HO.out) (by rw [HFL.out, HD.out]; exact h4)]; exact HCL.out.symm
            clear h4
            have HZ7 : Hid (((1 : Int) : Rat) / ((2 : Int) : Rat) = (1 / 2 : Rat)) := Lib.hid (by decide +kernel)
            have su7 : rz ((1 / 2 : Rat)) ≤ 10 := by have e := HZ7.out; first | omega | (rw [← e]; exact rz_quot (1) (2) om om om om)
            have lx35 := HF.out.c 5 rfl
            refine kS fun K hK => ?_
            have HG0 : Hid (Gr vw10 vw10) := Lib.hid (Gr.refl _)
            refine pd 3 [(true, 0), (false, 1), (true, 2)] fun T hT => ?_
            refine tk ?_
            refine wpPlan_callE rfl (by rfl) Tryz.call102 (by rfl) (fun w' hw => (qof_ref (1) (2) ((1 / 2 : Rat)) _ HZ7.out om om om om).mono ?_)
            rintro e vv39 ⟨⟨rv9, rv10, rfl, bx39, bx40⟩, hg0⟩
            obtain ⟨ao9, nn9, cc9, rfl⟩ := Rn.sl bx39
            obtain ⟨ao10, nn10, cc10, rfl⟩ := Rn.sl bx40
            refine ⟨_, rfl, hg0, ?_⟩
            replace hg0 := Gr.trans hw hg0; clear hw
            replace HG0 := Lib.hid (HG0.out.trans hg0)
            have HGS := Lib.hid hg0; clear hg0
            clear HGS
            have RN39 := Lib.hid bx39; clear bx39
            have RN40 := Lib.hid bx40; clear bx40
            clear lx35; have lx35 := fun w' (h : Gr _ w') => HF.out.c 5 rfl w' (HG0.out.trans h)
            simp only [Act.put, lA, lB, lC]
            refine ck Tryz.call130 (fun w' hw => qcmp_any (r) ((1 / 2 : Rat)) (0) _ _ _ _ _ (by have e9 : (r) - ((1 / 2 : Rat)) = (0 : Rat) := (by exact HO.out); exact sgQ_zero' e9) (by omega) (by omega) (HF.out.r 3 rfl (HG0.out.trans hw)) (HF.out.r 4 rfl (HG0.out.trans hw)) (RN39.out.gr hw) (RN40.out.gr hw)) ?_
            refine wpPlan_nil (hT.out _ _ ?_)
            intro G vw11 hg hf
            simp only [puts, Act.put, lA, lB, lC, lD, lE, ↓reduceIte, Nat.reduceEqDiff]
            have HG := Lib.hid (((HF.out.gr (HG0.out.trans hg)).ar (RN39.out.gr hg)).ar (RN40.out.gr hg))
            simp only [zq1_, zq2_, zq3_, zq4_, lF, lG] at HG
            clear hT T HF hg hf HG0 RN39 RN40 lx35
            go_wp2
            refine kO hK ?_; clear hK K
            refine fH ((((((HG.out).er 9).er 8).er 5).er 4).er 3) fun Wx16 HF => ?_
            clear HG
            have HZ8 : Hid ((2 : Int) = 2) := Lib.hid (by decide +kernel)
            have su8 : tw (Int.natAbs (2)) ≤ 1 := tw_le.2 (by decide +kernel)
            obtain ⟨u9, HZ9⟩ : ∃ z, Hid ((f) / (2) = z) := ⟨_, Lib.hid rfl⟩
            have su9 : tw (Int.natAbs (u9)) ≤ 1102 := by rw [← HZ9.out]; have := tw_idiv (f) (2); omega
            have HZ10 : Hid ((f) % (2) = d) := Lib.hid (HD.out)
            have su10 : tw (Int.natAbs (d)) ≤ 1101 := by have e := HZ10.out; first | omega | (rw [← e]; have := tw_imod (f) (2) (by first | exact ok | (simp only [← HZ9.out] <;> first | exact ok)); omega)
            have lx32 := HF.out.c 2 rfl
            refine kS fun K hK => ?_
            have HG0 : Hid (Gr Wx16 Wx16) := Lib.hid (Gr.refl _)
            refine wp_region_plan 8 [6, 7] [5] (fun i => if i = 6 then 14 else 15) (fun i => if i = 6 then .cells #[.bool false, .slice none 0 0] 45 else .cells #[.bool false, .slice none 0 0] 45) [(true, 0), (false, 1), (false, 2), (true, 3), (true, 4), (true, 5)] (by kernel_rfl) (by kernel_rfl) (by intro i hi; simp only [List.mem_cons, List.not_mem_nil, or_false] at hi; rcases hi with rfl | rfl <;> exact ⟨_, rfl, rfl, rfl, by simp, fun ρ w => by kernel_rfl⟩) (by intro i hi; simp only [List.mem_cons, List.not_mem_nil, or_false] at hi; rcases hi with rfl <;> exact ⟨_, rfl, pure_extract⟩) (fun _ _ _ _ _ h => h) (fun T hT => ?_)
            refine tk ?_
            refine wpPlan_callE rfl (by rfl) Tryz.call165 (by rfl) (fun w' hw => (zof_any (2) (2) _ HZ8.out (by decide) (by decide)).mono ?_)
            rintro e vv41 ⟨⟨rv11, rfl, bx41⟩, hg0⟩
            obtain ⟨ao11, nn11, cc11, rfl⟩ := Rn.sl bx41
            refine ⟨_, rfl, hg0, ?_⟩
            replace hg0 := Gr.trans hw hg0; clear hw
            replace HG0 := Lib.hid (HG0.out.trans hg0)
            have HGS := Lib.hid hg0; clear hg0
            clear HGS
            have RN41 := Lib.hid bx41; clear bx41
            clear lx32; have lx32 := fun w' (h : Gr _ w') => HF.out.c 2 rfl w' (HG0.out.trans h)
            simp only [Act.put, lA, lB, lC]
            refine wpPlan_callE rfl (by rfl) Tryz.call209 (by rfl) (fun w' hw => (zzdiv (f) (2) (u9) (d) _ _ _ HZ9.out HZ10.out (by first | exact ok | (simp only [← HZ9.out] <;> first | exact ok)) (by omega) (by omega) (HF.out.r 1 rfl (HG0.out.trans hw)) (RN41.out.gr hw)).mono ?_)
            rintro e vv42 ⟨⟨rv12, rv13, rfl, bx42, bx43⟩, hg0⟩
            obtain ⟨ao12, nn12, cc12, rfl⟩ := Rn.sl bx42
            obtain ⟨ao13, nn13, cc13, rfl⟩ := Rn.sl bx43
            refine ⟨_, rfl, hg0, ?_⟩
            replace hg0 := Gr.trans hw hg0; clear hw
            replace HG0 := Lib.hid (HG0.out.trans hg0)
            have HGS := Lib.hid hg0; clear hg0
            replace RN41 := Lib.hid (RN41.out.gr HGS.out)
            clear HGS
            have RN42 := Lib.hid bx42; clear bx42
            have RN43 := Lib.hid bx43; clear bx43
            clear lx32; have lx32 := fun w' (h : Gr _ w') => HF.out.c 2 rfl w' (HG0.out.trans h)
            simp only [Act.put, lA, lB, lC]
            iterate 3 refine tk ?_
            refine wpPlan_nil (hT.out _ _ ?_)
            intro G vw12 hg hf
            simp only [puts, Act.put, lA, lB, lC, lD, lE, ↓reduceIte, Nat.reduceEqDiff]
            have HG := Lib.hid ((((HF.out.fr (HG0.out.trans hg) hf (zs := [(#[.bool false, .slice none 0 0], 45), (#[.bool false, .slice none 0 0], 45)]) rfl (by decide) (by decide)).ar (RN41.out.gr hg)).ar (RN42.out.gr hg)).ar (RN43.out.gr hg))
            simp only [zq1_, zq2_, zq3_, zq4_, lF, lG] at HG
            clear hT T HF hg hf HG0 RN41 RN42 RN43 lx32
            generalize G 6 = gx44 at *
            generalize G 7 = gx45 at *
            have lx44 := HG.out.c 5 rfl; have fx44 := HG.out.f 5 rfl
            have lx45 := HG.out.c 6 rfl; have fx45 := HG.out.f 6 rfl
            have r0 := Gr.refl vw12
            obtain ⟨d44_45, d45_44⟩ := HG.out.ne 5 6 rfl rfl (by decide)
            go_wp2
            refine kO hK ?_; clear hK K
            clear r0 lx44 fx44 lx45 fx45 d44_45 d45_44
            refine fH ((((((HG.out).put2 5 0 rfl).put2 6 0 rfl).er 8).er 7).er 5) fun Wx17 HF => ?_
            clear HG
            refine wp_seq ?_
            have lx45 := HF.out.c 5 rfl
            refine kS fun K hK => ?_
            refine sq 11 [(true, 0), (true, 1), (true, 2), (true, 3), (true, 4), (true, 5), (true, 6), (true, 7), (true, 8), (true, 9), (true, 10)] fun T hT => ?_
            iterate 7 refine tk ?_
            refine ck Tryz.call186 (fun w' hw => zrsign (d) (1) _ _ (by have e9 : (0 : Int) < (d) := (by exact HDV.out); exact sgI_gt e9) (HF.out.r 6 rfl hw)) ?_
            iterate 3 refine tk ?_
            refine nlS hT HF fun vw13 HG => ?_
            clear hT T HF lx45
            go_wp2
            refine kO hK ?_; clear hK K
            refine fH (((HG.out).er 6).er 5) fun Wx18 HF => ?_
            clear HG
            refine wp_cond_false (by rfl) ?_
            refine wp_skip ?_
            show Code.wp _ _ _ _ _
            have lx38 := HF.out.c 3 rfl
            refine kS fun K hK => ?_
            refine sq 1 [(true, 0)] fun T hT => ?_
            refine tk ?_
            refine nlS hT HF fun vw14 HG => ?_
            clear hT T HF lx38
            have lx24 := HG.out.c 0 rfl; have fx24 := HG.out.f 0 rfl
            have r0 := Gr.refl vw14
            go_wp2
            refine kO hK ?_; clear hK K
            clear r0 lx24 fx24
            refine fH (((((HG.out).put2 0 0 rfl).er 3).er 2).er 1) fun Wx20 HF => ?_
            clear HG
            refine wp_ret ?_
            try simp only [Exit.then, Exit.inBlock]
            have lx24 := HF.out.c 0 rfl
            have r0 := Gr.refl Wx20
            exact bodyPost_ret (v := .tuple #[(.agg #[.bool (decide ((c) < 0)), (.slice ao8 nn8 cc8)]), .int .i64 0]) (by simp [results, Tryz.results159, go_sem, lx24 _ r0]) rfl ⟨⟨(.slice ao8 nn8 cc8), rfl, (HF.out.rn 1 rfl)⟩, HF.out.1⟩
        · have HO := Lib.hid h3
          obtain rfl : c = z := by rw [← HW3.out, rnd3_gt (by rw [HFL.out, HR.out]; exact HO.out)]; exact HCL.out.symm
          clear h3
          have HZ7 : Hid (((1 : Int) : Rat) / ((2 : Int) : Rat) = (1 / 2 : Rat)) := Lib.hid (by decide +kernel)
          have su7 : rz ((1 / 2 : Rat)) ≤ 10 := by have e := HZ7.out; first | omega | (rw [← e]; exact rz_quot (1) (2) om om om om)
          have lx35 := HF.out.c 5 rfl
          refine kS fun K hK => ?_
          have HG0 : Hid (Gr vw10 vw10) := Lib.hid (Gr.refl _)
          refine pd 3 [(true, 0), (false, 1), (true, 2)] fun T hT => ?_
          refine tk ?_
          refine wpPlan_callE rfl (by rfl) Tryz.call102 (by rfl) (fun w' hw => (qof_ref (1) (2) ((1 / 2 : Rat)) _ HZ7.out om om om om).mono ?_)
          rintro e vv39 ⟨⟨rv9, rv10, rfl, bx39, bx40⟩, hg0⟩
          obtain ⟨ao9, nn9, cc9, rfl⟩ := Rn.sl bx39
          obtain ⟨ao10, nn10, cc10, rfl⟩ := Rn.sl bx40
          refine ⟨_, rfl, hg0, ?_⟩
          replace hg0 := Gr.trans hw hg0; clear hw
          replace HG0 := Lib.hid (HG0.out.trans hg0)
          have HGS := Lib.hid hg0; clear hg0
          clear HGS
          have RN39 := Lib.hid bx39; clear bx39
          have RN40 := Lib.hid bx40; clear bx40
          clear lx35; have lx35 := fun w' (h : Gr _ w') => HF.out.c 5 rfl w' (HG0.out.trans h)
          simp only [Act.put, lA, lB, lC]
          refine ck Tryz.call130 (fun w' hw => qcmp_any (r) ((1 / 2 : Rat)) (1) _ _ _ _ _ (by have e9 : (0 : Rat) < (r) - ((1 / 2 : Rat)) := (by exact HO.out); exact sgQ_pos e9) (by omega) (by omega) (HF.out.r 3 rfl (HG0.out.trans hw)) (HF.out.r 4 rfl (HG0.out.trans hw)) (RN39.out.gr hw) (RN40.out.gr hw)) ?_
          refine wpPlan_nil (hT.out _ _ ?_)
          intro G vw11 hg hf
          simp only [puts, Act.put, lA, lB, lC, lD, lE, ↓reduceIte, Nat.reduceEqDiff]
          have HG := Lib.hid (((HF.out.gr (HG0.out.trans hg)).ar (RN39.out.gr hg)).ar (RN40.out.gr hg))
          simp only [zq1_, zq2_, zq3_, zq4_, lF, lG] at HG
          clear hT T HF hg hf HG0 RN39 RN40 lx35
          go_wp2
          refine kO hK ?_; clear hK K
          refine fH ((((((HG.out).er 9).er 8).er 5).er 4).er 3) fun Wx16 HF => ?_
          clear HG
          have HZ8 : Hid ((2 : Int) = 2) := Lib.hid (by decide +kernel)
          have su8 : tw (Int.natAbs (2)) ≤ 1 := tw_le.2 (by decide +kernel)
          obtain ⟨u9, HZ9⟩ : ∃ z, Hid ((f) / (2) = z) := ⟨_, Lib.hid rfl⟩
          have su9 : tw (Int.natAbs (u9)) ≤ 1102 := by rw [← HZ9.out]; have := tw_idiv (f) (2); omega
          have HZ10 : Hid ((f) % (2) = d) := Lib.hid (HD.out)
          have su10 : tw (Int.natAbs (d)) ≤ 1101 := by have e := HZ10.out; first | omega | (rw [← e]; have := tw_imod (f) (2) (by first | exact ok | (simp only [← HZ9.out] <;> first | exact ok)); omega)
          have lx32 := HF.out.c 2 rfl
          refine kS fun K hK => ?_
          have HG0 : Hid (Gr Wx16 Wx16) := Lib.hid (Gr.refl _)
          refine wp_region_plan 8 [6, 7] [5] (fun i => if i = 6 then 14 else 15) (fun i => if i = 6 then .cells #[.bool false, .slice none 0 0] 45 else .cells #[.bool false, .slice none 0 0] 45) [(true, 0), (false, 1), (false, 2), (true, 3), (true, 4), (true, 5)] (by kernel_rfl) (by kernel_rfl) (by intro i hi; simp only [List.mem_cons, List.not_mem_nil, or_false] at hi; rcases hi with rfl | rfl <;> exact ⟨_, rfl, rfl, rfl, by simp, fun ρ w => by kernel_rfl⟩) (by intro i hi; simp only [List.mem_cons, List.not_mem_nil, or_false] at hi; rcases hi with rfl <;> exact ⟨_, rfl, pure_extract⟩) (fun _ _ _ _ _ h => h) (fun T hT => ?_)
          refine tk ?_
          refine wpPlan_callE rfl (by rfl) Tryz.call165 (by rfl) (fun w' hw => (zof_any (2) (2) _ HZ8.out (by decide) (by decide)).mono ?_)
          rintro e vv41 ⟨⟨rv11, rfl, bx41⟩, hg0⟩
          obtain ⟨ao11, nn11, cc11, rfl⟩ := Rn.sl bx41
          refine ⟨_, rfl, hg0, ?_⟩
          replace hg0 := Gr.trans hw hg0; clear hw
          replace HG0 := Lib.hid (HG0.out.trans hg0)
          have HGS := Lib.hid hg0; clear hg0
          clear HGS
          have RN41 := Lib.hid bx41; clear bx41
          clear lx32; have lx32 := fun w' (h : Gr _ w') => HF.out.c 2 rfl w' (HG0.out.trans h)
          simp only [Act.put, lA, lB, lC]
          refine wpPlan_callE rfl (by rfl) Tryz.call209 (by rfl) (fun w' hw => (zzdiv (f) (2) (u9) (d) _ _ _ HZ9.out HZ10.out (by first | exact ok | (simp only [← HZ9.out] <;> first | exact ok)) (by omega) (by omega) (HF.out.r 1 rfl (HG0.out.trans hw)) (RN41.out.gr hw)).mono ?_)
          rintro e vv42 ⟨⟨rv12, rv13, rfl, bx42, bx43⟩, hg0⟩
          obtain ⟨ao12, nn12, cc12, rfl⟩ := Rn.sl bx42
          obtain ⟨ao13, nn13, cc13, rfl⟩ := Rn.sl bx43
          refine ⟨_, rfl, hg0, ?_⟩
          replace hg0 := Gr.trans hw hg0; clear hw
          replace HG0 := Lib.hid (HG0.out.trans hg0)
          have HGS := Lib.hid hg0; clear hg0
          replace RN41 := Lib.hid (RN41.out.gr HGS.out)
          clear HGS
          have RN42 := Lib.hid bx42; clear bx42
          have RN43 := Lib.hid bx43; clear bx43
          clear lx32; have lx32 := fun w' (h : Gr _ w') => HF.out.c 2 rfl w' (HG0.out.trans h)
          simp only [Act.put, lA, lB, lC]
          iterate 3 refine tk ?_
          refine wpPlan_nil (hT.out _ _ ?_)
          intro G vw12 hg hf
          simp only [puts, Act.put, lA, lB, lC, lD, lE, ↓reduceIte, Nat.reduceEqDiff]
          have HG := Lib.hid ((((HF.out.fr (HG0.out.trans hg) hf (zs := [(#[.bool false, .slice none 0 0], 45), (#[.bool false, .slice none 0 0], 45)]) rfl (by decide) (by decide)).ar (RN41.out.gr hg)).ar (RN42.out.gr hg)).ar (RN43.out.gr hg))
          simp only [zq1_, zq2_, zq3_, zq4_, lF, lG] at HG
          clear hT T HF hg hf HG0 RN41 RN42 RN43 lx32
          generalize G 6 = gx44 at *
          generalize G 7 = gx45 at *
          have lx44 := HG.out.c 5 rfl; have fx44 := HG.out.f 5 rfl
          have lx45 := HG.out.c 6 rfl; have fx45 := HG.out.f 6 rfl
          have r0 := Gr.refl vw12
          obtain ⟨d44_45, d45_44⟩ := HG.out.ne 5 6 rfl rfl (by decide)
          go_wp2
          refine kO hK ?_; clear hK K
          clear r0 lx44 fx44 lx45 fx45 d44_45 d45_44
          refine fH ((((((HG.out).put2 5 0 rfl).put2 6 0 rfl).er 8).er 7).er 5) fun Wx17 HF => ?_
          clear HG
          refine wp_seq ?_
          have lx45 := HF.out.c 5 rfl
          refine kS fun K hK => ?_
          refine sq 11 [(true, 0), (true, 1), (true, 2), (true, 3), (true, 4), (true, 5), (true, 6), (true, 7), (true, 8), (true, 9), (true, 10)] fun T hT => ?_
          iterate 6 refine tk ?_
          iterate 3 refine sk ?_
          iterate 2 refine tk ?_
          refine nlS hT HF fun vw13 HG => ?_
          clear hT T HF lx45
          go_wp2
          refine kO hK ?_; clear hK K
          refine fH (((HG.out).er 6).er 5) fun Wx18 HF => ?_
          clear HG
          refine wp_cond_false (by rfl) ?_
          refine wp_skip ?_
          show Code.wp _ _ _ _ _
          have lx38 := HF.out.c 3 rfl
          refine kS fun K hK => ?_
          refine sq 1 [(true, 0)] fun T hT => ?_
          refine tk ?_
          refine nlS hT HF fun vw14 HG => ?_
          clear hT T HF lx38
          have lx24 := HG.out.c 0 rfl; have fx24 := HG.out.f 0 rfl
          have r0 := Gr.refl vw14
          go_wp2
          refine kO hK ?_; clear hK K
          clear r0 lx24 fx24
          refine fH (((((HG.out).put2 0 0 rfl).er 3).er 2).er 1) fun Wx20 HF => ?_
          clear HG
          refine wp_ret ?_
          try simp only [Exit.then, Exit.inBlock]
          have lx24 := HF.out.c 0 rfl
          have r0 := Gr.refl Wx20
          exact bodyPost_ret (v := .tuple #[(.agg #[.bool (decide ((c) < 0)), (.slice ao8 nn8 cc8)]), .int .i64 0]) (by simp [results, Tryz.results159, go_sem, lx24 _ r0]) rfl ⟨⟨(.slice ao8 nn8 cc8), rfl, (HF.out.rn 1 rfl)⟩, HF.out.1⟩
theorem rz_intq {n : Int} {M : Nat} (h : tw (Int.natAbs n) ≤ M) (h1 : 1 ≤ M) : rz ((n : Int) : Rat) ≤ M := rz_of h (Nat.le_trans (tw_le.2 (by decide +kernel) : tw 1 ≤ 1) h1)
theorem ten_powq (k : Nat) : (10 : Rat) ^ k = (((10 ^ k : Nat) : Int) : Rat) := by
  induction k with
  | zero => rfl
  | succ k ih => rw [Rat.pow_succ, ih, Nat.pow_succ, Int.natCast_mul, Rat.intCast_mul]; rfl
theorem rwhole (way : Int) (a : Rat) (k : Nat) (z : Int) (va1 va2 : Value) (w : World) (hw1 : 1 ≤ way) (hw2 : way ≤ 3) (hz : rnd way (a * (((10 ^ k : Nat) : Int) : Rat)) = z) (hk : k ≤ 100) (hs : rz a ≤ 1000) (h1 : Rn w va1 (Int.natAbs ((a).num))) (h2 : Rn w va2 ((a).den - 1)) :
    Calls Tryz.prog 159 #[.agg #[.bool (decide ((a).num < 0)), va1, va2], .int .i64 ((k : Nat) : Int), .int .i64 way] w fun e w' => (∃ r1 : Value, e = .returned (.tuple #[(.agg #[.bool (decide ((z) < 0)), r1]), .int .i64 0]) ∧ Rn w' r1 (Int.natAbs (z))) ∧ Below w.heap.size w w' := by
  rw [← ten_powq] at hz
  have hsx : rz (a * (10 : Rat) ^ k) ≤ 1100 := by have e1 := rz_mul a ((10 : Rat) ^ k); have e2 := rz_ten hk; omega
  have hsf := Nat.le_trans (tw_floor (a * (10 : Rat) ^ k)) (Nat.succ_le_succ hsx)
  have hszf : rz (((a * (10 : Rat) ^ k).floor : Int) : Rat) ≤ 1102 := rz_intq (by omega) (by decide)
  exact rwh_all a _ _ k way _ _ z _ va1 va2 w (Lib.hid rfl) (Lib.hid rfl) (Lib.hid rfl) (Lib.hid rfl) (Lib.hid rfl) (Lib.hid hz) hw1 hw2 hk hs hsx hsf hszf h1 h2
theorem rwhole_bad (a : Rat) (n way c z : Int) (va1 va2 : Value) (w : World) (hc : rcode n way = c) (h0 : ¬ c = 0) (hz : (0 : Int) = z) (h1 : Rn w va1 (Int.natAbs ((a).num))) (h2 : Rn w va2 ((a).den - 1)) :
    Calls Tryz.prog 159 #[.agg #[.bool (decide ((a).num < 0)), va1, va2], .int .i64 n, .int .i64 way] w fun e w' => (∃ r1 : Value, e = .returned (.tuple #[(.agg #[.bool (decide ((z) < 0)), r1]), .int .i64 c]) ∧ Rn w' r1 (Int.natAbs (z))) ∧ Below w.heap.size w w' := by
  exact rwh_bad a n way c z va1 va2 w (Lib.hid hz) (by rw [← hz]; exact tw_le.2 (by decide +kernel)) (Lib.hid hc) h0 h1 h2
end Go.Proofs.YtaflakcemiilaaaGreatDoor

namespace Go.Proofs.YtaflakcemiilaaaGreatDoor
open Go.RowKit
attribute [local go_sem ↓] Go.wp_at_zero Go.wp_at_succ
attribute [local go_sem ↓] eq_nat eq_nat_zero eq_int
theorem tw_rnd {way : Int} {a : Rat} {k M : Nat} (hk : k ≤ 100) (h : rz a ≤ M) : tw (Int.natAbs (rnd way (a * (((10 ^ k : Nat) : Int) : Rat)))) ≤ M + 110 := by
  have e1 := rz_mul a ((10 : Rat) ^ k)
  have e2 := rz_ten hk
  rw [← ten_powq]
  rcases rnd_or way (a * (10 : Rat) ^ k) with e | e <;> rw [e]
  · have := tw_floor (a * (10 : Rat) ^ k); omega
  · rw [← ceil_neg, Int.natAbs_neg]
    have := tw_floor (-(a * (10 : Rat) ^ k))
    rw [rz_neg] at this
    omega
set_option maxRecDepth 20000 in
set_option maxHeartbeats 4000000 in
theorem rround0 (a z t : Rat) (k : Nat) (way m : Int) (va1 va2 : Value) (w : World) (HM : Hid (rnd way (a * (((10 ^ k : Nat) : Int) : Rat)) = m)) (HT9 : Hid ((1 : Rat) * (10 : Rat) ^ k = t)) (HZ : Hid (((m : Int) : Rat) / t = z)) (hk : k ≤ 100) (hw1 : 1 ≤ way) (hw2 : way ≤ 3) (hs : rz a ≤ 800) (hst : rz t ≤ 30) (hsm : rz ((m : Int) : Rat) ≤ 1000) (bx21 : Rn w va1 (Int.natAbs ((a).num))) (bx22 : Rn w va2 ((a).den - 1)) :
    Calls Tryz.prog 58 #[(Value.agg #[.bool (decide ((a).num < 0)), va1, va2]), .int .i64 (((k : Nat) : Int)), .int .i64 (way)] w fun e w' => (∃ r1 r2 : Value, e = .returned (.tuple #[(.agg #[.bool (decide ((z).num < 0)), r1, r2]), .int .i64 0]) ∧ Rn w' r1 (Int.natAbs ((z).num)) ∧ Rn w' r2 ((z).den - 1)) ∧ Below w.heap.size w w' := by
  obtain ⟨ao_va1, n_va1, c_va1, rfl⟩ := Rn.sl bx21
  obtain ⟨ao_va2, n_va2, c_va2, rfl⟩ := Rn.sl bx22
  go_enter Tryz.func58, Tryz.ntmps58
  have HF := Lib.hid (hp0 w)
  replace HF := Lib.hid ((HF.out.ar bx21).ar bx22)
  simp only [lF, lG] at HF
  clear bx21 bx22
  refine kS fun K hK => ?_
  refine wp_region_lit ?_
  go_wp2
  refine kO hK ?_; clear hK K
  refine fH (((HF.out).aL (w.heap.size)).aL (w.heap.size + 1)) fun Wx0 HG => ?_
  clear HF; have HF := HG; clear HG
  generalize w.heap.size + 1 = gx24 at *
  have HZ1 : Hid (rnd (way) ((a) * (((10 ^ k : Nat) : Int) : Rat)) = m) := Lib.hid (HM.out)
  have su1 : tw (Int.natAbs (m)) ≤ 910 := by have e := HZ1.out; first | omega | (rw [← e]; exact tw_rnd (by omega) om)
  have lx23 := HF.out.c 2 rfl
  refine kS fun K hK => ?_
  have HG0 : Hid (Gr Wx0 Wx0) := Lib.hid (Gr.refl _)
  refine sq 7 [(true, 0), (true, 1), (true, 2), (false, 3), (true, 4), (true, 5), (true, 6)] fun T hT => ?_
  iterate 3 refine tk ?_
  refine wpPlan_callE rfl (by rfl) Tryz.call159 (by rfl) (fun w' hw => (rwhole (way) (a) k (m) _ _ _ (by omega) (by omega) HZ1.out (by omega) (by omega) (HF.out.r 0 rfl (HG0.out.trans hw)) (HF.out.r 1 rfl (HG0.out.trans hw))).mono ?_)
  rintro e vv26 ⟨⟨rv1, rfl, bx26⟩, hg0⟩
  obtain ⟨ao1, nn1, cc1, rfl⟩ := Rn.sl bx26
  refine ⟨_, rfl, hg0, ?_⟩
  replace hg0 := Gr.trans hw hg0; clear hw
  replace HG0 := Lib.hid (HG0.out.trans hg0)
  have HGS := Lib.hid hg0; clear hg0
  clear HGS
  have RN26 := Lib.hid bx26; clear bx26
  clear lx23; have lx23 := fun w' (h : Gr _ w') => HF.out.c 2 rfl w' (HG0.out.trans h)
  simp only [Act.put, lA, lB, lC]
  iterate 3 refine tk ?_
  refine wpPlan_nil (hT.out _ _ ?_)
  intro vw1 hg
  simp only [puts, Act.put, lA, lB, lC, lD, lE, ↓reduceIte, Nat.reduceEqDiff]
  have HG := Lib.hid ((HF.out.gr (HG0.out.trans hg)).ar (RN26.out.gr hg))
  simp only [zq1_, zq2_, zq3_, zq4_, lF, lG] at HG
  clear hT T HF hg HG0 RN26 lx23
  go_wp2
  refine kO hK ?_; clear hK K
  refine fH (((((HG.out).aL (vw1.heap.size)).er 2).er 1).er 0) fun Wx1 HF => ?_
  clear HG
  generalize vw1.heap.size = gx27 at *
  refine wp_seq ?_
  refine kS fun K hK => ?_
  refine sq 2 [(true, 0), (true, 1)] fun T hT => ?_
  iterate 2 refine tk ?_
  refine nlS hT HF fun vw2 HG => ?_
  clear hT T HF
  go_wp2
  refine kO hK ?_; clear hK K
  have HF := HG; clear HG
  refine wp_cond_false (by rfl) ?_
  refine wp_skip ?_
  show Code.wp _ _ _ _ _
  have HZ2 : Hid (((1 : Int) : Rat) = (1 : Rat)) := Lib.hid (by decide +kernel)
  have su2 : rz ((1 : Rat)) ≤ 5 := rz_of (tw_le.2 (by decide +kernel)) (tw_le.2 (by decide +kernel))
  have HZ3 : Hid ((1 : Rat) * (10 : Rat) ^ k = t) := Lib.hid (HT9.out)
  have su3 : rz (t) ≤ 30 := by have e := HZ3.out; first | omega | (rw [← e]; have e1 := rz_mul (1 : Rat) ((10 : Rat) ^ k); have e2 := rz_ten (k := k) (by omega); omega)
  have HZ4 : Hid ((((m : Int) : Rat)) / (t) = z) := Lib.hid (HZ.out)
  have su4 : rz (z) ≤ 1030 := by have e := HZ4.out; first | omega | (rw [← e]; have := rz_div (((m : Int) : Rat)) (t); omega)
  have lx27 := HF.out.c 2 rfl
  refine kS fun K hK => ?_
  have HG0 : Hid (Gr vw2 vw2) := Lib.hid (Gr.refl _)
  refine pd 6 [(true, 0), (true, 1), (true, 3), (false, 2), (false, 4), (false, 5)] fun T hT => ?_
  iterate 3 refine tk ?_
  refine wpPlan_callE rfl (by rfl) Tryz.call161 (by rfl) (fun w' hw => (qint_any (1) (1 : Rat) _ HZ2.out om om).mono ?_)
  rintro e vv28 ⟨⟨rv2, rv3, rfl, bx28, bx29⟩, hg0⟩
  obtain ⟨ao2, nn2, cc2, rfl⟩ := Rn.sl bx28
  obtain ⟨ao3, nn3, cc3, rfl⟩ := Rn.sl bx29
  refine ⟨_, rfl, hg0, ?_⟩
  replace hg0 := Gr.trans hw hg0; clear hw
  replace HG0 := Lib.hid (HG0.out.trans hg0)
  have HGS := Lib.hid hg0; clear hg0
  clear HGS
  have RN28 := Lib.hid bx28; clear bx28
  have RN29 := Lib.hid bx29; clear bx29
  clear lx27; have lx27 := fun w' (h : Gr _ w') => HF.out.c 2 rfl w' (HG0.out.trans h)
  simp only [Act.put, lA, lB, lC]
  refine wpPlan_callE rfl (by rfl) Tryz.call160 (by rfl) (fun w' hw => (rtens_any (1 : Rat) (t) k _ _ _ (Lib.hid HZ3.out) (by omega) (by omega) (RN28.out.gr hw) (RN29.out.gr hw)).mono ?_)
  rintro e vv30 ⟨⟨rv4, rv5, rfl, bx30, bx31⟩, hg0⟩
  obtain ⟨ao4, nn4, cc4, rfl⟩ := Rn.sl bx30
  obtain ⟨ao5, nn5, cc5, rfl⟩ := Rn.sl bx31
  refine ⟨_, rfl, hg0, ?_⟩
  replace hg0 := Gr.trans hw hg0; clear hw
  replace HG0 := Lib.hid (HG0.out.trans hg0)
  have HGS := Lib.hid hg0; clear hg0
  replace RN28 := Lib.hid (RN28.out.gr HGS.out)
  replace RN29 := Lib.hid (RN29.out.gr HGS.out)
  clear HGS
  have RN30 := Lib.hid bx30; clear bx30
  have RN31 := Lib.hid bx31; clear bx31
  clear lx27; have lx27 := fun w' (h : Gr _ w') => HF.out.c 2 rfl w' (HG0.out.trans h)
  simp only [Act.put, lA, lB, lC]
  refine wpPlan_callE rfl (by rfl) Tryz.call82 (by rfl) (fun w' hw => (qdiv_any (((m : Int) : Rat)) (t) (z) _ _ _ _ _ HZ4.out (by omega) (by omega) (HF.out.r 1 rfl (HG0.out.trans hw)) (Rn.zero _) (RN30.out.gr hw) (RN31.out.gr hw)).mono ?_)
  rintro e vv32 ⟨⟨rv6, rv7, rfl, bx32, bx33⟩, hg0⟩
  obtain ⟨ao6, nn6, cc6, rfl⟩ := Rn.sl bx32
  obtain ⟨ao7, nn7, cc7, rfl⟩ := Rn.sl bx33
  refine ⟨_, rfl, hg0, ?_⟩
  replace hg0 := Gr.trans hw hg0; clear hw
  replace HG0 := Lib.hid (HG0.out.trans hg0)
  have HGS := Lib.hid hg0; clear hg0
  replace RN28 := Lib.hid (RN28.out.gr HGS.out)
  replace RN29 := Lib.hid (RN29.out.gr HGS.out)
  replace RN30 := Lib.hid (RN30.out.gr HGS.out)
  replace RN31 := Lib.hid (RN31.out.gr HGS.out)
  clear HGS
  have RN32 := Lib.hid bx32; clear bx32
  have RN33 := Lib.hid bx33; clear bx33
  clear lx27; have lx27 := fun w' (h : Gr _ w') => HF.out.c 2 rfl w' (HG0.out.trans h)
  simp only [Act.put, lA, lB, lC]
  refine wpPlan_nil (hT.out _ _ ?_)
  intro G vw3 hg hf
  simp only [puts, Act.put, lA, lB, lC, lD, lE, ↓reduceIte, Nat.reduceEqDiff]
  have HG := Lib.hid (((((((HF.out.gr (HG0.out.trans hg)).ar (RN28.out.gr hg)).ar (RN29.out.gr hg)).ar (RN30.out.gr hg)).ar (RN31.out.gr hg)).ar (RN32.out.gr hg)).ar (RN33.out.gr hg))
  simp only [zq1_, zq2_, zq3_, zq4_, lF, lG] at HG
  clear hT T HF hg hf HG0 RN28 RN29 RN30 RN31 RN32 RN33 lx27
  have lx24 := HG.out.c 0 rfl; have fx24 := HG.out.f 0 rfl
  have r0 := Gr.refl vw3
  go_wp2
  refine kO hK ?_; clear hK K
  clear r0 lx24 fx24
  refine fH (((((((((HG.out).put2 0 0 rfl).put 0 2 _ rfl).er 6).er 5).er 4).er 3).er 2).er 1) fun Wx4 HF => ?_
  clear HG
  refine wp_ret ?_
  try simp only [Exit.then, Exit.inBlock]
  have lx24 := HF.out.c 0 rfl
  have r0 := Gr.refl Wx4
  exact bodyPost_ret (v := .tuple #[(.agg #[.bool (decide ((z).num < 0)), (.slice ao6 nn6 cc6), (.slice ao7 nn7 cc7)]), .int .i64 0]) (by simp [results, Tryz.results58, go_sem, lx24 _ r0]) rfl ⟨⟨(.slice ao6 nn6 cc6), (.slice ao7 nn7 cc7), rfl, (HF.out.rn 1 rfl), (HF.out.rn 2 rfl)⟩, HF.out.1⟩
set_option maxRecDepth 20000 in
set_option maxHeartbeats 4000000 in
theorem rround_bad0 (a : Rat) (n way c z0 : Int) (va1 va2 : Value) (w : World) (HC : Hid (rcode n way = c)) (hc0 : ¬ c = 0) (HZ0 : Hid ((0 : Int) = z0)) (bx21 : Rn w va1 (Int.natAbs ((a).num))) (bx22 : Rn w va2 ((a).den - 1)) :
    Calls Tryz.prog 58 #[(Value.agg #[.bool (decide ((a).num < 0)), va1, va2]), .int .i64 (n), .int .i64 (way)] w fun e w' => e = .returned ((.tuple #[(.agg #[.bool false, .slice none 0 0, .slice none 0 0]), .int .i64 c])) ∧ Below w.heap.size w w' := by
  obtain ⟨ao_va1, n_va1, c_va1, rfl⟩ := Rn.sl bx21
  obtain ⟨ao_va2, n_va2, c_va2, rfl⟩ := Rn.sl bx22
  go_enter Tryz.func58, Tryz.ntmps58
  have HF := Lib.hid (hp0 w)
  replace HF := Lib.hid ((HF.out.ar bx21).ar bx22)
  simp only [lF, lG] at HF
  clear bx21 bx22
  refine kS fun K hK => ?_
  refine wp_region_lit ?_
  go_wp2
  refine kO hK ?_; clear hK K
  refine fH (((HF.out).aL (w.heap.size)).aL (w.heap.size + 1)) fun Wx0 HG => ?_
  clear HF; have HF := HG; clear HG
  generalize w.heap.size + 1 = gx24 at *
  have HZ1 : Hid ((0 : Int) = z0) := Lib.hid (HZ0.out)
  have su1 : tw (Int.natAbs (z0)) ≤ 1 := by have e := HZ1.out; first | omega | (rw [← e]; exact tw_le.2 (by decide +kernel))
  have lx23 := HF.out.c 2 rfl
  refine kS fun K hK => ?_
  have HG0 : Hid (Gr Wx0 Wx0) := Lib.hid (Gr.refl _)
  refine sq 7 [(true, 0), (true, 1), (true, 2), (false, 3), (true, 4), (true, 5), (true, 6)] fun T hT => ?_
  iterate 3 refine tk ?_
  refine wpPlan_callE rfl (by rfl) Tryz.call159 (by rfl) (fun w' hw => (rwhole_bad (a) (n) (way) (c) (z0) _ _ _ (HC.out) (hc0) HZ1.out (HF.out.r 0 rfl (HG0.out.trans hw)) (HF.out.r 1 rfl (HG0.out.trans hw))).mono ?_)
  rintro e vv26 ⟨⟨rv1, rfl, bx26⟩, hg0⟩
  obtain ⟨ao1, nn1, cc1, rfl⟩ := Rn.sl bx26
  refine ⟨_, rfl, hg0, ?_⟩
  replace hg0 := Gr.trans hw hg0; clear hw
  replace HG0 := Lib.hid (HG0.out.trans hg0)
  have HGS := Lib.hid hg0; clear hg0
  clear HGS
  have RN26 := Lib.hid bx26; clear bx26
  clear lx23; have lx23 := fun w' (h : Gr _ w') => HF.out.c 2 rfl w' (HG0.out.trans h)
  simp only [Act.put, lA, lB, lC]
  iterate 3 refine tk ?_
  refine wpPlan_nil (hT.out _ _ ?_)
  intro vw1 hg
  simp only [puts, Act.put, lA, lB, lC, lD, lE, ↓reduceIte, Nat.reduceEqDiff]
  have HG := Lib.hid ((HF.out.gr (HG0.out.trans hg)).ar (RN26.out.gr hg))
  simp only [zq1_, zq2_, zq3_, zq4_, lF, lG] at HG
  clear hT T HF hg HG0 RN26 lx23
  go_wp2
  refine kO hK ?_; clear hK K
  refine fH (((((HG.out).aL (vw1.heap.size)).er 2).er 1).er 0) fun Wx1 HF => ?_
  clear HG
  generalize vw1.heap.size = gx27 at *
  refine wp_seq ?_
  have hd1 : ((c) == (0)) = false := by have : ¬ (c = 0) := (ok); simpa using this
  have hd2 : ((c) != (0)) = true := by have : ¬ (c = 0) := (ok); simpa using this
  refine kS fun K hK => ?_
  refine sq 2 [(true, 0), (true, 1)] fun T hT => ?_
  iterate 2 refine tk ?_
  refine nlS hT HF fun vw2 HG => ?_
  clear hT T HF
  go_wp2
  refine kO hK ?_; clear hK K
  have HF := HG; clear HG
  clear hd1 hd2
  refine wp_cond_true (by rfl) ?_
  refine kS fun K hK => ?_
  refine sq 2 [(true, 0), (true, 1)] fun T hT => ?_
  iterate 2 refine tk ?_
  refine nlS hT HF fun vw3 HG => ?_
  clear hT T HF
  have lx24 := HG.out.c 0 rfl; have fx24 := HG.out.f 0 rfl
  have r0 := Gr.refl vw3
  go_wp2
  refine kO hK ?_; clear hK K
  clear r0 lx24 fx24
  refine fH (((HG.out).put2 0 0 rfl).put 0 2 _ rfl) fun Wx3 HF => ?_
  clear HG
  refine wp_ret ?_
  try simp only [Exit.then, Exit.inBlock]
  have lx24 := HF.out.c 0 rfl
  have r0 := Gr.refl Wx3
  exact bodyPost_ret (v := .tuple #[(.agg #[.bool false, .slice none 0 0, .slice none 0 0]), .int .i64 (c)]) (by simp [results, Tryz.results58, go_sem, lx24 _ r0]) rfl ⟨rfl, HF.out.1⟩
theorem rround (way : Int) (a : Rat) (k : Nat) (z : Rat) (va1 va2 : Value) (w : World) (hz : rdd way a k = z) (hw1 : 1 ≤ way) (hw2 : way ≤ 3) (hk : k ≤ 100) (hs : rz a ≤ 800) (h1 : Rn w va1 (Int.natAbs ((a).num))) (h2 : Rn w va2 ((a).den - 1)) :
    Calls Tryz.prog 58 #[.agg #[.bool (decide ((a).num < 0)), va1, va2], .int .i64 ((k : Nat) : Int), .int .i64 way] w fun e w' => (∃ r1 r2 : Value, e = .returned (.tuple #[(.agg #[.bool (decide ((z).num < 0)), r1, r2]), .int .i64 0]) ∧ Rn w' r1 (Int.natAbs ((z).num)) ∧ Rn w' r2 ((z).den - 1)) ∧ Below w.heap.size w w' := by
  refine rround0 a z _ k way _ va1 va2 w (Lib.hid rfl) (Lib.hid rfl) (Lib.hid ?_) hk hw1 hw2 hs (by rw [Rat.one_mul]; exact Nat.le_trans (rz_ten hk) (by decide)) (rz_intq (Nat.le_trans (tw_rnd hk hs) (by decide)) (by decide)) h1 h2
  rw [← hz, rdd, Rat.mkRat_eq_div, Rat.one_mul, ten_powq, Rat.intCast_natCast]
theorem rround_bad (a : Rat) (n way c : Int) (va1 va2 : Value) (w : World) (hc : rcode n way = c) (h0 : ¬ c = 0) (h1 : Rn w va1 (Int.natAbs ((a).num))) (h2 : Rn w va2 ((a).den - 1)) :
    Calls Tryz.prog 58 #[.agg #[.bool (decide ((a).num < 0)), va1, va2], .int .i64 n, .int .i64 way] w fun e w' => (∃ r1 r2 : Value, e = .returned (.tuple #[(.agg #[.bool (decide (((0 : Rat)).num < 0)), r1, r2]), .int .i64 c]) ∧ Rn w' r1 (Int.natAbs (((0 : Rat)).num)) ∧ Rn w' r2 (((0 : Rat)).den - 1)) ∧ Below w.heap.size w w' := by
  refine (rround_bad0 a n way c _ va1 va2 w (Lib.hid hc) h0 (Lib.hid rfl) h1 h2).mono ?_
  rintro e w' ⟨rfl, hb⟩
  exact ⟨⟨_, _, rfl, Rn.zero _, Rn.zero _⟩, hb⟩
end Go.Proofs.YtaflakcemiilaaaGreatDoor

namespace Go.Proofs.YtaflakcemiilaaaGreatDoor
open Go.RowKit
attribute [local go_sem ↓] Go.wp_at_zero Go.wp_at_succ
attribute [local go_sem ↓] eq_nat eq_nat_zero eq_int
theorem nil_cat (a : ByteArray) : (⟨#[]⟩ : ByteArray) ++ a = a := by
  have h : ((⟨#[]⟩ : ByteArray) ++ a).data.toList = a.data.toList := by simp
  generalize (⟨#[]⟩ : ByteArray) ++ a = b at *
  cases a; cases b; congr 1; exact Array.toList_inj.1 h
set_option maxRecDepth 50000 in
set_option maxHeartbeats 8000000 in
theorem rtext_n (a : Rat) (k : Nat) (way z c : Int) (D DG r : ByteArray) (va1 va2 : Value) (w : World) (HM : Hid (rnd way (a * (((10 ^ k : Nat) : Int) : Rat)) = z)) (hk : k ≤ 100) (hw1 : 1 ≤ way) (hw2 : way ≤ 3) (hs : rz a ≤ 800) (HNG : Hid (z < 0)) (HD : Hid ((⟨(Lib.decDigits (Int.natAbs (z))).toArray⟩ : ByteArray) = D)) (hD : D.size ≤ 100000) (HCC : Hid ((k : Int) + 1 - (D.size : Int) = c)) (HDG : Hid (zpad c.toNat D = DG)) (hdz : k + 1 ≤ DG.size) (hdz2 : DG.size ≤ 200000) (HRR : Hid (wrt (⟨#[45]⟩ : ByteArray) DG k = r)) (bx21 : Rn w va1 (Int.natAbs ((a).num))) (bx22 : Rn w va2 ((a).den - 1)) :
    Calls Tryz.prog 60 #[(Value.agg #[.bool (decide ((a).num < 0)), va1, va2]), .int .i64 (((k : Nat) : Int)), .int .i64 (way)] w fun e w' => e = .returned ((.tuple #[.string r, .int .i64 0])) ∧ Below w.heap.size w w' := by
  obtain ⟨ao_va1, n_va1, c_va1, rfl⟩ := Rn.sl bx21
  obtain ⟨ao_va2, n_va2, c_va2, rfl⟩ := Rn.sl bx22
  go_enter Tryz.func60, Tryz.ntmps60
  have HF := Lib.hid (hp0 w)
  replace HF := Lib.hid ((HF.out.ar bx21).ar bx22)
  simp only [lF, lG] at HF
  clear bx21 bx22
  refine kS fun K hK => ?_
  refine wp_region_lit ?_
  go_wp2
  refine kO hK ?_; clear hK K
  refine fH ((HF.out).aL (w.heap.size)) fun Wx0 HG => ?_
  clear HF; have HF := HG; clear HG
  have HZ1 : Hid (rnd (way) ((a) * (((10 ^ k : Nat) : Int) : Rat)) = z) := Lib.hid (HM.out)
  have su1 : tw (Int.natAbs (z)) ≤ 910 := by have e := HZ1.out; first | omega | (rw [← e]; exact tw_rnd (by omega) om)
  have lx23 := HF.out.c 2 rfl
  refine kS fun K hK => ?_
  have HG0 : Hid (Gr Wx0 Wx0) := Lib.hid (Gr.refl _)
  refine sq 7 [(true, 0), (true, 1), (true, 2), (false, 3), (true, 4), (true, 5), (true, 6)] fun T hT => ?_
  iterate 3 refine tk ?_
  refine wpPlan_callE rfl (by rfl) Tryz.call159 (by rfl) (fun w' hw => (rwhole (way) (a) k (z) _ _ _ (by omega) (by omega) HZ1.out (by omega) (by omega) (HF.out.r 0 rfl (HG0.out.trans hw)) (HF.out.r 1 rfl (HG0.out.trans hw))).mono ?_)
  rintro e vv25 ⟨⟨rv1, rfl, bx25⟩, hg0⟩
  obtain ⟨ao1, nn1, cc1, rfl⟩ := Rn.sl bx25
  refine ⟨_, rfl, hg0, ?_⟩
  replace hg0 := Gr.trans hw hg0; clear hw
  replace HG0 := Lib.hid (HG0.out.trans hg0)
  have HGS := Lib.hid hg0; clear hg0
  clear HGS
  have RN25 := Lib.hid bx25; clear bx25
  clear lx23; have lx23 := fun w' (h : Gr _ w') => HF.out.c 2 rfl w' (HG0.out.trans h)
  simp only [Act.put, lA, lB, lC]
  iterate 3 refine tk ?_
  refine wpPlan_nil (hT.out _ _ ?_)
  intro vw1 hg
  simp only [puts, Act.put, lA, lB, lC, lD, lE, ↓reduceIte, Nat.reduceEqDiff]
  have HG := Lib.hid ((HF.out.gr (HG0.out.trans hg)).ar (RN25.out.gr hg))
  simp only [zq1_, zq2_, zq3_, zq4_, lF, lG] at HG
  clear hT T HF hg HG0 RN25 lx23
  go_wp2
  refine kO hK ?_; clear hK K
  refine fH (((((HG.out).aL (vw1.heap.size)).er 2).er 1).er 0) fun Wx1 HF => ?_
  clear HG
  generalize vw1.heap.size = gx26 at *
  refine wp_seq ?_
  refine kS fun K hK => ?_
  refine sq 2 [(true, 0), (true, 1)] fun T hT => ?_
  iterate 2 refine tk ?_
  refine nlS hT HF fun vw2 HG => ?_
  clear hT T HF
  go_wp2
  refine kO hK ?_; clear hK K
  have HF := HG; clear HG
  refine wp_cond_false (by rfl) ?_
  refine wp_skip ?_
  show Code.wp _ _ _ _ _
  have lx26 := HF.out.c 1 rfl
  refine kS fun K hK => ?_
  refine sq 4 [(true, 0), (true, 1), (true, 2), (true, 3)] fun T hT => ?_
  iterate 2 refine tk ?_
  refine ck Tryz.call166 (fun w' hw => zrtext _ (Int.natAbs (z)) D _ HD.out (HF.out.r 0 rfl hw) (by omega)) ?_
  refine tk ?_
  refine nlS hT HF fun vw3 HG => ?_
  clear hT T HF lx26
  go_wp2
  refine kO hK ?_; clear hK K
  have HF := HG; clear HG
  refine wp_seq ?_
  refine wp_block ?_
  go_loopg [10] c.toNat (fun k iv wr => ∃ (i : Nat) (s : ByteArray), iv = .string s ∧ i + k = c.toNat ∧ Hid (zpad i D = s) ∧ Hid (HP w wr [Sum.inr ((.slice ao1 nn1 cc1), Int.natAbs (z)), Sum.inl (gx26, 45, #[.bool (decide ((z) < 0)), (.slice ao1 nn1 cc1)])]))
  case atStart => exact ⟨0, D, rfl, by omega, Lib.hid rfl, HF⟩
  case round =>
    rename_i J_ K_ h1_ h0_
    clear HF
    obtain ⟨i, s, rfl, hik, HS, HF⟩ := hrel
    have hsz : s.size = D.size + i := by rw [← HS.out, zpad_size]
    have hc0 := HCC.out
    rcases gk with _ | k'
    · obtain rfl : i = c.toNat := by omega
      obtain rfl : s = DG := by rw [← HS.out, ← HDG.out]
      have HLT : Hid (¬ ((s.size : Int) < (k : Int) + 1)) := Lib.hid (by omega)
      clear hsz hc0 HS
      refine wp_seq ?_
      have hwk : IntKind.i64.wrap ((k : Int) + 1) = (k : Int) + 1 := by rw [IntKind.wrap_i64]; omega
      have hlt9 : ¬ ((s.size : Int) < (k : Int) + 1) := HLT.out
      refine kS fun K hK => ?_
      refine sq 5 [(true, 0), (true, 1), (true, 2), (true, 3), (true, 4)] fun T hT => ?_
      iterate 5 refine tk ?_
      refine nlS hT HF fun vw4 HG => ?_
      clear hT T HF
      go_wp2
      refine kO hK ?_; clear hK K
      have HF := HG; clear HG
      clear hwk hlt9
      refine wp_cond_false (by rfl) ?_
      refine wp_exit ?_
      show Code.wp _ _ _ _ _
      refine wp_seq ?_
      rcases Nat.eq_zero_or_pos k with hk0 | hk0
      · have HR : Hid (⟨#[45]⟩ ++ s = r) := Lib.hid (by have e := HRR.out; unfold wrt at e; rw [if_pos hk0] at e; exact e)
        have HK := Lib.hid hk0
        clear hk0
        have hkg : ¬ (0 < k) := by have := HK.out; omega
        refine kS fun K hK => ?_
        refine sq 2 [(true, 0), (true, 1)] fun T hT => ?_
        iterate 2 refine tk ?_
        refine nlS hT HF fun vw5 HG => ?_
        clear hT T HF
        go_wp2
        refine kO hK ?_; clear hK K
        have HF := HG; clear HG
        clear hkg
        refine wp_cond_false (by rfl) ?_
        refine wp_skip ?_
        show Code.wp _ _ _ _ _
        refine wp_seq ?_
        have hd1 : decide ((z) < 0) = true := decide_eq_true (by (have e := HNG.out; omega))
        have lx26 := HF.out.c 1 rfl
        refine kS fun K hK => ?_
        refine sq 2 [(true, 0), (true, 1)] fun T hT => ?_
        iterate 2 refine tk ?_
        refine nlS hT HF fun vw6 HG => ?_
        clear hT T HF lx26
        go_wp2
        refine kO hK ?_; clear hK K
        refine fH (((HG.out).er 1).er 0) fun Wx9 HF => ?_
        clear HG
        clear hd1
        refine wp_cond_true (by rfl) ?_
        have hlen9 : ¬ (9223372036854775807 < 1 + s.size) := by omega
        have hcat9 : (⟨#[45]⟩ : ByteArray) ++ s = r := HR.out
        refine kL fun K hK => ?_
        refine sq 3 [(true, 0), (true, 1), (true, 2)] fun T hT => ?_
        iterate 3 refine tk ?_
        refine nlS hT HF fun vw7 HG => ?_
        clear hT T HF
        go_wp2
        refine kO hK ?_; clear hK K
        have HF := HG; clear HG
        clear hlen9 hcat9
        refine kS fun K hK => ?_
        refine sq 3 [(true, 0), (true, 1), (true, 2)] fun T hT => ?_
        iterate 3 refine tk ?_
        refine nlS hT HF fun vw8 HG => ?_
        clear hT T HF
        go_wp2
        refine kO hK ?_; clear hK K
        have HF := HG; clear HG
        refine wp_ret ?_
        try simp only [Exit.then, Exit.inBlock]
        exact bodyPost_ret (v := .tuple #[.string r, .int .i64 0]) (by simp [results, Tryz.results60, go_sem]) rfl ⟨rfl, HF.out.1⟩
      · obtain ⟨b, hb⟩ : ∃ b, b + k = s.size := ⟨s.size - k, by omega⟩
        obtain ⟨r1, HR1⟩ : ∃ q, Hid (s.extract 0 b = q) := ⟨_, Lib.hid rfl⟩
        obtain ⟨t1, HC1⟩ : ∃ q, Hid (r1 ++ (⟨#[46]⟩ : ByteArray) = q) := ⟨_, Lib.hid rfl⟩
        obtain ⟨r2, HR2⟩ : ∃ q, Hid (s.extract b s.size = q) := ⟨_, Lib.hid rfl⟩
        obtain ⟨u, HC2⟩ : ∃ q, Hid (t1 ++ r2 = q) := ⟨_, Lib.hid rfl⟩
        have hz1 : r1.size ≤ 200000 := by rw [← HR1.out]; simp; omega
        have hz2 : r2.size ≤ 200000 := by rw [← HR2.out]; simp; omega
        have hz3 : t1.size ≤ 200001 := by rw [← HC1.out, cat_sz]; have : (⟨#[46]⟩ : ByteArray).size = 1 := rfl; omega
        have hz4 : u.size ≤ 400001 := by rw [← HC2.out, cat_sz]; omega
        have HR : Hid (⟨#[45]⟩ ++ u = r) := Lib.hid (by have e := HRR.out; unfold wrt at e; rw [if_neg (by omega), show s.size - k = b by omega, HR1.out, HR2.out] at e; rw [← HC2.out, ← HC1.out]; rw [← e] <;> simp only [ByteArray.append_assoc])
        have HK := Lib.hid hk0
        clear hk0
        have hkg : 0 < k := HK.out
        refine kS fun K hK => ?_
        refine sq 2 [(true, 0), (true, 1)] fun T hT => ?_
        iterate 2 refine tk ?_
        refine nlS hT HF fun vw5 HG => ?_
        clear hT T HF
        go_wp2
        refine kO hK ?_; clear hK K
        have HF := HG; clear HG
        clear hkg
        refine wp_cond_true (by rfl) ?_
        have hwa : IntKind.i64.wrap ((s.size : Int) - (k : Int)) = (b : Int) := by rw [IntKind.wrap_i64]; omega
        have hsl1 : s.extract 0 b = r1 := HR1.out
        have hcl1 : (b : Int) ≤ (s.size : Int) := by omega
        have hlen1 : ¬ (9223372036854775807 < r1.size + 1) := by omega
        have hcat1 : r1 ++ (⟨#[46]⟩ : ByteArray) = t1 := HC1.out
        have hsl2 : s.extract b s.size = r2 := HR2.out
        have hlen2 : ¬ (9223372036854775807 < t1.size + r2.size) := by omega
        have hcat2 : t1 ++ r2 = u := HC2.out
        refine kL fun K hK => ?_
        refine pd 14 [(true, 0), (true, 1), (true, 2), (true, 3), (true, 4), (true, 5), (true, 6), (true, 7), (true, 8), (true, 9), (true, 10), (true, 11), (true, 12), (true, 13)] fun T hT => ?_
        iterate 14 refine tk ?_
        refine nlD hT HF fun vw6 HG => ?_
        clear hT T HF
        go_wp2
        refine kO hK ?_; clear hK K
        have HF := HG; clear HG
        clear hwa hsl1 hcl1 hlen1 hcat1 hsl2 hlen2 hcat2
        refine wp_seq ?_
        have hd1 : decide ((z) < 0) = true := decide_eq_true (by (have e := HNG.out; omega))
        have lx26 := HF.out.c 1 rfl
        refine kS fun K hK => ?_
        refine sq 2 [(true, 0), (true, 1)] fun T hT => ?_
        iterate 2 refine tk ?_
        refine nlS hT HF fun vw7 HG => ?_
        clear hT T HF lx26
        go_wp2
        refine kO hK ?_; clear hK K
        refine fH (((HG.out).er 1).er 0) fun Wx9 HF => ?_
        clear HG
        clear hd1
        refine wp_cond_true (by rfl) ?_
        have hlen9 : ¬ (9223372036854775807 < 1 + u.size) := by omega
        have hcat9 : (⟨#[45]⟩ : ByteArray) ++ u = r := HR.out
        refine kL fun K hK => ?_
        refine sq 3 [(true, 0), (true, 1), (true, 2)] fun T hT => ?_
        iterate 3 refine tk ?_
        refine nlS hT HF fun vw8 HG => ?_
        clear hT T HF
        go_wp2
        refine kO hK ?_; clear hK K
        have HF := HG; clear HG
        clear hlen9 hcat9
        refine kS fun K hK => ?_
        refine sq 3 [(true, 0), (true, 1), (true, 2)] fun T hT => ?_
        iterate 3 refine tk ?_
        refine nlS hT HF fun vw9 HG => ?_
        clear hT T HF
        go_wp2
        refine kO hK ?_; clear hK K
        have HF := HG; clear HG
        refine wp_ret ?_
        try simp only [Exit.then, Exit.inBlock]
        exact bodyPost_ret (v := .tuple #[.string r, .int .i64 0]) (by simp [results, Tryz.results60, go_sem]) rfl ⟨rfl, HF.out.1⟩
    · obtain ⟨s', HS'⟩ : ∃ q, Hid ((⟨#[48]⟩ : ByteArray) ++ s = q) := ⟨_, Lib.hid rfl⟩
      have HLT : Hid ((s.size : Int) < (k : Int) + 1) := Lib.hid (by omega)
      have hsz2 : s.size ≤ 200000 := by omega
      clear hsz hc0
      refine wp_seq ?_
      have hwk : IntKind.i64.wrap ((k : Int) + 1) = (k : Int) + 1 := by rw [IntKind.wrap_i64]; omega
      have hlt9 : (s.size : Int) < (k : Int) + 1 := HLT.out
      refine kS fun K hK => ?_
      refine sq 5 [(true, 0), (true, 1), (true, 2), (true, 3), (true, 4)] fun T hT => ?_
      iterate 5 refine tk ?_
      refine nlS hT HF fun vw4 HG => ?_
      clear hT T HF
      go_wp2
      refine kO hK ?_; clear hK K
      have HF := HG; clear HG
      clear hwk hlt9
      refine wp_cond_true (by rfl) ?_
      refine wp_skip ?_
      show Code.wp _ _ _ _ _
      refine wp_block ?_
      have hlen1 : ¬ (9223372036854775807 < 1 + s.size) := by omega
      have hcat1 : (⟨#[48]⟩ : ByteArray) ++ s = s' := HS'.out
      refine kL fun K hK => ?_
      refine sq 3 [(true, 0), (true, 1), (true, 2)] fun T hT => ?_
      iterate 3 refine tk ?_
      refine nlS hT HF fun vw5 HG => ?_
      clear hT T HF
      go_wp2
      refine hK.out _ _ ?_; clear hK K
      try simp only [Exit.then, Exit.inBlock]
      have HF := Lib.hid (HG.out); clear HG
      clear hlen1 hcat1
      refine h0_ _ _ ?_
      go_roundg k'
      case measure => omega
      case rel => exact ⟨i + 1, s', rfl, by omega, Lib.hid (by rw [← HS'.out, ← HS.out]; rfl), Lib.hid (HF.out)⟩
set_option maxRecDepth 50000 in
set_option maxHeartbeats 8000000 in
theorem rtext_p (a : Rat) (k : Nat) (way z c : Int) (D DG r : ByteArray) (va1 va2 : Value) (w : World) (HM : Hid (rnd way (a * (((10 ^ k : Nat) : Int) : Rat)) = z)) (hk : k ≤ 100) (hw1 : 1 ≤ way) (hw2 : way ≤ 3) (hs : rz a ≤ 800) (HNG : Hid (¬ z < 0)) (HD : Hid ((⟨(Lib.decDigits (Int.natAbs (z))).toArray⟩ : ByteArray) = D)) (hD : D.size ≤ 100000) (HCC : Hid ((k : Int) + 1 - (D.size : Int) = c)) (HDG : Hid (zpad c.toNat D = DG)) (hdz : k + 1 ≤ DG.size) (hdz2 : DG.size ≤ 200000) (HRR : Hid (wrt (⟨#[]⟩ : ByteArray) DG k = r)) (bx21 : Rn w va1 (Int.natAbs ((a).num))) (bx22 : Rn w va2 ((a).den - 1)) :
    Calls Tryz.prog 60 #[(Value.agg #[.bool (decide ((a).num < 0)), va1, va2]), .int .i64 (((k : Nat) : Int)), .int .i64 (way)] w fun e w' => e = .returned ((.tuple #[.string r, .int .i64 0])) ∧ Below w.heap.size w w' := by
  obtain ⟨ao_va1, n_va1, c_va1, rfl⟩ := Rn.sl bx21
  obtain ⟨ao_va2, n_va2, c_va2, rfl⟩ := Rn.sl bx22
  go_enter Tryz.func60, Tryz.ntmps60
  have HF := Lib.hid (hp0 w)
  replace HF := Lib.hid ((HF.out.ar bx21).ar bx22)
  simp only [lF, lG] at HF
  clear bx21 bx22
  refine kS fun K hK => ?_
  refine wp_region_lit ?_
  go_wp2
  refine kO hK ?_; clear hK K
  refine fH ((HF.out).aL (w.heap.size)) fun Wx0 HG => ?_
  clear HF; have HF := HG; clear HG
  have HZ1 : Hid (rnd (way) ((a) * (((10 ^ k : Nat) : Int) : Rat)) = z) := Lib.hid (HM.out)
  have su1 : tw (Int.natAbs (z)) ≤ 910 := by have e := HZ1.out; first | omega | (rw [← e]; exact tw_rnd (by omega) om)
  have lx23 := HF.out.c 2 rfl
  refine kS fun K hK => ?_
  have HG0 : Hid (Gr Wx0 Wx0) := Lib.hid (Gr.refl _)
  refine sq 7 [(true, 0), (true, 1), (true, 2), (false, 3), (true, 4), (true, 5), (true, 6)] fun T hT => ?_
  iterate 3 refine tk ?_
  refine wpPlan_callE rfl (by rfl) Tryz.call159 (by rfl) (fun w' hw => (rwhole (way) (a) k (z) _ _ _ (by omega) (by omega) HZ1.out (by omega) (by omega) (HF.out.r 0 rfl (HG0.out.trans hw)) (HF.out.r 1 rfl (HG0.out.trans hw))).mono ?_)
  rintro e vv25 ⟨⟨rv1, rfl, bx25⟩, hg0⟩
  obtain ⟨ao1, nn1, cc1, rfl⟩ := Rn.sl bx25
  refine ⟨_, rfl, hg0, ?_⟩
  replace hg0 := Gr.trans hw hg0; clear hw
  replace HG0 := Lib.hid (HG0.out.trans hg0)
  have HGS := Lib.hid hg0; clear hg0
  clear HGS
  have RN25 := Lib.hid bx25; clear bx25
  clear lx23; have lx23 := fun w' (h : Gr _ w') => HF.out.c 2 rfl w' (HG0.out.trans h)
  simp only [Act.put, lA, lB, lC]
  iterate 3 refine tk ?_
  refine wpPlan_nil (hT.out _ _ ?_)
  intro vw1 hg
  simp only [puts, Act.put, lA, lB, lC, lD, lE, ↓reduceIte, Nat.reduceEqDiff]
  have HG := Lib.hid ((HF.out.gr (HG0.out.trans hg)).ar (RN25.out.gr hg))
  simp only [zq1_, zq2_, zq3_, zq4_, lF, lG] at HG
  clear hT T HF hg HG0 RN25 lx23
  go_wp2
  refine kO hK ?_; clear hK K
  refine fH (((((HG.out).aL (vw1.heap.size)).er 2).er 1).er 0) fun Wx1 HF => ?_
  clear HG
  generalize vw1.heap.size = gx26 at *
  refine wp_seq ?_
  refine kS fun K hK => ?_
  refine sq 2 [(true, 0), (true, 1)] fun T hT => ?_
  iterate 2 refine tk ?_
  refine nlS hT HF fun vw2 HG => ?_
  clear hT T HF
  go_wp2
  refine kO hK ?_; clear hK K
  have HF := HG; clear HG
  refine wp_cond_false (by rfl) ?_
  refine wp_skip ?_
  show Code.wp _ _ _ _ _
  have lx26 := HF.out.c 1 rfl
  refine kS fun K hK => ?_
  refine sq 4 [(true, 0), (true, 1), (true, 2), (true, 3)] fun T hT => ?_
  iterate 2 refine tk ?_
  refine ck Tryz.call166 (fun w' hw => zrtext _ (Int.natAbs (z)) D _ HD.out (HF.out.r 0 rfl hw) (by omega)) ?_
  refine tk ?_
  refine nlS hT HF fun vw3 HG => ?_
  clear hT T HF lx26
  go_wp2
  refine kO hK ?_; clear hK K
  have HF := HG; clear HG
  refine wp_seq ?_
  refine wp_block ?_
  go_loopg [10] c.toNat (fun k iv wr => ∃ (i : Nat) (s : ByteArray), iv = .string s ∧ i + k = c.toNat ∧ Hid (zpad i D = s) ∧ Hid (HP w wr [Sum.inr ((.slice ao1 nn1 cc1), Int.natAbs (z)), Sum.inl (gx26, 45, #[.bool (decide ((z) < 0)), (.slice ao1 nn1 cc1)])]))
  case atStart => exact ⟨0, D, rfl, by omega, Lib.hid rfl, HF⟩
  case round =>
    rename_i J_ K_ h1_ h0_
    clear HF
    obtain ⟨i, s, rfl, hik, HS, HF⟩ := hrel
    have hsz : s.size = D.size + i := by rw [← HS.out, zpad_size]
    have hc0 := HCC.out
    rcases gk with _ | k'
    · obtain rfl : i = c.toNat := by omega
      obtain rfl : s = DG := by rw [← HS.out, ← HDG.out]
      have HLT : Hid (¬ ((s.size : Int) < (k : Int) + 1)) := Lib.hid (by omega)
      clear hsz hc0 HS
      refine wp_seq ?_
      have hwk : IntKind.i64.wrap ((k : Int) + 1) = (k : Int) + 1 := by rw [IntKind.wrap_i64]; omega
      have hlt9 : ¬ ((s.size : Int) < (k : Int) + 1) := HLT.out
      refine kS fun K hK => ?_
      refine sq 5 [(true, 0), (true, 1), (true, 2), (true, 3), (true, 4)] fun T hT => ?_
      iterate 5 refine tk ?_
      refine nlS hT HF fun vw4 HG => ?_
      clear hT T HF
      go_wp2
      refine kO hK ?_; clear hK K
      have HF := HG; clear HG
      clear hwk hlt9
      refine wp_cond_false (by rfl) ?_
      refine wp_exit ?_
      show Code.wp _ _ _ _ _
      refine wp_seq ?_
      rcases Nat.eq_zero_or_pos k with hk0 | hk0
      · have HR : Hid (s = r) := Lib.hid (by have e := HRR.out; unfold wrt at e; rw [if_pos hk0] at e; exact ((nil_cat _).symm.trans e))
        obtain rfl := HR.out
        have HK := Lib.hid hk0
        clear hk0
        have hkg : ¬ (0 < k) := by have := HK.out; omega
        refine kS fun K hK => ?_
        refine sq 2 [(true, 0), (true, 1)] fun T hT => ?_
        iterate 2 refine tk ?_
        refine nlS hT HF fun vw5 HG => ?_
        clear hT T HF
        go_wp2
        refine kO hK ?_; clear hK K
        have HF := HG; clear HG
        clear hkg
        refine wp_cond_false (by rfl) ?_
        refine wp_skip ?_
        show Code.wp _ _ _ _ _
        refine wp_seq ?_
        have hd1 : decide ((z) < 0) = false := decide_eq_false (by (have e := HNG.out; omega))
        have lx26 := HF.out.c 1 rfl
        refine kS fun K hK => ?_
        refine sq 2 [(true, 0), (true, 1)] fun T hT => ?_
        iterate 2 refine tk ?_
        refine nlS hT HF fun vw6 HG => ?_
        clear hT T HF lx26
        go_wp2
        refine kO hK ?_; clear hK K
        refine fH (((HG.out).er 1).er 0) fun Wx9 HF => ?_
        clear HG
        clear hd1
        refine wp_cond_false (by rfl) ?_
        refine wp_skip ?_
        show Code.wp _ _ _ _ _
        refine kS fun K hK => ?_
        refine sq 3 [(true, 0), (true, 1), (true, 2)] fun T hT => ?_
        iterate 3 refine tk ?_
        refine nlS hT HF fun vw7 HG => ?_
        clear hT T HF
        go_wp2
        refine kO hK ?_; clear hK K
        have HF := HG; clear HG
        refine wp_ret ?_
        try simp only [Exit.then, Exit.inBlock]
        exact bodyPost_ret (v := .tuple #[.string s, .int .i64 0]) (by simp [results, Tryz.results60, go_sem]) rfl ⟨rfl, HF.out.1⟩
      · obtain ⟨b, hb⟩ : ∃ b, b + k = s.size := ⟨s.size - k, by omega⟩
        obtain ⟨r1, HR1⟩ : ∃ q, Hid (s.extract 0 b = q) := ⟨_, Lib.hid rfl⟩
        obtain ⟨t1, HC1⟩ : ∃ q, Hid (r1 ++ (⟨#[46]⟩ : ByteArray) = q) := ⟨_, Lib.hid rfl⟩
        obtain ⟨r2, HR2⟩ : ∃ q, Hid (s.extract b s.size = q) := ⟨_, Lib.hid rfl⟩
        obtain ⟨u, HC2⟩ : ∃ q, Hid (t1 ++ r2 = q) := ⟨_, Lib.hid rfl⟩
        have hz1 : r1.size ≤ 200000 := by rw [← HR1.out]; simp; omega
        have hz2 : r2.size ≤ 200000 := by rw [← HR2.out]; simp; omega
        have hz3 : t1.size ≤ 200001 := by rw [← HC1.out, cat_sz]; have : (⟨#[46]⟩ : ByteArray).size = 1 := rfl; omega
        have hz4 : u.size ≤ 400001 := by rw [← HC2.out, cat_sz]; omega
        have HR : Hid (u = r) := Lib.hid (by have e := HRR.out; unfold wrt at e; rw [if_neg (by omega), show s.size - k = b by omega, HR1.out, HR2.out] at e; rw [← HC2.out, ← HC1.out]; rw [nil_cat] at e; rw [← e] <;> simp only [ByteArray.append_assoc])
        obtain rfl := HR.out
        have HK := Lib.hid hk0
        clear hk0
        have hkg : 0 < k := HK.out
        refine kS fun K hK => ?_
        refine sq 2 [(true, 0), (true, 1)] fun T hT => ?_
        iterate 2 refine tk ?_
        refine nlS hT HF fun vw5 HG => ?_
        clear hT T HF
        go_wp2
        refine kO hK ?_; clear hK K
        have HF := HG; clear HG
        clear hkg
        refine wp_cond_true (by rfl) ?_
        have hwa : IntKind.i64.wrap ((s.size : Int) - (k : Int)) = (b : Int) := by rw [IntKind.wrap_i64]; omega
        have hsl1 : s.extract 0 b = r1 := HR1.out
        have hcl1 : (b : Int) ≤ (s.size : Int) := by omega
        have hlen1 : ¬ (9223372036854775807 < r1.size + 1) := by omega
        have hcat1 : r1 ++ (⟨#[46]⟩ : ByteArray) = t1 := HC1.out
        have hsl2 : s.extract b s.size = r2 := HR2.out
        have hlen2 : ¬ (9223372036854775807 < t1.size + r2.size) := by omega
        have hcat2 : t1 ++ r2 = u := HC2.out
        refine kL fun K hK => ?_
        refine pd 14 [(true, 0), (true, 1), (true, 2), (true, 3), (true, 4), (true, 5), (true, 6), (true, 7), (true, 8), (true, 9), (true, 10), (true, 11), (true, 12), (true, 13)] fun T hT => ?_
        iterate 14 refine tk ?_
        refine nlD hT HF fun vw6 HG => ?_
        clear hT T HF
        go_wp2
        refine kO hK ?_; clear hK K
        have HF := HG; clear HG
        clear hwa hsl1 hcl1 hlen1 hcat1 hsl2 hlen2 hcat2
        refine wp_seq ?_
        have hd1 : decide ((z) < 0) = false := decide_eq_false (by (have e := HNG.out; omega))
        have lx26 := HF.out.c 1 rfl
        refine kS fun K hK => ?_
        refine sq 2 [(true, 0), (true, 1)] fun T hT => ?_
        iterate 2 refine tk ?_
        refine nlS hT HF fun vw7 HG => ?_
        clear hT T HF lx26
        go_wp2
        refine kO hK ?_; clear hK K
        refine fH (((HG.out).er 1).er 0) fun Wx9 HF => ?_
        clear HG
        clear hd1
        refine wp_cond_false (by rfl) ?_
        refine wp_skip ?_
        show Code.wp _ _ _ _ _
        refine kS fun K hK => ?_
        refine sq 3 [(true, 0), (true, 1), (true, 2)] fun T hT => ?_
        iterate 3 refine tk ?_
        refine nlS hT HF fun vw8 HG => ?_
        clear hT T HF
        go_wp2
        refine kO hK ?_; clear hK K
        have HF := HG; clear HG
        refine wp_ret ?_
        try simp only [Exit.then, Exit.inBlock]
        exact bodyPost_ret (v := .tuple #[.string u, .int .i64 0]) (by simp [results, Tryz.results60, go_sem]) rfl ⟨rfl, HF.out.1⟩
    · obtain ⟨s', HS'⟩ : ∃ q, Hid ((⟨#[48]⟩ : ByteArray) ++ s = q) := ⟨_, Lib.hid rfl⟩
      have HLT : Hid ((s.size : Int) < (k : Int) + 1) := Lib.hid (by omega)
      have hsz2 : s.size ≤ 200000 := by omega
      clear hsz hc0
      refine wp_seq ?_
      have hwk : IntKind.i64.wrap ((k : Int) + 1) = (k : Int) + 1 := by rw [IntKind.wrap_i64]; omega
      have hlt9 : (s.size : Int) < (k : Int) + 1 := HLT.out
      refine kS fun K hK => ?_
      refine sq 5 [(true, 0), (true, 1), (true, 2), (true, 3), (true, 4)] fun T hT => ?_
      iterate 5 refine tk ?_
      refine nlS hT HF fun vw4 HG => ?_
      clear hT T HF
      go_wp2
      refine kO hK ?_; clear hK K
      have HF := HG; clear HG
      clear hwk hlt9
      refine wp_cond_true (by rfl) ?_
      refine wp_skip ?_
      show Code.wp _ _ _ _ _
      refine wp_block ?_
      have hlen1 : ¬ (9223372036854775807 < 1 + s.size) := by omega
      have hcat1 : (⟨#[48]⟩ : ByteArray) ++ s = s' := HS'.out
      refine kL fun K hK => ?_
      refine sq 3 [(true, 0), (true, 1), (true, 2)] fun T hT => ?_
      iterate 3 refine tk ?_
      refine nlS hT HF fun vw5 HG => ?_
      clear hT T HF
      go_wp2
      refine hK.out _ _ ?_; clear hK K
      try simp only [Exit.then, Exit.inBlock]
      have HF := Lib.hid (HG.out); clear HG
      clear hlen1 hcat1
      refine h0_ _ _ ?_
      go_roundg k'
      case measure => omega
      case rel => exact ⟨i + 1, s', rfl, by omega, Lib.hid (by rw [← HS'.out, ← HS.out]; rfl), Lib.hid (HF.out)⟩
set_option maxRecDepth 20000 in
set_option maxHeartbeats 4000000 in
theorem rtext_bad0 (a : Rat) (n way c z0 : Int) (va1 va2 : Value) (w : World) (HC : Hid (rcode n way = c)) (hc0 : ¬ c = 0) (HZ0 : Hid ((0 : Int) = z0)) (bx21 : Rn w va1 (Int.natAbs ((a).num))) (bx22 : Rn w va2 ((a).den - 1)) :
    Calls Tryz.prog 60 #[(Value.agg #[.bool (decide ((a).num < 0)), va1, va2]), .int .i64 (n), .int .i64 (way)] w fun e w' => e = .returned ((.tuple #[.string ⟨#[]⟩, .int .i64 c])) ∧ Below w.heap.size w w' := by
  obtain ⟨ao_va1, n_va1, c_va1, rfl⟩ := Rn.sl bx21
  obtain ⟨ao_va2, n_va2, c_va2, rfl⟩ := Rn.sl bx22
  go_enter Tryz.func60, Tryz.ntmps60
  have HF := Lib.hid (hp0 w)
  replace HF := Lib.hid ((HF.out.ar bx21).ar bx22)
  simp only [lF, lG] at HF
  clear bx21 bx22
  refine kS fun K hK => ?_
  refine wp_region_lit ?_
  go_wp2
  refine kO hK ?_; clear hK K
  refine fH ((HF.out).aL (w.heap.size)) fun Wx0 HG => ?_
  clear HF; have HF := HG; clear HG
  have HZ1 : Hid ((0 : Int) = z0) := Lib.hid (HZ0.out)
  have su1 : tw (Int.natAbs (z0)) ≤ 1 := by have e := HZ1.out; first | omega | (rw [← e]; exact tw_le.2 (by decide +kernel))
  have lx23 := HF.out.c 2 rfl
  refine kS fun K hK => ?_
  have HG0 : Hid (Gr Wx0 Wx0) := Lib.hid (Gr.refl _)
  refine sq 7 [(true, 0), (true, 1), (true, 2), (false, 3), (true, 4), (true, 5), (true, 6)] fun T hT => ?_
  iterate 3 refine tk ?_
  refine wpPlan_callE rfl (by rfl) Tryz.call159 (by rfl) (fun w' hw => (rwhole_bad (a) (n) (way) (c) (z0) _ _ _ (HC.out) (hc0) HZ1.out (HF.out.r 0 rfl (HG0.out.trans hw)) (HF.out.r 1 rfl (HG0.out.trans hw))).mono ?_)
  rintro e vv25 ⟨⟨rv1, rfl, bx25⟩, hg0⟩
  obtain ⟨ao1, nn1, cc1, rfl⟩ := Rn.sl bx25
  refine ⟨_, rfl, hg0, ?_⟩
  replace hg0 := Gr.trans hw hg0; clear hw
  replace HG0 := Lib.hid (HG0.out.trans hg0)
  have HGS := Lib.hid hg0; clear hg0
  clear HGS
  have RN25 := Lib.hid bx25; clear bx25
  clear lx23; have lx23 := fun w' (h : Gr _ w') => HF.out.c 2 rfl w' (HG0.out.trans h)
  simp only [Act.put, lA, lB, lC]
  iterate 3 refine tk ?_
  refine wpPlan_nil (hT.out _ _ ?_)
  intro vw1 hg
  simp only [puts, Act.put, lA, lB, lC, lD, lE, ↓reduceIte, Nat.reduceEqDiff]
  have HG := Lib.hid ((HF.out.gr (HG0.out.trans hg)).ar (RN25.out.gr hg))
  simp only [zq1_, zq2_, zq3_, zq4_, lF, lG] at HG
  clear hT T HF hg HG0 RN25 lx23
  go_wp2
  refine kO hK ?_; clear hK K
  refine fH (((((HG.out).aL (vw1.heap.size)).er 2).er 1).er 0) fun Wx1 HF => ?_
  clear HG
  generalize vw1.heap.size = gx26 at *
  refine wp_seq ?_
  have hd1 : ((c) == (0)) = false := by have : ¬ (c = 0) := (ok); simpa using this
  have hd2 : ((c) != (0)) = true := by have : ¬ (c = 0) := (ok); simpa using this
  refine kS fun K hK => ?_
  refine sq 2 [(true, 0), (true, 1)] fun T hT => ?_
  iterate 2 refine tk ?_
  refine nlS hT HF fun vw2 HG => ?_
  clear hT T HF
  go_wp2
  refine kO hK ?_; clear hK K
  have HF := HG; clear HG
  clear hd1 hd2
  refine wp_cond_true (by rfl) ?_
  refine kS fun K hK => ?_
  refine sq 3 [(true, 0), (true, 1), (true, 2)] fun T hT => ?_
  iterate 3 refine tk ?_
  refine nlS hT HF fun vw3 HG => ?_
  clear hT T HF
  go_wp2
  refine kO hK ?_; clear hK K
  have HF := HG; clear HG
  refine wp_ret ?_
  try simp only [Exit.then, Exit.inBlock]
  exact bodyPost_ret (v := .tuple #[.string ⟨#[]⟩, .int .i64 (c)]) (by simp [results, Tryz.results60, go_sem]) rfl ⟨rfl, HF.out.1⟩
theorem rtext04 (way : Int) (a : Rat) (k : Nat) (r : ByteArray) (va1 va2 : Value) (w : World) (hr : dtx (rnd way (a * (((10 ^ k : Nat) : Int) : Rat))) k = r) (hw1 : 1 ≤ way) (hw2 : way ≤ 3) (hk : k ≤ 100) (hs : rz a ≤ 800) (h1 : Rn w va1 (Int.natAbs ((a).num))) (h2 : Rn w va2 ((a).den - 1)) :
    Calls Tryz.prog 60 #[.agg #[.bool (decide ((a).num < 0)), va1, va2], .int .i64 ((k : Nat) : Int), .int .i64 way] w fun e w' => e = .returned (.tuple #[.string r, .int .i64 0]) ∧ Below w.heap.size w w' := by
  have e1 := tw_rnd (way := way) hk hs
  have e4 := dec_sizer (n := Int.natAbs (rnd way (a * (((10 ^ k : Nat) : Int) : Rat)))) (k := 910) (by omega)
  have e5 := dig_size (Int.natAbs (rnd way (a * (((10 ^ k : Nat) : Int) : Rat)))) k
  have e6 := dig_most (Int.natAbs (rnd way (a * (((10 ^ k : Nat) : Int) : Rat)))) k
  unfold dtx at hr
  by_cases hn : rnd way (a * (((10 ^ k : Nat) : Int) : Rat)) < 0
  · rw [if_pos hn] at hr
    exact rtext_n a k way _ _ _ _ r va1 va2 w (Lib.hid rfl) hk hw1 hw2 hs (Lib.hid hn) (Lib.hid rfl) (by omega) (Lib.hid rfl) (Lib.hid rfl) e5 (by unfold dig at e6; omega) (Lib.hid hr) h1 h2
  · rw [if_neg hn] at hr
    exact rtext_p a k way _ _ _ _ r va1 va2 w (Lib.hid rfl) hk hw1 hw2 hs (Lib.hid hn) (Lib.hid rfl) (by omega) (Lib.hid rfl) (Lib.hid rfl) e5 (by unfold dig at e6; omega) (Lib.hid hr) h1 h2
theorem rtext_bad (a : Rat) (n way c : Int) (va1 va2 : Value) (w : World) (hc : rcode n way = c) (h0 : ¬ c = 0) (h1 : Rn w va1 (Int.natAbs ((a).num))) (h2 : Rn w va2 ((a).den - 1)) :
    Calls Tryz.prog 60 #[.agg #[.bool (decide ((a).num < 0)), va1, va2], .int .i64 n, .int .i64 way] w fun e w' => e = .returned (.tuple #[.string ⟨#[]⟩, .int .i64 c]) ∧ Below w.heap.size w w' := rtext_bad0 a n way c _ va1 va2 w (Lib.hid hc) h0 (Lib.hid rfl) h1 h2
theorem rround_badz (a z : Rat) (n way c : Int) (va1 va2 : Value) (w : World) (hc : rcode n way = c) (h0 : ¬ c = 0) (hz : (0 : Rat) = z) (h1 : Rn w va1 (Int.natAbs ((a).num))) (h2 : Rn w va2 ((a).den - 1)) :
    Calls Tryz.prog 58 #[.agg #[.bool (decide ((a).num < 0)), va1, va2], .int .i64 n, .int .i64 way] w fun e w' => (∃ r1 r2 : Value, e = .returned (.tuple #[(.agg #[.bool (decide ((z).num < 0)), r1, r2]), .int .i64 c]) ∧ Rn w' r1 (Int.natAbs ((z).num)) ∧ Rn w' r2 ((z).den - 1)) ∧ Below w.heap.size w w' := hz ▸ rround_bad a n way c va1 va2 w hc h0 h1 h2
theorem dround_badz (a z : Rat) (n way c : Int) (w : World) (hc : rcode n way = c) (h0 : ¬ c = 0) (hz : (0 : Rat) = z) (hs : sz a ≤ 900) :
    Calls Tryz.prog 56 #[(Value.agg #[.int .u64 ((lo (Int.natAbs ((a).num)) : Nat) : Int), .string (bg (Int.natAbs ((a).num))), .bool (decide (((a).num) < 0)), .int .u64 ((lo ((a).den - 1) : Nat) : Int), .string (bg ((a).den - 1))]), .int .i64 n, .int .i64 way] w fun e w' => e = .returned (.tuple #[(Value.agg #[.int .u64 ((lo (Int.natAbs ((z).num)) : Nat) : Int), .string (bg (Int.natAbs ((z).num))), .bool (decide (((z).num) < 0)), .int .u64 ((lo ((z).den - 1) : Nat) : Int), .string (bg ((z).den - 1))]), .int .i64 c]) ∧ Below w.heap.size w w' := hz ▸ dround_bad a n way c w hc h0 hs
theorem rz_rdd {way : Int} {a : Rat} {k M : Nat} (hk : k ≤ 100) (h : rz a ≤ M) : rz (rdd way a k) ≤ M + 136 := by
  have e1 := tw_rnd (way := way) hk h
  have e2 := rz_ten hk
  unfold rdd
  have e3 : tw (10 ^ k) ≤ 26 := Nat.le_trans (tw_mono (Nat.pow_le_pow_right (by decide) hk)) (tw_le.2 (by decide +kernel))
  exact rz_mkRat (by omega) (by omega) (by omega)
end Go.Proofs.YtaflakcemiilaaaGreatDoor
