
/- recons.Chinese. -/
import Derived.Test.YtobojnodohjiaaaGreatDoorRecD
import Derived.Test.YtobojnodohjiaaaGreatDoorRsP
namespace Go.Proofs.YtobojnodohjiaaaGreatDoor
open Go.RowKit
set_option linter.unusedSimpArgs false
set_option linter.unusedVariables false
attribute [local go_sem ↓] Go.wp_at_zero Go.wp_at_succ
attribute [local go_sem ↓] eq_nat eq_nat_zero eq_int
attribute [local go_sem ↓] eq_nat eq_nat_zero eq_frac eq_frac_zero
set_option maxRecDepth 50000 in
set_option maxHeartbeats 8000000 in
theorem rchinese0 (v : Value) (n : Nat) (f : Nat → Int × Nat) (R : Int) (M : Nat) (cc : Int) (w : World) (HV : Hid (chv f n R M cc)) (HRS : Hid (Rs w v n f)) (hn : n ≤ 9) (HSZ : Hid (∀ i, i < n → wl (f i).1.natAbs ≤ 100 ∧ wl (f i).2 ≤ 10)) :
    Calls Tryz.prog 29 #[v] w fun e w' => e = .returned (.tuple #[.agg #[.int .u64 ((lo (Int.natAbs (R)) : Nat) : Int), .string (bg (Int.natAbs (R))), .bool (decide ((R) < 0)), .int .u64 ((lo (M) : Nat) : Int), .string (bg (M))], .int .i64 cc]) ∧ Below w.heap.size w w' := by
  obtain ⟨ao, c, rfl⟩ := HRS.out.slice
  go_enter Tryz.func29, Tryz.ntmps29
  have HF := Lib.hid (hp0 w)
  refine kS fun K hK => ?_
  refine wp_region_lit ?_
  go_wp2
  refine hK.out _ _ ?_; clear hK K
  show Code.wp _ _ _ _ _
  refine fH ((HF.out).al (b := w.heap.size) (by first | rfl | simp) (by decide)) fun Wx0 HG => ?_
  clear HF; have HF := HG; clear HG
  have su_0_1 : wl 1 ≤ 1 := wl_le.2 (by decide +kernel)
  refine kS fun K hK => ?_
  refine sq 2 [(true, 0), (true, 1)] fun T hT => ?_
  refine ck Tryz.call24 (fun w' hw => nzof 1 _ (by decide)) ?_
  refine tk ?_
  refine nlS hT HF fun vw1 HG => ?_
  clear hT T HF
  go_wp2
  refine hK.out _ _ ?_; clear hK K
  show Code.wp _ _ _ _ _
  refine fH ((HG.out).al (b := vw1.heap.size) (by first | rfl | simp) (by decide)) fun Wx1 HF => ?_
  clear HG
  generalize vw1.heap.size = gx2 at *
  refine wp_seq ?_
  refine kS fun K hK => ?_
  refine sq 3 [(true, 0), (true, 1), (true, 2)] fun T hT => ?_
  iterate 3 refine tk ?_
  refine nlS hT HF fun vw2 HG => ?_
  clear hT T HF
  go_wp2
  refine hK.out _ _ ?_; clear hK K
  show Code.wp _ _ _ _ _
  have HF := HG; clear HG
  refine wp_block ?_
  go_loopg [15] n (fun kk iv wr => ∃ k : Nat, iv = .int .i64 (k : Int) ∧ k + kk = n ∧ Hid (∀ i, i < k → 0 < (f i).2) ∧ Hid (HP w wr [Sum.inl (w.heap.size, 71, #[.int .u64 0, .string ⟨#[]⟩, .bool false, .int .u64 0, .string ⟨#[]⟩]), Sum.inl (gx2, 71, #[.int .u64 0, .string ⟨#[]⟩, .bool false, .int .u64 ((lo (1) : Nat) : Int), .string (bg (1))])]))
  case atStart => exact ⟨0, rfl, by omega, Lib.hid (fun i h => absurd h (Nat.not_lt_zero _)), HF⟩
  case round =>
    rename_i J_ K_ hj1_ hj0_
    clear HF
    obtain ⟨k, rfl, hkn, HPK, HF⟩ := hrel
    rcases gk with _ | kk
    · obtain rfl : n = k := by omega
      have hlt9 : ¬ (n : Int) < (n : Int) := by omega
      refine kS fun K hK => ?_
      refine sq 1 [(true, 0)] fun T hT => ?_
      refine tk ?_
      refine nlS hT HF fun vw3 HG => ?_
      clear hT T HF
      go_wp2
      refine hK.out _ _ ?_; clear hK K
      show Code.wp _ _ _ _ _
      have HF := HG; clear HG
      clear hlt9
      refine wp_seq ?_
      refine wp_cond_false (by rfl) ?_
      refine wp_exit ?_
      show Code.wp _ _ _ _ _
      refine wp_seq ?_
      refine kS fun K hK => ?_
      refine sq 3 [(true, 0), (true, 1), (true, 2)] fun T hT => ?_
      iterate 3 refine tk ?_
      refine nlS hT HF fun vw4 HG => ?_
      clear hT T HF
      go_wp2
      refine hK.out _ _ ?_; clear hK K
      show Code.wp _ _ _ _ _
      have HF := HG; clear HG
      refine wp_block ?_
      go_loopg [27] n (fun kk iv wr => ∃ (k : Nat) (R1 : Int) (M1 : Nat), iv = .int .i64 (k : Int) ∧ k + kk = n ∧ Hid (chn f k = some (R1, M1)) ∧ wl M1 ≤ 1 + 10 * k ∧ Hid (HP w wr [Sum.inl (w.heap.size, 71, #[.int .u64 0, .string ⟨#[]⟩, .bool false, .int .u64 0, .string ⟨#[]⟩]), Sum.inl (gx2, 71, #[.int .u64 ((lo (Int.natAbs (R1)) : Nat) : Int), .string (bg (Int.natAbs (R1))), .bool (decide ((R1) < 0)), .int .u64 ((lo (M1) : Nat) : Int), .string (bg (M1))])]))
      case atStart => exact ⟨0, 0, 1, rfl, by omega, Lib.hid rfl, wl_le.2 (by decide +kernel), HF⟩
      case round =>
        rename_i J2_ K2_ hm1_ hm0_
        clear HF
        obtain ⟨k, R1, M1, rfl, hkn, HCH, hwM, HF⟩ := hrel
        have HP1 := Lib.hid (chn_some (fun i hi => HPK.out i (by omega)) HCH.out)
        have hM1 : 0 < M1 := HP1.out.1
        have hwR : wl R1.natAbs ≤ 1 + 10 * k := by have e9 := HP1.out; exact Nat.le_trans (wl_mono (by have := e9.2.1; have := e9.2.2.1; omega)) hwM
        rcases gk with _ | kk
        · obtain rfl : n = k := by omega
          obtain ⟨rfl, rfl, rfl⟩ := (HV.out.2 HPK.out).2 _ _ HCH.out
          have hlt9 : ¬ (n : Int) < (n : Int) := by omega
          refine kS fun K hK => ?_
          refine sq 1 [(true, 0)] fun T hT => ?_
          refine tk ?_
          refine nlS hT HF fun vw5 HG => ?_
          clear hT T HF
          go_wp2
          refine hK.out _ _ ?_; clear hK K
          show Code.wp _ _ _ _ _
          have HF := HG; clear HG
          clear hlt9
          refine wp_seq ?_
          refine wp_cond_false (by rfl) ?_
          refine wp_exit ?_
          show Code.wp _ _ _ _ _
          have lx2 := HF.out.c 1 rfl
          refine kS fun K hK => ?_
          refine sq 1 [(true, 0)] fun T hT => ?_
          refine tk ?_
          refine nlS hT HF fun vw6 HG => ?_
          clear hT T HF lx2
          have lx0 := HG.out.c 0 rfl; have fx0 := HG.out.f 0 rfl
          have r0 := Gr.refl vw6
          go_wp2
          refine hK.out _ _ ?_; clear hK K
          show Code.wp _ _ _ _ _
          clear r0 lx0 fx0
          refine fH (((((HG.out).put2 0 0 rfl).put2 0 2 rfl).put 0 4 _ rfl).er 1) fun Wx16 HF => ?_
          clear HG
          refine wp_ret ?_
          try simp only [Exit.then, Exit.inBlock]
          have lx0 := HF.out.c 0 rfl
          have r0 := Gr.refl Wx16
          exact bodyPost_ret (v := .tuple #[(.agg #[.int .u64 ((lo (Int.natAbs (R1)) : Nat) : Int), .string (bg (Int.natAbs (R1))), .bool (decide ((R1) < 0)), .int .u64 ((lo (M1) : Nat) : Int), .string (bg (M1))]), .int .i64 0]) (by simp [results, Tryz.results29, go_sem, lx0 _ r0]) rfl ⟨rfl, HF.out.1⟩
        · rcases HRS.out with ⟨_, _, _, hz⟩ | ⟨b9, o9, c', hv, hb, hc⟩
          · omega
          injection hv with hv1 _ hv3
          subst hv1 hv3
          have hkn' : k < n := by omega
          obtain ⟨r, HR⟩ : ∃ x, Hid ((f k).1 = x) := ⟨_, Lib.hid rfl⟩
          obtain ⟨mm, HM⟩ : ∃ x, Hid ((f k).2 = x) := ⟨_, Lib.hid rfl⟩
          have HE0 : Hid (∀ w', Gr w w' → w'.cell? ⟨b9, o9 + k * 5, none⟩ = some (.int .u64 ((lo (Int.natAbs r) : Nat) : Int))) := Lib.hid (fun w' hw => (Below.cell hw (p := ⟨b9, o9 + k * 5, none⟩) hb).trans ((hc k hkn' 0 (by decide)).trans (by rw [← HR.out]; rfl)))
          have HE1 : Hid (∀ w', Gr w w' → w'.cell? ⟨b9, o9 + k * 5 + 1, none⟩ = some (.string (bg (Int.natAbs r)))) := Lib.hid (fun w' hw => (Below.cell hw (p := ⟨b9, o9 + k * 5 + 1, none⟩) hb).trans ((hc k hkn' 1 (by decide)).trans (by rw [← HR.out]; rfl)))
          have HE2 : Hid (∀ w', Gr w w' → w'.cell? ⟨b9, o9 + k * 5 + 2, none⟩ = some (.bool (decide (r < 0)))) := Lib.hid (fun w' hw => (Below.cell hw (p := ⟨b9, o9 + k * 5 + 2, none⟩) hb).trans ((hc k hkn' 2 (by decide)).trans (by rw [← HR.out]; rfl)))
          have HE3 : Hid (∀ w', Gr w w' → w'.cell? ⟨b9, o9 + k * 5 + 3, none⟩ = some (.int .u64 ((lo mm : Nat) : Int))) := Lib.hid (fun w' hw => (Below.cell hw (p := ⟨b9, o9 + k * 5 + 3, none⟩) hb).trans ((hc k hkn' 3 (by decide)).trans (by rw [← HM.out]; rfl)))
          have HE4 : Hid (∀ w', Gr w w' → w'.cell? ⟨b9, o9 + k * 5 + 4, none⟩ = some (.string (bg mm))) := Lib.hid (fun w' hw => (Below.cell hw (p := ⟨b9, o9 + k * 5 + 4, none⟩) hb).trans ((hc k hkn' 4 (by decide)).trans (by rw [← HM.out]; rfl)))
          clear hc hb
          have hkl : (k : Int) < (n : Int) := by omega
          have hwk : IntKind.i64.wrap ((k : Int) + 1) = (k : Int) + 1 := by rw [IntKind.wrap_i64]; omega
          have hmm : 0 < mm := by rw [← HM.out]; exact HPK.out k hkn'
          obtain ⟨hwr, hwm⟩ := HSZ.out k hkn'
          rw [HR.out] at hwr
          rw [HM.out] at hwm
          by_cases hc : (r - R1) % (egcd ((M1 : Nat) : Int) ((mm : Nat) : Int)).1 = 0
          · have HC := Lib.hid hc
            obtain ⟨z2, HZ2⟩ : ∃ x, Hid (crt R1 M1 r mm = x) := ⟨_, Lib.hid rfl⟩
            obtain ⟨m2, HM2⟩ : ∃ x, Hid (crm M1 mm = x) := ⟨_, Lib.hid rfl⟩
            have HCH2 : Hid (chn f (k + 1) = some (z2, m2)) := Lib.hid (by rw [chn_step HCH.out (by rw [HR.out, HM.out]; exact hc), HR.out, HM.out, HZ2.out, HM2.out])
            have hwM2 : wl m2 ≤ 1 + 10 * (k + 1) := by rw [← HM2.out]; have := wl_crm (M1 := M1) (M2 := mm); omega
            clear hc
            have hlt9 : (k : Int) < (n : Int) := by omega
            refine kS fun K hK => ?_
            refine sq 1 [(true, 0)] fun T hT => ?_
            refine tk ?_
            refine nlS hT HF fun vw5 HG => ?_
            clear hT T HF
            go_wp2
            refine hK.out _ _ ?_; clear hK K
            show Code.wp _ _ _ _ _
            have HF := HG; clear HG
            clear hlt9
            refine wp_seq ?_
            refine wp_cond_true (by rfl) ?_
            refine wp_skip ?_
            show Code.wp _ _ _ _ _
            refine wp_seq ?_
            refine wp_block ?_
            have lx90_0 := fun w' (h : Gr _ w') => HE0.out w' (Gr.trans HF.out.1 h)
            have lx90_1 := fun w' (h : Gr _ w') => HE1.out w' (Gr.trans HF.out.1 h)
            have lx90_2 := fun w' (h : Gr _ w') => HE2.out w' (Gr.trans HF.out.1 h)
            have lx90_3 := fun w' (h : Gr _ w') => HE3.out w' (Gr.trans HF.out.1 h)
            have lx90_4 := fun w' (h : Gr _ w') => HE4.out w' (Gr.trans HF.out.1 h)
            refine kS fun K hK => ?_
            refine sq 2 [(true, 0), (true, 1)] fun T hT => ?_
            iterate 2 refine tk ?_
            refine nlS hT HF fun vw6 HG => ?_
            clear hT T HF lx90_0 lx90_1 lx90_2 lx90_3 lx90_4
            go_wp2
            refine hK.out _ _ ?_; clear hK K
            show Code.wp _ _ _ _ _
            refine fH ((HG.out).al (b := vw6.heap.size) (by first | rfl | simp) (by decide)) fun Wx10 HF => ?_
            clear HG
            generalize vw6.heap.size = gx3 at *
            have lx2 := HF.out.c 1 rfl
            have lx3 := HF.out.c 2 rfl
            refine kS fun K hK => ?_
            refine sq 6 [(true, 0), (true, 1), (true, 2), (true, 3), (true, 4), (true, 5)] fun T hT => ?_
            iterate 2 refine tk ?_
            refine ck Tryz.call107 (fun w' hw => rjoin (R1) (r) (M1) (mm) z2 m2 _ HZ2.out HM2.out HC.out hM1 hmm om om om om) ?_
            iterate 3 refine tk ?_
            refine nlS hT HF fun vw7 HG => ?_
            clear hT T HF lx2 lx3
            go_wp2
            refine hK.out _ _ ?_; clear hK K
            show Code.wp _ _ _ _ _
            refine fH ((HG.out).al (b := vw7.heap.size) (by first | rfl | simp) (by decide)) fun Wx11 HF => ?_
            clear HG
            generalize vw7.heap.size = gx4 at *
            refine wp_seq ?_
            refine kS fun K hK => ?_
            refine sq 2 [(true, 0), (true, 1)] fun T hT => ?_
            iterate 2 refine tk ?_
            refine nlS hT HF fun vw8 HG => ?_
            clear hT T HF
            go_wp2
            refine hK.out _ _ ?_; clear hK K
            show Code.wp _ _ _ _ _
            have HF := HG; clear HG
            refine wp_cond_false (by rfl) ?_
            refine wp_skip ?_
            show Code.wp _ _ _ _ _
            have lx4 := HF.out.c 3 rfl
            refine kL fun K hK => ?_
            refine sq 1 [(true, 0)] fun T hT => ?_
            refine tk ?_
            refine nlS hT HF fun vw9 HG => ?_
            clear hT T HF lx4
            have lx2 := HG.out.c 1 rfl; have fx2 := HG.out.f 1 rfl
            have r0 := Gr.refl vw9
            go_wp2
            refine hK.out _ _ ?_; clear hK K
            show Code.wp _ _ _ _ _
            clear r0 lx2 fx2
            refine fH ((((HG.out).put2 1 0 rfl).put2 1 2 rfl).put 1 4 _ rfl) fun Wx14 HF => ?_
            clear HG
            refine kL fun K hK => ?_
            refine sq 2 [(true, 0), (true, 1)] fun T hT => ?_
            iterate 2 refine tk ?_
            refine nlS hT HF fun vw10 HG => ?_
            clear hT T HF
            go_wp2
            refine hK.out _ _ ?_; clear hK K
            try simp only [Exit.then, Exit.inBlock]
            have HF := Lib.hid (HG.out); clear HG
            refine hm0_ _ _ ?_
            go_roundg kk
            case measure => omega
            case rel => exact ⟨k + 1, _, _, rfl, by omega, HCH2, hwM2, Lib.hid (((HF.out).er 3).er 2)⟩
          · have HC := Lib.hid hc
            obtain ⟨rfl, rfl, rfl⟩ := (HV.out.2 HPK.out).1 (by
              have e9 := chn_none (chn_stop HCH.out (by rw [HR.out, HM.out]; exact hc)) kk
              rwa [show k + 1 + kk = n by omega] at e9)
            clear hc
            have hlt9 : (k : Int) < (n : Int) := by omega
            refine kS fun K hK => ?_
            refine sq 1 [(true, 0)] fun T hT => ?_
            refine tk ?_
            refine nlS hT HF fun vw5 HG => ?_
            clear hT T HF
            go_wp2
            refine hK.out _ _ ?_; clear hK K
            show Code.wp _ _ _ _ _
            have HF := HG; clear HG
            clear hlt9
            refine wp_seq ?_
            refine wp_cond_true (by rfl) ?_
            refine wp_skip ?_
            show Code.wp _ _ _ _ _
            refine wp_seq ?_
            refine wp_block ?_
            have lx90_0 := fun w' (h : Gr _ w') => HE0.out w' (Gr.trans HF.out.1 h)
            have lx90_1 := fun w' (h : Gr _ w') => HE1.out w' (Gr.trans HF.out.1 h)
            have lx90_2 := fun w' (h : Gr _ w') => HE2.out w' (Gr.trans HF.out.1 h)
            have lx90_3 := fun w' (h : Gr _ w') => HE3.out w' (Gr.trans HF.out.1 h)
            have lx90_4 := fun w' (h : Gr _ w') => HE4.out w' (Gr.trans HF.out.1 h)
            refine kS fun K hK => ?_
            refine sq 2 [(true, 0), (true, 1)] fun T hT => ?_
            iterate 2 refine tk ?_
            refine nlS hT HF fun vw6 HG => ?_
            clear hT T HF lx90_0 lx90_1 lx90_2 lx90_3 lx90_4
            go_wp2
            refine hK.out _ _ ?_; clear hK K
            show Code.wp _ _ _ _ _
            refine fH ((HG.out).al (b := vw6.heap.size) (by first | rfl | simp) (by decide)) fun Wx10 HF => ?_
            clear HG
            generalize vw6.heap.size = gx3 at *
            have lx2 := HF.out.c 1 rfl
            have lx3 := HF.out.c 2 rfl
            refine kS fun K hK => ?_
            refine sq 6 [(true, 0), (true, 1), (true, 2), (true, 3), (true, 4), (true, 5)] fun T hT => ?_
            iterate 2 refine tk ?_
            refine ck Tryz.call107 (fun w' hw => rjoin_bad (R1) (r) (M1) (mm) _ HC.out hM1 hmm om om om om) ?_
            iterate 3 refine tk ?_
            refine nlS hT HF fun vw7 HG => ?_
            clear hT T HF lx2 lx3
            go_wp2
            refine hK.out _ _ ?_; clear hK K
            show Code.wp _ _ _ _ _
            refine fH ((HG.out).al (b := vw7.heap.size) (by first | rfl | simp) (by decide)) fun Wx11 HF => ?_
            clear HG
            generalize vw7.heap.size = gx4 at *
            refine wp_seq ?_
            refine kS fun K hK => ?_
            refine sq 2 [(true, 0), (true, 1)] fun T hT => ?_
            iterate 2 refine tk ?_
            refine nlS hT HF fun vw8 HG => ?_
            clear hT T HF
            go_wp2
            refine hK.out _ _ ?_; clear hK K
            show Code.wp _ _ _ _ _
            have HF := HG; clear HG
            refine wp_cond_true (by rfl) ?_
            refine kS fun K hK => ?_
            refine sq 2 [(true, 0), (true, 1)] fun T hT => ?_
            iterate 2 refine tk ?_
            refine nlS hT HF fun vw9 HG => ?_
            clear hT T HF
            have lx0 := HG.out.c 0 rfl; have fx0 := HG.out.f 0 rfl
            have r0 := Gr.refl vw9
            go_wp2
            refine hK.out _ _ ?_; clear hK K
            show Code.wp _ _ _ _ _
            clear r0 lx0 fx0
            refine fH ((((HG.out).put2 0 0 rfl).put2 0 2 rfl).put 0 4 _ rfl) fun Wx13 HF => ?_
            clear HG
            refine wp_ret ?_
            try simp only [Exit.then, Exit.inBlock]
            have lx0 := HF.out.c 0 rfl
            have r0 := Gr.refl Wx13
            exact bodyPost_ret (v := .tuple #[(.agg #[.int .u64 0, .string ⟨#[]⟩, .bool false, .int .u64 0, .string ⟨#[]⟩]), .int .i64 6]) (by simp [results, Tryz.results29, go_sem, lx0 _ r0]) rfl ⟨rfl, HF.out.1⟩
    · rcases HRS.out with ⟨_, _, _, hz⟩ | ⟨b9, o9, c', hv, hb, hc⟩
      · omega
      injection hv with hv1 _ hv3
      subst hv1 hv3
      have hkn' : k < n := by omega
      obtain ⟨r, HR⟩ : ∃ x, Hid ((f k).1 = x) := ⟨_, Lib.hid rfl⟩
      obtain ⟨mm, HM⟩ : ∃ x, Hid ((f k).2 = x) := ⟨_, Lib.hid rfl⟩
      have HE0 : Hid (∀ w', Gr w w' → w'.cell? ⟨b9, o9 + k * 5, none⟩ = some (.int .u64 ((lo (Int.natAbs r) : Nat) : Int))) := Lib.hid (fun w' hw => (Below.cell hw (p := ⟨b9, o9 + k * 5, none⟩) hb).trans ((hc k hkn' 0 (by decide)).trans (by rw [← HR.out]; rfl)))
      have HE1 : Hid (∀ w', Gr w w' → w'.cell? ⟨b9, o9 + k * 5 + 1, none⟩ = some (.string (bg (Int.natAbs r)))) := Lib.hid (fun w' hw => (Below.cell hw (p := ⟨b9, o9 + k * 5 + 1, none⟩) hb).trans ((hc k hkn' 1 (by decide)).trans (by rw [← HR.out]; rfl)))
      have HE2 : Hid (∀ w', Gr w w' → w'.cell? ⟨b9, o9 + k * 5 + 2, none⟩ = some (.bool (decide (r < 0)))) := Lib.hid (fun w' hw => (Below.cell hw (p := ⟨b9, o9 + k * 5 + 2, none⟩) hb).trans ((hc k hkn' 2 (by decide)).trans (by rw [← HR.out]; rfl)))
      have HE3 : Hid (∀ w', Gr w w' → w'.cell? ⟨b9, o9 + k * 5 + 3, none⟩ = some (.int .u64 ((lo mm : Nat) : Int))) := Lib.hid (fun w' hw => (Below.cell hw (p := ⟨b9, o9 + k * 5 + 3, none⟩) hb).trans ((hc k hkn' 3 (by decide)).trans (by rw [← HM.out]; rfl)))
      have HE4 : Hid (∀ w', Gr w w' → w'.cell? ⟨b9, o9 + k * 5 + 4, none⟩ = some (.string (bg mm))) := Lib.hid (fun w' hw => (Below.cell hw (p := ⟨b9, o9 + k * 5 + 4, none⟩) hb).trans ((hc k hkn' 4 (by decide)).trans (by rw [← HM.out]; rfl)))
      clear hc hb
      have hkl : (k : Int) < (n : Int) := by omega
      have hwk : IntKind.i64.wrap ((k : Int) + 1) = (k : Int) + 1 := by rw [IntKind.wrap_i64]; omega
      by_cases h0 : mm = 0
      · have HM0 := Lib.hid h0
        obtain ⟨rfl, rfl, rfl⟩ := HV.out.1 ⟨k, hkn', by rw [HM.out]; exact h0⟩
        clear h0
        have hlt9 : (k : Int) < (n : Int) := by omega
        refine kS fun K hK => ?_
        refine sq 1 [(true, 0)] fun T hT => ?_
        refine tk ?_
        refine nlS hT HF fun vw3 HG => ?_
        clear hT T HF
        go_wp2
        refine hK.out _ _ ?_; clear hK K
        show Code.wp _ _ _ _ _
        have HF := HG; clear HG
        clear hlt9
        refine wp_seq ?_
        refine wp_cond_true (by rfl) ?_
        refine wp_skip ?_
        show Code.wp _ _ _ _ _
        refine wp_seq ?_
        refine wp_block ?_
        have lx90_0 := fun w' (h : Gr _ w') => HE0.out w' (Gr.trans HF.out.1 h)
        have lx90_1 := fun w' (h : Gr _ w') => HE1.out w' (Gr.trans HF.out.1 h)
        have lx90_2 := fun w' (h : Gr _ w') => HE2.out w' (Gr.trans HF.out.1 h)
        have lx90_3 := fun w' (h : Gr _ w') => HE3.out w' (Gr.trans HF.out.1 h)
        have lx90_4 := fun w' (h : Gr _ w') => HE4.out w' (Gr.trans HF.out.1 h)
        refine kS fun K hK => ?_
        refine sq 2 [(true, 0), (true, 1)] fun T hT => ?_
        iterate 2 refine tk ?_
        refine nlS hT HF fun vw4 HG => ?_
        clear hT T HF lx90_0 lx90_1 lx90_2 lx90_3 lx90_4
        go_wp2
        refine hK.out _ _ ?_; clear hK K
        show Code.wp _ _ _ _ _
        refine fH ((HG.out).al (b := vw4.heap.size) (by first | rfl | simp) (by decide)) fun Wx4 HF => ?_
        clear HG
        generalize vw4.heap.size = gx3 at *
        have hd1 : decide (mm = 0) = true := decide_eq_true (by first | exact ok | exact HM0.out)
        have lx3 := HF.out.c 2 rfl
        refine kS fun K hK => ?_
        refine sq 4 [(true, 0), (true, 1), (true, 2), (true, 3)] fun T hT => ?_
        iterate 4 refine tk ?_
        refine nlS hT HF fun vw5 HG => ?_
        clear hT T HF lx3
        go_wp2
        refine hK.out _ _ ?_; clear hK K
        show Code.wp _ _ _ _ _
        have HF := HG; clear HG
        clear hd1
        refine wp_cond_true (by rfl) ?_
        refine kS fun K hK => ?_
        refine sq 1 [(true, 0)] fun T hT => ?_
        refine tk ?_
        refine nlS hT HF fun vw6 HG => ?_
        clear hT T HF
        have lx0 := HG.out.c 0 rfl; have fx0 := HG.out.f 0 rfl
        have r0 := Gr.refl vw6
        go_wp2
        refine hK.out _ _ ?_; clear hK K
        show Code.wp _ _ _ _ _
        clear r0 lx0 fx0
        refine fH ((((HG.out).put2 0 0 rfl).put2 0 2 rfl).put 0 4 _ rfl) fun Wx6 HF => ?_
        clear HG
        refine wp_ret ?_
        try simp only [Exit.then, Exit.inBlock]
        have lx0 := HF.out.c 0 rfl
        have r0 := Gr.refl Wx6
        exact bodyPost_ret (v := .tuple #[(.agg #[.int .u64 0, .string ⟨#[]⟩, .bool false, .int .u64 0, .string ⟨#[]⟩]), .int .i64 5]) (by simp [results, Tryz.results29, go_sem, lx0 _ r0]) rfl ⟨rfl, HF.out.1⟩
      · have HM0 := Lib.hid h0
        have HPK2 : Hid (∀ i, i < k + 1 → 0 < (f i).2) := Lib.hid (fun i hi => by
          rcases Nat.lt_succ_iff_lt_or_eq.1 hi with h | rfl
          · exact HPK.out i h
          · rw [HM.out]; omega)
        clear h0
        have hlt9 : (k : Int) < (n : Int) := by omega
        refine kS fun K hK => ?_
        refine sq 1 [(true, 0)] fun T hT => ?_
        refine tk ?_
        refine nlS hT HF fun vw3 HG => ?_
        clear hT T HF
        go_wp2
        refine hK.out _ _ ?_; clear hK K
        show Code.wp _ _ _ _ _
        have HF := HG; clear HG
        clear hlt9
        refine wp_seq ?_
        refine wp_cond_true (by rfl) ?_
        refine wp_skip ?_
        show Code.wp _ _ _ _ _
        refine wp_seq ?_
        refine wp_block ?_
        have lx90_0 := fun w' (h : Gr _ w') => HE0.out w' (Gr.trans HF.out.1 h)
        have lx90_1 := fun w' (h : Gr _ w') => HE1.out w' (Gr.trans HF.out.1 h)
        have lx90_2 := fun w' (h : Gr _ w') => HE2.out w' (Gr.trans HF.out.1 h)
        have lx90_3 := fun w' (h : Gr _ w') => HE3.out w' (Gr.trans HF.out.1 h)
        have lx90_4 := fun w' (h : Gr _ w') => HE4.out w' (Gr.trans HF.out.1 h)
        refine kS fun K hK => ?_
        refine sq 2 [(true, 0), (true, 1)] fun T hT => ?_
        iterate 2 refine tk ?_
        refine nlS hT HF fun vw4 HG => ?_
        clear hT T HF lx90_0 lx90_1 lx90_2 lx90_3 lx90_4
        go_wp2
        refine hK.out _ _ ?_; clear hK K
        show Code.wp _ _ _ _ _
        refine fH ((HG.out).al (b := vw4.heap.size) (by first | rfl | simp) (by decide)) fun Wx4 HF => ?_
        clear HG
        generalize vw4.heap.size = gx3 at *
        have hd1 : decide (mm = 0) = false := decide_eq_false (by first | exact ok | exact HM0.out)
        have lx3 := HF.out.c 2 rfl
        refine kS fun K hK => ?_
        refine sq 4 [(true, 0), (true, 1), (true, 2), (true, 3)] fun T hT => ?_
        iterate 4 refine tk ?_
        refine nlS hT HF fun vw5 HG => ?_
        clear hT T HF lx3
        go_wp2
        refine hK.out _ _ ?_; clear hK K
        show Code.wp _ _ _ _ _
        have HF := HG; clear HG
        clear hd1
        refine wp_cond_false (by rfl) ?_
        refine wp_skip ?_
        show Code.wp _ _ _ _ _
        refine kL fun K hK => ?_
        refine sq 2 [(true, 0), (true, 1)] fun T hT => ?_
        iterate 2 refine tk ?_
        refine nlS hT HF fun vw6 HG => ?_
        clear hT T HF
        go_wp2
        refine hK.out _ _ ?_; clear hK K
        try simp only [Exit.then, Exit.inBlock]
        have HF := Lib.hid (HG.out); clear HG
        refine hj0_ _ _ ?_
        go_roundg kk
        case measure => omega
        case rel => exact ⟨k + 1, rfl, by omega, HPK2, Lib.hid ((HF.out).er 2)⟩
theorem rchinese (v : Value) (n : Nat) (f : Nat → Int × Nat) (R : Int) (M : Nat) (cc : Int) (w : World) (h : chv f n R M cc) (HRS : Rs w v n f) (hn : n ≤ 9) (HSZ : ∀ i, i < n → wl (f i).1.natAbs ≤ 100 ∧ wl (f i).2 ≤ 10) :
    Calls Tryz.prog 29 #[v] w fun e w' => e = .returned (.tuple #[.agg #[.int .u64 ((lo (Int.natAbs (R)) : Nat) : Int), .string (bg (Int.natAbs (R))), .bool (decide ((R) < 0)), .int .u64 ((lo (M) : Nat) : Int), .string (bg (M))], .int .i64 cc]) ∧ Below w.heap.size w w' := rchinese0 v n f R M cc w (Lib.hid h) (Lib.hid HRS) hn (Lib.hid HSZ)

end Go.Proofs.YtobojnodohjiaaaGreatDoor
