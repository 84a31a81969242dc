
/- ReconsPrimes: the law's walk. -/
import Derived.Test.YtobojnodohjiaaaGreatDoorModB
import Derived.Test.YtobojnodohjiaaaGreatDoorRecW
import Derived.Test.YtobojnodohjiaaaGreatDoorPL
import Derived.Test.YtobojnodohjiaaaGreatDoorRsP
namespace Go.Proofs.YtobojnodohjiaaaGreatDoor
open Go.RowKit
set_option linter.unusedSimpArgs false
set_option linter.unusedVariables false
attribute [local go_sem ↓] Go.wp_at_zero Go.wp_at_succ
attribute [local go_sem ↓] eq_nat eq_nat_zero eq_int eq_frac eq_frac_zero
attribute [local go_sem] Instr.field asAgg
set_option maxRecDepth 100000 in
set_option maxHeartbeats 16000000 in
theorem primes_main (n0 d0 : Int) (v : Value) (k : Nat) (fw : Nat → Nat) (q : Rat) (w : World) (h1_0 : -9223372036854775808 ≤ n0) (h2_0 : n0 ≤ 9223372036854775807) (h3_0 : 0 ≤ d0) (h4_0 : d0 ≤ 4294967295) (HWA : Hid (Wa w v k fw)) (hk8 : k ≤ 8) (HQ : Hid (qv n0 d0 = q)) (hsq : sz q ≤ 4) (HT : Hid (Tab w)) :
    Calls Tryz.prog 10 #[.agg #[.int .i64 n0, .int .u32 d0], v] w fun e w' => e = .returned (.bool true) ∧ Below w.heap.size w w' := by
  obtain ⟨ao, c, rfl⟩ := HWA.out.slice
  obtain ⟨i0, hi, hz0, hz1, hz2⟩ := info_parts info_Rest
  have hw1 : IntKind.i64.wrap 1 = 1 := by decide
  go_enter Tryz.func10, Tryz.ntmps10
  have HF := Lib.hid (hp0 w)
  refine kS fun K hK => ?_
  refine wp_region_lit ?_
  go_wp2
  refine hK.out _ _ ?_; clear hK K
  show Code.wp _ _ _ _ _
  refine fH ((HF.out).al (b := w.heap.size) (by first | rfl | simp) (by decide)) fun Wx0 HG => ?_
  clear HF; have HF := HG; clear HG
  refine wp_seq ?_
  have hn8 : ¬ 8 < (k : Int) := by omega
  refine kS fun K hK => ?_
  refine sq 3 [(true, 0), (true, 1), (true, 2)] fun T hT => ?_
  iterate 3 refine tk ?_
  refine nlS hT HF fun vw1 HG => ?_
  clear hT T HF
  go_wp2
  refine hK.out _ _ ?_; clear hK K
  show Code.wp _ _ _ _ _
  have HF := HG; clear HG
  clear hn8
  refine wp_cond_false (by rfl) ?_
  refine wp_skip ?_
  show Code.wp _ _ _ _ _
  have HZ1 : Hid (qv (n0) (d0) = q) := Lib.hid (HQ.out)
  have su1 : sz (q) ≤ 4 := by have e := HZ1.out; first | omega | (rw [← e]; exact sz_qv (n0) (d0) om om om om)
  have lx0 := HF.out.c 0 rfl
  refine kS fun K hK => ?_
  refine sq 2 [(true, 0), (true, 1)] fun T hT => ?_
  refine tk ?_
  refine ck Tryz.call50 (fun w' hw => qv_any (n0) (d0) (q) _ HZ1.out om om om om) ?_
  refine nlS hT HF fun vw2 HG => ?_
  clear hT T HF lx0
  go_wp2
  refine hK.out _ _ ?_; clear hK K
  show Code.wp _ _ _ _ _
  refine fH (((HG.out).al (b := vw2.heap.size) (by first | rfl | simp) (by decide)).er 0) fun Wx3 HF => ?_
  clear HG
  generalize vw2.heap.size = gx2 at *
  refine kS fun K hK => ?_
  refine wp_region_lit ?_
  go_wp2
  refine hK.out _ _ ?_; clear hK K
  show Code.wp _ _ _ _ _
  refine fH (HF.out) fun Wx4 HG => ?_
  clear HF; have HF := HG; clear HG
  refine wp_seq ?_
  refine kS fun K hK => ?_
  refine wp_region_lit ?_
  go_wp2
  refine hK.out _ _ ?_; clear hK K
  show Code.wp _ _ _ _ _
  refine fH (HF.out) fun Wx5 HG => ?_
  clear HF; have HF := HG; clear HG
  refine wp_block ?_
  go_loopg [6, 7] k (fun kk u iv wr => ∃ (i n : Nat) (F : Nat → Int × Nat), iv = .int .i64 (i : Int) ∧ i + kk = k ∧ n ≤ i ∧ (n = 0 → u = .slice none 0 0) ∧ Hid (prm q F n) ∧ Hid (HP w wr [Sum.inl (gx2, 36, #[.int .u64 ((lo (Int.natAbs ((q).num)) : Nat) : Int), .string (bg (Int.natAbs ((q).num))), .bool (decide (((q).num) < 0)), .int .u64 ((lo ((q).den - 1) : Nat) : Int), .string (bg ((q).den - 1))])]) ∧ Hid (wr.ownsRow w.heap.size 71 5 u n (rcs F n)) ∧ Hid (Apart [Sum.inl (gx2, 36, #[.int .u64 ((lo (Int.natAbs ((q).num)) : Nat) : Int), .string (bg (Int.natAbs ((q).num))), .bool (decide (((q).num) < 0)), .int .u64 ((lo ((q).den - 1) : Nat) : Int), .string (bg ((q).den - 1))])] u))
  case atStart => exact ⟨0, 0, fun _ => (0, 1), rfl, by omega, Nat.le_refl _, fun _ => rfl, Lib.hid (fun j h => absurd h (Nat.not_lt_zero _)), HF, Lib.hid (World.ownsRow_nil _ _ _ _), Lib.hid (fun i x hx e => by cases e)⟩
  case round =>
    rename_i J_ K_ hj1_ hj0_
    clear HF
    obtain ⟨i, n, F, rfl, hik, hni, hu0, HPR, HF, HWR, HAP⟩ := hrel
    rcases gk with _ | kk
    · obtain rfl : k = i := by omega
      have HFS : Hid (Rs wr u6 n F) := Lib.hid (by
        rcases Nat.eq_zero_or_pos n with h | h
        · rw [hu0 h, h]; exact rs0 _ _
        · obtain ⟨gR, cur, h1, h2⟩ := own_hp HF.out HWR.out HAP.out h (by decide)
          exact rowv_rs h2 ((h1.bx 1 rfl).gr (Gr.refl _)))
      have BX2 := Lib.hid (HF.out.bx 0 rfl)
      have HBW := Lib.hid HF.out.1
      replace HT := Lib.hid (HT.out.gr HBW.out)
      obtain ⟨R, M, hcv, hft, hwM, hwR⟩ := prm_res HPR.out
      have HCV := Lib.hid hcv
      have HFT := Lib.hid hft
      have HSZ : Hid (∀ j, j < n → wl (F j).1.natAbs ≤ 100 ∧ wl (F j).2 ≤ 10) := Lib.hid (fun j hj => by
        obtain ⟨a1, a2, a3, a4, _⟩ := HPR.out j hj
        exact ⟨Nat.le_trans (wl_small (by omega)) (by decide), Nat.le_trans (wl_small a2) (by decide)⟩)
      obtain ⟨z2, b2, hb2⟩ := bk_ex R M
      have HB2 := Lib.hid hb2
      clear hcv hft hb2 HF HWR HAP hu0 hik HPR
      have HF := Lib.hid (hp0 wr)
      refine wp_seq ?_
      have hlt9 : ¬ (k : Int) < (k : Int) := by omega
      refine kS fun K hK => ?_
      refine sq 4 [(true, 0), (true, 1), (true, 2), (true, 3)] fun T hT => ?_
      iterate 4 refine tk ?_
      refine nlS hT HF fun vw3 HG => ?_
      clear hT T HF
      go_wp2
      refine hK.out _ _ ?_; clear hK K
      show Code.wp _ _ _ _ _
      have HF := HG; clear HG
      clear hlt9
      refine wp_cond_false (by rfl) ?_
      refine wp_exit ?_
      show Code.wp _ _ _ _ _
      have HB := HPb HF
      have su2a : wl (Int.natAbs (R)) ≤ 20 := om
      have su2b : wl (M) ≤ 20 := om
      refine kS fun K hK => ?_
      refine sq 5 [(true, 0), (true, 1), (true, 2), (true, 3), (true, 4)] fun T hT => ?_
      refine tk ?_
      refine ck Tryz.call29 (fun w' hw => rchinese _ n F (R) (M) (0) _ HCV.out (HFS.out.gr (Gr.trans HB.out hw)) (by omega) (HSZ.out)) ?_
      iterate 3 refine tk ?_
      refine nlS hT HF fun vw4 HG => ?_
      clear hT T HF HB
      go_wp2
      refine hK.out _ _ ?_; clear hK K
      show Code.wp _ _ _ _ _
      refine fH ((HG.out).al (b := vw4.heap.size) (by first | rfl | simp) (by decide)) fun Wx12 HF => ?_
      clear HG
      generalize vw4.heap.size = gx3 at *
      refine wp_seq ?_
      have lx3 := HF.out.c 0 rfl
      have lx2 := (BX2.out.gr HF.out.1).cells
      refine kS fun K hK => ?_
      refine sq 11 [(true, 0), (true, 1), (true, 2), (true, 3), (true, 4), (true, 5), (true, 6), (true, 7), (true, 8), (true, 9), (true, 10)] fun T hT => ?_
      iterate 8 refine tk ?_
      refine ck Tryz.call33 (fun w' hw => rFits (q) (R) (M) true _ (decide_eq_true (HFT.out)) om om om) ?_
      iterate 2 refine tk ?_
      refine nlS hT HF fun vw5 HG => ?_
      clear hT T HF lx3 lx2
      go_wp2
      refine hK.out _ _ ?_; clear hK K
      show Code.wp _ _ _ _ _
      have HF := HG; clear HG
      refine wp_cond_false (by rfl) ?_
      refine wp_skip ?_
      show Code.wp _ _ _ _ _
      have su3 : sz (z2) ≤ 20 := bk_size (HB2.out) om (by decide)
      have lx3 := HF.out.c 0 rfl
      refine kS fun K hK => ?_
      refine sq 8 [(true, 0), (true, 1), (true, 2), (true, 3), (true, 4), (true, 5), (true, 6), (true, 7)] fun T hT => ?_
      iterate 4 refine tk ?_
      refine ck Tryz.call22 (fun w' hw => rback (R) (M) (z2) b2 _ (HB2.out) om om) ?_
      iterate 3 refine tk ?_
      refine nlS hT HF fun vw6 HG => ?_
      clear hT T HF lx3
      go_wp2
      refine hK.out _ _ ?_; clear hK K
      show Code.wp _ _ _ _ _
      refine fH ((HG.out).al (b := vw6.heap.size) (by first | rfl | simp) (by decide)) fun Wx15 HF => ?_
      clear HG
      generalize vw6.heap.size = gx4 at *
      by_cases hfar : rfar q M
      · have HFA := Lib.hid hfar
        obtain ⟨rfl, rfl⟩ : q = z2 ∧ true = b2 := by have e9 := bk_yes HB2.out hfar HFT.out; exact ⟨e9.1.symm, e9.2.symm⟩
        clear hfar
        have HB := HPb HF
        have lx3 := HF.out.c 0 rfl
        have lx4 := HF.out.c 1 rfl
        have lx2 := (BX2.out.gr HF.out.1).cells
        refine kS fun K hK => ?_
        refine sq 17 [(true, 0), (true, 1), (true, 2), (true, 3), (true, 4), (true, 5), (true, 6), (true, 7), (true, 8), (true, 9), (true, 10), (true, 11), (true, 12), (true, 13), (true, 14), (true, 15), (true, 16)] fun T hT => ?_
        iterate 3 refine tk ?_
        refine ck Tryz.call34 (fun w' hw => rFar (q) (M) true _ (decide_eq_true (HFA.out)) om om) ?_
        iterate 10 refine tk ?_
        refine ck Tryz.call27 (fun w' hw => works7_any _ (Lib.hid (HT.out.gr (Gr.trans HB.out hw)))) ?_
        iterate 2 refine tk ?_
        refine nlS hT HF fun vw7 HG => ?_
        clear hT T HF lx3 lx4 lx2 HB
        go_wp2
        refine hK.out _ _ ?_; clear hK K
        show Code.wp _ _ _ _ _
        refine fH (((HG.out).er 1).er 0) fun Wx16 HF => ?_
        clear HG
        refine wp_ret ?_
        try simp only [Exit.then, Exit.inBlock]
        exact bodyPost_ret (v := .bool true) (by simp [results, Tryz.results10, go_sem]) rfl ⟨rfl, HBW.out.trans (HF.out.1.mono HBW.out.size)⟩
      · have HFA := Lib.hid hfar
        clear hfar
        have HB := HPb HF
        have lx3 := HF.out.c 0 rfl
        have lx4 := HF.out.c 1 rfl
        have lx2 := (BX2.out.gr HF.out.1).cells
        refine kS fun K hK => ?_
        refine sq 17 [(true, 0), (true, 1), (true, 2), (true, 3), (true, 4), (true, 5), (true, 6), (true, 7), (true, 8), (true, 9), (true, 10), (true, 11), (true, 12), (true, 13), (true, 14), (true, 15), (true, 16)] fun T hT => ?_
        iterate 3 refine tk ?_
        refine ck Tryz.call34 (fun w' hw => rFar (q) (M) false _ (decide_eq_false (HFA.out)) om om) ?_
        iterate 2 refine tk ?_
        iterate 6 refine sk ?_
        iterate 2 refine tk ?_
        refine ck Tryz.call27 (fun w' hw => works7_any _ (Lib.hid (HT.out.gr (Gr.trans HB.out hw)))) ?_
        iterate 2 refine tk ?_
        refine nlS hT HF fun vw7 HG => ?_
        clear hT T HF lx3 lx4 lx2 HB
        go_wp2
        refine hK.out _ _ ?_; clear hK K
        show Code.wp _ _ _ _ _
        refine fH (((HG.out).er 1).er 0) fun Wx16 HF => ?_
        clear HG
        refine wp_ret ?_
        try simp only [Exit.then, Exit.inBlock]
        exact bodyPost_ret (v := .bool true) (by simp [results, Tryz.results10, go_sem]) rfl ⟨rfl, HBW.out.trans (HF.out.1.mono HBW.out.size)⟩
    · rcases HWA.out with ⟨_, _, _, hz⟩ | ⟨b9, o9, c', hv, hb, hc⟩
      · omega
      injection hv with hv1 _ hv3
      subst hv1 hv3
      have hkn' : i < k := by omega
      obtain ⟨lw, HLW⟩ : ∃ x, Hid (fw i = x) := ⟨_, Lib.hid rfl⟩
      have HE0 : Hid (∀ w', Gr w w' → w'.cell? ⟨b9, o9 + i, none⟩ = some (.int .u32 ((lw : Nat) : Int))) := Lib.hid (fun w' hw => (Below.cell hw (p := ⟨b9, o9 + i, none⟩) hb).trans (by rw [← HLW.out]; exact hc i hkn'))
      clear hc hb
      have hkl : (i : Int) < (k : Int) := by omega
      have hwi : IntKind.i64.wrap ((i : Int) + 1) = (i : Int) + 1 := by rw [IntKind.wrap_i64]; omega
      obtain ⟨p, HPT⟩ : ∃ x, Hid (ptab (lw % 13) = x) := ⟨_, Lib.hid rfl⟩
      obtain ⟨hp, hp2⟩ : 0 < p ∧ p < 4294967296 := by rw [← HPT.out]; exact ptab_pos _
      have hwp6 : IntKind.u64.wrap ((p : Nat) : Int) = ((p : Nat) : Int) := u64_small (by omega)
      obtain ⟨v, b, ho⟩ := ofs_ex q p hp
      have HOF := Lib.hid ho
      cases b
      · obtain rfl : v = 0 := by rcases ho with ⟨h, _⟩ | ⟨_, h, _⟩; cases h; exact h
        clear ho
        refine wp_seq ?_
        refine kS fun K hK => ?_
        go_wp2
        refine hK.out _ _ ?_; clear hK K
        show Code.wp _ _ _ _ _
        refine wp_cond_true (by rfl) ?_
        refine wp_skip ?_
        show Code.wp _ _ _ _ _
        refine wp_seq ?_
        refine wp_block ?_
        refine kS fun K hK => ?_
        have e0 := HE0.out wr HF.out.1
        go_wp2_with fail
        refine (p6_any lw p wr HPT.out).mono ?_
        rintro e wa ⟨rfl, hb1⟩
        have HF1 := Lib.hid (HF.out.gr hb1)
        have HR1 := Lib.hid (own_gr HWR.out hb1)
        clear hb1 e0 HF HWR
        have HF := HF1
        have HWR := HR1
        clear HF1 HR1
        go_wp2_with fail
        refine hK.out _ _ ?_; clear hK K
        show Code.wp _ _ _ _ _
        refine kS fun K hK => ?_
        have lx0 := HF.out.c 0 rfl
        have r0 := Gr.refl wa
        go_wp2_with fail
        refine (mof q p 0 false wa HOF.out hp hp2 (by omega)).mono ?_
        rintro e wb ⟨rfl, hb1⟩
        have HF1 := Lib.hid (HF.out.gr hb1)
        have HR1 := Lib.hid (own_gr HWR.out hb1)
        clear hb1 lx0 r0 HF HWR
        have HF := HF1
        have HWR := HR1
        clear HF1 HR1
        go_wp2_with fail
        refine hK.out _ _ ?_; clear hK K
        show Code.wp _ _ _ _ _
        refine kS fun K hK => ?_
        go_wp2
        refine hK.out _ _ ?_; clear hK K
        show Code.wp _ _ _ _ _
        refine wp_cond_false (by rfl) ?_
        refine wp_skip ?_
        show Code.wp _ _ _ _ _
        refine kL fun K hK => ?_
        go_wp2
        refine hK.out _ _ ?_; clear hK K
        try simp only [Exit.then, Exit.inBlock]
        refine hj0_ _ _ ?_
        go_roundg kk
        case measure => omega
        case rel => exact ⟨i + 1, n, F, rfl, by omega, by omega, hu0, HPR, HF, HWR, HAP⟩
      · have hvp : v < p := by rcases ho with ⟨_, _, h, _⟩ | ⟨h, _⟩; exact h; cases h
        have HPR2 := Lib.hid (prm_add HPR.out hp hp2 ho)
        have hwv : IntKind.i64.wrap ((v : Nat) : Int) = ((v : Nat) : Int) := i64_small (by omega) (by omega)
        clear ho
        refine wp_seq ?_
        refine kS fun K hK => ?_
        go_wp2
        refine hK.out _ _ ?_; clear hK K
        show Code.wp _ _ _ _ _
        refine wp_cond_true (by rfl) ?_
        refine wp_skip ?_
        show Code.wp _ _ _ _ _
        refine wp_seq ?_
        refine wp_block ?_
        refine kS fun K hK => ?_
        have e0 := HE0.out wr HF.out.1
        go_wp2_with fail
        refine (p6_any lw p wr HPT.out).mono ?_
        rintro e wa ⟨rfl, hb1⟩
        have HF1 := Lib.hid (HF.out.gr hb1)
        have HR1 := Lib.hid (own_gr HWR.out hb1)
        clear hb1 e0 HF HWR
        have HF := HF1
        have HWR := HR1
        clear HF1 HR1
        go_wp2_with fail
        refine hK.out _ _ ?_; clear hK K
        show Code.wp _ _ _ _ _
        refine kS fun K hK => ?_
        have lx0 := HF.out.c 0 rfl
        have r0 := Gr.refl wa
        go_wp2_with fail
        refine (mof q p v true wa HOF.out hp hp2 (by omega)).mono ?_
        rintro e wb ⟨rfl, hb1⟩
        have HF1 := Lib.hid (HF.out.gr hb1)
        have HR1 := Lib.hid (own_gr HWR.out hb1)
        clear hb1 lx0 r0 HF HWR
        have HF := HF1
        have HWR := HR1
        clear HF1 HR1
        go_wp2_with fail
        refine hK.out _ _ ?_; clear hK K
        show Code.wp _ _ _ _ _
        refine kS fun K hK => ?_
        go_wp2
        refine hK.out _ _ ?_; clear hK K
        show Code.wp _ _ _ _ _
        refine wp_cond_true (by rfl) ?_
        refine kL fun K hK => ?_
        go_wp2_with fail
        refine (iof_any ((v : Nat) : Int) wb (by omega) (by omega)).mono ?_
        rintro e wc ⟨rfl, hb1⟩
        have HF1 := Lib.hid (HF.out.gr hb1)
        have HR1 := Lib.hid (own_gr HWR.out hb1)
        clear hb1 HF HWR
        go_wp2_with fail
        refine (nzof p wc (by omega)).mono ?_
        rintro e wd ⟨rfl, hb1⟩
        have HF := Lib.hid (HF1.out.gr hb1)
        have HWR := Lib.hid (own_gr HR1.out hb1)
        clear hb1 HF1 HR1
        have HN := Lib.hid (show ∀ j u, [.int .u64 ((lo (Int.natAbs (((v : Nat) : Int))) : Nat) : Int), .string (bg (Int.natAbs (((v : Nat) : Int)))), .bool (decide ((((v : Nat) : Int)) < 0)), .int .u64 ((lo (p) : Nat) : Int), .string (bg (p))][j]? = some u → (wd.alloc (.cells #[.int .u64 ((lo (Int.natAbs (((v : Nat) : Int))) : Nat) : Int), .string (bg (Int.natAbs (((v : Nat) : Int)))), .bool (decide ((((v : Nat) : Int)) < 0)), .int .u64 ((lo (p) : Nat) : Int), .string (bg (p))] 71)).cell? ((⟨wd.heap.size, 0, none⟩ : Addr).add j) = some u from fun j u hj => by
          match j, hj with
          | 0, hj => simp at hj; subst hj; simp [Addr.add, go_sem]
          | 1, hj => simp at hj; subst hj; simp [Addr.add, go_sem]
          | 2, hj => simp at hj; subst hj; simp [Addr.add, go_sem]
          | 3, hj => simp at hj; subst hj; simp [Addr.add, go_sem]
          | 4, hj => simp at hj; subst hj; simp [Addr.add, go_sem])
        have HF2 := Lib.hid (HF.out.gr (Gr.alloc _ (.cells #[.int .u64 ((lo (Int.natAbs (((v : Nat) : Int))) : Nat) : Int), .string (bg (Int.natAbs (((v : Nat) : Int)))), .bool (decide ((((v : Nat) : Int)) < 0)), .int .u64 ((lo (p) : Nat) : Int), .string (bg (p))] 71)))
        have HW2 := Lib.hid (own_gr HWR.out (Gr.alloc _ (.cells #[.int .u64 ((lo (Int.natAbs (((v : Nat) : Int))) : Nat) : Int), .string (bg (Int.natAbs (((v : Nat) : Int)))), .bool (decide ((((v : Nat) : Int)) < 0)), .int .u64 ((lo (p) : Nat) : Int), .string (bg (p))] 71)))
        clear HF HWR
        go_wp2_with (first | (at_builtin; refine apX HF2 HW2 HAP (.tmp 39) (.tmp 47) 67 hi hz0 hz1 hz2 rfl Tryz.underlying67 (m := 1) (c := 1) (ad := ⟨wd.heap.size, 0, none⟩) (news := [.int .u64 ((lo (Int.natAbs (((v : Nat) : Int))) : Nat) : Int), .string (bg (Int.natAbs (((v : Nat) : Int)))), .bool (decide ((((v : Nat) : Int)) < 0)), .int .u64 ((lo (p) : Nat) : Int), .string (bg (p))]) (by unfold maxLen; omega) (by omega) (by intro i v m h; rcases i with _ | _ | i <;> simp at h) (by simp [Act.eval, Act.put]) (by simp [Act.eval, Act.put]) HN rfl ?c1 (by decide) rfl rfl ?_) | fail)
        case c1 => intro u hu; simp at hu; rcases hu with rfl | rfl | rfl | rfl | rfl <;> rfl
        intro u' we HF3 HW3 HA3
        clear HF2 HW2 HAP HN
        have HF := HF3
        have HWR := HW3
        have HAP := HA3
        clear HF3 HW3 HA3
        go_wp2_with fail
        refine hK.out _ _ ?_; clear hK K
        show Code.wp _ _ _ _ _
        refine kL fun K hK => ?_
        go_wp2
        refine hK.out _ _ ?_; clear hK K
        try simp only [Exit.then, Exit.inBlock]
        refine hj0_ _ _ ?_
        go_roundg kk
        case measure => omega
        case rel => exact ⟨i + 1, n + 1, _, rfl, by omega, by omega, fun h => by omega, HPR2, HF, Lib.hid (by rw [rcs_add1]; exact HWR.out), HAP⟩

set_option maxRecDepth 100000 in
set_option maxHeartbeats 4000000 in
theorem primes_big (n0 d0 : Int) (v : Value) (k : Nat) (fw : Nat → Nat) (w : World) (HWA : Hid (Wa w v k fw)) (hk : 8 < k) (HT : Hid (Tab w)) :
    Calls Tryz.prog 10 #[.agg #[.int .i64 n0, .int .u32 d0], v] w fun e w' => e = .returned (.bool true) ∧ Below w.heap.size w w' := by
  obtain ⟨ao, c, rfl⟩ := HWA.out.slice
  have hn' : (8 : Int) < (k : Int) := by omega
  go_enter Tryz.func10, Tryz.ntmps10
  go_wp2_with fail
  refine (works7_any _ (Lib.hid (HT.out.gr ((Gr.refl w).trans (Gr.alloc _ _))))).mono ?_
  rintro e V1 ⟨rfl, hb⟩
  have HGf := Lib.hid (((Below.refl w.heap.size w).alloc (Nat.le_refl _) _).trans (hb.mono (by simp)))
  clear hb
  go_wp2_with fail
  exact bodyPost_ret (v := .bool true) (by simp [results, Tryz.results10, go_sem]) rfl ⟨rfl, HGf.out⟩
theorem primes_law (n0 d0 : Int) (v : Value) (k : Nat) (fw : Nat → Nat) (w : World) (h1_0 : -9223372036854775808 ≤ n0) (h2_0 : n0 ≤ 9223372036854775807) (h3_0 : 0 ≤ d0) (h4_0 : d0 ≤ 4294967295) (HWA : Hid (Wa w v k fw)) (HT : Hid (Tab w)) :
    Calls Tryz.prog 10 #[.agg #[.int .i64 n0, .int .u32 d0], v] w fun e w' => e = .returned (.bool true) ∧ Below w.heap.size w w' := by
  by_cases hk : k ≤ 8
  · exact primes_main n0 d0 v k fw _ w h1_0 h2_0 h3_0 h4_0 HWA hk (Lib.hid rfl) (sz_qv n0 d0 h1_0 h2_0 h3_0 h4_0) HT
  · exact primes_big n0 d0 v k fw w HWA (by omega) HT

end Go.Proofs.YtobojnodohjiaaaGreatDoor
