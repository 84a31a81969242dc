
/- ReconsChinese: the law's walk. -/
import Derived.Test.YtobojnodohjiaaaGreatDoorOwnP
import Derived.Test.YtobojnodohjiaaaGreatDoorRr9
import Derived.Test.YtobojnodohjiaaaGreatDoorRecW
import Derived.Test.YtobojnodohjiaaaGreatDoorRecBack
import Derived.Test.YtobojnodohjiaaaGreatDoorQs
namespace Go.Proofs.YtobojnodohjiaaaGreatDoor
open Go.RowKit
set_option linter.unusedSimpArgs false
set_option linter.unusedVariables false
attribute [local go_sem ↓] Go.wp_at_zero Go.wp_at_succ
attribute [local go_sem ↓] eq_nat eq_nat_zero eq_int eq_frac eq_frac_zero
attribute [local go_sem] Instr.field asAgg
attribute [local go_sem ↓] eq_rest_self
set_option maxRecDepth 100000 in
set_option maxHeartbeats 16000000 in
theorem chin_main (v : Value) (n : Nat) (N D : Nat → Int) (f : Nat → Int × Nat) (R : Int) (M : Nat) (cc : Int) (w : World) (HQ : Hid (Qs w v n N D)) (HQB : Hid (Qb n N D)) (hn4 : n ≤ 4) (Hf : Hid (∀ i, (Int.tmod (N i) 101, (Int.tmod (D i) 13).toNat) = f i)) (HCV : Hid (chv f n R M cc)) (hR0 : 0 ≤ R) (hR1 : R ≤ 100000000) (hM1 : M ≤ 100000000) (hwR : wl R.natAbs ≤ 1) (hwM : wl M ≤ 1) (HSZ : Hid (∀ i, i < n → wl (f i).1.natAbs ≤ 100 ∧ wl (f i).2 ≤ 10)) (HSI : Hid (∀ i, i < n → -100 ≤ (f i).1 ∧ (f i).1 ≤ 100 ∧ (f i).2 ≤ 12)) (HT : Hid (Tab w)) :
    Calls Tryz.prog 5 #[v] w fun e w' => e = .returned (.bool true) ∧ Below w.heap.size w w' := by
  obtain ⟨ao, c, rfl⟩ := HQ.out.slice
  obtain ⟨i0, hi, hz0, hz1, hz2⟩ := info_parts info_Rest
  obtain ⟨i1, ji, jz0, jz1, jz2⟩ := info_parts info_int64
  have hwM6 : IntKind.u64.wrap ((M : Nat) : Int) = ((M : Nat) : Int) := u64_small (by omega)
  go_enter Tryz.func5, Tryz.ntmps5
  have HF := Lib.hid (hp0 w)
  refine kS fun K hK => ?_
  refine wp_region_lit ?_
  go_wp2
  refine hK.out _ _ ?_; clear hK K
  show Code.wp _ _ _ _ _
  refine fH (HF.out) fun Wx0 HG => ?_
  clear HF; have HF := HG; clear HG
  refine wp_seq ?_
  have hnx4 : ¬ 4 < (n : Int) := by omega
  refine kS fun K hK => ?_
  refine sq 3 [(true, 0), (true, 1), (true, 2)] fun T hT => ?_
  iterate 3 refine tk ?_
  refine nlS hT HF fun vw1 HG => ?_
  clear hT T HF
  go_wp2
  refine hK.out _ _ ?_; clear hK K
  show Code.wp _ _ _ _ _
  have HF := HG; clear HG
  clear hnx4
  refine wp_cond_false (by rfl) ?_
  refine wp_skip ?_
  show Code.wp _ _ _ _ _
  refine kS fun K hK => ?_
  refine wp_region_lit ?_
  go_wp2
  refine hK.out _ _ ?_; clear hK K
  show Code.wp _ _ _ _ _
  refine fH (HF.out) fun Wx3 HG => ?_
  clear HF; have HF := HG; clear HG
  refine kS fun K hK => ?_
  refine wp_region_lit ?_
  go_wp2
  refine hK.out _ _ ?_; clear hK K
  show Code.wp _ _ _ _ _
  refine fH (HF.out) fun Wx4 HG => ?_
  clear HF; have HF := HG; clear HG
  refine wp_seq ?_
  refine kS fun K hK => ?_
  refine wp_region_lit ?_
  go_wp2
  refine hK.out _ _ ?_; clear hK K
  show Code.wp _ _ _ _ _
  refine fH (HF.out) fun Wx5 HG => ?_
  clear HF; have HF := HG; clear HG
  refine wp_block ?_
  go_loopg [3, 4, 5, 6] n (fun kk u3 u4 u5 iv wr => ∃ k : Nat, iv = .int .i64 (k : Int) ∧ k + kk = n ∧ (k = 0 → u3 = .slice none 0 0 ∧ u4 = .slice none 0 0 ∧ u5 = .slice none 0 0) ∧ Hid (HP w wr []) ∧ Hid (wr.ownsRow w.heap.size 71 5 u3 k (rcs f k)) ∧ Hid (wr.ownsRow w.heap.size 3 1 u4 k (ics (fun i => (f i).1) k)) ∧ Hid (wr.ownsRow w.heap.size 3 1 u5 k (ics (fun i => (((f i).2 : Nat) : Int)) k)) ∧ Hid (Dj u3 u4) ∧ Hid (Dj u3 u5) ∧ Hid (Dj u4 u5))
  case atStart => exact ⟨0, rfl, by omega, fun _ => ⟨rfl, rfl, rfl⟩, HF, Lib.hid (World.ownsRow_nil _ _ _ _), Lib.hid (World.ownsRow_nil _ _ _ _), Lib.hid (World.ownsRow_nil _ _ _ _), Lib.hid (dj_nil _), Lib.hid (dj_nil _), Lib.hid (dj_nil _)⟩
  case round =>
    rename_i J_ K_ hj1_ hj0_
    clear HF
    obtain ⟨k, rfl, hkn, hu0, HF, HO3, HO4, HO5, HD34, HD35, HD45⟩ := hrel
    rcases gk with _ | kk
    · obtain rfl : n = k := by omega
      have HRS : Hid (Rs wr u3 n f) := Lib.hid (by
        rcases Nat.eq_zero_or_pos n with h | h
        · rw [(hu0 h).1, h]; exact rs0 _ _
        · exact own_rsC HO3.out h)
      have HIR : Hid (Isl wr u4 n (fun i => (f i).1)) := Lib.hid (by
        rcases Nat.eq_zero_or_pos n with h | h
        · rw [(hu0 h).2.1, h]; exact isl_nil _ _
        · exact own_isl HO4.out h)
      have HIM : Hid (Isl wr u5 n (fun i => (((f i).2 : Nat) : Int))) := Lib.hid (by
        rcases Nat.eq_zero_or_pos n with h | h
        · rw [(hu0 h).2.2, h]; exact isl_nil _ _
        · exact own_isl HO5.out h)
      have HBW := Lib.hid HF.out.1
      replace HT := Lib.hid (HT.out.gr HBW.out)
      clear HF HO3 HO4 HO5 HD34 HD35 HD45 hu0
      have HF := Lib.hid (hp0 wr)
      refine wp_seq ?_
      have hlt9 : ¬ (n : Int) < (n : Int) := by omega
      refine kS fun K hK => ?_
      refine sq 4 [(true, 0), (true, 1), (true, 2), (true, 3)] fun T hT => ?_
      iterate 4 refine tk ?_
      refine nlS hT HF fun vw2 HG => ?_
      clear hT T HF
      go_wp2
      refine hK.out _ _ ?_; clear hK K
      show Code.wp _ _ _ _ _
      have HF := HG; clear HG
      clear hlt9
      refine wp_cond_false (by rfl) ?_
      refine wp_exit ?_
      show Code.wp _ _ _ _ _
      have HB := HPb HF
      have su1a : wl (Int.natAbs (R)) ≤ 20 := om
      have su1b : wl (M) ≤ 20 := om
      refine kS fun K hK => ?_
      refine sq 5 [(true, 0), (true, 1), (true, 2), (true, 3), (true, 4)] fun T hT => ?_
      refine tk ?_
      refine ck Tryz.call29 (fun w' hw => rchinese _ n f (R) (M) (cc) _ HCV.out (HRS.out.gr (Gr.trans HB.out hw)) (by omega) (HSZ.out)) ?_
      iterate 3 refine tk ?_
      refine nlS hT HF fun vw3 HG => ?_
      clear hT T HF HB
      go_wp2
      refine hK.out _ _ ?_; clear hK K
      show Code.wp _ _ _ _ _
      refine fH ((HG.out).al (b := vw3.heap.size) (by first | rfl | simp) (by decide)) fun Wx12 HF => ?_
      clear HG
      generalize vw3.heap.size = gx1 at *
      have HB := HPb HF
      refine kS fun K hK => ?_
      refine sq 10 [(true, 0), (true, 1), (true, 2), (true, 3), (true, 4), (true, 5), (true, 6), (true, 7), (true, 8), (true, 9)] fun T hT => ?_
      iterate 2 refine tk ?_
      refine ck Tryz.call30 (fun w' hw => r7chin0 _ _ n f R M cc _ HCV (Lib.hid (HIR.out.gr (Gr.trans HB.out hw))) (Lib.hid (HIM.out.gr (Gr.trans HB.out hw))) hn4 HSI) ?_
      iterate 7 refine tk ?_
      refine nlS hT HF fun vw4 HG => ?_
      clear hT T HF HB
      go_wp2
      refine hK.out _ _ ?_; clear hK K
      show Code.wp _ _ _ _ _
      have HF := HG; clear HG
      have HB := HPb HF
      have hcc9 : (cc == cc) = true := by simp
      have su2 : wl (Int.natAbs (R)) ≤ 2 := wl_i64 om om
      have lx1 := HF.out.c 0 rfl
      refine kS fun K hK => ?_
      refine pd 16 [(true, 0), (true, 1), (true, 2), (true, 3), (true, 4), (true, 5), (true, 7), (true, 8), (true, 6), (true, 9), (true, 10), (true, 11), (true, 12), (true, 13), (true, 14), (true, 15)] fun T hT => ?_
      iterate 8 refine tk ?_
      refine ck Tryz.call23 (fun w' hw => iof_any (R) _ om om) ?_
      refine ck Tryz.call24 (fun w' hw => nzof (M) _ (ok)) ?_
      iterate 4 refine tk ?_
      refine ck Tryz.call27 (fun w' hw => works7_any _ (Lib.hid (HT.out.gr (Gr.trans HB.out hw)))) ?_
      refine tk ?_
      refine nlD hT HF fun vw5 HG => ?_
      clear hT T HF lx1 HB
      go_wp2
      refine hK.out _ _ ?_; clear hK K
      show Code.wp _ _ _ _ _
      refine fH ((HG.out).er 0) fun Wx14 HF => ?_
      clear HG
      clear hcc9
      refine wp_ret ?_
      try simp only [Exit.then, Exit.inBlock]
      exact bodyPost_ret (v := .bool true) (by simp [results, Tryz.results5, go_sem]) rfl ⟨rfl, HBW.out.trans (HF.out.1.mono HBW.out.size)⟩
    · rcases HQ.out with ⟨_, _, _, hz⟩ | ⟨b9, o9, c', hv, hb, hc⟩
      · omega
      injection hv with hv1 _ hv3
      subst hv1 hv3
      have hkn' : k < n := by omega
      obtain ⟨x, HX⟩ : ∃ x, Hid (N k = x) := ⟨_, Lib.hid rfl⟩
      obtain ⟨y, HY⟩ : ∃ x, Hid (D k = x) := ⟨_, Lib.hid rfl⟩
      have HXB := HQB.out k hkn'
      rw [HX.out, HY.out] at HXB
      obtain ⟨x1, x2, y1, y2⟩ := HXB
      obtain ⟨r, HR⟩ : ∃ z, Hid (Int.tmod x 101 = z) := ⟨_, Lib.hid rfl⟩
      obtain ⟨m, hm, hm13⟩ := tmod_nat9 y1 (show (0 : Int) < 13 by decide)
      have HM := Lib.hid hm
      obtain ⟨q1, q2⟩ := tmod_bd x 101 (by decide)
      rw [HR.out] at q1 q2
      have HFK : Hid (f k = (r, m)) := Lib.hid (by rw [← Hf.out, HX.out, HY.out, HR.out, hm]; rfl)
      have hr1 : Int.tmod x 101 = r := HR.out
      have hr2 : Int.tmod y 13 = ((m : Nat) : Int) := hm
      clear hm
      have hwr : IntKind.i64.wrap r = r := i64_small (by omega) (by omega)
      have hwm : IntKind.u32.wrap ((m : Nat) : Int) = ((m : Nat) : Int) := u32_small (by omega)
      have hwmi : IntKind.i64.wrap ((m : Nat) : Int) = ((m : Nat) : Int) := i64_small (by omega) (by omega)
      have HE0 : Hid (∀ w', Gr w w' → w'.cell? ⟨b9, o9 + k * 2, none⟩ = some (.int .i64 x)) := Lib.hid (fun w' hw => (Below.cell hw (p := ⟨b9, o9 + k * 2, none⟩) hb).trans (by rw [← HX.out]; exact (hc k hkn').1))
      have HE1 : Hid (∀ w', Gr w w' → w'.cell? ⟨b9, o9 + k * 2 + 1, none⟩ = some (.int .u32 y)) := Lib.hid (fun w' hw => (Below.cell hw (p := ⟨b9, o9 + k * 2 + 1, none⟩) hb).trans (by rw [← HY.out]; exact (hc k hkn').2))
      clear hc hb
      have hkl : (k : Int) < (n : Int) := by omega
      have hwi : IntKind.i64.wrap ((k : Int) + 1) = (k : Int) + 1 := i64_small (by omega) (by omega)
      have HD43 := Lib.hid HD34.out.symm
      refine wp_seq ?_
      refine kS fun K hK => ?_
      go_wp2
      refine hK.out _ _ ?_; clear hK K
      show Code.wp _ _ _ _ _
      refine wp_cond_true (by rfl) ?_
      refine wp_skip ?_
      show Code.wp _ _ _ _ _
      refine wp_seq ?_
      refine wp_block ?_
      have lx90_0 := fun w' (h : Gr _ w') => HE0.out w' (Gr.trans HF.out.1 h)
      have lx90_1 := fun w' (h : Gr _ w') => HE1.out w' (Gr.trans HF.out.1 h)
      refine kS fun K hK => ?_
      refine wp_region_plan 14 [13] [] (fun _ => 7) (fun _ => .cells #[.int .i64 0, .int .u32 0] 69) [(true, 0), (true, 1), (true, 2), (true, 3), (true, 4), (true, 5), (true, 6), (true, 7), (true, 8), (true, 9), (true, 10), (true, 11), (true, 12)] (by kernel_rfl) (by kernel_rfl) (by intro i hi; simp only [List.mem_cons, List.not_mem_nil, or_false] at hi; rcases hi with rfl <;> exact ⟨_, rfl, rfl, rfl, by simp, fun ρ w => by kernel_rfl⟩) (fun i hi => by cases hi) (fun _ _ _ _ _ h => h) (fun T hT => ?_)
      iterate 13 refine tk ?_
      refine wpPlan_nil (hT.out _ _ ?_)
      intro G vw2 hg hf
      have hfr := (hf.1 13 (by simp)).1
      have hb3 : ∀ j, u3.ownBlock = some j → j ≠ G 13 := fun j hj => by have := (World.ownsRow.lt HO3.out j hj).2; omega
      have hb4 : ∀ j, u4.ownBlock = some j → j ≠ G 13 := fun j hj => by have := (World.ownsRow.lt HO4.out j hj).2; omega
      have hb5 : ∀ j, u5.ownBlock = some j → j ≠ G 13 := fun j hj => by have := (World.ownsRow.lt HO5.out j hj).2; omega
      replace HO3 := Lib.hid (own_gr HO3.out hg)
      replace HO4 := Lib.hid (own_gr HO4.out hg)
      replace HO5 := Lib.hid (own_gr HO5.out hg)
      clear hfr
      simp only [puts, Act.put, lA, lB, lC, lD, lE, ↓reduceIte, Nat.reduceEqDiff]
      have HG := Lib.hid (HF.out.fr hg hf (zs := [(#[.int .i64 0, .int .u32 0], 69)]) rfl (by decide) (by decide))
      simp only [List.zip_cons_cons, List.zip_nil_right, List.map_cons, List.map_nil, lF, lG] at HG
      clear hT T HF hg hf lx90_0 lx90_1
      generalize G 13 = gx1 at *
      have lx1 := HG.out.c 0 rfl; have fx1 := HG.out.f 0 rfl
      have r0 := Gr.refl vw2
      go_wp2
      refine hK.out _ _ ?_; clear hK K
      show Code.wp _ _ _ _ _
      clear r0 lx1 fx1
      refine fO (P := fun W => W.ownsRow w.heap.size 71 5 u3 k (rcs f k) ∧ W.ownsRow w.heap.size 3 1 u4 k (ics (fun i => (f i).1) k) ∧ W.ownsRow w.heap.size 3 1 u5 k (ics (fun i => (((f i).2 : Nat) : Int)) k)) ((HG.out).put2 0 0 rfl) ⟨own_set (own_set HO3.out hb3) hb3, own_set (own_set HO4.out hb4) hb4, own_set (own_set HO5.out hb5) hb5⟩ fun Wx8 HF ho => ?_
      clear HO3 HO4 HO5
      have HO3 := Lib.hid ho.1
      have HO4 := Lib.hid ho.2.1
      have HO5 := Lib.hid ho.2.2
      clear ho
      have HAP3 := Lib.hid (apart1 (T := 69) (cs := #[.int .i64 r, .int .u32 ((m : Nat) : Int)]) hb3)
      have HAP4 := Lib.hid (apart1 (T := 69) (cs := #[.int .i64 r, .int .u32 ((m : Nat) : Int)]) hb4)
      have HAP5 := Lib.hid (apart1 (T := 69) (cs := #[.int .i64 r, .int .u32 ((m : Nat) : Int)]) hb5)
      clear hb3 hb4 hb5
      clear HG
      refine kS fun K hK => ?_
      have lx5 := HF.out.c 0 rfl
      have r0 := Gr.refl Wx8
      go_wp2_with fail
      refine (ro7_any r m Wx8 (by omega) (by omega) (by omega)).mono ?_
      rintro e wa ⟨rfl, hb1⟩
      have HF1 := Lib.hid (HF.out.gr hb1)
      have HP3 := Lib.hid (own_gr HO3.out hb1)
      have HP4 := Lib.hid (own_gr HO4.out hb1)
      have HP5 := Lib.hid (own_gr HO5.out hb1)
      clear hb1 lx5 r0 HF HO3 HO4 HO5
      have HF := HF1
      have HO3 := HP3
      have HO4 := HP4
      have HO5 := HP5
      clear HF1 HP3 HP4 HP5
      have HN := Lib.hid (show ∀ j u, [.int .u64 ((lo (Int.natAbs (r)) : Nat) : Int), .string (bg (Int.natAbs (r))), .bool (decide ((r) < 0)), .int .u64 ((lo (m) : Nat) : Int), .string (bg (m))][j]? = some u → (wa.alloc (.cells #[.int .u64 ((lo (Int.natAbs (r)) : Nat) : Int), .string (bg (Int.natAbs (r))), .bool (decide ((r) < 0)), .int .u64 ((lo (m) : Nat) : Int), .string (bg (m))] 71)).cell? ((⟨wa.heap.size, 0, none⟩ : Addr).add j) = some u from fun j u hj => by
        match j, hj with
        | 0, hj => simp at hj; subst hj; simp [Addr.add, go_sem]
        | 1, hj => simp at hj; subst hj; simp [Addr.add, go_sem]
        | 2, hj => simp at hj; subst hj; simp [Addr.add, go_sem]
        | 3, hj => simp at hj; subst hj; simp [Addr.add, go_sem]
        | 4, hj => simp at hj; subst hj; simp [Addr.add, go_sem])
      have HF2 := Lib.hid (HF.out.gr (Gr.alloc _ (.cells #[.int .u64 ((lo (Int.natAbs (r)) : Nat) : Int), .string (bg (Int.natAbs (r))), .bool (decide ((r) < 0)), .int .u64 ((lo (m) : Nat) : Int), .string (bg (m))] 71)))
      have HA2 := Lib.hid (own_gr HO3.out (Gr.alloc _ (.cells #[.int .u64 ((lo (Int.natAbs (r)) : Nat) : Int), .string (bg (Int.natAbs (r))), .bool (decide ((r) < 0)), .int .u64 ((lo (m) : Nat) : Int), .string (bg (m))] 71)))
      have HB2 := Lib.hid (own_gr HO4.out (Gr.alloc _ (.cells #[.int .u64 ((lo (Int.natAbs (r)) : Nat) : Int), .string (bg (Int.natAbs (r))), .bool (decide ((r) < 0)), .int .u64 ((lo (m) : Nat) : Int), .string (bg (m))] 71)))
      have HC2 := Lib.hid (own_gr HO5.out (Gr.alloc _ (.cells #[.int .u64 ((lo (Int.natAbs (r)) : Nat) : Int), .string (bg (Int.natAbs (r))), .bool (decide ((r) < 0)), .int .u64 ((lo (m) : Nat) : Int), .string (bg (m))] 71)))
      clear HF HO3 HO4 HO5
      go_wp2_with (first | (at_builtin; refine apY HF2 HA2 HAP3 HB2 HC2 HD34 HD35 (.tmp 36) (.tmp 39) 67 hi hz0 hz1 hz2 rfl Tryz.underlying67 (m := 1) (c := 1) (ad := ⟨wa.heap.size, 0, none⟩) (news := [.int .u64 ((lo (Int.natAbs (r)) : Nat) : Int), .string (bg (Int.natAbs (r))), .bool (decide ((r) < 0)), .int .u64 ((lo (m) : Nat) : Int), .string (bg (m))]) (by unfold maxLen; omega) (by omega) (by intro i v m h; rcases i with _ | _ | i <;> simp at h) (by simp [Act.eval, Act.put]) (by simp [Act.eval, Act.put]) HN rfl ?c1 (by decide) rfl rfl ?_) | fail)
      case c1 => intro u hu; simp at hu; rcases hu with rfl | rfl | rfl | rfl | rfl <;> rfl
      intro u3' wb HF HO3 HAP3 HO4 HO5 HD34 HD35
      clear HF2 HA2 HB2 HC2 HN
      go_wp2_with fail
      refine hK.out _ _ ?_; clear hK K
      show Code.wp _ _ _ _ _
      replace HD43 := Lib.hid HD34.out.symm
      refine kS fun K hK => ?_
      have lx5 := HF.out.c 0 rfl
      have r0 := Gr.refl wb
      have HN := Lib.hid (show ∀ j u, [.int .i64 r][j]? = some u → (wb.alloc (.cells #[.int .i64 r] 3)).cell? ((⟨wb.heap.size, 0, none⟩ : Addr).add j) = some u from fun j u hj => by
        match j, hj with
        | 0, hj => simp at hj; subst hj; simp [Addr.add, go_sem])
      have HF2 := Lib.hid (HF.out.gr (Gr.alloc _ (.cells #[.int .i64 r] 3)))
      have HA2 := Lib.hid (own_gr HO4.out (Gr.alloc _ (.cells #[.int .i64 r] 3)))
      have HB2 := Lib.hid (own_gr HO3.out (Gr.alloc _ (.cells #[.int .i64 r] 3)))
      have HC2 := Lib.hid (own_gr HO5.out (Gr.alloc _ (.cells #[.int .i64 r] 3)))
      clear HF HO3 HO4 HO5
      go_wp2_with (first | (at_builtin; refine apY HF2 HA2 HAP4 HB2 HC2 HD43 HD45 (.tmp 41) (.tmp 44) 42 ji jz0 jz1 jz2 rfl Tryz.underlying42 (m := 1) (c := 1) (ad := ⟨wb.heap.size, 0, none⟩) (news := [.int .i64 r]) (by unfold maxLen; omega) (by omega) (by intro i v m h; rcases i with _ | _ | i <;> simp at h) (by simp [Act.eval, Act.put]) (by simp [Act.eval, Act.put]) HN rfl ?c1 (by decide) rfl rfl ?_) | fail)
      case c1 => intro u hu; simp at hu; rcases hu with rfl <;> rfl
      intro u4' wc HF HO4 HAP4 HO3 HO5 HD43 HD45
      clear HF2 HA2 HB2 HC2 HN lx5 r0
      go_wp2_with fail
      refine hK.out _ _ ?_; clear hK K
      show Code.wp _ _ _ _ _
      have HD53 := Lib.hid HD35.out.symm
      have HD54 := Lib.hid HD45.out.symm
      refine kL fun K hK => ?_
      have lx5 := HF.out.c 0 rfl
      have r0 := Gr.refl wc
      have HN := Lib.hid (show ∀ j u, [.int .i64 ((m : Nat) : Int)][j]? = some u → (wc.alloc (.cells #[.int .i64 ((m : Nat) : Int)] 3)).cell? ((⟨wc.heap.size, 0, none⟩ : Addr).add j) = some u from fun j u hj => by
        match j, hj with
        | 0, hj => simp at hj; subst hj; simp [Addr.add, go_sem])
      have HF2 := Lib.hid (HF.out.gr (Gr.alloc _ (.cells #[.int .i64 ((m : Nat) : Int)] 3)))
      have HA2 := Lib.hid (own_gr HO5.out (Gr.alloc _ (.cells #[.int .i64 ((m : Nat) : Int)] 3)))
      have HB2 := Lib.hid (own_gr HO3.out (Gr.alloc _ (.cells #[.int .i64 ((m : Nat) : Int)] 3)))
      have HC2 := Lib.hid (own_gr HO4.out (Gr.alloc _ (.cells #[.int .i64 ((m : Nat) : Int)] 3)))
      clear HF HO3 HO4 HO5
      go_wp2_with (first | (at_builtin; refine apY HF2 HA2 HAP5 HB2 HC2 HD53 HD54 (.tmp 46) (.tmp 50) 42 ji jz0 jz1 jz2 rfl Tryz.underlying42 (m := 1) (c := 1) (ad := ⟨wc.heap.size, 0, none⟩) (news := [.int .i64 ((m : Nat) : Int)]) (by unfold maxLen; omega) (by omega) (by intro i v m h; rcases i with _ | _ | i <;> simp at h) (by simp [Act.eval, Act.put]) (by simp [Act.eval, Act.put]) HN rfl ?c1 (by decide) rfl rfl ?_) | fail)
      case c1 => intro u hu; simp at hu; rcases hu with rfl <;> rfl
      intro u5' wd HF HO5 HAP5 HO3 HO4 HD53 HD54
      clear HF2 HA2 HB2 HC2 HN lx5 r0
      go_wp2_with fail
      refine hK.out _ _ ?_; clear hK K
      show Code.wp _ _ _ _ _
      refine kL fun K hK => ?_
      go_wp2
      refine hK.out _ _ ?_; clear hK K
      try simp only [Exit.then, Exit.inBlock]
      refine hj0_ _ _ ?_
      go_roundg kk
      case measure => omega
      case rel => exact ⟨k + 1, rfl, by omega, fun h => by omega, Lib.hid (HF.out.er 0), Lib.hid (by rw [rcs, HFK.out]; exact HO3.out), Lib.hid (by rw [ics, HFK.out]; exact HO4.out), Lib.hid (by rw [ics, HFK.out]; exact HO5.out), Lib.hid HD43.out.symm, Lib.hid HD53.out.symm, Lib.hid HD54.out.symm⟩

theorem chin_big (v : Value) (n : Nat) (N D : Nat → Int) (w : World) (HQ : Hid (Qs w v n N D)) (hn : 4 < n) (HT : Hid (Tab w)) :
    Calls Tryz.prog 5 #[v] w fun e w' => e = .returned (.bool true) ∧ Below w.heap.size w w' := by
  obtain ⟨ao, c, rfl⟩ := HQ.out.slice
  have hn' : (4 : Int) < (n : Int) := by omega
  go_enter Tryz.func5, Tryz.ntmps5
  go_wp2_with fail
  refine (works7_any w HT).mono ?_
  rintro e V1 ⟨rfl, hb⟩
  have HGf := Lib.hid hb
  clear hb
  go_wp2_with fail
  exact bodyPost_ret (v := .bool true) (by simp [results, Tryz.results5, go_sem]) rfl ⟨rfl, HGf.out⟩
theorem chin_law (v : Value) (n : Nat) (N D : Nat → Int) (w : World) (HQ : Hid (Qs w v n N D)) (HQB : Hid (Qb n N D)) (HT : Hid (Tab w)) :
    Calls Tryz.prog 5 #[v] w fun e w' => e = .returned (.bool true) ∧ Below w.heap.size w w' := by
  by_cases h4 : n ≤ 4
  · have hs : ∀ i, i < n → -100 ≤ (Int.tmod (N i) 101) ∧ (Int.tmod (N i) 101) ≤ 100 ∧ (Int.tmod (D i) 13).toNat ≤ 12 := fun i hi => by
      have h1 := tmod_bd (N i) 101 (by decide)
      have h2 := tmod_bd (D i) 13 (by decide)
      omega
    obtain ⟨R, M, c, h, hR0, hR1, hM1, _⟩ := chv_ex (fun i => (Int.tmod (N i) 101, (Int.tmod (D i) 13).toNat)) n (fun i hi => (hs i hi).2.2) h4
    exact chin_main v n N D _ R M c w HQ HQB h4 (Lib.hid fun _ => rfl) (Lib.hid h) hR0 hR1 hM1 (wl_small (by omega)) (wl_small (by omega)) (Lib.hid (fun i hi => by
      obtain ⟨a1, a2, a3⟩ := hs i hi
      exact ⟨Nat.le_trans (wl_small (by show Int.natAbs (Int.tmod (N i) 101) < _; omega)) (by decide), Nat.le_trans (wl_small (by show (Int.tmod (D i) 13).toNat < _; omega)) (by decide)⟩)) (Lib.hid hs) HT
  · exact chin_big v n N D w HQ (by omega) HT

end Go.Proofs.YtobojnodohjiaaaGreatDoor
