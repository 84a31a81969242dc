
/- fracs.Sum of any slice. No condition but those stated. -/
import Derived.Test.YtaflakcemiilaaaGreatDoorFs
namespace Go.Proofs.YtaflakcemiilaaaGreatDoor
open Go.RowKit
set_option linter.unusedSimpArgs false
set_option linter.unusedVariables false
attribute [local go_sem ↓] Go.wp_at_zero Go.wp_at_succ
set_option maxHeartbeats 1000000 in
theorem tadd_q (q a z : Rat) (g B : Nat) (w : World) (bx9 : Bx w g 166 #[.int .u64 ((lo (Int.natAbs ((q).num)) : Nat) : Int), .string (bg (Int.natAbs ((q).num))), .bool (decide (((q).num) < 0)), .int .u64 ((lo ((q).den - 1) : Nat) : Int), .string (bg ((q).den - 1))]) (hB : B ≤ w.heap.size) (hBg : B ≤ g) (hz : q + a = z) (hs_q : sz q ≤ 10000000000) (hs_a : sz a ≤ 10000000000) :
    Calls Tryz.prog 127 #[.pointer (some ⟨g, 0, none⟩), (Value.agg #[.int .u64 ((lo (Int.natAbs ((a).num)) : Nat) : Int), .string (bg (Int.natAbs ((a).num))), .bool (decide (((a).num) < 0)), .int .u64 ((lo ((a).den - 1) : Nat) : Int), .string (bg ((a).den - 1))])] w fun e w' => e = .returned (.tuple #[]) ∧ Below B w w' ∧ Bx w' g 166 #[.int .u64 ((lo (Int.natAbs ((z).num)) : Nat) : Int), .string (bg (Int.natAbs ((z).num))), .bool (decide (((z).num) < 0)), .int .u64 ((lo ((z).den - 1) : Nat) : Int), .string (bg ((z).den - 1))] := by
  replace hz := Lib.hid hz
  go_enter Tryz.func127, Tryz.ntmps127
  have e9 := bx9.lt
  -- region 0
  refine wp_seq_k fun K hK => ?_
  replace hK := Lib.hid hK
  refine wp_region_lit ?_
  go_wp2
  refine hK.out _ _ ?_; clear hK K
  show Code.wp _ _ _ _ _
  refine forgetW (fun w2 => Bx w2 g 166 #[.int .u64 ((lo (Int.natAbs ((q).num)) : Nat) : Int), .string (bg (Int.natAbs ((q).num))), .bool (decide (((q).num) < 0)), .int .u64 ((lo ((q).den - 1) : Nat) : Int), .string (bg ((q).den - 1))] ∧ Bx w2 (w.heap.size) 36 #[.int .u64 ((lo (Int.natAbs ((a).num)) : Nat) : Int), .string (bg (Int.natAbs ((a).num))), .bool (decide (((a).num) < 0)), .int .u64 ((lo ((a).den - 1) : Nat) : Int), .string (bg ((a).den - 1))] ∧ Below B w w2) ⟨(bx9).alloc _, Bx.at rfl, (Below.refl _ _).alloc (by first | omega | (simp; omega)) _⟩ ?_
  clear bx9
  rintro Wx ⟨bx9, bx10, HB⟩
  replace HB := Lib.hid HB
  -- region 1
  have HZ1 : Hid ((q) + (a) = z) := Lib.hid (hz.out)
  have lx9 := bx9.cells
  have lx10 := bx10.cells
  have BX9 := Lib.hid bx9
  have BX10 := Lib.hid bx10
  clear bx9 bx10
  refine wp_last_k fun K hK => ?_
  replace hK := Lib.hid hK
  refine wp_region_plan 9 [] [] (fun _ => 0) (fun _ => .cells #[] 0) [(true, 0), (true, 1), (true, 2), (true, 3), (true, 4), (true, 5), (true, 6), (true, 7), (true, 8)] (by kernel_rfl) (by kernel_rfl) (fun i hi => by cases hi) (fun i hi => by cases hi) (fun _ _ _ _ _ h => h) (fun T hT => ?_)
  iterate 6
    refine wpPlan_takeL (v := ?_) rfl (by rfl) (fun w' hw => ?_) ?_
    rotate_left
    · go_simp
      with_reducible rfl
    simp only [Act.put, List.setIfInBounds_toArray, List.set_cons_zero, List.set_cons_succ]
  refine wpPlan_callL rfl (by rfl) Tryz.call30 (fun w' hw => fadd_any (q) (a) (z) _ HZ1.out (by first | omega | exact Nat.le_trans (wl_small (by decide)) (by decide)) (by first | omega | exact Nat.le_trans (wl_small (by decide)) (by decide))) (by rfl) ?_
  simp only [Act.put, List.setIfInBounds_toArray, List.set_cons_zero, List.set_cons_succ]
  iterate 2
    refine wpPlan_takeL (v := ?_) rfl (by rfl) (fun w' hw => ?_) ?_
    rotate_left
    · go_simp
      with_reducible rfl
    simp only [Act.put, List.setIfInBounds_toArray, List.set_cons_zero, List.set_cons_succ]
  refine wpPlan_nil (hT.out _ _ ?_); clear hT T
  intro G vw1 hg hf
  simp only [puts, Act.put, List.setIfInBounds_toArray, List.set_cons_zero, List.set_cons_succ, List.drop_succ_cons, List.drop_zero, ↓reduceIte, Nat.reduceEqDiff]
  clear lx9 lx10
  have HG := Lib.hid (hg)
  clear hg
  have bx9 := BX9.out.gr HG.out; clear BX9
  have bx10 := BX10.out.gr HG.out; clear BX10
  have lx9 := bx9.cells; have fx9 := bx9.free
  have r0 := Gr.refl vw1
  have BX9 := Lib.hid bx9; clear bx9
  have BX10 := Lib.hid bx10; clear bx10
  go_wp2
  refine hK.out _ _ ?_; clear hK K
  try simp only [Exit.then, Exit.inBlock]
  clear lx9 fx9
  clear r0
  refine forgetB (fun w2 => Bx w2 g 166 #[.int .u64 ((lo (Int.natAbs ((z).num)) : Nat) : Int), .string (bg (Int.natAbs ((z).num))), .bool (decide (((z).num) < 0)), .int .u64 ((lo ((z).den - 1) : Nat) : Int), .string (bg ((z).den - 1))] ∧ Below B w w2) ⟨((((((BX9.out).set 0 _).set 1 _).set 2 _).set 3 _).set 4 _).eq (by simp only [List.setIfInBounds_toArray, List.set_cons_zero, List.set_cons_succ]), (((((HB.out.trans (HG.out.mono (Nat.le_trans hB HB.out.size))).setCell (by show B ≤ g; omega) _).setCell (by show B ≤ g; omega) _).setCell (by show B ≤ g; omega) _).setCell (by show B ≤ g; omega) _).setCell (by show B ≤ g; omega) _⟩ ?_
  clear HB HG BX9 BX10
  rintro Wx1 ⟨bx9, HB⟩
  replace HB := Lib.hid HB
  have r0 := Gr.refl Wx1
  exact bodyPost_end (v := .tuple #[]) (by simp [results, Tryz.results127, go_sem]) rfl ⟨rfl, HB.out, bx9⟩
set_option maxHeartbeats 2000000 in
theorem each_q (n : Nat) (f : Nat → Rat) (v : Value) (g : Nat) (w0 w : World) (hx : Fs w0 v n f) (hgr : Gr w0 w) (bx : Bx w g 166 #[.int .u64 0, .string ⟨#[]⟩, .bool false, .int .u64 0, .string ⟨#[]⟩]) (hBg : w0.heap.size ≤ g)
    (hn : n ≤ 1000000) (hs : ∀ i, i < n → sz (f i) ≤ 1000) :
    Calls Tryz.prog 126 #[.func (.func 127) #[.pointer (some ⟨g, 0, none⟩)] #[], v] w fun e w' => e = .returned (.tuple #[]) ∧ Below w0.heap.size w w' ∧ Bx w' g 166 #[.int .u64 ((lo (Int.natAbs ((qsum f n).num)) : Nat) : Int), .string (bg (Int.natAbs ((qsum f n).num))), .bool (decide (((qsum f n).num) < 0)), .int .u64 ((lo ((qsum f n).den - 1) : Nat) : Int), .string (bg ((qsum f n).den - 1))] := by
  obtain ⟨ao, c, rfl⟩ := hx.slice
  have HS := Lib.hid hs
  have HX := Lib.hid hx
  have HGR := Lib.hid hgr
  have hB : w0.heap.size ≤ w.heap.size := hgr.size
  clear hs hx hgr
  go_enter Tryz.func126, Tryz.ntmps126
  go_wp2
  go_loopw [8] (fun i wr => ∃ k : Nat, k ≤ n ∧ i = .int .i64 k ∧ Below w0.heap.size w wr ∧ Bx wr g 166 #[.int .u64 ((lo (Int.natAbs ((qsum f k).num)) : Nat) : Int), .string (bg (Int.natAbs ((qsum f k).num))), .bool (decide (((qsum f k).num) < 0)), .int .u64 ((lo ((qsum f k).den - 1) : Nat) : Int), .string (bg ((qsum f k).den - 1))]) (fun i _ => n - (intOf i).toNat)
  case atStart => exact ⟨0, Nat.zero_le _, rfl, Below.refl _ _, bx⟩
  case round =>
    obtain ⟨k, hk, rfl, hbel, hbx⟩ := hrel
    by_cases hlt : k < n
    · rcases HX.out with ⟨_, _, _, hz⟩ | ⟨b, o, c', hv, hb, hc⟩
      · omega
      injection hv with hv1 _ hv3
      subst hv1 hv3
      obtain ⟨q, HQ⟩ : ∃ q, Hid (f k = q) := ⟨_, Lib.hid rfl⟩
      have HSQ : sz q ≤ 1000 := by rw [← HQ.out]; exact HS.out _ hlt
      have hgw : Below w0.heap.size w0 wr := Below.trans HGR.out hbel
      have hcell : ∀ j, j < 5 → wr.cell? ⟨b, o + k * 5 + j, none⟩ = (fcl q)[j]? := fun j hj => (Below.cell hgw (p := ⟨b, o + k * 5 + j, none⟩) hb).trans (by rw [← HQ.out]; exact hc k hlt j hj)
      have c0 : wr.cell? ⟨b, o + k * 5, none⟩ = _ := hcell 0 (by decide)
      have c1 := hcell 1 (by decide)
      have c2 := hcell 2 (by decide)
      have c3 := hcell 3 (by decide)
      have c4 := hcell 4 (by decide)
      clear hcell hgw hc hb HX
      simp [fcl] at c0 c1 c2 c3 c4
      have HB := Lib.hid hbel
      have HXb := Lib.hid hbx
      have hsz := Nat.le_trans hB hbel.size
      have hsp : sz (qsum f k) ≤ 10000000000 := by
        have h1 := sz_qsum f n 1000 HS.out k (by omega)
        have h2 : k * 1001 ≤ 1000000 * 1001 := Nat.mul_le_mul_right _ (by omega)
        omega
      have HP : Hid (qsum f k + q = qsum f (k + 1)) := by show _ = _; rw [← HQ.out]; rfl
      clear hbel hbx
      go_wp2_with fail
      refine (tadd_q (qsum f k) q (qsum f (k + 1)) g w0.heap.size _ ((HXb.out.alloc _)) (by simp; omega) hBg HP.out hsp (by omega)).mono ?_
      rintro e w2 ⟨rfl, hb2, hx2⟩
      have HB2 := Lib.hid ((HB.out.alloc hsz _).trans hb2)
      have HX2 := Lib.hid hx2
      clear hb2 hx2 c0 c1 c2 c3 c4
      go_wp2_with fail
      go_roundw
      case rel => exact ⟨k + 1, by omega, by go_num, HB2.out, HX2.out⟩
      case measure => simp [intOf]; omega
    · obtain rfl : k = n := by omega
      have HB := Lib.hid hbel
      have HXb := Lib.hid hbx
      clear hbel hbx
      go_wp2
      exact bodyPost_end (v := .tuple #[]) (by simp [results, Tryz.results126, go_sem]) rfl ⟨rfl, HB.out, HXb.out⟩
set_option maxHeartbeats 1000000 in
theorem fsum_list (n : Nat) (f : Nat → Rat) (v : Value) (z : Rat) (w : World) (h : Fs w v n f) (hn : n ≤ 1000000) (hs : ∀ i, i < n → sz (f i) ≤ 1000) (hz : qsum f n = z) :
    Calls Tryz.prog 40 #[v] w fun e w' => e = .returned (Value.agg #[.int .u64 ((lo (Int.natAbs ((z).num)) : Nat) : Int), .string (bg (Int.natAbs ((z).num))), .bool (decide (((z).num) < 0)), .int .u64 ((lo ((z).den - 1) : Nat) : Int), .string (bg ((z).den - 1))]) ∧ Below w.heap.size w w' := by
  obtain ⟨ao, c, rfl⟩ := h.slice
  obtain ⟨W0, HW⟩ : ∃ W0, Hid (((w.alloc (.cells #[.int .u64 0, .string ⟨#[]⟩, .bool false, .int .u64 0, .string ⟨#[]⟩] 36)).alloc (.cells #[.int .u64 0, .string ⟨#[]⟩, .bool false, .int .u64 0, .string ⟨#[]⟩] 166)) = W0) := ⟨_, Lib.hid rfl⟩
  have H1 := Lib.hid (show Bx W0 w.heap.size 36 #[.int .u64 0, .string ⟨#[]⟩, .bool false, .int .u64 0, .string ⟨#[]⟩] by rw [← HW.out]; exact (Bx.at rfl).alloc _)
  have H2 := Lib.hid (show Bx W0 (w.heap.size + 1) 166 #[.int .u64 0, .string ⟨#[]⟩, .bool false, .int .u64 0, .string ⟨#[]⟩] by rw [← HW.out]; exact Bx.at (by simp))
  have H4 := Lib.hid (show Below w.heap.size w W0 by rw [← HW.out]; exact ((Below.refl _ _).alloc (Nat.le_refl _) _).alloc (by simp) _)
  have H5 := Lib.hid (show Gr (w.alloc (.cells #[.int .u64 0, .string ⟨#[]⟩, .bool false, .int .u64 0, .string ⟨#[]⟩] 36)) W0 by rw [← HW.out]; exact Gr.alloc _ _)
  have HE := Lib.hid (each_q n f (.slice ao n c) (w.heap.size + 1) _ W0 (h.gr (Gr.alloc w _)) H5.out H2.out (by simp) hn hs)
  have HZ := Lib.hid hz
  clear h hs hz H5
  go_enter Tryz.func40, Tryz.ntmps40
  go_wp2_with fail
  rw [HW.out]
  refine HE.out.mono ?_
  rintro e w2 ⟨rfl, hb2, hx2⟩
  have hb2 : Below (w.heap.size + 1) W0 w2 := by simpa using hb2
  rw [HZ.out] at hx2
  have l1 := hx2.cells
  have h1 := H1.out.below hb2 (Nat.lt_succ_self _)
  have l2 := h1.cells
  have f2 := h1.free
  have r0 := Gr.refl w2
  have HB := Lib.hid (H4.out.trans (hb2.mono (Nat.le_succ _)))
  clear hb2 hx2 h1 H1 H2 H4 HE HW
  go_wp2_with fail
  exact bodyPost_ret (v := .agg #[.int .u64 ((lo (Int.natAbs ((z).num)) : Nat) : Int), .string (bg (Int.natAbs ((z).num))), .bool (decide (((z).num) < 0)), .int .u64 ((lo ((z).den - 1) : Nat) : Int), .string (bg ((z).den - 1))]) (by simp [results, Tryz.results40, go_sem, l2 _ r0]) rfl ⟨rfl, ((((HB.out.setCell (Nat.le_refl _) _).setCell (Nat.le_refl _) _).setCell (Nat.le_refl _) _).setCell (Nat.le_refl _) _).setCell (Nat.le_refl _) _⟩
end Go.Proofs.YtaflakcemiilaaaGreatDoor
