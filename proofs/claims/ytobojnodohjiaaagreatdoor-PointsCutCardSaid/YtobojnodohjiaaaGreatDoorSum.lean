
/- fracs: add, each, Sum. -/
import Derived.Test.YtobojnodohjiaaaGreatDoorPts1
set_option linter.unusedVariables false
set_option linter.unusedSimpArgs false
namespace Go.Proofs.YtobojnodohjiaaaGreatDoor
open Go.RowKit
attribute [local go_sem ↓] Go.wp_at_zero Go.wp_at_succ
set_option maxHeartbeats 1000000 in
theorem tadd_any (q a z : Rat) (g B : Nat) (w : World) (bx9 : Bx w g 279 #[.int .u64 ((lo (Int.natAbs ((q).num)) : Nat) : Int), .string (bg (Int.natAbs ((q).num))), .bool (decide (((q).num) < 0)), .int .u64 ((lo ((q).den - 1) : Nat) : Int), .string (bg ((q).den - 1))]) (hB : B ≤ w.heap.size) (hBg : B ≤ g) (hz : q + a = z) (hs_q : sz q ≤ 10000000000) (hs_a : sz a ≤ 10000000000) :
    Calls Tryz.prog 232 #[.pointer (some ⟨g, 0, none⟩), (Value.agg #[.int .u64 ((lo (Int.natAbs ((a).num)) : Nat) : Int), .string (bg (Int.natAbs ((a).num))), .bool (decide (((a).num) < 0)), .int .u64 ((lo ((a).den - 1) : Nat) : Int), .string (bg ((a).den - 1))])] w fun e w' => e = .returned (.tuple #[]) ∧ Below B w w' ∧ Bx w' g 279 #[.int .u64 ((lo (Int.natAbs ((z).num)) : Nat) : Int), .string (bg (Int.natAbs ((z).num))), .bool (decide (((z).num) < 0)), .int .u64 ((lo ((z).den - 1) : Nat) : Int), .string (bg ((z).den - 1))] := by
  replace hz := Lib.hid hz
  go_enter Tryz.func232, Tryz.ntmps232
  have e9 := bx9.lt
  -- region 0
  refine wp_seq_k fun K hK => ?_
  replace hK := Lib.hid hK
  refine wp_region_lit ?_
  go_wp2
  refine kO hK ?_; clear hK K
  refine forgetW (fun w2 => Bx w2 g 279 #[.int .u64 ((lo (Int.natAbs ((q).num)) : Nat) : Int), .string (bg (Int.natAbs ((q).num))), .bool (decide (((q).num) < 0)), .int .u64 ((lo ((q).den - 1) : Nat) : Int), .string (bg ((q).den - 1))] ∧ Bx w2 (w.heap.size) 36 #[.int .u64 ((lo (Int.natAbs ((a).num)) : Nat) : Int), .string (bg (Int.natAbs ((a).num))), .bool (decide (((a).num) < 0)), .int .u64 ((lo ((a).den - 1) : Nat) : Int), .string (bg ((a).den - 1))] ∧ Below B w w2) ⟨(bx9).alloc _, Bx.at rfl, (Below.refl _ _).alloc (by first | omega | (simp; omega)) _⟩ ?_
  clear bx9
  rintro Wx ⟨bx9, bx10, HB⟩
  replace HB := Lib.hid HB
  -- region 1
  have HZ1 : Hid ((q) + (a) = z) := Lib.hid (hz.out)
  have lx9 := bx9.cells
  have lx10 := bx10.cells
  have BX9 := Lib.hid bx9
  have BX10 := Lib.hid bx10
  clear bx9 bx10
  refine wp_last_k fun K hK => ?_
  replace hK := Lib.hid hK
  refine wp_region_plan 9 [] [] (fun _ => 0) (fun _ => .cells #[] 0) [(true, 0), (true, 1), (true, 2), (true, 3), (true, 4), (true, 5), (true, 6), (true, 7), (true, 8)] (by kernel_rfl) (by kernel_rfl) (fun i hi => by cases hi) (fun i hi => by cases hi) (fun _ _ _ _ _ h => h) (fun T hT => ?_)
  iterate 6
    refine wpPlan_takeL (v := ?_) rfl (by rfl) (fun w' hw => ?_) ?_
    rotate_left
    · go_simp
      with_reducible rfl
    simp only [Act.put, List.setIfInBounds_toArray, List.set_cons_zero, List.set_cons_succ]
  refine wpPlan_callL rfl (by rfl) Tryz.call130 (fun w' hw => fadd_any (q) (a) (z) _ HZ1.out (by first | omega | exact Nat.le_trans (wl_small (by decide)) (by decide)) (by first | omega | exact Nat.le_trans (wl_small (by decide)) (by decide))) (by rfl) ?_
  simp only [Act.put, List.setIfInBounds_toArray, List.set_cons_zero, List.set_cons_succ]
  iterate 2
    refine wpPlan_takeL (v := ?_) rfl (by rfl) (fun w' hw => ?_) ?_
    rotate_left
    · go_simp
      with_reducible rfl
    simp only [Act.put, List.setIfInBounds_toArray, List.set_cons_zero, List.set_cons_succ]
  refine wpPlan_nil (hT.out _ _ ?_); clear hT T
  intro G vw1 hg hf
  simp only [puts, Act.put, List.setIfInBounds_toArray, List.set_cons_zero, List.set_cons_succ, List.drop_succ_cons, List.drop_zero, ↓reduceIte, Nat.reduceEqDiff]
  clear lx9 lx10
  have HG := Lib.hid (hg)
  clear hg
  have bx9 := BX9.out.gr HG.out; clear BX9
  have bx10 := BX10.out.gr HG.out; clear BX10
  have lx9 := bx9.cells; have fx9 := bx9.free
  have r0 := Gr.refl vw1
  have BX9 := Lib.hid bx9; clear bx9
  have BX10 := Lib.hid bx10; clear bx10
  go_wp2
  refine hK.out _ _ ?_; clear hK K
  try simp only [Exit.then, Exit.inBlock]
  clear lx9 fx9
  clear r0
  refine forgetB (fun w2 => Bx w2 g 279 #[.int .u64 ((lo (Int.natAbs ((z).num)) : Nat) : Int), .string (bg (Int.natAbs ((z).num))), .bool (decide (((z).num) < 0)), .int .u64 ((lo ((z).den - 1) : Nat) : Int), .string (bg ((z).den - 1))] ∧ Below B w w2) ⟨((((((BX9.out).set 0 _).set 1 _).set 2 _).set 3 _).set 4 _).eq (by simp only [List.setIfInBounds_toArray, List.set_cons_zero, List.set_cons_succ]), (((((HB.out.trans (HG.out.mono (Nat.le_trans hB HB.out.size))).setCell (by show B ≤ g; omega) _).setCell (by show B ≤ g; omega) _).setCell (by show B ≤ g; omega) _).setCell (by show B ≤ g; omega) _).setCell (by show B ≤ g; omega) _⟩ ?_
  clear HB HG BX9 BX10
  rintro Wx1 ⟨bx9, HB⟩
  replace HB := Lib.hid HB
  have r0 := Gr.refl Wx1
  exact bodyPost_end (v := .tuple #[]) (by simp [results, Tryz.results232, go_sem]) rfl ⟨rfl, HB.out, bx9⟩
def fcells (q : Rat) : List Value := [.int .u64 ((lo (Int.natAbs ((q).num)) : Nat) : Int), .string (bg (Int.natAbs ((q).num))), .bool (decide (((q).num) < 0)), .int .u64 ((lo ((q).den - 1) : Nat) : Int), .string (bg ((q).den - 1))]
theorem fcells_at (l : List Rat) (i j : Nat) (hi : i < l.length) (hj : j < 5) : (l.flatMap fcells)[5 * i + j]? = (fcells (l[i]))[j]? := by
  induction l generalizing i with
  | nil => simp at hi
  | cons q l ih =>
    rw [List.flatMap_cons]
    cases i with
    | zero =>
      rw [List.getElem?_append_left (by simp [fcells]; omega)]
      simp
    | succ i =>
      rw [List.getElem?_append_right (by simp [fcells]; omega)]
      have e : 5 * (i + 1) + j - (fcells q).length = 5 * i + j := by simp [fcells]; omega
      rw [e, ih i (by simpa using hi)]
      simp
def psum (l : List Rat) (k : Nat) : Rat := (l.take k).foldl (· + ·) 0
theorem psum_succ (l : List Rat) (k : Nat) (h : k < l.length) : psum l k + l[k] = psum l (k + 1) := by
  unfold psum
  rw [List.take_succ_eq_append_getElem h, List.foldl_append]
  rfl
theorem sz_psum (l : List Rat) (M : Nat) (h : ∀ q ∈ l, sz q ≤ M) (k : Nat) (hk : k ≤ l.length) : sz (psum l k) ≤ 1 + k * (M + 1) := by
  induction k with
  | zero =>
    have e : psum l 0 = 0 := by simp [psum]
    rw [e]
    exact Nat.le_trans (sz_of (wl_small (by decide)) (wl_small (by decide))) (Nat.le_add_right 1 _)
  | succ k ih =>
    rw [← psum_succ l k (by omega)]
    have h1 := sz_add (psum l k) l[k]
    have h2 := ih (by omega)
    have h3 := h l[k] (List.getElem_mem _)
    have h4 : (k + 1) * (M + 1) = k * (M + 1) + (M + 1) := by rw [Nat.succ_mul]
    omega
set_option maxHeartbeats 1000000 in
theorem each_any (l : List Rat) (g b c B : Nat) (w : World) (hb : Bx w b 36 (l.flatMap fcells).toArray) (hbB : b < B) (bx : Bx w g 279 #[.int .u64 0, .string ⟨#[]⟩, .bool false, .int .u64 0, .string ⟨#[]⟩]) (hB : B ≤ w.heap.size) (hBg : B ≤ g)
    (hc : c ≤ 1000000) (hl : l.length = c) (hs : ∀ q ∈ l, sz q ≤ 1000) :
    Calls Tryz.prog 231 #[.func (.func 232) #[.pointer (some ⟨g, 0, none⟩)] #[], .slice (some ⟨b, 0, none⟩) c c] w fun e w' => e = .returned (.tuple #[]) ∧ Below B w w' ∧ Bx w' g 279 #[.int .u64 ((lo (Int.natAbs ((psum l c).num)) : Nat) : Int), .string (bg (Int.natAbs ((psum l c).num))), .bool (decide (((psum l c).num) < 0)), .int .u64 ((lo ((psum l c).den - 1) : Nat) : Int), .string (bg ((psum l c).den - 1))] := by
  have HS := Lib.hid hs
  have HL := Lib.hid hl
  clear hs hl
  go_enter Tryz.func231, Tryz.ntmps231
  go_wp2
  go_loopw [8] (fun i wr => ∃ k : Nat, k ≤ c ∧ i = .int .i64 k ∧ Below B w wr ∧ Bx wr g 279 #[.int .u64 ((lo (Int.natAbs ((psum l k).num)) : Nat) : Int), .string (bg (Int.natAbs ((psum l k).num))), .bool (decide (((psum l k).num) < 0)), .int .u64 ((lo ((psum l k).den - 1) : Nat) : Int), .string (bg ((psum l k).den - 1))]) (fun i _ => c - (intOf i).toNat)
  case atStart => exact ⟨0, Nat.zero_le _, rfl, Below.refl _ _, bx⟩
  case round =>
    obtain ⟨k, hk, rfl, hbel, hbx⟩ := hrel
    by_cases hlt : k < c
    · have hkl : k < l.length := by rw [HL.out]; exact hlt
      have hcell : ∀ j, j < 5 → wr.cell? ⟨b, k * 5 + j, none⟩ = (fcells l[k])[j]? := fun j hj => by
        rw [Nat.mul_comm k 5]
        have h1 := hb.below hbel hbB
        have h2 := h1.cells wr (Gr.refl wr) (5 * k + j)
        rw [h2, List.getElem?_toArray]
        exact fcells_at l k j hkl hj
      obtain ⟨q, HQ⟩ : ∃ q, Hid (l[k] = q) := ⟨_, Lib.hid rfl⟩
      have HSQ : sz q ≤ 1000 := by rw [← HQ.out]; exact HS.out _ (List.getElem_mem _)
      rw [HQ.out] at hcell
      have c0 := hcell 0 (by decide)
      have c1 := hcell 1 (by decide)
      have c2 := hcell 2 (by decide)
      have c3 := hcell 3 (by decide)
      have c4 := hcell 4 (by decide)
      clear hcell
      simp [fcells] at c0 c1 c2 c3 c4
      have HB := Lib.hid hbel
      have HX := Lib.hid hbx
      have hsz := Nat.le_trans hB hbel.size
      have hsp : sz (psum l k) ≤ 10000000000 := by
        have h1 := sz_psum l 1000 HS.out k (by omega)
        have h2 : k * 1001 ≤ 1000000 * 1001 := Nat.mul_le_mul_right _ (by omega)
        omega
      have HP : Hid (psum l k + q = psum l (k + 1)) := by show _ = _; rw [← HQ.out]; exact psum_succ l k hkl
      clear hbel hbx
      go_wp2_with fail
      refine (tadd_any (psum l k) q (psum l (k + 1)) g B _ ((HX.out.alloc _)) (by simp; omega) hBg HP.out hsp (by omega)).mono ?_
      rintro e w2 ⟨rfl, hb2, hx2⟩
      have HB2 := Lib.hid ((HB.out.alloc hsz _).trans hb2)
      have HX2 := Lib.hid hx2
      clear hb2 hx2
      go_wp2_with fail
      go_roundw
      case rel => exact ⟨k + 1, by omega, by go_num, HB2.out, HX2.out⟩
      case measure => simp [intOf]; omega
    · obtain rfl : k = c := by omega
      have HB := Lib.hid hbel
      have HX := Lib.hid hbx
      clear hbel hbx
      go_wp2
      exact bodyPost_end (v := .tuple #[]) (by simp [results, Tryz.results231, go_sem]) rfl ⟨rfl, HB.out, HX.out⟩
set_option maxHeartbeats 1000000 in
theorem fsum_any (l : List Rat) (b c : Nat) (z : Rat) (w : World) (hb : Bx w b 36 (l.flatMap fcells).toArray) (hl : l.length = c) (hc : c ≤ 1000000) (hs : ∀ q ∈ l, sz q ≤ 1000) (hz : psum l c = z) :
    Calls Tryz.prog 157 #[.slice (some ⟨b, 0, none⟩) c c] w fun e w' => e = .returned (Value.agg #[.int .u64 ((lo (Int.natAbs ((z).num)) : Nat) : Int), .string (bg (Int.natAbs ((z).num))), .bool (decide (((z).num) < 0)), .int .u64 ((lo ((z).den - 1) : Nat) : Int), .string (bg ((z).den - 1))]) ∧ Below w.heap.size w w' := by
  obtain ⟨W0, HW⟩ : ∃ W0, Hid (((w.alloc (.cells #[.int .u64 0, .string ⟨#[]⟩, .bool false, .int .u64 0, .string ⟨#[]⟩] 36)).alloc (.cells #[.int .u64 0, .string ⟨#[]⟩, .bool false, .int .u64 0, .string ⟨#[]⟩] 279)) = W0) := ⟨_, Lib.hid rfl⟩
  have hsz : w.heap.size + 2 = W0.heap.size := by rw [← HW.out]; simp
  have hlt := hb.lt
  have H1 := Lib.hid (show Bx W0 w.heap.size 36 #[.int .u64 0, .string ⟨#[]⟩, .bool false, .int .u64 0, .string ⟨#[]⟩] by rw [← HW.out]; exact (Bx.at rfl).alloc _)
  have H2 := Lib.hid (show Bx W0 (w.heap.size + 1) 279 #[.int .u64 0, .string ⟨#[]⟩, .bool false, .int .u64 0, .string ⟨#[]⟩] by rw [← HW.out]; exact Bx.at (by simp))
  have H3 := Lib.hid (show Bx W0 b 36 (l.flatMap fcells).toArray by rw [← HW.out]; exact (hb.alloc _).alloc _)
  have H4 := Lib.hid (show Below w.heap.size w W0 by rw [← HW.out]; exact ((Below.refl _ _).alloc (Nat.le_refl _) _).alloc (by simp) _)
  have HE := Lib.hid (each_any l (w.heap.size + 1) b c (w.heap.size + 1) W0 H3.out (by omega) H2.out (by omega) (Nat.le_refl _) hc hl hs)
  have HZ := Lib.hid hz
  clear hb hl hs hz hsz
  go_enter Tryz.func157, Tryz.ntmps157
  go_wp2_with fail
  rw [HW.out]
  refine HE.out.mono ?_
  rintro e w2 ⟨rfl, hb2, hx2⟩
  rw [HZ.out] at hx2
  have l1 := hx2.cells
  have h1 := H1.out.below hb2 (Nat.lt_succ_self _)
  have l2 := h1.cells
  have f2 := h1.free
  have r0 := Gr.refl w2
  have HB := Lib.hid (H4.out.trans (hb2.mono (Nat.le_succ _)))
  clear hb2 hx2 h1 H1 H2 H3 H4 HE HW
  go_wp2_with fail
  exact bodyPost_ret (v := .agg #[.int .u64 ((lo (Int.natAbs ((z).num)) : Nat) : Int), .string (bg (Int.natAbs ((z).num))), .bool (decide (((z).num) < 0)), .int .u64 ((lo ((z).den - 1) : Nat) : Int), .string (bg ((z).den - 1))]) (by simp [results, Tryz.results157, go_sem, l2 _ r0]) rfl ⟨rfl, ((((HB.out.setCell (Nat.le_refl _) _).setCell (Nat.le_refl _) _).setCell (Nat.le_refl _) _).setCell (Nat.le_refl _) _).setCell (Nat.le_refl _) _⟩
end Go.Proofs.YtobojnodohjiaaaGreatDoor
