
/- ReconsBack: the law's walk. -/
import Derived.Test.YtobojnodohjiaaaGreatDoorRecW
import Derived.Test.YtobojnodohjiaaaGreatDoorRecT
import Derived.Test.YtobojnodohjiaaaGreatDoorRr8
import Derived.Test.YtobojnodohjiaaaGreatDoorHp2
namespace Go.Proofs.YtobojnodohjiaaaGreatDoor
open Go.RowKit
set_option linter.unusedSimpArgs false
set_option linter.unusedVariables false
attribute [local go_sem ↓] Go.wp_at_zero Go.wp_at_succ
attribute [local go_sem ↓] eq_nat eq_nat_zero eq_int eq_frac eq_frac_zero
attribute [local go_sem] Instr.field asAgg
theorem tmod_bd (a k : Int) (hk : 0 < k) : -k < Int.tmod a k ∧ Int.tmod a k < k := by
  have h := Int.natAbs_tmod a k
  have := Nat.mod_lt a.natAbs (show 0 < k.natAbs by omega)
  omega
theorem tmod_nat9 {m k : Int} (h : 0 ≤ m) (hk : 0 < k) : ∃ r : Nat, Int.tmod m k = ((r : Nat) : Int) ∧ (r : Int) < k := by
  have h1 := Int.emod_nonneg m (show k ≠ 0 by omega)
  have h2 := Int.emod_lt_of_pos m hk
  exact ⟨(m % k).toNat, by rw [Int.tmod_eq_emod_of_nonneg h]; omega, by omega⟩
theorem num_quot (z : Rat) : ((z.num : Int) : Rat) / (((z.den : Nat) : Int) : Rat) = z := by
  have h := Rat.mkRat_eq_div z.num z.den
  rw [Rat.mkRat_self] at h
  exact h.symm
theorem far_small {z : Rat} {m : Nat} (h : rfar z m) (hm : m ≤ 400) : -400 ≤ z.num ∧ z.num ≤ 400 ∧ z.den ≤ 400 := by
  have e1 := Nat.le_mul_self z.num.natAbs
  have e2 := Nat.le_mul_self z.den
  have := h.1
  have := h.2
  omega
theorem sq_natAbs (n : Int) : ((n.natAbs * n.natAbs : Nat) : Int) = n * n := by
  rw [Int.natCast_mul]
  rcases Int.natAbs_eq n with e | e
  · rw [← e]
  · have e2 : (n.natAbs : Int) = -n := by omega
    rw [e2, Int.neg_mul_neg]
theorem far7 (q : Rat) (m : Nat) (b : Bool) (h : decide (rfar q m) = b) : decide (2 * q.num * q.num < (m : Int) ∧ 2 * ((q.den : Nat) : Int) * ((q.den : Nat) : Int) < (m : Int)) = b := by
  rw [← h]
  have e : (2 * q.num * q.num < (m : Int) ∧ 2 * ((q.den : Nat) : Int) * ((q.den : Nat) : Int) < (m : Int)) ↔ rfar q m := by
    have e1 := sq_natAbs q.num
    have e2 : (((q.den : Nat) : Int) * ((q.den : Nat) : Int)) = ((q.den * q.den : Nat) : Int) := (Int.natCast_mul _ _).symm
    rw [Int.mul_assoc, Int.mul_assoc, e2, ← e1]
    unfold rfar
    omega
  by_cases c : rfar q m
  · rw [decide_eq_true c, decide_eq_true (e.2 c)]
  · rw [decide_eq_false c, decide_eq_false (fun h => c (e.1 h))]

set_option maxRecDepth 100000 in
set_option maxHeartbeats 16000000 in
theorem backl_t  (a m x : Int) (y : Nat) (z : Rat) (N D : Int) (w : World)  (ha1 : -32768 ≤ a) (ha2 : a ≤ 32767) (hm1 : 0 ≤ m) (hm2 : m ≤ 65535) (HX : Hid (Int.tmod a 2001 = x)) (HY : Hid (Int.tmod m 401 = ((y : Nat) : Int))) (hx1 : -2000 ≤ x) (hx2 : x ≤ 2000) (hy9 : y ≤ 400) (HBX : Hid (bk x y z true)) (HN : Hid (z.num = N)) (HD : Hid (((z.den : Nat) : Int) = D)) (HZD : Hid (((N : Int) : Rat) / ((D : Int) : Rat) = z)) (hn1 : -400 ≤ N) (hn2 : N ≤ 400) (hd1 : 0 < D) (hd2 : D ≤ 400) (HT : Hid (Tab w)) :
    Calls Tryz.prog 4 #[.int .i16 (a), .int .u16 (m)] w fun e w' => e = .returned (.bool true) ∧ Below w.heap.size w w' := by
  have hwa : IntKind.i64.wrap a = a := by rw [IntKind.wrap_i64]; omega
  have hwm : IntKind.i64.wrap m = m := by rw [IntKind.wrap_i64]; omega
  have hwy : IntKind.u64.wrap ((y : Nat) : Int) = ((y : Nat) : Int) := by rw [IntKind.wrap_u64]; omega
  have hwy1 : wl y ≤ 1 := wl_small (by omega)
  go_enter Tryz.func4, Tryz.ntmps4
  have HF := Lib.hid (hp0 w)
  refine kS fun K hK => ?_
  refine wp_region_lit ?_
  go_wp2
  refine hK.out _ _ ?_; clear hK K
  show Code.wp _ _ _ _ _
  refine fH (HF.out) fun Wx0 HG => ?_
  clear HF; have HF := HG; clear HG
  have hrx : Int.tmod a 2001 = x := HX.out
  have hry : Int.tmod m 401 = ((y : Nat) : Int) := HY.out
  refine kS fun K hK => ?_
  refine sq 8 [(true, 0), (true, 1), (true, 2), (true, 3), (true, 4), (true, 5), (true, 6), (true, 7)] fun T hT => ?_
  iterate 8 refine tk ?_
  refine nlS hT HF fun vw1 HG => ?_
  clear hT T HF
  go_wp2
  refine hK.out _ _ ?_; clear hK K
  show Code.wp _ _ _ _ _
  have HF := HG; clear HG
  clear hrx hry
  have su1 : wl (Int.natAbs (x)) ≤ 2 := wl_i64 om om
  have su2 : sz (z) ≤ 1 := bk_size (HBX.out) om (by decide)
  refine kS fun K hK => ?_
  refine sq 9 [(true, 0), (true, 1), (true, 2), (true, 3), (true, 4), (true, 5), (true, 6), (true, 7), (true, 8)] fun T hT => ?_
  refine tk ?_
  refine ck Tryz.call23 (fun w' hw => iof_any (x) _ om om) ?_
  iterate 2 refine tk ?_
  refine ck Tryz.call24 (fun w' hw => nzof (y) _ (ok)) ?_
  refine ck Tryz.call22 (fun w' hw => rback (x) (y) (z) true _ (HBX.out) om om) ?_
  iterate 3 refine tk ?_
  refine nlS hT HF fun vw2 HG => ?_
  clear hT T HF
  go_wp2
  refine hK.out _ _ ?_; clear hK K
  show Code.wp _ _ _ _ _
  refine fH ((HG.out).al (b := vw2.heap.size) (by first | rfl | simp) (by decide)) fun Wx2 HF => ?_
  clear HG
  generalize vw2.heap.size = gx1 at *
  refine kS fun K hK => ?_
  refine sq 10 [(true, 0), (true, 1), (true, 2), (true, 3), (true, 4), (true, 5), (true, 6), (true, 7), (true, 8), (true, 9)] fun T hT => ?_
  iterate 2 refine tk ?_
  refine ck Tryz.call25 (fun w' hw => r7back (x) y z true (N) (D) _ HBX.out (HN.out) (HD.out) (by omega) (by omega) (by omega)) ?_
  iterate 7 refine tk ?_
  refine nlS hT HF fun vw3 HG => ?_
  clear hT T HF
  go_wp2
  refine hK.out _ _ ?_; clear hK K
  show Code.wp _ _ _ _ _
  have HF := HG; clear HG
  refine wp_seq ?_
  refine kS fun K hK => ?_
  refine sq 3 [(true, 0), (true, 1), (true, 2)] fun T hT => ?_
  iterate 3 refine tk ?_
  refine nlS hT HF fun vw4 HG => ?_
  clear hT T HF
  go_wp2
  refine hK.out _ _ ?_; clear hK K
  show Code.wp _ _ _ _ _
  have HF := HG; clear HG
  refine wp_cond_false (by rfl) ?_
  refine wp_skip ?_
  show Code.wp _ _ _ _ _
  have HB := HPb HF
  have HZ3 : Hid (((N : Int) : Rat) / ((D : Int) : Rat) = z) := Lib.hid (HZD.out)
  have su3 : sz (z) ≤ 1 := by have e := HZ3.out; first | omega | (rw [← e]; exact sz_quot (N) (D) om om om om)
  have lx1 := HF.out.c 0 rfl
  refine kS fun K hK => ?_
  refine pd 20 [(true, 0), (true, 1), (true, 2), (true, 3), (true, 4), (true, 5), (true, 6), (true, 7), (true, 8), (true, 9), (true, 10), (true, 11), (true, 12), (true, 13), (true, 14), (true, 15), (true, 16), (true, 17), (true, 18), (true, 19)] fun T hT => ?_
  iterate 3 refine tk ?_
  iterate 3 refine sk ?_
  iterate 7 refine tk ?_
  refine ck Tryz.call26 (fun w' hw => ofr_any (N) (D) (z) _ (Lib.hid HZ3.out) (by omega) om om om om) ?_
  iterate 4 refine tk ?_
  refine ck Tryz.call27 (fun w' hw => works7_any _ (Lib.hid (HT.out.gr (Gr.trans HB.out hw)))) ?_
  refine tk ?_
  refine nlD hT HF fun vw5 HG => ?_
  clear hT T HF lx1 HB
  go_wp2
  refine hK.out _ _ ?_; clear hK K
  show Code.wp _ _ _ _ _
  refine fH ((HG.out).er 0) fun Wx6 HF => ?_
  clear HG
  refine wp_ret ?_
  try simp only [Exit.then, Exit.inBlock]
  exact bodyPost_ret (v := .bool true) (by simp [results, Tryz.results4, go_sem]) rfl ⟨rfl, HF.out.1⟩

set_option maxRecDepth 100000 in
set_option maxHeartbeats 16000000 in
theorem backl_f  (a m x : Int) (y : Nat) (w : World)  (ha1 : -32768 ≤ a) (ha2 : a ≤ 32767) (hm1 : 0 ≤ m) (hm2 : m ≤ 65535) (HX : Hid (Int.tmod a 2001 = x)) (HY : Hid (Int.tmod m 401 = ((y : Nat) : Int))) (hx1 : -2000 ≤ x) (hx2 : x ≤ 2000) (hy9 : y ≤ 400) (HBX : Hid (bk x y 0 false)) (HT : Hid (Tab w)) :
    Calls Tryz.prog 4 #[.int .i16 (a), .int .u16 (m)] w fun e w' => e = .returned (.bool true) ∧ Below w.heap.size w w' := by
  have hwa : IntKind.i64.wrap a = a := by rw [IntKind.wrap_i64]; omega
  have hwm : IntKind.i64.wrap m = m := by rw [IntKind.wrap_i64]; omega
  have hwy : IntKind.u64.wrap ((y : Nat) : Int) = ((y : Nat) : Int) := by rw [IntKind.wrap_u64]; omega
  have hwy1 : wl y ≤ 1 := wl_small (by omega)
  go_enter Tryz.func4, Tryz.ntmps4
  have HF := Lib.hid (hp0 w)
  refine kS fun K hK => ?_
  refine wp_region_lit ?_
  go_wp2
  refine hK.out _ _ ?_; clear hK K
  show Code.wp _ _ _ _ _
  refine fH (HF.out) fun Wx0 HG => ?_
  clear HF; have HF := HG; clear HG
  have hrx : Int.tmod a 2001 = x := HX.out
  have hry : Int.tmod m 401 = ((y : Nat) : Int) := HY.out
  refine kS fun K hK => ?_
  refine sq 8 [(true, 0), (true, 1), (true, 2), (true, 3), (true, 4), (true, 5), (true, 6), (true, 7)] fun T hT => ?_
  iterate 8 refine tk ?_
  refine nlS hT HF fun vw1 HG => ?_
  clear hT T HF
  go_wp2
  refine hK.out _ _ ?_; clear hK K
  show Code.wp _ _ _ _ _
  have HF := HG; clear HG
  clear hrx hry
  have su1 : wl (Int.natAbs (x)) ≤ 2 := wl_i64 om om
  refine kS fun K hK => ?_
  refine sq 9 [(true, 0), (true, 1), (true, 2), (true, 3), (true, 4), (true, 5), (true, 6), (true, 7), (true, 8)] fun T hT => ?_
  refine tk ?_
  refine ck Tryz.call23 (fun w' hw => iof_any (x) _ om om) ?_
  iterate 2 refine tk ?_
  refine ck Tryz.call24 (fun w' hw => nzof (y) _ (ok)) ?_
  refine ck Tryz.call22 (fun w' hw => rback (x) (y) 0 false _ (HBX.out) om om) ?_
  iterate 3 refine tk ?_
  refine nlS hT HF fun vw2 HG => ?_
  clear hT T HF
  go_wp2
  refine hK.out _ _ ?_; clear hK K
  show Code.wp _ _ _ _ _
  refine fH ((HG.out).al (b := vw2.heap.size) (by first | rfl | simp) (by decide)) fun Wx2 HF => ?_
  clear HG
  generalize vw2.heap.size = gx1 at *
  refine kS fun K hK => ?_
  refine sq 10 [(true, 0), (true, 1), (true, 2), (true, 3), (true, 4), (true, 5), (true, 6), (true, 7), (true, 8), (true, 9)] fun T hT => ?_
  iterate 2 refine tk ?_
  refine ck Tryz.call25 (fun w' hw => r7back (x) y 0 false (0) (0) _ HBX.out (rfl) (rfl) (by omega) (by omega) (by omega)) ?_
  iterate 7 refine tk ?_
  refine nlS hT HF fun vw3 HG => ?_
  clear hT T HF
  go_wp2
  refine hK.out _ _ ?_; clear hK K
  show Code.wp _ _ _ _ _
  have HF := HG; clear HG
  refine wp_seq ?_
  refine kS fun K hK => ?_
  refine sq 3 [(true, 0), (true, 1), (true, 2)] fun T hT => ?_
  iterate 3 refine tk ?_
  refine nlS hT HF fun vw4 HG => ?_
  clear hT T HF
  go_wp2
  refine hK.out _ _ ?_; clear hK K
  show Code.wp _ _ _ _ _
  have HF := HG; clear HG
  refine wp_cond_false (by rfl) ?_
  refine wp_skip ?_
  show Code.wp _ _ _ _ _
  have HB := HPb HF
  have lx1 := HF.out.c 0 rfl
  refine kS fun K hK => ?_
  refine pd 20 [(true, 0), (true, 1), (true, 2), (true, 3), (true, 4), (true, 5), (true, 6), (true, 7), (true, 8), (true, 9), (true, 10), (true, 11), (true, 12), (true, 13), (true, 14), (true, 15), (true, 16), (true, 17), (true, 18), (true, 19)] fun T hT => ?_
  iterate 8 refine tk ?_
  iterate 8 refine sk ?_
  iterate 2 refine tk ?_
  refine ck Tryz.call27 (fun w' hw => works7_any _ (Lib.hid (HT.out.gr (Gr.trans HB.out hw)))) ?_
  refine tk ?_
  refine nlD hT HF fun vw5 HG => ?_
  clear hT T HF lx1 HB
  go_wp2
  refine hK.out _ _ ?_; clear hK K
  show Code.wp _ _ _ _ _
  refine fH ((HG.out).er 0) fun Wx6 HF => ?_
  clear HG
  refine wp_ret ?_
  try simp only [Exit.then, Exit.inBlock]
  exact bodyPost_ret (v := .bool true) (by simp [results, Tryz.results4, go_sem]) rfl ⟨rfl, HF.out.1⟩

theorem back_law7 (a m : Int) (w : World) (ha1 : -32768 ≤ a) (ha2 : a ≤ 32767) (hm1 : 0 ≤ m) (hm2 : m ≤ 65535) (HT : Hid (Tab w)) :
    Calls Tryz.prog 4 #[.int .i16 a, .int .u16 m] w fun e w' => e = .returned (.bool true) ∧ Below w.heap.size w w' := by
  obtain ⟨x1, x2⟩ := tmod_bd a 2001 (by decide)
  obtain ⟨y, hy, hy2⟩ := tmod_nat9 hm1 (show (0 : Int) < 401 by decide)
  obtain ⟨z, b, hz⟩ := bk_ex (Int.tmod a 2001) y
  cases b
  · obtain rfl : z = 0 := by rcases hz with ⟨h, _⟩ | ⟨_, h, _⟩; cases h; exact h
    exact backl_f a m _ y w ha1 ha2 hm1 hm2 (Lib.hid rfl) (Lib.hid hy) (by omega) (by omega) (by omega) (Lib.hid hz) HT
  · have hf : rfar z y := by rcases hz with ⟨_, h, _⟩ | ⟨h, _⟩; exact h; cases h
    obtain ⟨n1, n2, d2⟩ := far_small hf (by omega)
    have d1 := z.den_pos
    exact backl_t a m _ y z _ _ w ha1 ha2 hm1 hm2 (Lib.hid rfl) (Lib.hid hy) (by omega) (by omega) (by omega) (Lib.hid hz) (Lib.hid rfl) (Lib.hid rfl) (Lib.hid (num_quot z)) n1 n2 (by omega) (by omega) HT

end Go.Proofs.YtobojnodohjiaaaGreatDoor
