
/- ReconsFits: the law's walk. -/
import Derived.Test.YtobojnodohjiaaaGreatDoorRecBack
import Derived.Test.YtobojnodohjiaaaGreatDoorI64
namespace Go.Proofs.YtobojnodohjiaaaGreatDoor
open Go.RowKit
set_option linter.unusedSimpArgs false
set_option linter.unusedVariables false
attribute [local go_sem ↓] Go.wp_at_zero Go.wp_at_succ
attribute [local go_sem ↓] eq_nat eq_nat_zero eq_int eq_frac eq_frac_zero
attribute [local go_sem] Instr.field asAgg
theorem fDen_z (q : Rat) (z : Nat) (w : World) (hz : q.den = z) (hs : sz q ≤ 1000) :
    Calls Tryz.prog 38 #[(Value.agg #[.int .u64 ((lo (Int.natAbs ((q).num)) : Nat) : Int), .string (bg (Int.natAbs ((q).num))), .bool (decide (((q).num) < 0)), .int .u64 ((lo ((q).den - 1) : Nat) : Int), .string (bg ((q).den - 1))])] w fun e w' => e = .returned (Value.agg #[.int .u64 ((lo (z) : Nat) : Int), .string (bg (z))]) ∧ Below w.heap.size w w' := hz ▸ fDen_any q w (Nat.le_trans hs (by decide))
theorem quot_small {N : Int} {D : Nat} {q : Rat} (hq : ((N : Int) : Rat) / ((((D : Nat) : Int) + 1 : Int) : Rat) = q) (h1 : -300 ≤ N) (h2 : N ≤ 300) (h3 : D ≤ 59) : -300 ≤ q.num ∧ q.num ≤ 300 ∧ q.den ≤ 60 := by
  have e : mkRat N (D + 1) = q := by
    rw [← hq, Rat.mkRat_eq_div]
    rfl
  obtain ⟨m, hm, k1, k2⟩ := Rat.mkRat_num_den (n := N) (d := D + 1) (n' := q.num) (d' := q.den) (z' := q.den_nz) (c := q.reduced) (by omega) e
  have hd := q.den_pos
  have e2 : q.den * 1 ≤ q.den * m := Nat.mul_le_mul_left _ (by omega)
  have e3 : N.natAbs = q.num.natAbs * m := by rw [k1, Int.natAbs_mul, Int.natAbs_natCast]
  have e4 : q.num.natAbs * 1 ≤ q.num.natAbs * m := Nat.mul_le_mul_left _ (by omega)
  omega

set_option maxRecDepth 100000 in
set_option maxHeartbeats 16000000 in
theorem fitsl_main  (n a d m N x P : Int) (D y E : Nat) (q : Rat) (b1 b2 : Bool) (w : World)  (hn1 : -32768 ≤ n) (hn2 : n ≤ 32767) (ha1 : -32768 ≤ a) (ha2 : a ≤ 32767) (hd1 : 0 ≤ d) (hd2 : d ≤ 65535) (hm1 : 0 ≤ m) (hm2 : m ≤ 65535) (HN : Hid (Int.tmod n 301 = N)) (HX : Hid (Int.tmod a 301 = x)) (HD : Hid (Int.tmod d 60 = ((D : Nat) : Int))) (HY : Hid (Int.tmod m 401 = ((y : Nat) : Int))) (hN1 : -300 ≤ N) (hN2 : N ≤ 300) (hx1 : -300 ≤ x) (hx2 : x ≤ 300) (hD9 : D ≤ 59) (hy9 : y ≤ 400) (HQ : Hid (((N : Int) : Rat) / ((((D : Nat) : Int) + 1 : Int) : Rat) = q)) (HP : Hid (q.num = P)) (HDN : Hid (q.den = E)) (hP1 : -300 ≤ P) (hP2 : P ≤ 300) (hE1 : 0 < E) (hE2 : E ≤ 60) (HF1 : Hid (decide (rfit q x y) = b1)) (HF2 : Hid (decide (rfar q y) = b2)) (HT : Hid (Tab w)) :
    Calls Tryz.prog 9 #[.int .i16 (n), .int .i16 (a), .int .u16 (d), .int .u16 (m)] w fun e w' => e = .returned (.bool true) ∧ Below w.heap.size w w' := by
  have hwE : IntKind.i64.wrap ((E : Nat) : Int) = ((E : Nat) : Int) := by rw [IntKind.wrap_i64]; omega
  have hwn : IntKind.i64.wrap n = n := by rw [IntKind.wrap_i64]; omega
  have hwa : IntKind.i64.wrap a = a := by rw [IntKind.wrap_i64]; omega
  have hwm : IntKind.i64.wrap m = m := by rw [IntKind.wrap_i64]; omega
  have hwy : IntKind.u64.wrap ((y : Nat) : Int) = ((y : Nat) : Int) := by rw [IntKind.wrap_u64]; omega
  have hwy1 : wl y ≤ 1 := wl_small (by omega)
  go_enter Tryz.func9, Tryz.ntmps9
  have HF := Lib.hid (hp0 w)
  refine kS fun K hK => ?_
  refine wp_region_lit ?_
  go_wp2
  refine hK.out _ _ ?_; clear hK K
  show Code.wp _ _ _ _ _
  refine fH (HF.out) fun Wx0 HG => ?_
  clear HF; have HF := HG; clear HG
  have hrn : Int.tmod n 301 = N := HN.out
  have hrd : Int.tmod d 60 = ((D : Nat) : Int) := HD.out
  have hwD : IntKind.i64.wrap ((D : Nat) : Int) = ((D : Nat) : Int) := by rw [IntKind.wrap_i64]; omega
  have hwD1 : IntKind.i64.wrap (((D : Nat) : Int) + 1) = ((D : Nat) : Int) + 1 := by rw [IntKind.wrap_i64]; omega
  have HZ1 : Hid (((N : Int) : Rat) / ((((D : Nat) : Int) + 1 : Int) : Rat) = q) := Lib.hid (HQ.out)
  have su1 : sz (q) ≤ 4 := by have e := HZ1.out; first | omega | (rw [← e]; exact sz_quot (N) (((D : Nat) : Int) + 1) om om om om)
  refine kS fun K hK => ?_
  refine sq 8 [(true, 0), (true, 1), (true, 2), (true, 3), (true, 4), (true, 5), (true, 6), (true, 7)] fun T hT => ?_
  iterate 7 refine tk ?_
  refine ck Tryz.call26 (fun w' hw => ofr_any (N) (((D : Nat) : Int) + 1) (q) _ (Lib.hid HZ1.out) (by omega) om om om om) ?_
  refine nlS hT HF fun vw1 HG => ?_
  clear hT T HF
  go_wp2
  refine hK.out _ _ ?_; clear hK K
  show Code.wp _ _ _ _ _
  refine fH ((HG.out).al (b := vw1.heap.size) (by first | rfl | simp) (by decide)) fun Wx1 HF => ?_
  clear HG
  generalize vw1.heap.size = gx1 at *
  clear hrn hrd hwD hwD1
  have HZ2 : Hid ((q).num = P) := Lib.hid (HP.out)
  have su2 : wl (Int.natAbs (P)) ≤ 4 := by have e := HZ2.out; first | omega | (rw [← e]; exact Nat.le_trans (sz_num _) (by omega))
  have lx1 := HF.out.c 0 rfl
  refine kS fun K hK => ?_
  refine sq 8 [(true, 0), (true, 1), (true, 2), (true, 3), (true, 4), (true, 5), (true, 6), (true, 7)] fun T hT => ?_
  refine tk ?_
  refine ck Tryz.call40 (fun w' hw => fnum_z (q) (P) _ HZ2.out) ?_
  refine ck Tryz.call46 (fun w' hw => i64_in (P) _ (by unfold In64; omega)) ?_
  iterate 5 refine tk ?_
  refine nlS hT HF fun vw2 HG => ?_
  clear hT T HF lx1
  go_wp2
  refine hK.out _ _ ?_; clear hK K
  show Code.wp _ _ _ _ _
  have HF := HG; clear HG
  have su3 : wl E ≤ 1 := wl_small (by omega)
  have lx1 := HF.out.c 0 rfl
  refine kS fun K hK => ?_
  refine sq 8 [(true, 0), (true, 1), (true, 2), (true, 3), (true, 4), (true, 5), (true, 6), (true, 7)] fun T hT => ?_
  refine tk ?_
  refine ck Tryz.call38 (fun w' hw => fDen_z (q) E _ HDN.out om) ?_
  refine ck Tryz.call47 (fun w' hw => nzu64 (E) (E) _ rfl (ok)) ?_
  iterate 5 refine tk ?_
  refine nlS hT HF fun vw3 HG => ?_
  clear hT T HF lx1
  go_wp2
  refine hK.out _ _ ?_; clear hK K
  show Code.wp _ _ _ _ _
  have HF := HG; clear HG
  have hrx : Int.tmod a 301 = x := HX.out
  have hry : Int.tmod m 401 = ((y : Nat) : Int) := HY.out
  refine kS fun K hK => ?_
  refine sq 8 [(true, 0), (true, 1), (true, 2), (true, 3), (true, 4), (true, 5), (true, 6), (true, 7)] fun T hT => ?_
  iterate 8 refine tk ?_
  refine nlS hT HF fun vw4 HG => ?_
  clear hT T HF
  go_wp2
  refine hK.out _ _ ?_; clear hK K
  show Code.wp _ _ _ _ _
  have HF := HG; clear HG
  clear hrx hry
  have HB := HPb HF
  have su4 : wl (Int.natAbs (x)) ≤ 2 := wl_i64 om om
  have hbb1 : (b1 == b1) = true := by simp
  have hbb2 : (b2 == b2) = true := by simp
  have lx1 := HF.out.c 0 rfl
  refine kS fun K hK => ?_
  refine pd 30 [(true, 0), (true, 1), (true, 3), (true, 4), (true, 7), (true, 8), (true, 9), (true, 10), (true, 11), (true, 2), (true, 5), (true, 6), (true, 12), (true, 13), (true, 14), (true, 15), (true, 16), (true, 17), (true, 20), (true, 21), (true, 22), (true, 23), (true, 18), (true, 19), (true, 24), (true, 25), (true, 26), (true, 27), (true, 28), (true, 29)] fun T hT => ?_
  iterate 9 refine tk ?_
  refine ck Tryz.call23 (fun w' hw => iof_any (x) _ om om) ?_
  refine ck Tryz.call24 (fun w' hw => nzof (y) _ (ok)) ?_
  refine ck Tryz.call33 (fun w' hw => rFits (q) (x) (y) b1 _ (HF1.out) om om om) ?_
  refine ck Tryz.call48 (fun w' hw => r7fits (P) (E) (x) (y) b1 _ (by rw [← HP.out, ← HDN.out]; exact HF1.out) (by omega) (by omega) (by omega) (by omega) (by omega) (by omega)) ?_
  iterate 9 refine tk ?_
  refine ck Tryz.call24 (fun w' hw => nzof (y) _ (ok)) ?_
  refine ck Tryz.call34 (fun w' hw => rFar (q) (y) b2 _ (HF2.out) om om) ?_
  refine ck Tryz.call49 (fun w' hw => r7far (P) (E) (y) b2 _ (by rw [← HP.out, ← HDN.out]; exact far7 q y b2 HF2.out) (by omega) (by omega) (by omega) (by omega)) ?_
  iterate 3 refine tk ?_
  refine ck Tryz.call27 (fun w' hw => works7_any _ (Lib.hid (HT.out.gr (Gr.trans HB.out hw)))) ?_
  refine tk ?_
  refine nlD hT HF fun vw5 HG => ?_
  clear hT T HF lx1 HB
  go_wp2
  refine hK.out _ _ ?_; clear hK K
  show Code.wp _ _ _ _ _
  refine fH ((HG.out).er 0) fun Wx5 HF => ?_
  clear HG
  clear hbb1 hbb2
  refine wp_ret ?_
  try simp only [Exit.then, Exit.inBlock]
  exact bodyPost_ret (v := .bool true) (by simp [results, Tryz.results9, go_sem]) rfl ⟨rfl, HF.out.1⟩

theorem fits_law7 (n a d m : Int) (w : World) (hn1 : -32768 ≤ n) (hn2 : n ≤ 32767) (ha1 : -32768 ≤ a) (ha2 : a ≤ 32767) (hd1 : 0 ≤ d) (hd2 : d ≤ 65535) (hm1 : 0 ≤ m) (hm2 : m ≤ 65535) (HT : Hid (Tab w)) :
    Calls Tryz.prog 9 #[.int .i16 n, .int .i16 a, .int .u16 d, .int .u16 m] w fun e w' => e = .returned (.bool true) ∧ Below w.heap.size w w' := by
  obtain ⟨x1, x2⟩ := tmod_bd a 301 (by decide)
  obtain ⟨n1, n2⟩ := tmod_bd n 301 (by decide)
  obtain ⟨y, hy, hy2⟩ := tmod_nat9 hm1 (show (0 : Int) < 401 by decide)
  obtain ⟨D, hD, hD2⟩ := tmod_nat9 hd1 (show (0 : Int) < 60 by decide)
  obtain ⟨q, hq⟩ : ∃ q, ((Int.tmod n 301 : Int) : Rat) / ((((D : Nat) : Int) + 1 : Int) : Rat) = q := ⟨_, rfl⟩
  obtain ⟨p1, p2, e2⟩ := quot_small hq (by omega) (by omega) (by omega)
  have e1 := q.den_pos
  exact fitsl_main n a d m _ _ _ D y _ q _ _ w hn1 hn2 ha1 ha2 hd1 hd2 hm1 hm2 (Lib.hid rfl) (Lib.hid rfl) (Lib.hid hD) (Lib.hid hy) (by omega) (by omega) (by omega) (by omega) (by omega) (by omega) (Lib.hid hq) (Lib.hid rfl) (Lib.hid rfl) p1 p2 (by omega) (by omega) (Lib.hid rfl) (Lib.hid rfl) HT

end Go.Proofs.YtobojnodohjiaaaGreatDoor
