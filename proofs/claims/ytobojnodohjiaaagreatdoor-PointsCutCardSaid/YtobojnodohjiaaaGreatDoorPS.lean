/- A pack of texts: FracText, NumT, SameP. No condition but those stated. -/
import Derived.Test.YtobojnodohjiaaaGreatDoorPL
import Derived.Test.YtobojnodohjiaaaGreatDoorPT
import Derived.Test.YtobojnodohjiaaaGreatDoorIntParseP
import Derived.Test.YtobojnodohjiaaaGreatDoorPJ
import Derived.Test.YtobojnodohjiaaaGreatDoorHp
set_option linter.unusedVariables false
set_option linter.unusedSimpArgs false
/- fracs.Text, gussetref03.Text. -/
namespace Go.Proofs.YtobojnodohjiaaaGreatDoor
open Go.RowKit
attribute [local go_sem ↓] Go.wp_at_zero Go.wp_at_succ
attribute [local go_sem ↓] eq_nat eq_nat_zero eq_int
set_option maxRecDepth 20000 in
set_option maxHeartbeats 4000000 in
theorem ftext_w (q : Rat) (tx : ByteArray) (w : World) (hs_q : sz q ≤ 100000) (HTX : Hid (itx (q).num = tx)) (HW : Hid ((q).den = 1)) (HT : Hid (Tab w)) :
    Calls Tryz.prog 153 #[(Value.agg #[.int .u64 ((lo (Int.natAbs ((q).num)) : Nat) : Int), .string (bg (Int.natAbs ((q).num))), .bool (decide (((q).num) < 0)), .int .u64 ((lo ((q).den - 1) : Nat) : Int), .string (bg ((q).den - 1))])] w fun e w' => e = .returned ((.string tx)) ∧ Below w.heap.size w w' := by
  have hn_q : wl (Int.natAbs ((q).num)) ≤ 100000 := Nat.le_trans (sz_num q) hs_q
  have hd_q : wl ((q).den) ≤ 100000 := Nat.le_trans (sz_den q) hs_q
  go_enter Tryz.func153, Tryz.ntmps153
  have HF := Lib.hid (hp0 w)
  refine kS fun K hK => ?_
  refine wp_region_lit ?_
  go_wp2
  refine kO hK ?_; clear hK K
  refine fH ((HF.out).aL (w.heap.size)) fun Wx0 HG => ?_
  clear HF; have HF := HG; clear HG
  refine wp_seq ?_
  have lx0 := HF.out.c 0 rfl
  refine kS fun K hK => ?_
  refine sq 2 [(true, 0), (true, 1)] fun T hT => ?_
  refine tk ?_
  refine ck Tryz.call146 (fun w' hw => fiswhole_any (q) true _ (decide_eq_true (by exact HW.out))) ?_
  refine nlS hT HF fun vw1 HG => ?_
  clear hT T HF lx0
  go_wp2
  refine kO hK ?_; clear hK K
  have HF := HG; clear HG
  refine wp_cond_true (by rfl) ?_
  have HB := HPb HF
  have lx0 := HF.out.c 0 rfl
  refine kS fun K hK => ?_
  refine sq 4 [(true, 0), (true, 1), (true, 2), (true, 3)] fun T hT => ?_
  iterate 2 refine tk ?_
  refine ck Tryz.call141 (fun w' hw => zitext ((q).num) tx _ HTX.out om (Lib.hid (HT.out.gr (Gr.trans HB.out hw)))) ?_
  refine tk ?_
  refine nlS hT HF fun vw2 HG => ?_
  clear hT T HF lx0 HB
  go_wp2
  refine kO hK ?_; clear hK K
  have HF := HG; clear HG
  refine wp_ret ?_
  try simp only [Exit.then, Exit.inBlock]
  exact bodyPost_ret (v := .string tx) (by simp [results, Tryz.results153, go_sem]) rfl ⟨rfl, HF.out.1⟩
set_option maxRecDepth 20000 in
set_option maxHeartbeats 4000000 in
theorem ftext_f (q : Rat) (tx ty t1 tz : ByteArray) (w : World) (hs_q : sz q ≤ 100000) (HTX : Hid (itx (q).num = tx)) (HW : Hid (¬ (q).den = 1)) (HTY : Hid ((⟨(Lib.decDigits ((q).den)).toArray⟩ : ByteArray) = ty)) (HC1 : Hid (tx ++ (⟨#[47]⟩ : ByteArray) = t1)) (HC2 : Hid (t1 ++ ty = tz)) (hl1 : tx.size ≤ 100000000) (hl2 : t1.size ≤ 100000001) (hl3 : ty.size ≤ 100000000) (HT : Hid (Tab w)) :
    Calls Tryz.prog 153 #[(Value.agg #[.int .u64 ((lo (Int.natAbs ((q).num)) : Nat) : Int), .string (bg (Int.natAbs ((q).num))), .bool (decide (((q).num) < 0)), .int .u64 ((lo ((q).den - 1) : Nat) : Int), .string (bg ((q).den - 1))])] w fun e w' => e = .returned ((.string tz)) ∧ Below w.heap.size w w' := by
  have hn_q : wl (Int.natAbs ((q).num)) ≤ 100000 := Nat.le_trans (sz_num q) hs_q
  have hd_q : wl ((q).den) ≤ 100000 := Nat.le_trans (sz_den q) hs_q
  go_enter Tryz.func153, Tryz.ntmps153
  have HF := Lib.hid (hp0 w)
  refine kS fun K hK => ?_
  refine wp_region_lit ?_
  go_wp2
  refine kO hK ?_; clear hK K
  refine fH ((HF.out).aL (w.heap.size)) fun Wx0 HG => ?_
  clear HF; have HF := HG; clear HG
  refine wp_seq ?_
  have lx0 := HF.out.c 0 rfl
  refine kS fun K hK => ?_
  refine sq 2 [(true, 0), (true, 1)] fun T hT => ?_
  refine tk ?_
  refine ck Tryz.call146 (fun w' hw => fiswhole_any (q) false _ (decide_eq_false (by exact HW.out))) ?_
  refine nlS hT HF fun vw1 HG => ?_
  clear hT T HF lx0
  go_wp2
  refine kO hK ?_; clear hK K
  have HF := HG; clear HG
  refine wp_cond_false (by rfl) ?_
  refine wp_skip ?_
  show Code.wp _ _ _ _ _
  have HB := HPb HF
  have hlen1 : ¬ (9223372036854775807 < tx.size + 1) := by omega
  have hcat1 : tx ++ (⟨#[47]⟩ : ByteArray) = t1 := HC1.out
  have hlen2 : ¬ (9223372036854775807 < t1.size + ty.size) := by omega
  have hcat2 : t1 ++ ty = tz := HC2.out
  have lx0 := HF.out.c 0 rfl
  refine kS fun K hK => ?_
  refine pd 8 [(true, 0), (true, 1), (true, 4), (true, 2), (true, 3), (true, 5), (true, 6), (true, 7)] fun T hT => ?_
  iterate 3 refine tk ?_
  refine ck Tryz.call141 (fun w' hw => zitext ((q).num) tx _ HTX.out om (Lib.hid (HT.out.gr (Gr.trans HB.out hw)))) ?_
  refine tk ?_
  refine ck Tryz.call114 (fun w' hw => fden_any (q) om _) ?_
  refine ck Tryz.call154 (fun w' hw => nztexts ((q).den) ty _ HTY.out om (Lib.hid (HT.out.gr (Gr.trans HB.out hw)))) ?_
  refine tk ?_
  refine nlD hT HF fun vw2 HG => ?_
  clear hT T HF lx0 HB
  go_wp2
  refine kO hK ?_; clear hK K
  refine fH ((HG.out).er 0) fun Wx3 HF => ?_
  clear HG
  clear hlen1 hcat1 hlen2 hcat2
  refine wp_ret ?_
  try simp only [Exit.then, Exit.inBlock]
  exact bodyPost_ret (v := .string tz) (by simp [results, Tryz.results153, go_sem]) rfl ⟨rfl, HF.out.1⟩
def ftx (q : Rat) : ByteArray := if q.den = 1 then itx q.num else itx q.num ++ (⟨#[47]⟩ : ByteArray) ++ ⟨(Lib.decDigits q.den).toArray⟩
theorem itx_small {a : Int} {k : Nat} (h : wl a.natAbs ≤ k) : (itx a).size ≤ 32 * k + 2 := by
  have h1 := nDigits_nb a.natAbs
  have h2 := nb_wl a.natAbs
  have h3 := itx_size a
  rw [h3]
  have : 32 * wl a.natAbs ≤ 32 * k := Nat.mul_le_mul_left _ h
  split <;> omega
theorem dec_size {n k : Nat} (h : wl n ≤ k) : (⟨(Lib.decDigits n).toArray⟩ : ByteArray).size ≤ 32 * k + 1 := by
  have h1 := nDigits_nb n
  have h2 := nb_wl n
  rw [size_mk, Lib.decDigits_length]
  have : 32 * wl n ≤ 32 * k := Nat.mul_le_mul_left _ h
  omega
theorem cat_size (a b : ByteArray) : (a ++ b).size = a.size + b.size := by simp
theorem ftext_any (q : Rat) (w : World) (hs : sz q ≤ 100000) (HT : Hid (Tab w)) :
    Calls Tryz.prog 153 #[(Value.agg #[.int .u64 ((lo (Int.natAbs ((q).num)) : Nat) : Int), .string (bg (Int.natAbs ((q).num))), .bool (decide (((q).num) < 0)), .int .u64 ((lo ((q).den - 1) : Nat) : Int), .string (bg ((q).den - 1))])] w fun e w' => e = .returned (.string (ftx q)) ∧ Below w.heap.size w w' := by
  unfold ftx
  by_cases h : q.den = 1
  · rw [if_pos h]
    exact ftext_w q _ w hs (Lib.hid rfl) (Lib.hid h) HT
  · rw [if_neg h]
    have h1 := itx_small (Nat.le_trans (sz_num q) hs)
    have h2 := dec_size (Nat.le_trans (sz_den q) hs)
    exact ftext_f q _ _ _ _ w hs (Lib.hid rfl) (Lib.hid h) (Lib.hid rfl) (Lib.hid rfl) (Lib.hid rfl) (by omega) (by rw [cat_size]; have : (⟨#[47]⟩ : ByteArray).size = 1 := rfl; omega) (by omega) HT
set_option maxRecDepth 20000 in
set_option maxHeartbeats 4000000 in
theorem qtext_w (q : Rat) (tx : ByteArray) (va1 va2 : Value) (w : World) (HTX : Hid (itx (q).num = tx)) (hs_q : rz q ≤ 1000000) (HW : Hid ((q).den = 1)) (bx21 : Rn w va1 (Int.natAbs ((q).num))) (bx22 : Rn w va2 ((q).den - 1)) :
    Calls Tryz.prog 174 #[(Value.agg #[.bool (decide ((q).num < 0)), va1, va2])] w fun e w' => e = .returned ((.string tx)) ∧ Below w.heap.size w w' := by
  have hn_q : tw (Int.natAbs ((q).num)) ≤ 1000000 := Nat.le_trans (rz_num q) hs_q
  have hd_q : tw ((q).den) ≤ 1000000 := Nat.le_trans (rz_den q) hs_q
  obtain ⟨ao_va1, n_va1, c_va1, rfl⟩ := Rn.sl bx21
  obtain ⟨ao_va2, n_va2, c_va2, rfl⟩ := Rn.sl bx22
  go_enter Tryz.func174, Tryz.ntmps174
  have HF := Lib.hid (hp0 w)
  replace HF := Lib.hid ((HF.out.ar bx21).ar bx22)
  simp only [lF, lG] at HF
  clear bx21 bx22
  refine kS fun K hK => ?_
  refine wp_region_lit ?_
  go_wp2
  refine kO hK ?_; clear hK K
  refine fH ((HF.out).aL (w.heap.size)) fun Wx0 HG => ?_
  clear HF; have HF := HG; clear HG
  refine wp_seq ?_
  have hlz : ((n_va2 : Int) == 0) = true := by have hl := Rn.len (HF.out.rn 1 rfl); have h9 := HW.out; rw [hl, h9, tw_zero]; rfl
  have lx23 := HF.out.c 2 rfl
  refine kS fun K hK => ?_
  refine sq 4 [(true, 0), (true, 1), (true, 2), (true, 3)] fun T hT => ?_
  iterate 4 refine tk ?_
  refine nlS hT HF fun vw1 HG => ?_
  clear hT T HF lx23
  go_wp2
  refine kO hK ?_; clear hK K
  have HF := HG; clear HG
  clear hlz
  refine wp_cond_true (by rfl) ?_
  have lx23 := HF.out.c 2 rfl
  refine kS fun K hK => ?_
  refine sq 4 [(true, 0), (true, 1), (true, 2), (true, 3)] fun T hT => ?_
  iterate 2 refine tk ?_
  refine ck Tryz.call143 (fun w' hw => zrtextz ((q).num) tx _ _ HTX.out (HF.out.r 0 rfl hw) (by omega)) ?_
  refine tk ?_
  refine nlS hT HF fun vw2 HG => ?_
  clear hT T HF lx23
  go_wp2
  refine kO hK ?_; clear hK K
  have HF := HG; clear HG
  refine wp_ret ?_
  try simp only [Exit.then, Exit.inBlock]
  exact bodyPost_ret (v := .string tx) (by simp [results, Tryz.results174, go_sem]) rfl ⟨rfl, HF.out.1⟩
set_option maxRecDepth 20000 in
set_option maxHeartbeats 4000000 in
theorem qtext_f (q : Rat) (tx ty t1 tz : ByteArray) (va1 va2 : Value) (w : World) (HTX : Hid (itx (q).num = tx)) (hs_q : rz q ≤ 1000000) (HW : Hid (¬ (q).den = 1)) (HTY : Hid ((⟨(Lib.decDigits ((q).den)).toArray⟩ : ByteArray) = ty)) (HC1 : Hid (tx ++ (⟨#[47]⟩ : ByteArray) = t1)) (HC2 : Hid (t1 ++ ty = tz)) (hl1 : tx.size ≤ 100000000) (hl2 : t1.size ≤ 100000001) (hl3 : ty.size ≤ 100000000) (bx21 : Rn w va1 (Int.natAbs ((q).num))) (bx22 : Rn w va2 ((q).den - 1)) :
    Calls Tryz.prog 174 #[(Value.agg #[.bool (decide ((q).num < 0)), va1, va2])] w fun e w' => e = .returned ((.string tz)) ∧ Below w.heap.size w w' := by
  have hn_q : tw (Int.natAbs ((q).num)) ≤ 1000000 := Nat.le_trans (rz_num q) hs_q
  have hd_q : tw ((q).den) ≤ 1000000 := Nat.le_trans (rz_den q) hs_q
  obtain ⟨ao_va1, n_va1, c_va1, rfl⟩ := Rn.sl bx21
  obtain ⟨ao_va2, n_va2, c_va2, rfl⟩ := Rn.sl bx22
  go_enter Tryz.func174, Tryz.ntmps174
  have HF := Lib.hid (hp0 w)
  replace HF := Lib.hid ((HF.out.ar bx21).ar bx22)
  simp only [lF, lG] at HF
  clear bx21 bx22
  refine kS fun K hK => ?_
  refine wp_region_lit ?_
  go_wp2
  refine kO hK ?_; clear hK K
  refine fH ((HF.out).aL (w.heap.size)) fun Wx0 HG => ?_
  clear HF; have HF := HG; clear HG
  refine wp_seq ?_
  have hlz : ((n_va2 : Int) == 0) = false := by have hl := Rn.len (HF.out.rn 1 rfl); have h9 := HW.out; have hp := q.den_pos; have ht : 0 < tw ((q).den - 1) := tw_pos (by omega); have h8 : ¬ (n_va2 : Int) = 0 := (by omega); simpa using h8
  have lx23 := HF.out.c 2 rfl
  refine kS fun K hK => ?_
  refine sq 4 [(true, 0), (true, 1), (true, 2), (true, 3)] fun T hT => ?_
  iterate 4 refine tk ?_
  refine nlS hT HF fun vw1 HG => ?_
  clear hT T HF lx23
  go_wp2
  refine kO hK ?_; clear hK K
  have HF := HG; clear HG
  clear hlz
  refine wp_cond_false (by rfl) ?_
  refine wp_skip ?_
  show Code.wp _ _ _ _ _
  have hlen1 : ¬ (9223372036854775807 < tx.size + 1) := by omega
  have hcat1 : tx ++ (⟨#[47]⟩ : ByteArray) = t1 := HC1.out
  have HZ1 : Hid ((q).den = (q).den) := Lib.hid (rfl)
  have su1 : tw ((q).den) ≤ 1000000 := by exact Nat.le_trans (rz_den _) (by omega)
  have hlen2 : ¬ (9223372036854775807 < t1.size + ty.size) := by omega
  have hcat2 : t1 ++ ty = tz := HC2.out
  have lx23 := HF.out.c 2 rfl
  refine kS fun K hK => ?_
  have HG0 : Hid (Gr vw1 vw1) := Lib.hid (Gr.refl _)
  refine pd 8 [(true, 0), (true, 1), (true, 4), (true, 2), (true, 3), (false, 5), (true, 6), (true, 7)] fun T hT => ?_
  iterate 3 refine tk ?_
  refine ck Tryz.call143 (fun w' hw => zrtextz ((q).num) tx _ _ HTX.out (HF.out.r 0 rfl (HG0.out.trans hw)) (by omega)) ?_
  refine tk ?_
  refine wpPlan_callE rfl (by rfl) Tryz.call150 (by rfl) (fun w' hw => (qDen_any (q) ((q).den) _ _ _ HZ1.out (by omega) (HF.out.r 0 rfl (HG0.out.trans hw)) (HF.out.r 1 rfl (HG0.out.trans hw))).mono ?_)
  rintro e vv25 ⟨⟨rv1, rfl, bx25⟩, hg0⟩
  obtain ⟨ao1, nn1, cc1, rfl⟩ := Rn.sl bx25
  refine ⟨_, rfl, hg0, ?_⟩
  replace hg0 := Gr.trans hw hg0; clear hw
  replace HG0 := Lib.hid (HG0.out.trans hg0)
  have HGS := Lib.hid hg0; clear hg0
  clear HGS
  have RN25 := Lib.hid bx25; clear bx25
  clear lx23; have lx23 := fun w' (h : Gr _ w') => HF.out.c 2 rfl w' (HG0.out.trans h)
  simp only [Act.put, lA, lB, lC]
  refine ck Tryz.call177 (fun w' hw => zrtext _ ((q).den) ty _ HTY.out (RN25.out.gr hw) (by omega)) ?_
  refine tk ?_
  refine wpPlan_nil (hT.out _ _ ?_)
  intro G vw2 hg hf
  simp only [puts, Act.put, lA, lB, lC, lD, lE, ↓reduceIte, Nat.reduceEqDiff]
  have HG := Lib.hid ((HF.out.gr (HG0.out.trans hg)).ar (RN25.out.gr hg))
  simp only [zq1_, zq2_, zq3_, zq4_, lF, lG] at HG
  clear hT T HF hg hf HG0 RN25 lx23
  go_wp2
  refine kO hK ?_; clear hK K
  refine fH (((((HG.out).er 3).er 2).er 1).er 0) fun Wx3 HF => ?_
  clear HG
  clear hlen1 hcat1 hlen2 hcat2
  refine wp_ret ?_
  try simp only [Exit.then, Exit.inBlock]
  exact bodyPost_ret (v := .string tz) (by simp [results, Tryz.results174, go_sem]) rfl ⟨rfl, HF.out.1⟩
theorem itx_smallr {a : Int} {k : Nat} (h : tw a.natAbs ≤ k) : (itx a).size ≤ 14 * k + 2 := by
  have h1 := nDigits_nb a.natAbs
  have h2 := nb_tw a.natAbs
  have h3 := itx_size a
  rw [h3]
  have : 14 * tw a.natAbs ≤ 14 * k := Nat.mul_le_mul_left _ h
  split <;> omega
theorem dec_sizer {n k : Nat} (h : tw n ≤ k) : (⟨(Lib.decDigits n).toArray⟩ : ByteArray).size ≤ 14 * k + 1 := by
  have h1 := nDigits_nb n
  have h2 := nb_tw n
  rw [size_mk, Lib.decDigits_length]
  have : 14 * tw n ≤ 14 * k := Nat.mul_le_mul_left _ h
  omega
theorem qtext_any (q : Rat) (va1 va2 : Value) (w : World) (hs : rz q ≤ 1000000) (h1 : Rn w va1 (Int.natAbs ((q).num))) (h2 : Rn w va2 ((q).den - 1)) :
    Calls Tryz.prog 174 #[.agg #[.bool (decide ((q).num < 0)), va1, va2]] w fun e w' => e = .returned (.string (ftx q)) ∧ Below w.heap.size w w' := by
  unfold ftx
  by_cases h : q.den = 1
  · rw [if_pos h]
    exact qtext_w q _ va1 va2 w (Lib.hid rfl) hs (Lib.hid h) h1 h2
  · rw [if_neg h]
    have e1 := itx_smallr (Nat.le_trans (rz_num q) hs)
    have e2 := dec_sizer (Nat.le_trans (rz_den q) hs)
    exact qtext_f q _ _ _ _ va1 va2 w (Lib.hid rfl) hs (Lib.hid h) (Lib.hid rfl) (Lib.hid rfl) (Lib.hid rfl) (by omega) (by rw [cat_size]; have : (⟨#[47]⟩ : ByteArray).size = 1 := rfl; omega) (by omega) h1 h2
end Go.Proofs.YtobojnodohjiaaaGreatDoor
/- gussetlaw23.Num. -/
namespace Go.Proofs.YtobojnodohjiaaaGreatDoor
open Go.RowKit
attribute [local go_sem ↓] Go.wp_at_zero Go.wp_at_succ
attribute [local go_sem ↓] eq_nat eq_nat_zero eq_int
set_option maxRecDepth 20000 in
set_option maxHeartbeats 4000000 in
theorem num_any (q : Rat) (va1 va2 : Value) (w : World) (hs : sz q ≤ 100000) (hr : rz q ≤ 1000000) (bx21 : Rn w va1 (Int.natAbs ((q).num))) (bx22 : Rn w va2 ((q).den - 1)) (HT : Hid (Tab w)) :
    Calls Tryz.prog 92 #[(Value.agg #[.int .u64 ((lo (Int.natAbs ((q).num)) : Nat) : Int), .string (bg (Int.natAbs ((q).num))), .bool (decide (((q).num) < 0)), .int .u64 ((lo ((q).den - 1) : Nat) : Int), .string (bg ((q).den - 1))]), (Value.agg #[.bool (decide ((q).num < 0)), va1, va2])] w fun e w' => e = .returned ((.bool true)) ∧ Below w.heap.size w w' := by
  obtain ⟨ao_va1, n_va1, c_va1, rfl⟩ := Rn.sl bx21
  obtain ⟨ao_va2, n_va2, c_va2, rfl⟩ := Rn.sl bx22
  go_enter Tryz.func92, Tryz.ntmps92
  have HF := Lib.hid (hp0 w)
  replace HF := Lib.hid ((HF.out.ar bx21).ar bx22)
  simp only [lF, lG] at HF
  clear bx21 bx22
  refine kS fun K hK => ?_
  refine wp_region_lit ?_
  go_wp2
  refine kO hK ?_; clear hK K
  refine fH (((HF.out).aL (w.heap.size)).aL (w.heap.size + 1)) fun Wx0 HG => ?_
  clear HF; have HF := HG; clear HG
  generalize w.heap.size + 1 = gx24 at *
  have HB := HPb HF
  have hse : ((ftx q).toList == (ftx q).toList) = true := by simp
  have lx23 := HF.out.c 2 rfl
  have lx24 := HF.out.c 3 rfl
  refine kS fun K hK => ?_
  refine pd 5 [(true, 0), (true, 2), (true, 1), (true, 3), (true, 4)] fun T hT => ?_
  iterate 2 refine tk ?_
  refine ck Tryz.call153 (fun w' hw => ftext_any (q) _ om (Lib.hid (HT.out.gr (Gr.trans HB.out hw)))) ?_
  refine ck Tryz.call174 (fun w' hw => qtext_any (q) _ _ _ (by omega) (HF.out.r 0 rfl hw) (HF.out.r 1 rfl hw)) ?_
  refine tk ?_
  refine nlD hT HF fun vw1 HG => ?_
  clear hT T HF lx23 lx24 HB
  go_wp2
  refine kO hK ?_; clear hK K
  refine fH (((((HG.out).er 3).er 2).er 1).er 0) fun Wx1 HF => ?_
  clear HG
  clear hse
  refine wp_ret ?_
  try simp only [Exit.then, Exit.inBlock]
  exact bodyPost_ret (v := .bool true) (by simp [results, Tryz.results92, go_sem]) rfl ⟨rfl, HF.out.1⟩
end Go.Proofs.YtobojnodohjiaaaGreatDoor
/- gussetlaw23.Same. -/
namespace Go.Proofs.YtobojnodohjiaaaGreatDoor
open Go.RowKit
attribute [local go_sem ↓] Go.wp_at_zero Go.wp_at_succ
set_option maxRecDepth 20000 in
set_option maxHeartbeats 4000000 in
theorem psame_any (a1 a2 : Rat) (va11 va12 va21 va22 : Value) (w : World) (hs1 : sz a1 ≤ 100000) (hs2 : sz a2 ≤ 100000) (hs_a1 : rz a1 ≤ 1000000) (hs_a2 : rz a2 ≤ 1000000) (bx21 : Rn w va11 (Int.natAbs ((a1).num))) (bx22 : Rn w va12 ((a1).den - 1)) (bx23 : Rn w va21 (Int.natAbs ((a2).num))) (bx24 : Rn w va22 ((a2).den - 1)) (HT : Hid (Tab w)) :
    Calls Tryz.prog 20 #[(Value.agg #[.int .u64 ((lo (Int.natAbs ((a1).num)) : Nat) : Int), .string (bg (Int.natAbs ((a1).num))), .bool (decide (((a1).num) < 0)), .int .u64 ((lo ((a1).den - 1) : Nat) : Int), .string (bg ((a1).den - 1)), .int .u64 ((lo (Int.natAbs ((a2).num)) : Nat) : Int), .string (bg (Int.natAbs ((a2).num))), .bool (decide (((a2).num) < 0)), .int .u64 ((lo ((a2).den - 1) : Nat) : Int), .string (bg ((a2).den - 1))]), (Value.agg #[.bool (decide ((a1).num < 0)), va11, va12, .bool (decide ((a2).num < 0)), va21, va22])] w fun e w' => e = .returned ((.bool true)) ∧ Below w.heap.size w w' := by
  obtain ⟨ao_va11, n_va11, c_va11, rfl⟩ := Rn.sl bx21
  obtain ⟨ao_va12, n_va12, c_va12, rfl⟩ := Rn.sl bx22
  obtain ⟨ao_va21, n_va21, c_va21, rfl⟩ := Rn.sl bx23
  obtain ⟨ao_va22, n_va22, c_va22, rfl⟩ := Rn.sl bx24
  go_enter Tryz.func20, Tryz.ntmps20
  have HF := Lib.hid (hp0 w)
  replace HF := Lib.hid ((((HF.out.ar bx21).ar bx22).ar bx23).ar bx24)
  simp only [lF, lG] at HF
  clear bx21 bx22 bx23 bx24
  refine kS fun K hK => ?_
  refine wp_region_lit ?_
  go_wp2
  refine kO hK ?_; clear hK K
  refine fH (((HF.out).aL (w.heap.size)).aL (w.heap.size + 1)) fun Wx0 HG => ?_
  clear HF; have HF := HG; clear HG
  generalize w.heap.size + 1 = gx26 at *
  have HB := HPb HF
  have lx25 := HF.out.c 4 rfl
  have lx26 := HF.out.c 5 rfl
  refine kS fun K hK => ?_
  refine sq 13 [(true, 0), (true, 1), (true, 2), (true, 3), (true, 4), (true, 5), (true, 6), (true, 7), (true, 8), (true, 9), (true, 10), (true, 11), (true, 12)] fun T hT => ?_
  iterate 4 refine tk ?_
  refine ck Tryz.call92 (fun w' hw => num_any (a1) _ _ _ om (by omega) (HF.out.r 0 rfl hw) (HF.out.r 1 rfl hw) (Lib.hid (HT.out.gr (Gr.trans HB.out hw)))) ?_
  iterate 5 refine tk ?_
  refine ck Tryz.call92 (fun w' hw => num_any (a2) _ _ _ om (by omega) (HF.out.r 2 rfl hw) (HF.out.r 3 rfl hw) (Lib.hid (HT.out.gr (Gr.trans HB.out hw)))) ?_
  iterate 2 refine tk ?_
  refine nlS hT HF fun vw1 HG => ?_
  clear hT T HF lx25 lx26 HB
  go_wp2
  refine kO hK ?_; clear hK K
  refine fH (((((((HG.out).er 5).er 4).er 3).er 2).er 1).er 0) fun Wx1 HF => ?_
  clear HG
  refine wp_ret ?_
  try simp only [Exit.then, Exit.inBlock]
  exact bodyPost_ret (v := .bool true) (by simp [results, Tryz.results20, go_sem]) rfl ⟨rfl, HF.out.1⟩
end Go.Proofs.YtobojnodohjiaaaGreatDoor
