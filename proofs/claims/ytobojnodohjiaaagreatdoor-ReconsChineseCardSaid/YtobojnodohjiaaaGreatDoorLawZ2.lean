
/- plain facts and z-forms for the laws of gussetlaw02. -/
import Derived.Test.YtobojnodohjiaaaGreatDoorHp
import Derived.Test.YtobojnodohjiaaaGreatDoorIntE
import Derived.Test.YtobojnodohjiaaaGreatDoorPJ
import Derived.Test.YtobojnodohjiaaaGreatDoorPT
import Derived.Test.YtobojnodohjiaaaGreatDoorRefL
import Derived.Test.YtobojnodohjiaaaGreatDoorPI
import Derived.Test.YtobojnodohjiaaaGreatDoorPE
import Derived.Test.YtobojnodohjiaaaGreatDoorPP
import Derived.Lib.Strings
import Derived.Test.YtobojnodohjiaaaGreatDoorShelf
import Derived.Test.YtobojnodohjiaaaGreatDoorPY
import Derived.Test.YtobojnodohjiaaaGreatDoorPC
namespace Go.Proofs.YtobojnodohjiaaaGreatDoor
open Go.RowKit
set_option linter.unusedSimpArgs false
set_option linter.unusedVariables false
attribute [local go_sem ↓] Go.wp_at_zero Go.wp_at_succ
attribute [local go_sem ↓] eq_nat eq_nat_zero eq_int
set_option maxRecDepth 20000 in
set_option maxHeartbeats 4000000 in
theorem zlof (bx : Bool) (kx : Nat) (fx : Nat → Nat) (mx : Nat) (a : Int) (ao_x : Option Addr) (c_x : Nat) (w : World) (HWx : Hid (Wa w (.slice ao_x kx c_x) kx fx)) (HFx : Hid (∀ i, i < kx → fx i < 4294967296)) (HVx : Hid (vl fx kx = mx)) (HAx : Hid ((if bx then -((mx : Nat) : Int) else ((mx : Nat) : Int)) = a)) (hkx : kx ≤ 100) (hmx : wl mx ≤ 100) :
    Calls Tryz.prog 32 #[(Value.agg #[.bool (bx), (.slice ao_x kx c_x)])] w fun e w' => e = .returned (.agg #[.int .u64 ((lo (Int.natAbs (a)) : Nat) : Int), .string (bg (Int.natAbs (a))), .bool (decide ((a) < 0))]) ∧ Below w.heap.size w w' := by
  go_enter Tryz.func32, Tryz.ntmps32
  have HF := Lib.hid (hp0 w)
  refine kS fun K hK => ?_
  refine wp_region_lit ?_
  go_wp2
  refine hK.out _ _ ?_; clear hK K
  show Code.wp _ _ _ _ _
  refine fH (((HF.out).al (b := w.heap.size) (by first | rfl | simp) (by decide)).al (b := w.heap.size + 1) (by first | rfl | simp) (by decide)) fun Wx0 HG => ?_
  clear HF; have HF := HG; clear HG
  generalize w.heap.size + 1 = gx1 at *
  have HB := HPb HF
  have HZ1 : Hid ((if bx then -((mx : Nat) : Int) else ((mx : Nat) : Int)) = a) := Lib.hid (HAx.out)
  have su1 : wl (Int.natAbs (a)) ≤ 100 := by have e := HZ1.out; first | omega | (rw [← e]; split <;> simp <;> omega)
  have lx0 := HF.out.c 0 rfl
  refine kS fun K hK => ?_
  refine pd 6 [(true, 0), (true, 1), (true, 2), (true, 3), (true, 4), (true, 5)] fun T hT => ?_
  iterate 4 refine tk ?_
  refine ck Tryz.call31 (fun w' hw => zmade _ kx fx mx w _ HVx.out (by omega) HWx.out (Gr.trans HB.out hw) HFx.out) ?_
  refine ck Tryz.call37 (fun w' hw => from_any (bx) (mx) (a) _ HZ1.out) ?_
  refine nlD hT HF fun vw1 HG => ?_
  clear hT T HF lx0 HB
  have lx1 := HG.out.c 1 rfl; have fx1 := HG.out.f 1 rfl
  have r0 := Gr.refl vw1
  go_wp2
  refine hK.out _ _ ?_; clear hK K
  show Code.wp _ _ _ _ _
  clear r0 lx1 fx1
  refine fH ((((HG.out).put2 1 0 rfl).put 1 2 _ rfl).er 0) fun Wx1 HF => ?_
  clear HG
  refine wp_ret ?_
  try simp only [Exit.then, Exit.inBlock]
  have lx1 := HF.out.c 0 rfl
  have r0 := Gr.refl Wx1
  exact bodyPost_ret (v := .agg #[.int .u64 ((lo (Int.natAbs (a)) : Nat) : Int), .string (bg (Int.natAbs (a))), .bool (decide ((a) < 0))]) (by simp [results, Tryz.results32, go_sem, lx1 _ r0]) rfl ⟨rfl, HF.out.1⟩

end Go.Proofs.YtobojnodohjiaaaGreatDoor

set_option linter.unusedVariables false
set_option linter.unusedSimpArgs false

/- ints.Text and gussetref02.Text: the decimal form, with a sign ahead for a negative integer. -/
namespace Go.Proofs.YtobojnodohjiaaaGreatDoor
open Go.RowKit
set_option linter.unusedSimpArgs false
set_option linter.unusedVariables false
/-- the decimal form of an integer -/
def itx (a : Int) : ByteArray := if a < 0 then (⟨#[45]⟩ : ByteArray) ++ ⟨(Lib.decDigits a.natAbs).toArray⟩ else ⟨(Lib.decDigits a.natAbs).toArray⟩
set_option maxHeartbeats 1000000 in
theorem itext_any (a : Int) (w : World) (ha : wl a.natAbs ≤ 900000) (HT : Hid (Tab w)) :
    Calls Tryz.prog 141 #[(Value.agg #[.int .u64 ((lo (Int.natAbs (a)) : Nat) : Int), .string (bg (Int.natAbs (a))), .bool (decide ((a) < 0))])] w fun e w' => e = .returned (.string (itx a)) ∧ Below w.heap.size w w' := by
  by_cases hn : a < 0
  · have HS1 : Hid (decide (a < 0) = true) := decide_eq_true hn
    have HSG : Hid (itx a = (⟨#[45]⟩ : ByteArray) ++ ⟨(Lib.decDigits a.natAbs).toArray⟩) := if_pos hn
    clear hn
    rw [HSG.out, HS1.out]
    obtain ⟨W0, HW⟩ : ∃ W0, Hid ((w.alloc (.cells #[.int .u64 ((lo (a.natAbs) : Nat) : Int), .string (bg (a.natAbs)), .bool true] 34)) = W0) := ⟨_, Lib.hid rfl⟩
    have HS := Lib.hid (show w.heap.size + 1 = W0.heap.size by rw [← HW.out]; simp)
    have z0 : w.heap.size < W0.heap.size := by rw [← HS.out]; omega
    have c0_0 : W0.cell? ⟨w.heap.size, 0, none⟩ = some (.int .u64 ((lo (a.natAbs) : Nat) : Int)) := by rw [← HW.out]; simp [go_sem]
    have c0_1 : W0.cell? ⟨w.heap.size, 1, none⟩ = some (.string (bg (a.natAbs))) := by rw [← HW.out]; simp [go_sem]
    have c0_2 : W0.cell? ⟨w.heap.size, 2, none⟩ = some (.bool true) := by rw [← HW.out]; simp [go_sem]
    have f_0 : W0.frozen? ⟨w.heap.size, 0, none⟩ = false := by rw [← HW.out]; simp [go_sem]
    have f_1 : W0.frozen? ⟨w.heap.size, 1, none⟩ = false := by rw [← HW.out]; simp [go_sem]
    have f_2 : W0.frozen? ⟨w.heap.size, 2, none⟩ = false := by rw [← HW.out]; simp [go_sem]
    have hbw : Below w.heap.size w W0 := by rw [← HW.out]; exact (Below.refl _ _).alloc (Nat.le_refl _) _
    have HR : Hid (∀ w1 : World, Below W0.heap.size W0 w1 → w1.cell? ⟨w.heap.size, 0, none⟩ = some (.int .u64 ((lo (a.natAbs) : Nat) : Int)) ∧ w1.cell? ⟨w.heap.size, 1, none⟩ = some (.string (bg (a.natAbs))) ∧ w1.cell? ⟨w.heap.size, 2, none⟩ = some (.bool true) ∧ w1.frozen? ⟨w.heap.size, 0, none⟩ = false ∧ w1.frozen? ⟨w.heap.size, 1, none⟩ = false ∧ w1.frozen? ⟨w.heap.size, 2, none⟩ = false ∧ Below w.heap.size w w1) := fun w1 hb => ⟨(held W0 w1 hb _ _ z0).trans c0_0, (held W0 w1 hb _ _ z0).trans c0_1, (held W0 w1 hb _ _ z0).trans c0_2, (heldf W0 w1 hb _ _ z0).trans f_0, (heldf W0 w1 hb _ _ z0).trans f_1, (heldf W0 w1 hb _ _ z0).trans f_2, grow hbw hb⟩
    have HBW := Lib.hid hbw
    clear hbw
    have hlen : ¬ (9223372036854775807 < 1 + (Lib.decDigits a.natAbs).length) := by rw [Lib.decDigits_length]; have := nDigits_nb a.natAbs; have := nb_wl a.natAbs; omega
    go_enter Tryz.func141, Tryz.ntmps141
    go_wp2_with fail
    rw [HW.out]
    refine (text_any a.natAbs _ (by omega) (Lib.hid (HT.out.gr HBW.out))).mono ?_
    rintro e w1 ⟨rfl, hb1⟩
    clear c0_0 c0_1 c0_2 f_0 f_1 f_2 HBW; obtain ⟨c0_0, c0_1, c0_2, f_0, f_1, f_2, hbw⟩ := HR.out w1 (hb1); have HBW := Lib.hid hbw; clear hbw
    go_wp2_with fail
    go_ret
    exact ⟨rfl, HBW.out⟩
  · have HS1 : Hid (decide (a < 0) = false) := decide_eq_false hn
    have HSG : Hid (itx a = ⟨(Lib.decDigits a.natAbs).toArray⟩) := if_neg hn
    clear hn
    rw [HSG.out, HS1.out]
    obtain ⟨W0, HW⟩ : ∃ W0, Hid ((w.alloc (.cells #[.int .u64 ((lo (a.natAbs) : Nat) : Int), .string (bg (a.natAbs)), .bool false] 34)) = W0) := ⟨_, Lib.hid rfl⟩
    have HS := Lib.hid (show w.heap.size + 1 = W0.heap.size by rw [← HW.out]; simp)
    have z0 : w.heap.size < W0.heap.size := by rw [← HS.out]; omega
    have c0_0 : W0.cell? ⟨w.heap.size, 0, none⟩ = some (.int .u64 ((lo (a.natAbs) : Nat) : Int)) := by rw [← HW.out]; simp [go_sem]
    have c0_1 : W0.cell? ⟨w.heap.size, 1, none⟩ = some (.string (bg (a.natAbs))) := by rw [← HW.out]; simp [go_sem]
    have c0_2 : W0.cell? ⟨w.heap.size, 2, none⟩ = some (.bool false) := by rw [← HW.out]; simp [go_sem]
    have f_0 : W0.frozen? ⟨w.heap.size, 0, none⟩ = false := by rw [← HW.out]; simp [go_sem]
    have f_1 : W0.frozen? ⟨w.heap.size, 1, none⟩ = false := by rw [← HW.out]; simp [go_sem]
    have f_2 : W0.frozen? ⟨w.heap.size, 2, none⟩ = false := by rw [← HW.out]; simp [go_sem]
    have hbw : Below w.heap.size w W0 := by rw [← HW.out]; exact (Below.refl _ _).alloc (Nat.le_refl _) _
    have HR : Hid (∀ w1 : World, Below W0.heap.size W0 w1 → w1.cell? ⟨w.heap.size, 0, none⟩ = some (.int .u64 ((lo (a.natAbs) : Nat) : Int)) ∧ w1.cell? ⟨w.heap.size, 1, none⟩ = some (.string (bg (a.natAbs))) ∧ w1.cell? ⟨w.heap.size, 2, none⟩ = some (.bool false) ∧ w1.frozen? ⟨w.heap.size, 0, none⟩ = false ∧ w1.frozen? ⟨w.heap.size, 1, none⟩ = false ∧ w1.frozen? ⟨w.heap.size, 2, none⟩ = false ∧ Below w.heap.size w w1) := fun w1 hb => ⟨(held W0 w1 hb _ _ z0).trans c0_0, (held W0 w1 hb _ _ z0).trans c0_1, (held W0 w1 hb _ _ z0).trans c0_2, (heldf W0 w1 hb _ _ z0).trans f_0, (heldf W0 w1 hb _ _ z0).trans f_1, (heldf W0 w1 hb _ _ z0).trans f_2, grow hbw hb⟩
    have HBW := Lib.hid hbw
    clear hbw
    go_enter Tryz.func141, Tryz.ntmps141
    go_wp2_with fail
    rw [HW.out]
    refine (text_any a.natAbs _ (by omega) (Lib.hid (HT.out.gr HBW.out))).mono ?_
    rintro e w1 ⟨rfl, hb1⟩
    clear c0_0 c0_1 c0_2 f_0 f_1 f_2 HBW; obtain ⟨c0_0, c0_1, c0_2, f_0, f_1, f_2, hbw⟩ := HR.out w1 (hb1); have HBW := Lib.hid hbw; clear hbw
    go_wp2_with fail
    go_ret
    exact ⟨rfl, HBW.out⟩
set_option maxHeartbeats 1000000 in
theorem rtextZ_any (a : Int) (v : Value) (w : World) (hv : Rn w v a.natAbs) (hb : tw a.natAbs ≤ 10000000) :
    Calls Tryz.prog 143 #[.agg #[.bool (decide (a < 0)), v]] w fun e w' => e = .returned (.string (itx a)) ∧ Below w.heap.size w w' := by
  have HR := Lib.hid hv
  clear hv
  have HB0 : Hid (Below w.heap.size w (w.alloc (.cells #[.bool (decide (a < 0)), v] 45))) := Lib.hid ((Below.refl _ _).alloc (Nat.le_refl _) _)
  by_cases hn : a < 0
  · have HS1 : Hid (decide (a < 0) = true) := decide_eq_true hn
    have HSG : Hid (itx a = (⟨#[45]⟩ : ByteArray) ++ ⟨(Lib.decDigits a.natAbs).toArray⟩) := if_pos hn
    clear hn
    rw [HSG.out]
    rw [HS1.out] at HB0 ⊢
    have hlen : ¬ (9223372036854775807 < 1 + (Lib.decDigits a.natAbs).length) := by rw [Lib.decDigits_length]; have := nDigits_nb a.natAbs; have := nb_tw a.natAbs; omega
    go_enter Tryz.func143, Tryz.ntmps143
    go_wp2_with fail
    refine (rtext_any v a.natAbs _ (HR.out.gr HB0.out) hb).mono ?_
    rintro e w2 ⟨rfl, hb2⟩
    have HB2 : Hid (Gr w w2) := Lib.hid (Gr.trans HB0.out hb2)
    clear hb2
    go_wp2_with fail
    go_ret
    exact ⟨rfl, HB2.out⟩
  · have HS1 : Hid (decide (a < 0) = false) := decide_eq_false hn
    have HSG : Hid (itx a = ⟨(Lib.decDigits a.natAbs).toArray⟩) := if_neg hn
    clear hn
    rw [HSG.out]
    rw [HS1.out] at HB0 ⊢
    go_enter Tryz.func143, Tryz.ntmps143
    go_wp2_with fail
    refine (rtext_any v a.natAbs _ (HR.out.gr HB0.out) hb).mono ?_
    rintro e w2 ⟨rfl, hb2⟩
    have HB2 : Hid (Gr w w2) := Lib.hid (Gr.trans HB0.out hb2)
    clear hb2
    go_wp2_with fail
    go_ret
    exact ⟨rfl, HB2.out⟩
end Go.Proofs.YtobojnodohjiaaaGreatDoor


/- texts of integers in z-form. -/
namespace Go.Proofs.YtobojnodohjiaaaGreatDoor
open Go.RowKit
set_option linter.unusedSimpArgs false
set_option linter.unusedVariables false
attribute [local go_sem ↓] Go.wp_at_zero Go.wp_at_succ
theorem zitext (a : Int) (s : ByteArray) (w : World) (hs : itx a = s) (ha : wl a.natAbs ≤ 900000) (HT : Hid (Tab w)) :
    Calls Tryz.prog 141 #[(Value.agg #[.int .u64 ((lo (Int.natAbs (a)) : Nat) : Int), .string (bg (Int.natAbs (a))), .bool (decide ((a) < 0))])] w fun e w' => e = .returned (.string s) ∧ Below w.heap.size w w' := hs ▸ itext_any a w ha HT

theorem zrtextz (a : Int) (s : ByteArray) (v : Value) (w : World) (hs : itx a = s) (hv : Rn w v a.natAbs) (hb : tw a.natAbs ≤ 10000000) :
    Calls Tryz.prog 143 #[.agg #[.bool (decide (a < 0)), v]] w fun e w' => e = .returned (.string s) ∧ Below w.heap.size w w' := hs ▸ rtextZ_any a v w hv hb

end Go.Proofs.YtobojnodohjiaaaGreatDoor

namespace Go.Proofs.YtobojnodohjiaaaGreatDoor
set_option linter.unusedSimpArgs false
set_option linter.unusedVariables false

/-- the value of a row of digits -/
def lv (l : List UInt8) : Nat := l.foldl (fun n c => 10 * n + (c.toNat - 48)) 0
theorem lv_snoc (l : List UInt8) (c : UInt8) : lv (l ++ [c]) = 10 * lv l + (c.toNat - 48) := by unfold lv; rw [List.foldl_append]; rfl
theorem byt_list (s : ByteArray) (i : Nat) (h : i < s.size) : byt s i = (s.data.toList[i]'(by simpa using h)).toNat := by
  rw [← byt_at h]
  rfl
theorem pv_take (s : ByteArray) : ∀ k, k ≤ s.size → pv s k = lv (s.data.toList.take k)
  | 0, _ => rfl
  | k + 1, h => by
    have hk : k < s.data.toList.length := by have e : s.data.toList.length = s.size := Array.length_toList; omega
    rw [List.take_succ_eq_append_getElem hk, lv_snoc, ← pv_take s k (by omega), ← byt_list s k (by omega)]
    show 10 * pvr s 0 k + (byt s (0 + k) - 48) = 10 * pv s k + _
    rw [Nat.zero_add]
    rfl
theorem pv_lv (s : ByteArray) : pv s s.size = lv s.data.toList := by
  rw [pv_take s s.size (Nat.le_refl _), List.take_of_length_le (by simp)]
theorem size_mk (l : List UInt8) : (⟨l.toArray⟩ : ByteArray).size = l.length := by simp [ByteArray.size]
theorem lv_lt : ∀ l : List UInt8, (∀ c ∈ l, c.toNat ≤ 57) → lv l < 10 ^ l.length := by
  intro l
  induction h : l.length generalizing l with
  | zero => intro _; rw [List.length_eq_zero_iff.1 h]; decide
  | succ k ih =>
    intro hd
    have hne : l ≠ [] := fun e => by rw [e] at h; simp at h
    obtain ⟨l', c, rfl⟩ : ∃ l' c, l = l' ++ [c] := ⟨l.dropLast, l.getLast hne, (List.dropLast_concat_getLast hne).symm⟩
    have := ih l' (by simpa using h) (fun x hx => hd x (List.mem_append_left _ hx))
    have := hd c (by simp)
    rw [lv_snoc, Nat.pow_succ]
    omega
theorem lv_cons (c : UInt8) (l : List UInt8) : lv (c :: l) = (c.toNat - 48) * 10 ^ l.length + lv l := by
  induction h : l.length generalizing l with
  | zero =>
    rw [List.length_eq_zero_iff.1 h]
    show 10 * 0 + (c.toNat - 48) = (c.toNat - 48) * 1 + 0
    omega
  | succ k ih =>
    have hne : l ≠ [] := fun e => by rw [e] at h; simp at h
    obtain ⟨l', d, rfl⟩ : ∃ l' c, l = l' ++ [c] := ⟨l.dropLast, l.getLast hne, (List.dropLast_concat_getLast hne).symm⟩
    have := ih l' (by simpa using h)
    rw [← List.cons_append, lv_snoc, lv_snoc, this, Nat.pow_succ]
    generalize (c.toNat - 48) = x
    rw [show x * (10 ^ k * 10) = 10 * (x * 10 ^ k) by rw [← Nat.mul_assoc, Nat.mul_comm]]
    omega
end Go.Proofs.YtobojnodohjiaaaGreatDoor

namespace Go.Proofs.YtobojnodohjiaaaGreatDoor
open Go.RowKit
set_option linter.unusedSimpArgs false
set_option linter.unusedVariables false
/-- a minus sign ahead -/
def ineg (s : ByteArray) : Bool := Lib.hasPrefix s.data.toList [45]
/-- what stands behind it -/
def idig (s : ByteArray) : ByteArray := ⟨(Lib.trimPrefix s.data.toList [45]).toArray⟩
theorem idig_size (s : ByteArray) : (idig s).size ≤ s.size := by
  have := Lib.trimPrefix_le s.data.toList [45]
  unfold idig
  rw [size_mk]
  exact Nat.le_trans this (Nat.le_of_eq Array.length_toList)
theorem itx_data (a : Int) : (itx a).data.toList = if a < 0 then 45 :: Lib.decDigits a.natAbs else Lib.decDigits a.natAbs := by
  unfold itx
  split <;> simp
theorem itx_size (a : Int) : (itx a).size = (if a < 0 then 1 else 0) + Lib.nDigits a.natAbs := by
  have h := congrArg List.length (itx_data a)
  have e : (itx a).size = (itx a).data.toList.length := Array.length_toList.symm
  rw [e, h]
  split
  · rw [List.length_cons, Lib.decDigits_length]; omega
  · rw [Lib.decDigits_length]; omega
end Go.Proofs.YtobojnodohjiaaaGreatDoor

set_option linter.unusedVariables false
set_option linter.unusedSimpArgs false

/- ints.Parse and gussetref02.Parse: the integer of a decimal form, the code. -/
namespace Go.Proofs.YtobojnodohjiaaaGreatDoor
open Go.RowKit
set_option linter.unusedSimpArgs false
set_option linter.unusedVariables false
theorem lite_cut (s p : ByteArray) (w : World) :
    Calls Tryz.prog 235 #[.string s, .string p] w fun e w' => e = .returned (.tuple #[.string ⟨(Lib.trimPrefix s.data.toList p.data.toList).toArray⟩, .bool (Lib.hasPrefix s.data.toList p.data.toList)]) ∧ w' = w := by
  by_cases h : Lib.hasPrefix s.data.toList p.data.toList = true
  · have h0 := h
    rw [← Lib.hasPrefix_raw, Bool.and_eq_true, decide_eq_true_eq] at h0
    obtain ⟨h1, h2⟩ := h0
    rw [Lib.trimPrefix_hit s p h1 h2, h]
    have HP := Lib.hid h
    clear h h2
    go_enter Tryz.func235, Tryz.ntmps235
    go_wp2_with fail
    refine (Tryz.stringslite_HasPrefix s p w).mono ?_
    rintro e w1 ⟨rfl, rfl⟩
    rw [HP.out]
    go_wp2
    go_ret2
    exact ⟨rfl, rfl⟩
  · have h0 : Lib.hasPrefix s.data.toList p.data.toList = false := by simpa using h
    rw [Lib.trimPrefix_miss s p (by rw [Lib.hasPrefix_raw, h0]), h0]
    have HP := Lib.hid h0
    clear h h0
    go_enter Tryz.func235, Tryz.ntmps235
    go_wp2_with fail
    refine (Tryz.stringslite_HasPrefix s p w).mono ?_
    rintro e w1 ⟨rfl, rfl⟩
    rw [HP.out]
    go_wp2
    go_ret2
    exact ⟨rfl, rfl⟩
theorem cut_minus (s : ByteArray) (w : World) :
    Calls Tryz.prog 161 #[.string s, .string ⟨#[45]⟩] w fun e w' => e = .returned (.tuple #[.string (idig s), .bool (ineg s)]) ∧ w' = w := by
  go_enter Tryz.func161, Tryz.ntmps161
  go_wp2_with fail
  refine (lite_cut s _ w).mono ?_
  rintro e w1 ⟨rfl, rfl⟩
  go_wp2
  go_ret2
  exact ⟨rfl, rfl⟩
end Go.Proofs.YtobojnodohjiaaaGreatDoor


/- ints.Parse. -/
namespace Go.Proofs.YtobojnodohjiaaaGreatDoor
open Go.RowKit
set_option linter.unusedSimpArgs false
set_option linter.unusedVariables false
attribute [local go_sem ↓] Go.wp_at_zero Go.wp_at_succ
attribute [local go_sem ↓] eq_nat eq_nat_zero eq_int
theorem cutm (s : ByteArray) (b : Bool) (w : World) (hb : ineg s = b) :
    Calls Tryz.prog 161 #[.string s, .string ⟨#[45]⟩] w fun e w' => e = .returned (.tuple #[.string (idig s), .bool b]) ∧ Below w.heap.size w w' := hb ▸ (cut_minus s w).mono fun e w' ⟨h, hw⟩ => ⟨h, by rw [hw]; exact Below.refl _ _⟩

theorem pnum_lt (s : ByteArray) (L : Nat) (hL : L = 4096) : pnum s < 10 ^ L := by
  unfold pnum
  split
  · rename_i h
    obtain ⟨h1, h2, h3, h4⟩ := h
    rw [pv_lv]
    have := lv_lt s.data.toList (fun c hc => by
      obtain ⟨i, hi, rfl⟩ := List.getElem_of_mem hc
      have hi' : i < s.size := by simpa using hi
      rw [← byt_list s i hi']
      exact (h4 i hi').2)
    refine Nat.lt_of_lt_of_le this (Nat.pow_le_pow_right (by decide) ?_)
    rw [Array.length_toList, hL]
    exact h1
  · exact Nat.pow_pos (by decide)
theorem ten_bp (k : Nat) : (10 : Nat) ^ (8 * k) ≤ bp k := by
  unfold bp
  rw [Nat.pow_mul]
  exact Nat.pow_le_pow_left (by decide) k
theorem pnum_bp (s : ByteArray) (k : Nat) (h : 8 * k = 4096) : pnum s < bp k := Nat.lt_of_lt_of_le (pnum_lt s _ h) (ten_bp k)

end Go.Proofs.YtobojnodohjiaaaGreatDoor


/- ints.Parse in z-form. -/
namespace Go.Proofs.YtobojnodohjiaaaGreatDoor
open Go.RowKit
set_option linter.unusedSimpArgs false
set_option linter.unusedVariables false
attribute [local go_sem ↓] Go.wp_at_zero Go.wp_at_succ
theorem itx_lit (a : Int) {n : Nat} {S : List UInt8} (h : (a = (n : Int))) (hd : Lib.decDigits n = S) : itx a = ⟨S.toArray⟩ := by
  unfold itx
  rw [if_neg (by omega), h, Int.natAbs_natCast, hd]

end Go.Proofs.YtobojnodohjiaaaGreatDoor

namespace Go.Proofs.YtobojnodohjiaaaGreatDoor
open Go.RowKit
set_option linter.unusedSimpArgs false
set_option linter.unusedVariables false
attribute [local go_sem ↓] Go.wp_at_zero Go.wp_at_succ
end Go.Proofs.YtobojnodohjiaaaGreatDoor

namespace Go.Proofs.YtobojnodohjiaaaGreatDoor
open Go.RowKit
set_option linter.unusedSimpArgs false
set_option linter.unusedVariables false
theorem idig_neg {s : ByteArray} (h : ineg s = true) : idig s = s.extract 1 s.size := by
  have h0 := h
  unfold ineg at h0
  rw [show ([45] : List UInt8) = (⟨#[45]⟩ : ByteArray).data.toList from rfl, ← Lib.hasPrefix_raw, Bool.and_eq_true, decide_eq_true_eq] at h0
  exact Lib.trimPrefix_hit s ⟨#[45]⟩ h0.1 h0.2
theorem idig_pos {s : ByteArray} (h : ineg s = false) : idig s = s := by
  unfold ineg at h
  unfold idig Lib.trimPrefix
  rw [h]
  cases s; simp
end Go.Proofs.YtobojnodohjiaaaGreatDoor

namespace Go.Proofs.YtobojnodohjiaaaGreatDoor
open Go.RowKit
set_option linter.unusedSimpArgs false
set_option linter.unusedVariables false
attribute [local go_sem ↓] Go.wp_at_zero Go.wp_at_succ
/-- three blocks may have turned, the others not -/
def Kp3 (B0 B1 B2 : Nat) (W w' : World) : Prop := W.heap.size ≤ w'.heap.size ∧ ∀ b, b < W.heap.size → b ≠ B0 → b ≠ B1 → b ≠ B2 → w'.heap[b]? = W.heap[b]?
theorem Gr.block' {W w' : World} (h : Gr W w') (b : Nat) (hb : b < W.heap.size) : w'.heap[b]? = W.heap[b]? := Below.block h b hb
theorem Kp3.of {B0 B1 B2 : Nat} {W w' : World} (h : Gr W w') : Kp3 B0 B1 B2 W w' := ⟨h.size, fun b hb _ _ _ => h.block' b hb⟩
theorem Kp3.held (B0 B1 B2 : Nat) (W : World) : ∀ w' : World, Kp3 B0 B1 B2 W w' → ∀ b o, b < W.heap.size → b ≠ B0 → b ≠ B1 → b ≠ B2 → w'.cell? ⟨b, o, none⟩ = W.cell? ⟨b, o, none⟩ := fun w' h b o hb h0 h1 h2 => by
  unfold World.cell?; rw [h.2 b hb h0 h1 h2]

end Go.Proofs.YtobojnodohjiaaaGreatDoor

namespace Go.Proofs.YtobojnodohjiaaaGreatDoor
open Go.RowKit
set_option linter.unusedSimpArgs false
set_option linter.unusedVariables false
attribute [local go_sem ↓] Go.wp_at_zero Go.wp_at_succ
attribute [local go_sem ↓] eq_nat eq_nat_zero eq_int
end Go.Proofs.YtobojnodohjiaaaGreatDoor

namespace Go.Proofs.YtobojnodohjiaaaGreatDoor
open Go.RowKit
set_option linter.unusedSimpArgs false
set_option linter.unusedVariables false
attribute [local go_sem ↓] Go.wp_at_zero Go.wp_at_succ
theorem zsize {b : Bool} {n : Nat} {a : Int} (h : (if b then -((n : Nat) : Int) else ((n : Nat) : Int)) = a) : a.natAbs = n := by
  rw [← h]; split <;> simp

end Go.Proofs.YtobojnodohjiaaaGreatDoor

namespace Go.Proofs.YtobojnodohjiaaaGreatDoor
open Go.RowKit
set_option linter.unusedSimpArgs false
set_option linter.unusedVariables false
attribute [local go_sem ↓] Go.wp_at_zero Go.wp_at_succ
end Go.Proofs.YtobojnodohjiaaaGreatDoor

namespace Go.Proofs.YtobojnodohjiaaaGreatDoor
open Go.RowKit
set_option linter.unusedSimpArgs false
set_option linter.unusedVariables false
section
variable {P : Program} {ops : Array Oper} {md : Region.Mode}
def listedQ (is : List Nat) (i j : Nat) : Bool := decide (j < i) || is.contains j
/-- listed: the operations before i, and those of 'is' -/
def UpTo (is : List Nat) (size i : Nat) (listed : Array Bool) : Prop := listed.size = size ∧ ∀ j, j < size → listed.getD j true = listedQ is i j
theorem getD_any {a : Array Bool} {j : Nat} (h : j < a.size) (d e : Bool) : a.getD j d = a.getD j e := by
  simp [Array.getD, h]
theorem UpTo.off {is : List Nat} {size i : Nat} {listed : Array Bool} (h : UpTo is size i listed) (his : ∀ j ∈ is, j < size) (hi : i ≤ size) (j : Nat) (hj : listedQ is i j = true) : listed.getD j false = true := by
  have hlt : j < size := by
    simp only [listedQ, Bool.or_eq_true, decide_eq_true_eq, List.contains_eq_mem] at hj
    rcases hj with hj | hj
    · omega
    · exact his j hj
  rw [getD_any (by rw [h.1]; exact hlt) false true, h.2 j hlt, hj]
theorem UpTo.skip {is : List Nat} {size i : Nat} {listed : Array Bool} (h : UpTo is size i listed) (hi : is.contains i = true) : UpTo is size (i + 1) listed := by
  refine ⟨h.1, fun j hj => ?_⟩
  rw [h.2 j hj]
  unfold listedQ
  by_cases e : j = i
  · subst e; rw [hi]; simp
  · rw [show decide (j < i + 1) = decide (j < i) from decide_eq_decide.2 (by omega)]
theorem UpTo.set {is : List Nat} {size i : Nat} {listed : Array Bool} (h : UpTo is size i listed) : UpTo is size (i + 1) (listed.setIfInBounds i true) := by
  refine ⟨by simp [h.1], fun j hj => ?_⟩
  have hs : j < listed.size := by rw [h.1]; exact hj
  by_cases e : j = i
  · subst e
    rw [Array.getD_eq_getD_getElem?, Array.getElem?_setIfInBounds_self_of_lt hs]
    simp [listedQ]
  · rw [Array.getD_eq_getD_getElem?, Array.getElem?_setIfInBounds_ne (Ne.symm e), ← Array.getD_eq_getD_getElem?, h.2 j hj]
    unfold listedQ
    rw [show decide (j < i + 1) = decide (j < i) from decide_eq_decide.2 (by omega)]
theorem UpTo.canon {is : List Nat} {size n : Nat} {listed : Array Bool} (h : UpTo is size n listed) (his : ∀ j ∈ is, j < n) : listed = canon n size := by
  apply Array.ext
  · rw [h.1]; simp [Go.Proofs.YtobojnodohjiaaaGreatDoor.canon]
  · intro j h1 h2
    have hj : j < size := by rw [← h.1]; exact h1
    have := h.2 j hj
    rw [Array.getD_eq_getD_getElem?, Array.getElem?_eq_getElem h1, Option.getD_some] at this
    rw [this]
    simp only [Go.Proofs.YtobojnodohjiaaaGreatDoor.canon, Array.getElem_ofFn, listedQ]
    by_cases e : j < n
    · simp [e]
    · have : ¬ j ∈ is := fun hm => e (his j hm)
      simp [e, this]
end
end Go.Proofs.YtobojnodohjiaaaGreatDoor

namespace Go.Proofs.YtobojnodohjiaaaGreatDoor
open Go.RowKit
set_option linter.unusedSimpArgs false
set_option linter.unusedVariables false
attribute [local go_sem ↓] Go.wp_at_zero Go.wp_at_succ

theorem zigcd (a b g x y : Int) (w : World) (hg : (egcd a b).1 = g) (hx : (egcd a b).2.1 = x) (hy : (egcd a b).2.2 = y) (ha : wl a.natAbs ≤ 1000000000) (hb : wl b.natAbs ≤ 1000000000) :
    Calls Tryz.prog 36 #[(Value.agg #[.int .u64 ((lo (Int.natAbs (a)) : Nat) : Int), .string (bg (Int.natAbs (a))), .bool (decide ((a) < 0))]), (Value.agg #[.int .u64 ((lo (Int.natAbs (b)) : Nat) : Int), .string (bg (Int.natAbs (b))), .bool (decide ((b) < 0))])] w fun e w' => e = .returned (.tuple #[(Value.agg #[.int .u64 ((lo (Int.natAbs (g)) : Nat) : Int), .string (bg (Int.natAbs (g))), .bool (decide ((g) < 0))]), (Value.agg #[.int .u64 ((lo (Int.natAbs (x)) : Nat) : Int), .string (bg (Int.natAbs (x))), .bool (decide ((x) < 0))]), (Value.agg #[.int .u64 ((lo (Int.natAbs (y)) : Nat) : Int), .string (bg (Int.natAbs (y))), .bool (decide ((y) < 0))])]) ∧ Below w.heap.size w w' := hg ▸ hx ▸ hy ▸ igcd_any a b w ha hb

theorem wl_egcd {a b : Int} {M : Nat} (h1 : wl a.natAbs ≤ M) (h2 : wl b.natAbs ≤ M) (hM : M ≤ 1000000000) : wl (egcd a b).1.natAbs ≤ M + 4 ∧ wl (egcd a b).2.1.natAbs ≤ M + 4 ∧ wl (egcd a b).2.2.natAbs ≤ M + 4 := by
  have hs := egcd_small a b
  have hsum : wl (5 * (a.natAbs + b.natAbs) + 5) ≤ M + 4 := by
    have e1 := wl_add a.natAbs b.natAbs
    have e2 := wl_mul 5 (a.natAbs + b.natAbs)
    have e3 := wl_add (5 * (a.natAbs + b.natAbs)) 5
    have e4 : wl 5 ≤ 1 := wl_small (by decide)
    omega
  refine ⟨?_, Nat.le_trans (wl_mono hs.1) hsum, Nat.le_trans (wl_mono hs.2) hsum⟩
  rw [(egcd_gcd _ a b (Nat.le_refl _)).1, Int.natAbs_natCast]
  have := wl_gcd a.natAbs b.natAbs
  omega

end Go.Proofs.YtobojnodohjiaaaGreatDoor
