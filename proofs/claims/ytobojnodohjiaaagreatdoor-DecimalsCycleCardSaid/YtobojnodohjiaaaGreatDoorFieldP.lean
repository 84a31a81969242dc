
/- plain facts of FracsField. -/
import Derived.Test.YtobojnodohjiaaaGreatDoorHp
import Derived.Test.YtobojnodohjiaaaGreatDoorIntE
import Derived.Test.YtobojnodohjiaaaGreatDoorPJ
import Derived.Test.YtobojnodohjiaaaGreatDoorPT
import Derived.Test.YtobojnodohjiaaaGreatDoorRefK
import Derived.Test.YtobojnodohjiaaaGreatDoorPI
import Derived.Test.YtobojnodohjiaaaGreatDoorPE
import Derived.Test.YtobojnodohjiaaaGreatDoorPP
import Derived.Test.YtobojnodohjiaaaGreatDoorRefL
import Derived.Lib.Strings
import Derived.Test.YtobojnodohjiaaaGreatDoorPL
import Derived.Test.YtobojnodohjiaaaGreatDoorPV
namespace Go.Proofs.YtobojnodohjiaaaGreatDoor
open Go.RowKit
set_option linter.unusedSimpArgs false
set_option linter.unusedVariables false
attribute [local go_sem ↓] Go.wp_at_zero Go.wp_at_succ
attribute [local go_sem ↓] eq_nat eq_nat_zero eq_int
end Go.Proofs.YtobojnodohjiaaaGreatDoor

namespace Go.Proofs.YtobojnodohjiaaaGreatDoor
open Go.RowKit
set_option linter.unusedSimpArgs false
set_option linter.unusedVariables false
attribute [local go_sem ↓] Go.wp_at_zero Go.wp_at_succ
end Go.Proofs.YtobojnodohjiaaaGreatDoor

set_option linter.unusedVariables false
set_option linter.unusedSimpArgs false

/- ints.Text and gussetref02.Text: the decimal form, with a sign ahead for a negative integer. -/
namespace Go.Proofs.YtobojnodohjiaaaGreatDoor
open Go.RowKit
set_option linter.unusedSimpArgs false
set_option linter.unusedVariables false
/-- the decimal form of an integer -/
def itx (a : Int) : ByteArray := if a < 0 then (⟨#[45]⟩ : ByteArray) ++ ⟨(Lib.decDigits a.natAbs).toArray⟩ else ⟨(Lib.decDigits a.natAbs).toArray⟩
set_option maxHeartbeats 1000000 in
theorem itext_any (a : Int) (w : World) (ha : wl a.natAbs ≤ 900000) (HT : Hid (Tab w)) :
    Calls Tryz.prog 141 #[(Value.agg #[.int .u64 ((lo (Int.natAbs (a)) : Nat) : Int), .string (bg (Int.natAbs (a))), .bool (decide ((a) < 0))])] w fun e w' => e = .returned (.string (itx a)) ∧ Below w.heap.size w w' := by
  by_cases hn : a < 0
  · have HS1 : Hid (decide (a < 0) = true) := decide_eq_true hn
    have HSG : Hid (itx a = (⟨#[45]⟩ : ByteArray) ++ ⟨(Lib.decDigits a.natAbs).toArray⟩) := if_pos hn
    clear hn
    rw [HSG.out, HS1.out]
    obtain ⟨W0, HW⟩ : ∃ W0, Hid ((w.alloc (.cells #[.int .u64 ((lo (a.natAbs) : Nat) : Int), .string (bg (a.natAbs)), .bool true] 34)) = W0) := ⟨_, Lib.hid rfl⟩
    have HS := Lib.hid (show w.heap.size + 1 = W0.heap.size by rw [← HW.out]; simp)
    have z0 : w.heap.size < W0.heap.size := by rw [← HS.out]; omega
    have c0_0 : W0.cell? ⟨w.heap.size, 0, none⟩ = some (.int .u64 ((lo (a.natAbs) : Nat) : Int)) := by rw [← HW.out]; simp [go_sem]
    have c0_1 : W0.cell? ⟨w.heap.size, 1, none⟩ = some (.string (bg (a.natAbs))) := by rw [← HW.out]; simp [go_sem]
    have c0_2 : W0.cell? ⟨w.heap.size, 2, none⟩ = some (.bool true) := by rw [← HW.out]; simp [go_sem]
    have f_0 : W0.frozen? ⟨w.heap.size, 0, none⟩ = false := by rw [← HW.out]; simp [go_sem]
    have f_1 : W0.frozen? ⟨w.heap.size, 1, none⟩ = false := by rw [← HW.out]; simp [go_sem]
    have f_2 : W0.frozen? ⟨w.heap.size, 2, none⟩ = false := by rw [← HW.out]; simp [go_sem]
    have hbw : Below w.heap.size w W0 := by rw [← HW.out]; exact (Below.refl _ _).alloc (Nat.le_refl _) _
    have HR : Hid (∀ w1 : World, Below W0.heap.size W0 w1 → w1.cell? ⟨w.heap.size, 0, none⟩ = some (.int .u64 ((lo (a.natAbs) : Nat) : Int)) ∧ w1.cell? ⟨w.heap.size, 1, none⟩ = some (.string (bg (a.natAbs))) ∧ w1.cell? ⟨w.heap.size, 2, none⟩ = some (.bool true) ∧ w1.frozen? ⟨w.heap.size, 0, none⟩ = false ∧ w1.frozen? ⟨w.heap.size, 1, none⟩ = false ∧ w1.frozen? ⟨w.heap.size, 2, none⟩ = false ∧ Below w.heap.size w w1) := fun w1 hb => ⟨(held W0 w1 hb _ _ z0).trans c0_0, (held W0 w1 hb _ _ z0).trans c0_1, (held W0 w1 hb _ _ z0).trans c0_2, (heldf W0 w1 hb _ _ z0).trans f_0, (heldf W0 w1 hb _ _ z0).trans f_1, (heldf W0 w1 hb _ _ z0).trans f_2, grow hbw hb⟩
    have HBW := Lib.hid hbw
    clear hbw
    have hlen : ¬ (9223372036854775807 < 1 + (Lib.decDigits a.natAbs).length) := by rw [Lib.decDigits_length]; have := nDigits_nb a.natAbs; have := nb_wl a.natAbs; omega
    go_enter Tryz.func141, Tryz.ntmps141
    go_wp2_with fail
    rw [HW.out]
    refine (text_any a.natAbs _ (by omega) (Lib.hid (HT.out.gr HBW.out))).mono ?_
    rintro e w1 ⟨rfl, hb1⟩
    clear c0_0 c0_1 c0_2 f_0 f_1 f_2 HBW; obtain ⟨c0_0, c0_1, c0_2, f_0, f_1, f_2, hbw⟩ := HR.out w1 (hb1); have HBW := Lib.hid hbw; clear hbw
    go_wp2_with fail
    go_ret
    exact ⟨rfl, HBW.out⟩
  · have HS1 : Hid (decide (a < 0) = false) := decide_eq_false hn
    have HSG : Hid (itx a = ⟨(Lib.decDigits a.natAbs).toArray⟩) := if_neg hn
    clear hn
    rw [HSG.out, HS1.out]
    obtain ⟨W0, HW⟩ : ∃ W0, Hid ((w.alloc (.cells #[.int .u64 ((lo (a.natAbs) : Nat) : Int), .string (bg (a.natAbs)), .bool false] 34)) = W0) := ⟨_, Lib.hid rfl⟩
    have HS := Lib.hid (show w.heap.size + 1 = W0.heap.size by rw [← HW.out]; simp)
    have z0 : w.heap.size < W0.heap.size := by rw [← HS.out]; omega
    have c0_0 : W0.cell? ⟨w.heap.size, 0, none⟩ = some (.int .u64 ((lo (a.natAbs) : Nat) : Int)) := by rw [← HW.out]; simp [go_sem]
    have c0_1 : W0.cell? ⟨w.heap.size, 1, none⟩ = some (.string (bg (a.natAbs))) := by rw [← HW.out]; simp [go_sem]
    have c0_2 : W0.cell? ⟨w.heap.size, 2, none⟩ = some (.bool false) := by rw [← HW.out]; simp [go_sem]
    have f_0 : W0.frozen? ⟨w.heap.size, 0, none⟩ = false := by rw [← HW.out]; simp [go_sem]
    have f_1 : W0.frozen? ⟨w.heap.size, 1, none⟩ = false := by rw [← HW.out]; simp [go_sem]
    have f_2 : W0.frozen? ⟨w.heap.size, 2, none⟩ = false := by rw [← HW.out]; simp [go_sem]
    have hbw : Below w.heap.size w W0 := by rw [← HW.out]; exact (Below.refl _ _).alloc (Nat.le_refl _) _
    have HR : Hid (∀ w1 : World, Below W0.heap.size W0 w1 → w1.cell? ⟨w.heap.size, 0, none⟩ = some (.int .u64 ((lo (a.natAbs) : Nat) : Int)) ∧ w1.cell? ⟨w.heap.size, 1, none⟩ = some (.string (bg (a.natAbs))) ∧ w1.cell? ⟨w.heap.size, 2, none⟩ = some (.bool false) ∧ w1.frozen? ⟨w.heap.size, 0, none⟩ = false ∧ w1.frozen? ⟨w.heap.size, 1, none⟩ = false ∧ w1.frozen? ⟨w.heap.size, 2, none⟩ = false ∧ Below w.heap.size w w1) := fun w1 hb => ⟨(held W0 w1 hb _ _ z0).trans c0_0, (held W0 w1 hb _ _ z0).trans c0_1, (held W0 w1 hb _ _ z0).trans c0_2, (heldf W0 w1 hb _ _ z0).trans f_0, (heldf W0 w1 hb _ _ z0).trans f_1, (heldf W0 w1 hb _ _ z0).trans f_2, grow hbw hb⟩
    have HBW := Lib.hid hbw
    clear hbw
    go_enter Tryz.func141, Tryz.ntmps141
    go_wp2_with fail
    rw [HW.out]
    refine (text_any a.natAbs _ (by omega) (Lib.hid (HT.out.gr HBW.out))).mono ?_
    rintro e w1 ⟨rfl, hb1⟩
    clear c0_0 c0_1 c0_2 f_0 f_1 f_2 HBW; obtain ⟨c0_0, c0_1, c0_2, f_0, f_1, f_2, hbw⟩ := HR.out w1 (hb1); have HBW := Lib.hid hbw; clear hbw
    go_wp2_with fail
    go_ret
    exact ⟨rfl, HBW.out⟩
end Go.Proofs.YtobojnodohjiaaaGreatDoor


/- texts of integers in z-form. -/
namespace Go.Proofs.YtobojnodohjiaaaGreatDoor
open Go.RowKit
set_option linter.unusedSimpArgs false
set_option linter.unusedVariables false
attribute [local go_sem ↓] Go.wp_at_zero Go.wp_at_succ
theorem zitext (a : Int) (s : ByteArray) (w : World) (hs : itx a = s) (ha : wl a.natAbs ≤ 900000) (HT : Hid (Tab w)) :
    Calls Tryz.prog 141 #[(Value.agg #[.int .u64 ((lo (Int.natAbs (a)) : Nat) : Int), .string (bg (Int.natAbs (a))), .bool (decide ((a) < 0))])] w fun e w' => e = .returned (.string s) ∧ Below w.heap.size w w' := hs ▸ itext_any a w ha HT

end Go.Proofs.YtobojnodohjiaaaGreatDoor

namespace Go.Proofs.YtobojnodohjiaaaGreatDoor
set_option linter.unusedSimpArgs false
set_option linter.unusedVariables false

/-- the value of a row of digits -/
def lv (l : List UInt8) : Nat := l.foldl (fun n c => 10 * n + (c.toNat - 48)) 0
theorem lv_snoc (l : List UInt8) (c : UInt8) : lv (l ++ [c]) = 10 * lv l + (c.toNat - 48) := by unfold lv; rw [List.foldl_append]; rfl
theorem byt_list (s : ByteArray) (i : Nat) (h : i < s.size) : byt s i = (s.data.toList[i]'(by simpa using h)).toNat := by
  rw [← byt_at h]
  rfl
theorem pv_take (s : ByteArray) : ∀ k, k ≤ s.size → pv s k = lv (s.data.toList.take k)
  | 0, _ => rfl
  | k + 1, h => by
    have hk : k < s.data.toList.length := by have e : s.data.toList.length = s.size := Array.length_toList; omega
    rw [List.take_succ_eq_append_getElem hk, lv_snoc, ← pv_take s k (by omega), ← byt_list s k (by omega)]
    show 10 * pvr s 0 k + (byt s (0 + k) - 48) = 10 * pv s k + _
    rw [Nat.zero_add]
    rfl
theorem pv_lv (s : ByteArray) : pv s s.size = lv s.data.toList := by
  rw [pv_take s s.size (Nat.le_refl _), List.take_of_length_le (by simp)]
theorem dig_ofNat {d : Nat} (h : d < 10) : (UInt8.ofNat (48 + d)).toNat = 48 + d := by
  rw [UInt8.toNat_ofNat']; omega
theorem dec_small {u : Nat} (h : u < 10) : Lib.decDigits u = [UInt8.ofNat (48 + u)] := Lib.decDigits_one h
theorem lv_dec (n : Nat) : lv (Lib.decDigits n) = n := by
  induction n using Nat.strongRecOn with
  | ind n ih =>
    by_cases h : n < 10
    · rw [dec_small h]
      show 10 * 0 + ((UInt8.ofNat (48 + n)).toNat - 48) = n
      rw [dig_ofNat h]; omega
    · rw [decDigits_big h, lv_snoc, ih (n / 10) (by omega), dig_ofNat (by omega)]
      omega
theorem size_mk (l : List UInt8) : (⟨l.toArray⟩ : ByteArray).size = l.length := by simp [ByteArray.size]
theorem dec_inj {a b : Nat} (h : Lib.decDigits a = Lib.decDigits b) : a = b := by rw [← lv_dec a, h, lv_dec]
theorem lv_lt : ∀ l : List UInt8, (∀ c ∈ l, c.toNat ≤ 57) → lv l < 10 ^ l.length := by
  intro l
  induction h : l.length generalizing l with
  | zero => intro _; rw [List.length_eq_zero_iff.1 h]; decide
  | succ k ih =>
    intro hd
    have hne : l ≠ [] := fun e => by rw [e] at h; simp at h
    obtain ⟨l', c, rfl⟩ : ∃ l' c, l = l' ++ [c] := ⟨l.dropLast, l.getLast hne, (List.dropLast_concat_getLast hne).symm⟩
    have := ih l' (by simpa using h) (fun x hx => hd x (List.mem_append_left _ hx))
    have := hd c (by simp)
    rw [lv_snoc, Nat.pow_succ]
    omega
theorem lv_cons (c : UInt8) (l : List UInt8) : lv (c :: l) = (c.toNat - 48) * 10 ^ l.length + lv l := by
  induction h : l.length generalizing l with
  | zero =>
    rw [List.length_eq_zero_iff.1 h]
    show 10 * 0 + (c.toNat - 48) = (c.toNat - 48) * 1 + 0
    omega
  | succ k ih =>
    have hne : l ≠ [] := fun e => by rw [e] at h; simp at h
    obtain ⟨l', d, rfl⟩ : ∃ l' c, l = l' ++ [c] := ⟨l.dropLast, l.getLast hne, (List.dropLast_concat_getLast hne).symm⟩
    have := ih l' (by simpa using h)
    rw [← List.cons_append, lv_snoc, lv_snoc, this, Nat.pow_succ]
    generalize (c.toNat - 48) = x
    rw [show x * (10 ^ k * 10) = 10 * (x * 10 ^ k) by rw [← Nat.mul_assoc, Nat.mul_comm]]
    omega
end Go.Proofs.YtobojnodohjiaaaGreatDoor

namespace Go.Proofs.YtobojnodohjiaaaGreatDoor
open Go.RowKit
set_option linter.unusedSimpArgs false
set_option linter.unusedVariables false
/-- a minus sign ahead -/
def ineg (s : ByteArray) : Bool := Lib.hasPrefix s.data.toList [45]
/-- what stands behind it -/
def idig (s : ByteArray) : ByteArray := ⟨(Lib.trimPrefix s.data.toList [45]).toArray⟩
theorem idig_size (s : ByteArray) : (idig s).size ≤ s.size := by
  have := Lib.trimPrefix_le s.data.toList [45]
  unfold idig
  rw [size_mk]
  exact Nat.le_trans this (Nat.le_of_eq Array.length_toList)
theorem itx_data (a : Int) : (itx a).data.toList = if a < 0 then 45 :: Lib.decDigits a.natAbs else Lib.decDigits a.natAbs := by
  unfold itx
  split <;> simp
theorem itx_size (a : Int) : (itx a).size = (if a < 0 then 1 else 0) + Lib.nDigits a.natAbs := by
  have h := congrArg List.length (itx_data a)
  have e : (itx a).size = (itx a).data.toList.length := Array.length_toList.symm
  rw [e, h]
  split
  · rw [List.length_cons, Lib.decDigits_length]; omega
  · rw [Lib.decDigits_length]; omega
end Go.Proofs.YtobojnodohjiaaaGreatDoor

set_option linter.unusedVariables false
set_option linter.unusedSimpArgs false

/- fracs.Text, gussetref03.Text. -/
namespace Go.Proofs.YtobojnodohjiaaaGreatDoor
open Go.RowKit
set_option linter.unusedSimpArgs false
set_option linter.unusedVariables false
attribute [local go_sem ↓] Go.wp_at_zero Go.wp_at_succ
attribute [local go_sem ↓] eq_nat eq_nat_zero eq_int
set_option maxRecDepth 20000 in
set_option maxHeartbeats 4000000 in
theorem ftext_w (q : Rat) (tx : ByteArray) (w : World) (hs_q : sz q ≤ 100000) (HTX : Hid (itx (q).num = tx)) (HW : Hid ((q).den = 1)) (HT : Hid (Tab w)) :
    Calls Tryz.prog 153 #[(Value.agg #[.int .u64 ((lo (Int.natAbs ((q).num)) : Nat) : Int), .string (bg (Int.natAbs ((q).num))), .bool (decide (((q).num) < 0)), .int .u64 ((lo ((q).den - 1) : Nat) : Int), .string (bg ((q).den - 1))])] w fun e w' => e = .returned ((.string tx)) ∧ Below w.heap.size w w' := by
  have hn_q : wl (Int.natAbs ((q).num)) ≤ 100000 := Nat.le_trans (sz_num q) hs_q
  have hd_q : wl ((q).den) ≤ 100000 := Nat.le_trans (sz_den q) hs_q
  go_enter Tryz.func153, Tryz.ntmps153
  have HF := Lib.hid (hp0 w)
  refine kS fun K hK => ?_
  refine wp_region_lit ?_
  go_wp2
  refine hK.out _ _ ?_; clear hK K
  show Code.wp _ _ _ _ _
  refine fH ((HF.out).al (b := w.heap.size) (by first | rfl | simp) (by decide)) fun Wx0 HG => ?_
  clear HF; have HF := HG; clear HG
  refine wp_seq ?_
  have lx0 := HF.out.c 0 rfl
  refine kS fun K hK => ?_
  refine sq 2 [(true, 0), (true, 1)] fun T hT => ?_
  refine tk ?_
  refine ck Tryz.call146 (fun w' hw => fiswhole_any (q) true _ (decide_eq_true (by exact HW.out))) ?_
  refine nlS hT HF fun vw1 HG => ?_
  clear hT T HF lx0
  go_wp2
  refine hK.out _ _ ?_; clear hK K
  show Code.wp _ _ _ _ _
  have HF := HG; clear HG
  refine wp_cond_true (by rfl) ?_
  have HB := HPb HF
  have lx0 := HF.out.c 0 rfl
  refine kS fun K hK => ?_
  refine sq 4 [(true, 0), (true, 1), (true, 2), (true, 3)] fun T hT => ?_
  iterate 2 refine tk ?_
  refine ck Tryz.call141 (fun w' hw => zitext ((q).num) tx _ HTX.out om (Lib.hid (HT.out.gr (Gr.trans HB.out hw)))) ?_
  refine tk ?_
  refine nlS hT HF fun vw2 HG => ?_
  clear hT T HF lx0 HB
  go_wp2
  refine hK.out _ _ ?_; clear hK K
  show Code.wp _ _ _ _ _
  have HF := HG; clear HG
  refine wp_ret ?_
  try simp only [Exit.then, Exit.inBlock]
  exact bodyPost_ret (v := .string tx) (by simp [results, Tryz.results153, go_sem]) rfl ⟨rfl, HF.out.1⟩

set_option maxRecDepth 20000 in
set_option maxHeartbeats 4000000 in
theorem ftext_f (q : Rat) (tx ty t1 tz : ByteArray) (w : World) (hs_q : sz q ≤ 100000) (HTX : Hid (itx (q).num = tx)) (HW : Hid (¬ (q).den = 1)) (HTY : Hid ((⟨(Lib.decDigits ((q).den)).toArray⟩ : ByteArray) = ty)) (HC1 : Hid (tx ++ (⟨#[47]⟩ : ByteArray) = t1)) (HC2 : Hid (t1 ++ ty = tz)) (hl1 : tx.size ≤ 100000000) (hl2 : t1.size ≤ 100000001) (hl3 : ty.size ≤ 100000000) (HT : Hid (Tab w)) :
    Calls Tryz.prog 153 #[(Value.agg #[.int .u64 ((lo (Int.natAbs ((q).num)) : Nat) : Int), .string (bg (Int.natAbs ((q).num))), .bool (decide (((q).num) < 0)), .int .u64 ((lo ((q).den - 1) : Nat) : Int), .string (bg ((q).den - 1))])] w fun e w' => e = .returned ((.string tz)) ∧ Below w.heap.size w w' := by
  have hn_q : wl (Int.natAbs ((q).num)) ≤ 100000 := Nat.le_trans (sz_num q) hs_q
  have hd_q : wl ((q).den) ≤ 100000 := Nat.le_trans (sz_den q) hs_q
  go_enter Tryz.func153, Tryz.ntmps153
  have HF := Lib.hid (hp0 w)
  refine kS fun K hK => ?_
  refine wp_region_lit ?_
  go_wp2
  refine hK.out _ _ ?_; clear hK K
  show Code.wp _ _ _ _ _
  refine fH ((HF.out).al (b := w.heap.size) (by first | rfl | simp) (by decide)) fun Wx0 HG => ?_
  clear HF; have HF := HG; clear HG
  refine wp_seq ?_
  have lx0 := HF.out.c 0 rfl
  refine kS fun K hK => ?_
  refine sq 2 [(true, 0), (true, 1)] fun T hT => ?_
  refine tk ?_
  refine ck Tryz.call146 (fun w' hw => fiswhole_any (q) false _ (decide_eq_false (by exact HW.out))) ?_
  refine nlS hT HF fun vw1 HG => ?_
  clear hT T HF lx0
  go_wp2
  refine hK.out _ _ ?_; clear hK K
  show Code.wp _ _ _ _ _
  have HF := HG; clear HG
  refine wp_cond_false (by rfl) ?_
  refine wp_skip ?_
  show Code.wp _ _ _ _ _
  have HB := HPb HF
  have hlen1 : ¬ (9223372036854775807 < tx.size + 1) := by omega
  have hcat1 : tx ++ (⟨#[47]⟩ : ByteArray) = t1 := HC1.out
  have hlen2 : ¬ (9223372036854775807 < t1.size + ty.size) := by omega
  have hcat2 : t1 ++ ty = tz := HC2.out
  have lx0 := HF.out.c 0 rfl
  refine kS fun K hK => ?_
  refine pd 8 [(true, 0), (true, 1), (true, 4), (true, 2), (true, 3), (true, 5), (true, 6), (true, 7)] fun T hT => ?_
  iterate 3 refine tk ?_
  refine ck Tryz.call141 (fun w' hw => zitext ((q).num) tx _ HTX.out om (Lib.hid (HT.out.gr (Gr.trans HB.out hw)))) ?_
  refine tk ?_
  refine ck Tryz.call114 (fun w' hw => fden_any (q) om _) ?_
  refine ck Tryz.call154 (fun w' hw => nztexts ((q).den) ty _ HTY.out om (Lib.hid (HT.out.gr (Gr.trans HB.out hw)))) ?_
  refine tk ?_
  refine nlD hT HF fun vw2 HG => ?_
  clear hT T HF lx0 HB
  go_wp2
  refine hK.out _ _ ?_; clear hK K
  show Code.wp _ _ _ _ _
  refine fH ((HG.out).er 0) fun Wx3 HF => ?_
  clear HG
  clear hlen1 hcat1 hlen2 hcat2
  refine wp_ret ?_
  try simp only [Exit.then, Exit.inBlock]
  exact bodyPost_ret (v := .string tz) (by simp [results, Tryz.results153, go_sem]) rfl ⟨rfl, HF.out.1⟩

/-- the text of a fraction -/
def ftx (q : Rat) : ByteArray := if q.den = 1 then itx q.num else itx q.num ++ (⟨#[47]⟩ : ByteArray) ++ ⟨(Lib.decDigits q.den).toArray⟩
theorem itx_small {a : Int} {k : Nat} (h : wl a.natAbs ≤ k) : (itx a).size ≤ 32 * k + 2 := by
  have h1 := nDigits_nb a.natAbs
  have h2 := nb_wl a.natAbs
  have h3 := itx_size a
  rw [h3]
  have : 32 * wl a.natAbs ≤ 32 * k := Nat.mul_le_mul_left _ h
  split <;> omega
theorem dec_size {n k : Nat} (h : wl n ≤ k) : (⟨(Lib.decDigits n).toArray⟩ : ByteArray).size ≤ 32 * k + 1 := by
  have h1 := nDigits_nb n
  have h2 := nb_wl n
  rw [size_mk, Lib.decDigits_length]
  have : 32 * wl n ≤ 32 * k := Nat.mul_le_mul_left _ h
  omega
theorem cat_size (a b : ByteArray) : (a ++ b).size = a.size + b.size := by simp
theorem ftext_any (q : Rat) (w : World) (hs : sz q ≤ 100000) (HT : Hid (Tab w)) :
    Calls Tryz.prog 153 #[(Value.agg #[.int .u64 ((lo (Int.natAbs ((q).num)) : Nat) : Int), .string (bg (Int.natAbs ((q).num))), .bool (decide (((q).num) < 0)), .int .u64 ((lo ((q).den - 1) : Nat) : Int), .string (bg ((q).den - 1))])] w fun e w' => e = .returned (.string (ftx q)) ∧ Below w.heap.size w w' := by
  unfold ftx
  by_cases h : q.den = 1
  · rw [if_pos h]
    exact ftext_w q _ w hs (Lib.hid rfl) (Lib.hid h) HT
  · rw [if_neg h]
    have h1 := itx_small (Nat.le_trans (sz_num q) hs)
    have h2 := dec_size (Nat.le_trans (sz_den q) hs)
    exact ftext_f q _ _ _ _ w hs (Lib.hid rfl) (Lib.hid h) (Lib.hid rfl) (Lib.hid rfl) (Lib.hid rfl) (by omega) (by rw [cat_size]; have : (⟨#[47]⟩ : ByteArray).size = 1 := rfl; omega) (by omega) HT

end Go.Proofs.YtobojnodohjiaaaGreatDoor


/- gussetlaw23.Num. -/
namespace Go.Proofs.YtobojnodohjiaaaGreatDoor
open Go.RowKit
set_option linter.unusedSimpArgs false
set_option linter.unusedVariables false
attribute [local go_sem ↓] Go.wp_at_zero Go.wp_at_succ
attribute [local go_sem ↓] eq_nat eq_nat_zero eq_int
end Go.Proofs.YtobojnodohjiaaaGreatDoor


/- gussetlaw23.Same. -/
namespace Go.Proofs.YtobojnodohjiaaaGreatDoor
open Go.RowKit
set_option linter.unusedSimpArgs false
set_option linter.unusedVariables false
attribute [local go_sem ↓] Go.wp_at_zero Go.wp_at_succ
end Go.Proofs.YtobojnodohjiaaaGreatDoor

namespace Go.Proofs.YtobojnodohjiaaaGreatDoor
open Go.RowKit
set_option linter.unusedSimpArgs false
set_option linter.unusedVariables false
attribute [local go_sem ↓] Go.wp_at_zero Go.wp_at_succ
attribute [local go_sem ↓] eq_nat eq_nat_zero eq_int
attribute [local go_sem] Instr.field asAgg
end Go.Proofs.YtobojnodohjiaaaGreatDoor

namespace Go.Proofs.YtobojnodohjiaaaGreatDoor
open Go.RowKit
set_option linter.unusedSimpArgs false
set_option linter.unusedVariables false
attribute [local go_sem ↓] Go.wp_at_zero Go.wp_at_succ
end Go.Proofs.YtobojnodohjiaaaGreatDoor

namespace Go.Proofs.YtobojnodohjiaaaGreatDoor
open Go.RowKit
set_option linter.unusedSimpArgs false
set_option linter.unusedVariables false
attribute [local go_sem ↓] Go.wp_at_zero Go.wp_at_succ
theorem sgQ_cases (a : Rat) : (a < 0 ∧ sgQ a = -1) ∨ (a = 0 ∧ sgQ a = 0) ∨ (0 < a ∧ sgQ a = 1) := by
  by_cases h0 : a = 0
  · subst h0; exact .inr (.inl ⟨rfl, rfl⟩)
  · by_cases h : a < 0
    · exact .inl ⟨h, sgQ_neg h⟩
    · have : 0 < a := Rat.lt_of_le_of_ne (Rat.not_lt.1 h) (fun e => h0 e.symm)
      exact .inr (.inr ⟨this, sgQ_pos this⟩)
theorem mk_one (f : Int) : mkRat f 1 = (f : Rat) := (Rat.mk_eq_mkRat f 1 (by decide) (by simp)).symm

end Go.Proofs.YtobojnodohjiaaaGreatDoor
