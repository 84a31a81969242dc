
/- gussetref03.Reads. -/
import Derived.Test.YtpcfncbcpknobaaGreatDoorPW
import Derived.Test.YtpcfncbcpknobaaGreatDoorPT
import Derived.Test.YtpcfncbcpknobaaGreatDoorRefParse2
import Derived.Test.YtpcfncbcpknobaaGreatDoorParseZ2
import Derived.Test.YtpcfncbcpknobaaGreatDoorHp
namespace Go.Proofs.YtpcfncbcpknobaaGreatDoor
open Go.RowKit
set_option linter.unusedSimpArgs false
set_option linter.unusedVariables false
attribute [local go_sem ↓] Go.wp_at_zero Go.wp_at_succ
attribute [local go_sem ↓] eq_nat eq_nat_zero eq_int
/-- c is the first slash at or behind j, or the end -/
def firstFrom (s : ByteArray) (j c : Nat) : Prop := j ≤ c ∧ c ≤ s.size ∧ (∀ p, j ≤ p → p < c → byt s p ≠ 47) ∧ (c < s.size → byt s c = 47)
theorem byt_get (s : ByteArray) (i : Nat) (h : i < s.size) : s.data.toList[i]? = some 47 ↔ byt s i = 47 := by
  rw [List.getElem?_eq_getElem (by simpa using h)]
  rw [byt_list s i h]
  constructor
  · intro e
    injection e with e
    rw [e]; rfl
  · intro e
    congr 1
    exact UInt8.toNat_inj.1 e
theorem first_fi (s : ByteArray) (c : Nat) (h : firstFrom s 0 c) : (c < s.size ∧ fi s = (c : Int)) ∨ (c = s.size ∧ fi s = -1) := by
  obtain ⟨_, h2, h3, h4⟩ := h
  rcases fi_cases s with hf | ⟨i, hf, hi⟩
  · right
    refine ⟨?_, hf⟩
    rcases Nat.lt_or_ge c s.size with hc | hc
    · exact absurd ((byt_get s c hc).2 (h4 hc)) (Lib.indexByte_none hf c)
    · omega
  · left
    obtain ⟨e1, e2⟩ := Lib.indexByte_some hf
    have hbi := (byt_get s i hi).1 e1
    have hci : c = i := by
      rcases Nat.lt_trichotomy c i with h | h | h
      · exact absurd ((byt_get s c (by omega)).2 (h4 (by omega))) (e2 c h)
      · exact h
      · exact absurd hbi (h3 i (Nat.zero_le _) h)
    subst hci
    exact ⟨hi, hf⟩

theorem first_cut {s up dn : ByteArray} {c : Nat} {tw : Bool} (h : firstFrom s 0 c) (h1 : fup s = up) (h2 : fdn s = dn) (h3 : ftwo s = tw) : Hid (s.extract 0 c = up) ∧ ((tw = true ∧ c < s.size ∧ Hid (s.extract (c + 1) s.size = dn)) ∨ (tw = false ∧ c = s.size)) := by
  rcases first_fi s c h with ⟨hc, hf⟩ | ⟨hc, hf⟩
  · have e1 : fup s = s.extract 0 c := by unfold fup; rw [if_pos (by omega), hf]; rfl
    have e2 : fdn s = s.extract (c + 1) s.size := by unfold fdn; rw [if_pos (by omega), hf]; rfl
    have e3 : ftwo s = true := decide_eq_true (by omega)
    exact ⟨Lib.hid (e1.symm.trans h1), .inl ⟨h3.symm.trans e3, hc, Lib.hid (e2.symm.trans h2)⟩⟩
  · have e1 : fup s = s := by unfold fup; rw [if_neg (by omega)]
    have e3 : ftwo s = false := decide_eq_false (by omega)
    refine ⟨Lib.hid ?_, .inr ⟨h3.symm.trans e3, hc⟩⟩
    rw [← h1, e1, hc]
    simp

set_option maxHeartbeats 8000000 in
set_option maxRecDepth 100000 in
theorem qreads_a3 (s up dn : ByteArray) (tw : Bool) (w : World) (hs : s.size ≤ 9223372036854775807) (hup : up.size ≤ 9223372036854775807) (hdn : dn.size ≤ 9223372036854775807) (HUP : Hid (fup s = up)) (HDN : Hid (fdn s = dn)) (HTW : Hid (ftwo s = tw)) (HPC : Hid (icode up = 3)) (HPN : Hid (inum up = 0))  :
    Calls Tryz.prog 51 #[.string s] w fun e w' => (∃ r1 r2 : Value, e = .returned (.tuple #[.agg #[.bool (decide (((0 : Rat)).num < 0)), r1, r2], .int .i64 3]) ∧ Rn w' r1 (Int.natAbs (((0 : Rat)).num)) ∧ Rn w' r2 (((0 : Rat)).den - 1)) ∧ Below w.heap.size w w' := by
  obtain ⟨W0, HW⟩ : ∃ W0, Hid (w.alloc (.cells #[.bool false, .slice none 0 0, .slice none 0 0] 62) = W0) := ⟨_, Lib.hid rfl⟩
  have HF0 : Hid (HP w W0 [Sum.inl (w.heap.size, 62, #[.bool false, .slice none 0 0, .slice none 0 0])]) := Lib.hid (by rw [← HW.out]; exact (hp0 w).al rfl (by decide))
  go_enter Tryz.func51, Tryz.ntmps51
  go_wp2_with fail
  rw [HW.out]
  go_loopg [4, 5] s.size (fun k cut at_ wr => ∃ c : Nat, cut = .int .i64 (c : Int) ∧ at_ = .int .i64 ((k : Int) - 1) ∧ k ≤ s.size ∧ Hid (firstFrom s k c) ∧ Hid (wr = W0))
  case atStart => exact ⟨s.size, rfl, rfl, Nat.le_refl _, Lib.hid ⟨Nat.le_refl _, by omega, fun p h1 h2 => by omega, fun h => by omega⟩, Lib.hid rfl⟩
  case round =>
    rename_i K1 hK1 J_ K_ h1_ h0_
    obtain ⟨c, rfl, rfl, hk, HC, HWW⟩ := hrel
    have ew : W0 = wr := HWW.out.symm
    subst ew
    by_cases h0 : gk = 0
    · subst h0
      have hcs := HC.out.2.1
      obtain ⟨HSL, HX⟩ := first_cut HC.out HUP.out HDN.out HTW.out
      have HF := HF0
      have hm1 : ((0 : Nat) : Int) - 1 = -1 := rfl
      rw [hm1]
      clear HC HWW HW HF0 hk hm1
      refine wp_seq ?_
      refine kS fun K hK => ?_
      refine sq 2 [(true, 0), (true, 1)] fun T hT => ?_
      iterate 2 refine tk ?_
      refine nlS hT HF fun vw1 HG => ?_
      clear hT T HF
      go_wp2
      refine hK.out _ _ ?_; clear hK K
      show Code.wp _ _ _ _ _
      have HF := HG; clear HG
      refine wp_cond_false (by rfl) ?_
      refine wp_exit ?_
      try simp only [Exit.then, Exit.inBlock]
      refine hK1 _ _ ?_
      clear h0_ h1_ K_ J_ hK1
      show Code.wp _ _ _ _ _
      have hsl1 : s.extract 0 c = up := HSL.out
      have hcl1 : (c : Int) ≤ (s.size : Int) := by omega
      refine kS fun K hK => ?_
      have HG0 : Hid (Gr vw1 vw1) := Lib.hid (Gr.refl _)
      refine sq 7 [(true, 0), (true, 1), (true, 2), (false, 3), (true, 4), (true, 5), (true, 6)] fun T hT => ?_
      iterate 3 refine tk ?_
      refine wpPlan_callE rfl (by rfl) Tryz.call124 (by rfl) (fun w' hw => (zrziparse up (0) 3 _ HPN.out HPC.out (by omega)).mono ?_)
      rintro e vv2 ⟨⟨rv1, rfl, bx2⟩, hg0⟩
      obtain ⟨ao1, nn1, cc1, rfl⟩ := Rn.sl bx2
      refine ⟨_, rfl, hg0, ?_⟩
      replace hg0 := Gr.trans hw hg0; clear hw
      replace HG0 := Lib.hid (HG0.out.trans hg0)
      have HGS := Lib.hid hg0; clear hg0
      clear HGS
      have RN2 := Lib.hid bx2; clear bx2
      simp only [Act.put, lA, lB, lC]
      iterate 3 refine tk ?_
      refine wpPlan_nil (hT.out _ _ ?_)
      intro vw2 hg
      simp only [puts, Act.put, lA, lB, lC, lD, lE, ↓reduceIte, Nat.reduceEqDiff]
      have HG := Lib.hid ((HF.out.gr (HG0.out.trans hg)).ar (RN2.out.gr hg))
      simp only [List.zip_cons_cons, List.zip_nil_right, List.map_cons, List.map_nil, lF, lG] at HG
      clear hT T HF hg HG0 RN2
      go_wp2
      refine hK.out _ _ ?_; clear hK K
      show Code.wp _ _ _ _ _
      refine fH ((HG.out).al (b := vw2.heap.size) (by first | rfl | simp) (by decide)) fun Wx7 HF => ?_
      clear HG
      generalize vw2.heap.size = gx3 at *
      clear hsl1 hcl1
      refine wp_seq ?_
      refine kS fun K hK => ?_
      refine sq 2 [(true, 0), (true, 1)] fun T hT => ?_
      iterate 2 refine tk ?_
      refine nlS hT HF fun vw3 HG => ?_
      clear hT T HF
      go_wp2
      refine hK.out _ _ ?_; clear hK K
      show Code.wp _ _ _ _ _
      have HF := HG; clear HG
      refine wp_cond_true (by rfl) ?_
      refine kS fun K hK => ?_
      refine sq 2 [(true, 0), (true, 1)] fun T hT => ?_
      iterate 2 refine tk ?_
      refine nlS hT HF fun vw4 HG => ?_
      clear hT T HF
      have lx0 := HG.out.c 0 rfl; have fx0 := HG.out.f 0 rfl
      have r0 := Gr.refl vw4
      go_wp2
      refine hK.out _ _ ?_; clear hK K
      show Code.wp _ _ _ _ _
      clear r0 lx0 fx0
      refine fH (((HG.out).put2 0 0 rfl).put 0 2 _ rfl) fun Wx9 HF => ?_
      clear HG
      refine wp_ret ?_
      try simp only [Exit.then, Exit.inBlock]
      have lx0 := HF.out.c 0 rfl
      have r0 := Gr.refl Wx9
      exact bodyPost_ret (v := .tuple #[(.agg #[.bool false, .slice none 0 0, .slice none 0 0]), .int .i64 3]) (by simp [results, Tryz.results51, go_sem, lx0 _ r0]) rfl ⟨⟨.slice none 0 0, .slice none 0 0, rfl, (by rw [show Int.natAbs (((0 : Rat)).num) = 0 from rfl]; exact Rn.zero _), (by rw [show ((0 : Rat)).den - 1 = 0 from rfl]; exact Rn.zero _)⟩, HF.out.1⟩
    · obtain ⟨k, rfl⟩ : ∃ k, gk = k + 1 := ⟨gk - 1, by omega⟩
      have hj2 : ((k + 1 : Nat) : Int) - 1 = (k : Int) := by omega
      rw [hj2]
      have hlt : k < s.size := by omega
      have hlt2 : (k : Int) < (s.size : Int) := by omega
      have hcs := HC.out.2.1
      obtain ⟨y, hy⟩ : ∃ y, (s[k]'hlt).toNat = y := ⟨_, rfl⟩
      have hyb : byt s k = y := by rw [← hy, byt_at hlt]
      have HYB := Lib.hid hyb
      clear hyb
      by_cases hb : y = 47
      · subst hb
        go_wp2_with fail
        go_roundg k
        case measure => omega
        case rel => exact ⟨k, rfl, by go_num, by omega, Lib.hid ⟨Nat.le_refl _, by omega, fun p h1 h2 => by omega, fun _ => HYB.out⟩, Lib.hid rfl⟩
      · have hb2 : ¬ (y : Int) = 47 := by omega
        go_wp2_with fail
        go_roundg k
        case measure => omega
        case rel => exact ⟨c, rfl, by go_num, by omega, Lib.hid ⟨by have := HC.out.1; omega, HC.out.2.1, fun p h1 h2 => by
          by_cases e : p = k
          · subst e; rw [HYB.out]; exact hb
          · exact HC.out.2.2.1 p (by omega) h2, HC.out.2.2.2⟩, Lib.hid rfl⟩

set_option maxHeartbeats 8000000 in
set_option maxRecDepth 100000 in
theorem qreads_a4 (s up dn : ByteArray) (tw : Bool) (w : World) (hs : s.size ≤ 9223372036854775807) (hup : up.size ≤ 9223372036854775807) (hdn : dn.size ≤ 9223372036854775807) (HUP : Hid (fup s = up)) (HDN : Hid (fdn s = dn)) (HTW : Hid (ftwo s = tw)) (HPC : Hid (icode up = 4)) (HPN : Hid (inum up = 0))  :
    Calls Tryz.prog 51 #[.string s] w fun e w' => (∃ r1 r2 : Value, e = .returned (.tuple #[.agg #[.bool (decide (((0 : Rat)).num < 0)), r1, r2], .int .i64 4]) ∧ Rn w' r1 (Int.natAbs (((0 : Rat)).num)) ∧ Rn w' r2 (((0 : Rat)).den - 1)) ∧ Below w.heap.size w w' := by
  obtain ⟨W0, HW⟩ : ∃ W0, Hid (w.alloc (.cells #[.bool false, .slice none 0 0, .slice none 0 0] 62) = W0) := ⟨_, Lib.hid rfl⟩
  have HF0 : Hid (HP w W0 [Sum.inl (w.heap.size, 62, #[.bool false, .slice none 0 0, .slice none 0 0])]) := Lib.hid (by rw [← HW.out]; exact (hp0 w).al rfl (by decide))
  go_enter Tryz.func51, Tryz.ntmps51
  go_wp2_with fail
  rw [HW.out]
  go_loopg [4, 5] s.size (fun k cut at_ wr => ∃ c : Nat, cut = .int .i64 (c : Int) ∧ at_ = .int .i64 ((k : Int) - 1) ∧ k ≤ s.size ∧ Hid (firstFrom s k c) ∧ Hid (wr = W0))
  case atStart => exact ⟨s.size, rfl, rfl, Nat.le_refl _, Lib.hid ⟨Nat.le_refl _, by omega, fun p h1 h2 => by omega, fun h => by omega⟩, Lib.hid rfl⟩
  case round =>
    rename_i K1 hK1 J_ K_ h1_ h0_
    obtain ⟨c, rfl, rfl, hk, HC, HWW⟩ := hrel
    have ew : W0 = wr := HWW.out.symm
    subst ew
    by_cases h0 : gk = 0
    · subst h0
      have hcs := HC.out.2.1
      obtain ⟨HSL, HX⟩ := first_cut HC.out HUP.out HDN.out HTW.out
      have HF := HF0
      have hm1 : ((0 : Nat) : Int) - 1 = -1 := rfl
      rw [hm1]
      clear HC HWW HW HF0 hk hm1
      refine wp_seq ?_
      refine kS fun K hK => ?_
      refine sq 2 [(true, 0), (true, 1)] fun T hT => ?_
      iterate 2 refine tk ?_
      refine nlS hT HF fun vw1 HG => ?_
      clear hT T HF
      go_wp2
      refine hK.out _ _ ?_; clear hK K
      show Code.wp _ _ _ _ _
      have HF := HG; clear HG
      refine wp_cond_false (by rfl) ?_
      refine wp_exit ?_
      try simp only [Exit.then, Exit.inBlock]
      refine hK1 _ _ ?_
      clear h0_ h1_ K_ J_ hK1
      show Code.wp _ _ _ _ _
      have hsl1 : s.extract 0 c = up := HSL.out
      have hcl1 : (c : Int) ≤ (s.size : Int) := by omega
      refine kS fun K hK => ?_
      have HG0 : Hid (Gr vw1 vw1) := Lib.hid (Gr.refl _)
      refine sq 7 [(true, 0), (true, 1), (true, 2), (false, 3), (true, 4), (true, 5), (true, 6)] fun T hT => ?_
      iterate 3 refine tk ?_
      refine wpPlan_callE rfl (by rfl) Tryz.call124 (by rfl) (fun w' hw => (zrziparse up (0) 4 _ HPN.out HPC.out (by omega)).mono ?_)
      rintro e vv2 ⟨⟨rv1, rfl, bx2⟩, hg0⟩
      obtain ⟨ao1, nn1, cc1, rfl⟩ := Rn.sl bx2
      refine ⟨_, rfl, hg0, ?_⟩
      replace hg0 := Gr.trans hw hg0; clear hw
      replace HG0 := Lib.hid (HG0.out.trans hg0)
      have HGS := Lib.hid hg0; clear hg0
      clear HGS
      have RN2 := Lib.hid bx2; clear bx2
      simp only [Act.put, lA, lB, lC]
      iterate 3 refine tk ?_
      refine wpPlan_nil (hT.out _ _ ?_)
      intro vw2 hg
      simp only [puts, Act.put, lA, lB, lC, lD, lE, ↓reduceIte, Nat.reduceEqDiff]
      have HG := Lib.hid ((HF.out.gr (HG0.out.trans hg)).ar (RN2.out.gr hg))
      simp only [List.zip_cons_cons, List.zip_nil_right, List.map_cons, List.map_nil, lF, lG] at HG
      clear hT T HF hg HG0 RN2
      go_wp2
      refine hK.out _ _ ?_; clear hK K
      show Code.wp _ _ _ _ _
      refine fH ((HG.out).al (b := vw2.heap.size) (by first | rfl | simp) (by decide)) fun Wx7 HF => ?_
      clear HG
      generalize vw2.heap.size = gx3 at *
      clear hsl1 hcl1
      refine wp_seq ?_
      refine kS fun K hK => ?_
      refine sq 2 [(true, 0), (true, 1)] fun T hT => ?_
      iterate 2 refine tk ?_
      refine nlS hT HF fun vw3 HG => ?_
      clear hT T HF
      go_wp2
      refine hK.out _ _ ?_; clear hK K
      show Code.wp _ _ _ _ _
      have HF := HG; clear HG
      refine wp_cond_true (by rfl) ?_
      refine kS fun K hK => ?_
      refine sq 2 [(true, 0), (true, 1)] fun T hT => ?_
      iterate 2 refine tk ?_
      refine nlS hT HF fun vw4 HG => ?_
      clear hT T HF
      have lx0 := HG.out.c 0 rfl; have fx0 := HG.out.f 0 rfl
      have r0 := Gr.refl vw4
      go_wp2
      refine hK.out _ _ ?_; clear hK K
      show Code.wp _ _ _ _ _
      clear r0 lx0 fx0
      refine fH (((HG.out).put2 0 0 rfl).put 0 2 _ rfl) fun Wx9 HF => ?_
      clear HG
      refine wp_ret ?_
      try simp only [Exit.then, Exit.inBlock]
      have lx0 := HF.out.c 0 rfl
      have r0 := Gr.refl Wx9
      exact bodyPost_ret (v := .tuple #[(.agg #[.bool false, .slice none 0 0, .slice none 0 0]), .int .i64 4]) (by simp [results, Tryz.results51, go_sem, lx0 _ r0]) rfl ⟨⟨.slice none 0 0, .slice none 0 0, rfl, (by rw [show Int.natAbs (((0 : Rat)).num) = 0 from rfl]; exact Rn.zero _), (by rw [show ((0 : Rat)).den - 1 = 0 from rfl]; exact Rn.zero _)⟩, HF.out.1⟩
    · obtain ⟨k, rfl⟩ : ∃ k, gk = k + 1 := ⟨gk - 1, by omega⟩
      have hj2 : ((k + 1 : Nat) : Int) - 1 = (k : Int) := by omega
      rw [hj2]
      have hlt : k < s.size := by omega
      have hlt2 : (k : Int) < (s.size : Int) := by omega
      have hcs := HC.out.2.1
      obtain ⟨y, hy⟩ : ∃ y, (s[k]'hlt).toNat = y := ⟨_, rfl⟩
      have hyb : byt s k = y := by rw [← hy, byt_at hlt]
      have HYB := Lib.hid hyb
      clear hyb
      by_cases hb : y = 47
      · subst hb
        go_wp2_with fail
        go_roundg k
        case measure => omega
        case rel => exact ⟨k, rfl, by go_num, by omega, Lib.hid ⟨Nat.le_refl _, by omega, fun p h1 h2 => by omega, fun _ => HYB.out⟩, Lib.hid rfl⟩
      · have hb2 : ¬ (y : Int) = 47 := by omega
        go_wp2_with fail
        go_roundg k
        case measure => omega
        case rel => exact ⟨c, rfl, by go_num, by omega, Lib.hid ⟨by have := HC.out.1; omega, HC.out.2.1, fun p h1 h2 => by
          by_cases e : p = k
          · subst e; rw [HYB.out]; exact hb
          · exact HC.out.2.2.1 p (by omega) h2, HC.out.2.2.2⟩, Lib.hid rfl⟩

set_option maxHeartbeats 8000000 in
set_option maxRecDepth 100000 in
theorem qreads_b (s up dn : ByteArray) (a : Int) (w : World) (hs : s.size ≤ 9223372036854775807) (hup : up.size ≤ 9223372036854775807) (hdn : dn.size ≤ 9223372036854775807) (HUP : Hid (fup s = up)) (HDN : Hid (fdn s = dn)) (HTW : Hid (ftwo s = false)) (HPC : Hid (icode up = 0)) (HPN : Hid (inum up = a)) (hwa : tw (Int.natAbs a) ≤ 1100)  :
    Calls Tryz.prog 51 #[.string s] w fun e w' => (∃ r1 r2 : Value, e = .returned (.tuple #[.agg #[.bool (decide ((((a : Int) : Rat)).num < 0)), r1, r2], .int .i64 0]) ∧ Rn w' r1 (Int.natAbs ((((a : Int) : Rat)).num)) ∧ Rn w' r2 ((((a : Int) : Rat)).den - 1)) ∧ Below w.heap.size w w' := by
  obtain ⟨W0, HW⟩ : ∃ W0, Hid (w.alloc (.cells #[.bool false, .slice none 0 0, .slice none 0 0] 62) = W0) := ⟨_, Lib.hid rfl⟩
  have HF0 : Hid (HP w W0 [Sum.inl (w.heap.size, 62, #[.bool false, .slice none 0 0, .slice none 0 0])]) := Lib.hid (by rw [← HW.out]; exact (hp0 w).al rfl (by decide))
  go_enter Tryz.func51, Tryz.ntmps51
  go_wp2_with fail
  rw [HW.out]
  go_loopg [4, 5] s.size (fun k cut at_ wr => ∃ c : Nat, cut = .int .i64 (c : Int) ∧ at_ = .int .i64 ((k : Int) - 1) ∧ k ≤ s.size ∧ Hid (firstFrom s k c) ∧ Hid (wr = W0))
  case atStart => exact ⟨s.size, rfl, rfl, Nat.le_refl _, Lib.hid ⟨Nat.le_refl _, by omega, fun p h1 h2 => by omega, fun h => by omega⟩, Lib.hid rfl⟩
  case round =>
    rename_i K1 hK1 J_ K_ h1_ h0_
    obtain ⟨c, rfl, rfl, hk, HC, HWW⟩ := hrel
    have ew : W0 = wr := HWW.out.symm
    subst ew
    by_cases h0 : gk = 0
    · subst h0
      have hcs := HC.out.2.1
      obtain ⟨HSL, HX⟩ := first_cut HC.out HUP.out HDN.out HTW.out
      have HF := HF0
      have hm1 : ((0 : Nat) : Int) - 1 = -1 := rfl
      rw [hm1]
      clear HC HWW HW HF0 hk hm1
      rcases HX with ⟨hc, _⟩ | ⟨_, hc⟩
      case inl => exact absurd hc (by decide)
      have HCS := Lib.hid hc
      clear hc
      refine wp_seq ?_
      refine kS fun K hK => ?_
      refine sq 2 [(true, 0), (true, 1)] fun T hT => ?_
      iterate 2 refine tk ?_
      refine nlS hT HF fun vw1 HG => ?_
      clear hT T HF
      go_wp2
      refine hK.out _ _ ?_; clear hK K
      show Code.wp _ _ _ _ _
      have HF := HG; clear HG
      refine wp_cond_false (by rfl) ?_
      refine wp_exit ?_
      try simp only [Exit.then, Exit.inBlock]
      refine hK1 _ _ ?_
      clear h0_ h1_ K_ J_ hK1
      show Code.wp _ _ _ _ _
      have hsl1 : s.extract 0 c = up := HSL.out
      have hcl1 : (c : Int) ≤ (s.size : Int) := by omega
      refine kS fun K hK => ?_
      have HG0 : Hid (Gr vw1 vw1) := Lib.hid (Gr.refl _)
      refine sq 7 [(true, 0), (true, 1), (true, 2), (false, 3), (true, 4), (true, 5), (true, 6)] fun T hT => ?_
      iterate 3 refine tk ?_
      refine wpPlan_callE rfl (by rfl) Tryz.call124 (by rfl) (fun w' hw => (zrziparse up (a) 0 _ HPN.out HPC.out (by omega)).mono ?_)
      rintro e vv2 ⟨⟨rv1, rfl, bx2⟩, hg0⟩
      obtain ⟨ao1, nn1, cc1, rfl⟩ := Rn.sl bx2
      refine ⟨_, rfl, hg0, ?_⟩
      replace hg0 := Gr.trans hw hg0; clear hw
      replace HG0 := Lib.hid (HG0.out.trans hg0)
      have HGS := Lib.hid hg0; clear hg0
      clear HGS
      have RN2 := Lib.hid bx2; clear bx2
      simp only [Act.put, lA, lB, lC]
      iterate 3 refine tk ?_
      refine wpPlan_nil (hT.out _ _ ?_)
      intro vw2 hg
      simp only [puts, Act.put, lA, lB, lC, lD, lE, ↓reduceIte, Nat.reduceEqDiff]
      have HG := Lib.hid ((HF.out.gr (HG0.out.trans hg)).ar (RN2.out.gr hg))
      simp only [List.zip_cons_cons, List.zip_nil_right, List.map_cons, List.map_nil, lF, lG] at HG
      clear hT T HF hg HG0 RN2
      go_wp2
      refine hK.out _ _ ?_; clear hK K
      show Code.wp _ _ _ _ _
      refine fH ((HG.out).al (b := vw2.heap.size) (by first | rfl | simp) (by decide)) fun Wx7 HF => ?_
      clear HG
      generalize vw2.heap.size = gx3 at *
      clear hsl1 hcl1
      refine wp_seq ?_
      refine kS fun K hK => ?_
      refine sq 2 [(true, 0), (true, 1)] fun T hT => ?_
      iterate 2 refine tk ?_
      refine nlS hT HF fun vw3 HG => ?_
      clear hT T HF
      go_wp2
      refine hK.out _ _ ?_; clear hK K
      show Code.wp _ _ _ _ _
      have HF := HG; clear HG
      refine wp_cond_false (by rfl) ?_
      refine wp_skip ?_
      show Code.wp _ _ _ _ _
      refine wp_seq ?_
      have heq : ((c : Int) == (s.size : Int)) = true := by have h9 : (c : Int) = (s.size : Int) := (by have e9 := HCS.out; omega); simpa using h9
      refine kS fun K hK => ?_
      refine sq 4 [(true, 0), (true, 1), (true, 2), (true, 3)] fun T hT => ?_
      iterate 4 refine tk ?_
      refine nlS hT HF fun vw4 HG => ?_
      clear hT T HF
      go_wp2
      refine hK.out _ _ ?_; clear hK K
      show Code.wp _ _ _ _ _
      have HF := HG; clear HG
      clear heq
      refine wp_cond_true (by rfl) ?_
      have lx3 := HF.out.c 2 rfl
      refine kS fun K hK => ?_
      refine sq 2 [(true, 0), (true, 1)] fun T hT => ?_
      iterate 2 refine tk ?_
      refine nlS hT HF fun vw5 HG => ?_
      clear hT T HF lx3
      have lx0 := HG.out.c 0 rfl; have fx0 := HG.out.f 0 rfl
      have r0 := Gr.refl vw5
      go_wp2
      refine hK.out _ _ ?_; clear hK K
      show Code.wp _ _ _ _ _
      clear r0 lx0 fx0
      refine fH (((HG.out).put2 0 0 rfl).put 0 2 _ rfl) fun Wx11 HF => ?_
      clear HG
      refine wp_ret ?_
      try simp only [Exit.then, Exit.inBlock]
      have lx0 := HF.out.c 0 rfl
      have r0 := Gr.refl Wx11
      exact bodyPost_ret (v := .tuple #[(.agg #[.bool (decide ((((a : Int) : Rat)).num < 0)), (.slice ao1 nn1 cc1), .slice none 0 0]), .int .i64 0]) (by simp [results, Tryz.results51, go_sem, lx0 _ r0] <;> rfl) rfl ⟨⟨(.slice ao1 nn1 cc1), .slice none 0 0, rfl, (by rw [show Int.natAbs ((((a : Int) : Rat)).num) = Int.natAbs (a) from rfl]; exact (HF.out.rn 1 rfl)), (by rw [show (((a : Int) : Rat)).den - 1 = 0 from rfl]; exact Rn.zero _)⟩, HF.out.1⟩
    · obtain ⟨k, rfl⟩ : ∃ k, gk = k + 1 := ⟨gk - 1, by omega⟩
      have hj2 : ((k + 1 : Nat) : Int) - 1 = (k : Int) := by omega
      rw [hj2]
      have hlt : k < s.size := by omega
      have hlt2 : (k : Int) < (s.size : Int) := by omega
      have hcs := HC.out.2.1
      obtain ⟨y, hy⟩ : ∃ y, (s[k]'hlt).toNat = y := ⟨_, rfl⟩
      have hyb : byt s k = y := by rw [← hy, byt_at hlt]
      have HYB := Lib.hid hyb
      clear hyb
      by_cases hb : y = 47
      · subst hb
        go_wp2_with fail
        go_roundg k
        case measure => omega
        case rel => exact ⟨k, rfl, by go_num, by omega, Lib.hid ⟨Nat.le_refl _, by omega, fun p h1 h2 => by omega, fun _ => HYB.out⟩, Lib.hid rfl⟩
      · have hb2 : ¬ (y : Int) = 47 := by omega
        go_wp2_with fail
        go_roundg k
        case measure => omega
        case rel => exact ⟨c, rfl, by go_num, by omega, Lib.hid ⟨by have := HC.out.1; omega, HC.out.2.1, fun p h1 h2 => by
          by_cases e : p = k
          · subst e; rw [HYB.out]; exact hb
          · exact HC.out.2.2.1 p (by omega) h2, HC.out.2.2.2⟩, Lib.hid rfl⟩

set_option maxHeartbeats 8000000 in
set_option maxRecDepth 100000 in
theorem qreads_c3 (s up dn : ByteArray) (a : Int) (w : World) (hs : s.size ≤ 9223372036854775807) (hup : up.size ≤ 9223372036854775807) (hdn : dn.size ≤ 9223372036854775807) (HUP : Hid (fup s = up)) (HDN : Hid (fdn s = dn)) (HTW : Hid (ftwo s = true)) (HPC : Hid (icode up = 0)) (HPN : Hid (inum up = a)) (hwa : tw (Int.natAbs a) ≤ 1100) (HQC : Hid (pcode dn = 3)) (HQN : Hid (pnum dn = 0))  :
    Calls Tryz.prog 51 #[.string s] w fun e w' => (∃ r1 r2 : Value, e = .returned (.tuple #[.agg #[.bool (decide (((0 : Rat)).num < 0)), r1, r2], .int .i64 3]) ∧ Rn w' r1 (Int.natAbs (((0 : Rat)).num)) ∧ Rn w' r2 (((0 : Rat)).den - 1)) ∧ Below w.heap.size w w' := by
  obtain ⟨W0, HW⟩ : ∃ W0, Hid (w.alloc (.cells #[.bool false, .slice none 0 0, .slice none 0 0] 62) = W0) := ⟨_, Lib.hid rfl⟩
  have HF0 : Hid (HP w W0 [Sum.inl (w.heap.size, 62, #[.bool false, .slice none 0 0, .slice none 0 0])]) := Lib.hid (by rw [← HW.out]; exact (hp0 w).al rfl (by decide))
  go_enter Tryz.func51, Tryz.ntmps51
  go_wp2_with fail
  rw [HW.out]
  go_loopg [4, 5] s.size (fun k cut at_ wr => ∃ c : Nat, cut = .int .i64 (c : Int) ∧ at_ = .int .i64 ((k : Int) - 1) ∧ k ≤ s.size ∧ Hid (firstFrom s k c) ∧ Hid (wr = W0))
  case atStart => exact ⟨s.size, rfl, rfl, Nat.le_refl _, Lib.hid ⟨Nat.le_refl _, by omega, fun p h1 h2 => by omega, fun h => by omega⟩, Lib.hid rfl⟩
  case round =>
    rename_i K1 hK1 J_ K_ h1_ h0_
    obtain ⟨c, rfl, rfl, hk, HC, HWW⟩ := hrel
    have ew : W0 = wr := HWW.out.symm
    subst ew
    by_cases h0 : gk = 0
    · subst h0
      have hcs := HC.out.2.1
      obtain ⟨HSL, HX⟩ := first_cut HC.out HUP.out HDN.out HTW.out
      have HF := HF0
      have hm1 : ((0 : Nat) : Int) - 1 = -1 := rfl
      rw [hm1]
      clear HC HWW HW HF0 hk hm1
      rcases HX with ⟨_, hc, HSL2⟩ | ⟨hc, _⟩
      case inr => exact absurd hc (by decide)
      refine wp_seq ?_
      refine kS fun K hK => ?_
      refine sq 2 [(true, 0), (true, 1)] fun T hT => ?_
      iterate 2 refine tk ?_
      refine nlS hT HF fun vw1 HG => ?_
      clear hT T HF
      go_wp2
      refine hK.out _ _ ?_; clear hK K
      show Code.wp _ _ _ _ _
      have HF := HG; clear HG
      refine wp_cond_false (by rfl) ?_
      refine wp_exit ?_
      try simp only [Exit.then, Exit.inBlock]
      refine hK1 _ _ ?_
      clear h0_ h1_ K_ J_ hK1
      show Code.wp _ _ _ _ _
      have hsl1 : s.extract 0 c = up := HSL.out
      have hcl1 : (c : Int) ≤ (s.size : Int) := by omega
      refine kS fun K hK => ?_
      have HG0 : Hid (Gr vw1 vw1) := Lib.hid (Gr.refl _)
      refine sq 7 [(true, 0), (true, 1), (true, 2), (false, 3), (true, 4), (true, 5), (true, 6)] fun T hT => ?_
      iterate 3 refine tk ?_
      refine wpPlan_callE rfl (by rfl) Tryz.call124 (by rfl) (fun w' hw => (zrziparse up (a) 0 _ HPN.out HPC.out (by omega)).mono ?_)
      rintro e vv2 ⟨⟨rv1, rfl, bx2⟩, hg0⟩
      obtain ⟨ao1, nn1, cc1, rfl⟩ := Rn.sl bx2
      refine ⟨_, rfl, hg0, ?_⟩
      replace hg0 := Gr.trans hw hg0; clear hw
      replace HG0 := Lib.hid (HG0.out.trans hg0)
      have HGS := Lib.hid hg0; clear hg0
      clear HGS
      have RN2 := Lib.hid bx2; clear bx2
      simp only [Act.put, lA, lB, lC]
      iterate 3 refine tk ?_
      refine wpPlan_nil (hT.out _ _ ?_)
      intro vw2 hg
      simp only [puts, Act.put, lA, lB, lC, lD, lE, ↓reduceIte, Nat.reduceEqDiff]
      have HG := Lib.hid ((HF.out.gr (HG0.out.trans hg)).ar (RN2.out.gr hg))
      simp only [List.zip_cons_cons, List.zip_nil_right, List.map_cons, List.map_nil, lF, lG] at HG
      clear hT T HF hg HG0 RN2
      go_wp2
      refine hK.out _ _ ?_; clear hK K
      show Code.wp _ _ _ _ _
      refine fH ((HG.out).al (b := vw2.heap.size) (by first | rfl | simp) (by decide)) fun Wx7 HF => ?_
      clear HG
      generalize vw2.heap.size = gx3 at *
      clear hsl1 hcl1
      refine wp_seq ?_
      refine kS fun K hK => ?_
      refine sq 2 [(true, 0), (true, 1)] fun T hT => ?_
      iterate 2 refine tk ?_
      refine nlS hT HF fun vw3 HG => ?_
      clear hT T HF
      go_wp2
      refine hK.out _ _ ?_; clear hK K
      show Code.wp _ _ _ _ _
      have HF := HG; clear HG
      refine wp_cond_false (by rfl) ?_
      refine wp_skip ?_
      show Code.wp _ _ _ _ _
      refine wp_seq ?_
      have heq : ((c : Int) == (s.size : Int)) = false := by have h9 : ¬ ((c : Int) = (s.size : Int)) := (by omega); simpa using h9
      refine kS fun K hK => ?_
      refine sq 4 [(true, 0), (true, 1), (true, 2), (true, 3)] fun T hT => ?_
      iterate 4 refine tk ?_
      refine nlS hT HF fun vw4 HG => ?_
      clear hT T HF
      go_wp2
      refine hK.out _ _ ?_; clear hK K
      show Code.wp _ _ _ _ _
      have HF := HG; clear HG
      clear heq
      refine wp_cond_false (by rfl) ?_
      refine wp_skip ?_
      show Code.wp _ _ _ _ _
      have hwc : IntKind.i64.wrap ((c : Int) + 1) = ((c + 1 : Nat) : Int) := by rw [IntKind.wrap_i64]; omega
      have hsl2 : s.extract (c + 1) s.size = dn := HSL2.out
      have hcl2 : (c : Int) + 1 ≤ (s.size : Int) := by omega
      have hcl3 : (0 : Int) ≤ (c : Int) + 1 := by omega
      refine kS fun K hK => ?_
      have HG0 : Hid (Gr vw4 vw4) := Lib.hid (Gr.refl _)
      refine sq 10 [(true, 0), (true, 1), (true, 2), (true, 3), (false, 4), (true, 5), (true, 6), (true, 7), (true, 8), (true, 9)] fun T hT => ?_
      iterate 4 refine tk ?_
      refine wpPlan_callE rfl (by rfl) Tryz.call141 (by rfl) (fun w' hw => (zrparse dn 0 3 _ HQN.out HQC.out (by omega)).mono ?_)
      rintro e vv4 ⟨⟨rv2, rfl, bx4⟩, hg0⟩
      obtain ⟨ao2, nn2, cc2, rfl⟩ := Rn.sl bx4
      refine ⟨_, rfl, hg0, ?_⟩
      replace hg0 := Gr.trans hw hg0; clear hw
      replace HG0 := Lib.hid (HG0.out.trans hg0)
      have HGS := Lib.hid hg0; clear hg0
      clear HGS
      have RN4 := Lib.hid bx4; clear bx4
      simp only [Act.put, lA, lB, lC]
      iterate 5 refine tk ?_
      refine wpPlan_nil (hT.out _ _ ?_)
      intro vw5 hg
      simp only [puts, Act.put, lA, lB, lC, lD, lE, ↓reduceIte, Nat.reduceEqDiff]
      have HG := Lib.hid ((HF.out.gr (HG0.out.trans hg)).ar (RN4.out.gr hg))
      simp only [List.zip_cons_cons, List.zip_nil_right, List.map_cons, List.map_nil, lF, lG] at HG
      clear hT T HF hg HG0 RN4
      go_wp2
      refine hK.out _ _ ?_; clear hK K
      show Code.wp _ _ _ _ _
      have HF := HG; clear HG
      clear hwc hsl2 hcl2 hcl3
      refine wp_seq ?_
      refine kS fun K hK => ?_
      refine sq 2 [(true, 0), (true, 1)] fun T hT => ?_
      iterate 2 refine tk ?_
      refine nlS hT HF fun vw6 HG => ?_
      clear hT T HF
      go_wp2
      refine hK.out _ _ ?_; clear hK K
      show Code.wp _ _ _ _ _
      have HF := HG; clear HG
      refine wp_cond_true (by rfl) ?_
      refine kS fun K hK => ?_
      refine sq 2 [(true, 0), (true, 1)] fun T hT => ?_
      iterate 2 refine tk ?_
      refine nlS hT HF fun vw7 HG => ?_
      clear hT T HF
      have lx0 := HG.out.c 0 rfl; have fx0 := HG.out.f 0 rfl
      have r0 := Gr.refl vw7
      go_wp2
      refine hK.out _ _ ?_; clear hK K
      show Code.wp _ _ _ _ _
      clear r0 lx0 fx0
      refine fH (((HG.out).put2 0 0 rfl).put 0 2 _ rfl) fun Wx14 HF => ?_
      clear HG
      refine wp_ret ?_
      try simp only [Exit.then, Exit.inBlock]
      have lx0 := HF.out.c 0 rfl
      have r0 := Gr.refl Wx14
      exact bodyPost_ret (v := .tuple #[(.agg #[.bool false, .slice none 0 0, .slice none 0 0]), .int .i64 3]) (by simp [results, Tryz.results51, go_sem, lx0 _ r0]) rfl ⟨⟨.slice none 0 0, .slice none 0 0, rfl, (by rw [show Int.natAbs (((0 : Rat)).num) = 0 from rfl]; exact Rn.zero _), (by rw [show ((0 : Rat)).den - 1 = 0 from rfl]; exact Rn.zero _)⟩, HF.out.1⟩
    · obtain ⟨k, rfl⟩ : ∃ k, gk = k + 1 := ⟨gk - 1, by omega⟩
      have hj2 : ((k + 1 : Nat) : Int) - 1 = (k : Int) := by omega
      rw [hj2]
      have hlt : k < s.size := by omega
      have hlt2 : (k : Int) < (s.size : Int) := by omega
      have hcs := HC.out.2.1
      obtain ⟨y, hy⟩ : ∃ y, (s[k]'hlt).toNat = y := ⟨_, rfl⟩
      have hyb : byt s k = y := by rw [← hy, byt_at hlt]
      have HYB := Lib.hid hyb
      clear hyb
      by_cases hb : y = 47
      · subst hb
        go_wp2_with fail
        go_roundg k
        case measure => omega
        case rel => exact ⟨k, rfl, by go_num, by omega, Lib.hid ⟨Nat.le_refl _, by omega, fun p h1 h2 => by omega, fun _ => HYB.out⟩, Lib.hid rfl⟩
      · have hb2 : ¬ (y : Int) = 47 := by omega
        go_wp2_with fail
        go_roundg k
        case measure => omega
        case rel => exact ⟨c, rfl, by go_num, by omega, Lib.hid ⟨by have := HC.out.1; omega, HC.out.2.1, fun p h1 h2 => by
          by_cases e : p = k
          · subst e; rw [HYB.out]; exact hb
          · exact HC.out.2.2.1 p (by omega) h2, HC.out.2.2.2⟩, Lib.hid rfl⟩

set_option maxHeartbeats 8000000 in
set_option maxRecDepth 100000 in
theorem qreads_c4 (s up dn : ByteArray) (a : Int) (w : World) (hs : s.size ≤ 9223372036854775807) (hup : up.size ≤ 9223372036854775807) (hdn : dn.size ≤ 9223372036854775807) (HUP : Hid (fup s = up)) (HDN : Hid (fdn s = dn)) (HTW : Hid (ftwo s = true)) (HPC : Hid (icode up = 0)) (HPN : Hid (inum up = a)) (hwa : tw (Int.natAbs a) ≤ 1100) (HQC : Hid (pcode dn = 4)) (HQN : Hid (pnum dn = 0))  :
    Calls Tryz.prog 51 #[.string s] w fun e w' => (∃ r1 r2 : Value, e = .returned (.tuple #[.agg #[.bool (decide (((0 : Rat)).num < 0)), r1, r2], .int .i64 4]) ∧ Rn w' r1 (Int.natAbs (((0 : Rat)).num)) ∧ Rn w' r2 (((0 : Rat)).den - 1)) ∧ Below w.heap.size w w' := by
  obtain ⟨W0, HW⟩ : ∃ W0, Hid (w.alloc (.cells #[.bool false, .slice none 0 0, .slice none 0 0] 62) = W0) := ⟨_, Lib.hid rfl⟩
  have HF0 : Hid (HP w W0 [Sum.inl (w.heap.size, 62, #[.bool false, .slice none 0 0, .slice none 0 0])]) := Lib.hid (by rw [← HW.out]; exact (hp0 w).al rfl (by decide))
  go_enter Tryz.func51, Tryz.ntmps51
  go_wp2_with fail
  rw [HW.out]
  go_loopg [4, 5] s.size (fun k cut at_ wr => ∃ c : Nat, cut = .int .i64 (c : Int) ∧ at_ = .int .i64 ((k : Int) - 1) ∧ k ≤ s.size ∧ Hid (firstFrom s k c) ∧ Hid (wr = W0))
  case atStart => exact ⟨s.size, rfl, rfl, Nat.le_refl _, Lib.hid ⟨Nat.le_refl _, by omega, fun p h1 h2 => by omega, fun h => by omega⟩, Lib.hid rfl⟩
  case round =>
    rename_i K1 hK1 J_ K_ h1_ h0_
    obtain ⟨c, rfl, rfl, hk, HC, HWW⟩ := hrel
    have ew : W0 = wr := HWW.out.symm
    subst ew
    by_cases h0 : gk = 0
    · subst h0
      have hcs := HC.out.2.1
      obtain ⟨HSL, HX⟩ := first_cut HC.out HUP.out HDN.out HTW.out
      have HF := HF0
      have hm1 : ((0 : Nat) : Int) - 1 = -1 := rfl
      rw [hm1]
      clear HC HWW HW HF0 hk hm1
      rcases HX with ⟨_, hc, HSL2⟩ | ⟨hc, _⟩
      case inr => exact absurd hc (by decide)
      refine wp_seq ?_
      refine kS fun K hK => ?_
      refine sq 2 [(true, 0), (true, 1)] fun T hT => ?_
      iterate 2 refine tk ?_
      refine nlS hT HF fun vw1 HG => ?_
      clear hT T HF
      go_wp2
      refine hK.out _ _ ?_; clear hK K
      show Code.wp _ _ _ _ _
      have HF := HG; clear HG
      refine wp_cond_false (by rfl) ?_
      refine wp_exit ?_
      try simp only [Exit.then, Exit.inBlock]
      refine hK1 _ _ ?_
      clear h0_ h1_ K_ J_ hK1
      show Code.wp _ _ _ _ _
      have hsl1 : s.extract 0 c = up := HSL.out
      have hcl1 : (c : Int) ≤ (s.size : Int) := by omega
      refine kS fun K hK => ?_
      have HG0 : Hid (Gr vw1 vw1) := Lib.hid (Gr.refl _)
      refine sq 7 [(true, 0), (true, 1), (true, 2), (false, 3), (true, 4), (true, 5), (true, 6)] fun T hT => ?_
      iterate 3 refine tk ?_
      refine wpPlan_callE rfl (by rfl) Tryz.call124 (by rfl) (fun w' hw => (zrziparse up (a) 0 _ HPN.out HPC.out (by omega)).mono ?_)
      rintro e vv2 ⟨⟨rv1, rfl, bx2⟩, hg0⟩
      obtain ⟨ao1, nn1, cc1, rfl⟩ := Rn.sl bx2
      refine ⟨_, rfl, hg0, ?_⟩
      replace hg0 := Gr.trans hw hg0; clear hw
      replace HG0 := Lib.hid (HG0.out.trans hg0)
      have HGS := Lib.hid hg0; clear hg0
      clear HGS
      have RN2 := Lib.hid bx2; clear bx2
      simp only [Act.put, lA, lB, lC]
      iterate 3 refine tk ?_
      refine wpPlan_nil (hT.out _ _ ?_)
      intro vw2 hg
      simp only [puts, Act.put, lA, lB, lC, lD, lE, ↓reduceIte, Nat.reduceEqDiff]
      have HG := Lib.hid ((HF.out.gr (HG0.out.trans hg)).ar (RN2.out.gr hg))
      simp only [List.zip_cons_cons, List.zip_nil_right, List.map_cons, List.map_nil, lF, lG] at HG
      clear hT T HF hg HG0 RN2
      go_wp2
      refine hK.out _ _ ?_; clear hK K
      show Code.wp _ _ _ _ _
      refine fH ((HG.out).al (b := vw2.heap.size) (by first | rfl | simp) (by decide)) fun Wx7 HF => ?_
      clear HG
      generalize vw2.heap.size = gx3 at *
      clear hsl1 hcl1
      refine wp_seq ?_
      refine kS fun K hK => ?_
      refine sq 2 [(true, 0), (true, 1)] fun T hT => ?_
      iterate 2 refine tk ?_
      refine nlS hT HF fun vw3 HG => ?_
      clear hT T HF
      go_wp2
      refine hK.out _ _ ?_; clear hK K
      show Code.wp _ _ _ _ _
      have HF := HG; clear HG
      refine wp_cond_false (by rfl) ?_
      refine wp_skip ?_
      show Code.wp _ _ _ _ _
      refine wp_seq ?_
      have heq : ((c : Int) == (s.size : Int)) = false := by have h9 : ¬ ((c : Int) = (s.size : Int)) := (by omega); simpa using h9
      refine kS fun K hK => ?_
      refine sq 4 [(true, 0), (true, 1), (true, 2), (true, 3)] fun T hT => ?_
      iterate 4 refine tk ?_
      refine nlS hT HF fun vw4 HG => ?_
      clear hT T HF
      go_wp2
      refine hK.out _ _ ?_; clear hK K
      show Code.wp _ _ _ _ _
      have HF := HG; clear HG
      clear heq
      refine wp_cond_false (by rfl) ?_
      refine wp_skip ?_
      show Code.wp _ _ _ _ _
      have hwc : IntKind.i64.wrap ((c : Int) + 1) = ((c + 1 : Nat) : Int) := by rw [IntKind.wrap_i64]; omega
      have hsl2 : s.extract (c + 1) s.size = dn := HSL2.out
      have hcl2 : (c : Int) + 1 ≤ (s.size : Int) := by omega
      have hcl3 : (0 : Int) ≤ (c : Int) + 1 := by omega
      refine kS fun K hK => ?_
      have HG0 : Hid (Gr vw4 vw4) := Lib.hid (Gr.refl _)
      refine sq 10 [(true, 0), (true, 1), (true, 2), (true, 3), (false, 4), (true, 5), (true, 6), (true, 7), (true, 8), (true, 9)] fun T hT => ?_
      iterate 4 refine tk ?_
      refine wpPlan_callE rfl (by rfl) Tryz.call141 (by rfl) (fun w' hw => (zrparse dn 0 4 _ HQN.out HQC.out (by omega)).mono ?_)
      rintro e vv4 ⟨⟨rv2, rfl, bx4⟩, hg0⟩
      obtain ⟨ao2, nn2, cc2, rfl⟩ := Rn.sl bx4
      refine ⟨_, rfl, hg0, ?_⟩
      replace hg0 := Gr.trans hw hg0; clear hw
      replace HG0 := Lib.hid (HG0.out.trans hg0)
      have HGS := Lib.hid hg0; clear hg0
      clear HGS
      have RN4 := Lib.hid bx4; clear bx4
      simp only [Act.put, lA, lB, lC]
      iterate 5 refine tk ?_
      refine wpPlan_nil (hT.out _ _ ?_)
      intro vw5 hg
      simp only [puts, Act.put, lA, lB, lC, lD, lE, ↓reduceIte, Nat.reduceEqDiff]
      have HG := Lib.hid ((HF.out.gr (HG0.out.trans hg)).ar (RN4.out.gr hg))
      simp only [List.zip_cons_cons, List.zip_nil_right, List.map_cons, List.map_nil, lF, lG] at HG
      clear hT T HF hg HG0 RN4
      go_wp2
      refine hK.out _ _ ?_; clear hK K
      show Code.wp _ _ _ _ _
      have HF := HG; clear HG
      clear hwc hsl2 hcl2 hcl3
      refine wp_seq ?_
      refine kS fun K hK => ?_
      refine sq 2 [(true, 0), (true, 1)] fun T hT => ?_
      iterate 2 refine tk ?_
      refine nlS hT HF fun vw6 HG => ?_
      clear hT T HF
      go_wp2
      refine hK.out _ _ ?_; clear hK K
      show Code.wp _ _ _ _ _
      have HF := HG; clear HG
      refine wp_cond_true (by rfl) ?_
      refine kS fun K hK => ?_
      refine sq 2 [(true, 0), (true, 1)] fun T hT => ?_
      iterate 2 refine tk ?_
      refine nlS hT HF fun vw7 HG => ?_
      clear hT T HF
      have lx0 := HG.out.c 0 rfl; have fx0 := HG.out.f 0 rfl
      have r0 := Gr.refl vw7
      go_wp2
      refine hK.out _ _ ?_; clear hK K
      show Code.wp _ _ _ _ _
      clear r0 lx0 fx0
      refine fH (((HG.out).put2 0 0 rfl).put 0 2 _ rfl) fun Wx14 HF => ?_
      clear HG
      refine wp_ret ?_
      try simp only [Exit.then, Exit.inBlock]
      have lx0 := HF.out.c 0 rfl
      have r0 := Gr.refl Wx14
      exact bodyPost_ret (v := .tuple #[(.agg #[.bool false, .slice none 0 0, .slice none 0 0]), .int .i64 4]) (by simp [results, Tryz.results51, go_sem, lx0 _ r0]) rfl ⟨⟨.slice none 0 0, .slice none 0 0, rfl, (by rw [show Int.natAbs (((0 : Rat)).num) = 0 from rfl]; exact Rn.zero _), (by rw [show ((0 : Rat)).den - 1 = 0 from rfl]; exact Rn.zero _)⟩, HF.out.1⟩
    · obtain ⟨k, rfl⟩ : ∃ k, gk = k + 1 := ⟨gk - 1, by omega⟩
      have hj2 : ((k + 1 : Nat) : Int) - 1 = (k : Int) := by omega
      rw [hj2]
      have hlt : k < s.size := by omega
      have hlt2 : (k : Int) < (s.size : Int) := by omega
      have hcs := HC.out.2.1
      obtain ⟨y, hy⟩ : ∃ y, (s[k]'hlt).toNat = y := ⟨_, rfl⟩
      have hyb : byt s k = y := by rw [← hy, byt_at hlt]
      have HYB := Lib.hid hyb
      clear hyb
      by_cases hb : y = 47
      · subst hb
        go_wp2_with fail
        go_roundg k
        case measure => omega
        case rel => exact ⟨k, rfl, by go_num, by omega, Lib.hid ⟨Nat.le_refl _, by omega, fun p h1 h2 => by omega, fun _ => HYB.out⟩, Lib.hid rfl⟩
      · have hb2 : ¬ (y : Int) = 47 := by omega
        go_wp2_with fail
        go_roundg k
        case measure => omega
        case rel => exact ⟨c, rfl, by go_num, by omega, Lib.hid ⟨by have := HC.out.1; omega, HC.out.2.1, fun p h1 h2 => by
          by_cases e : p = k
          · subst e; rw [HYB.out]; exact hb
          · exact HC.out.2.2.1 p (by omega) h2, HC.out.2.2.2⟩, Lib.hid rfl⟩

set_option maxHeartbeats 8000000 in
set_option maxRecDepth 100000 in
theorem qreads_d (s up dn : ByteArray) (a : Int) (w : World) (hs : s.size ≤ 9223372036854775807) (hup : up.size ≤ 9223372036854775807) (hdn : dn.size ≤ 9223372036854775807) (HUP : Hid (fup s = up)) (HDN : Hid (fdn s = dn)) (HTW : Hid (ftwo s = true)) (HPC : Hid (icode up = 0)) (HPN : Hid (inum up = a)) (hwa : tw (Int.natAbs a) ≤ 1100) (HQC : Hid (pcode dn = 0)) (HQN : Hid (pnum dn = 0))  :
    Calls Tryz.prog 51 #[.string s] w fun e w' => (∃ r1 r2 : Value, e = .returned (.tuple #[.agg #[.bool (decide (((0 : Rat)).num < 0)), r1, r2], .int .i64 5]) ∧ Rn w' r1 (Int.natAbs (((0 : Rat)).num)) ∧ Rn w' r2 (((0 : Rat)).den - 1)) ∧ Below w.heap.size w w' := by
  obtain ⟨W0, HW⟩ : ∃ W0, Hid (w.alloc (.cells #[.bool false, .slice none 0 0, .slice none 0 0] 62) = W0) := ⟨_, Lib.hid rfl⟩
  have HF0 : Hid (HP w W0 [Sum.inl (w.heap.size, 62, #[.bool false, .slice none 0 0, .slice none 0 0])]) := Lib.hid (by rw [← HW.out]; exact (hp0 w).al rfl (by decide))
  go_enter Tryz.func51, Tryz.ntmps51
  go_wp2_with fail
  rw [HW.out]
  go_loopg [4, 5] s.size (fun k cut at_ wr => ∃ c : Nat, cut = .int .i64 (c : Int) ∧ at_ = .int .i64 ((k : Int) - 1) ∧ k ≤ s.size ∧ Hid (firstFrom s k c) ∧ Hid (wr = W0))
  case atStart => exact ⟨s.size, rfl, rfl, Nat.le_refl _, Lib.hid ⟨Nat.le_refl _, by omega, fun p h1 h2 => by omega, fun h => by omega⟩, Lib.hid rfl⟩
  case round =>
    rename_i K1 hK1 J_ K_ h1_ h0_
    obtain ⟨c, rfl, rfl, hk, HC, HWW⟩ := hrel
    have ew : W0 = wr := HWW.out.symm
    subst ew
    by_cases h0 : gk = 0
    · subst h0
      have hcs := HC.out.2.1
      obtain ⟨HSL, HX⟩ := first_cut HC.out HUP.out HDN.out HTW.out
      have HF := HF0
      have hm1 : ((0 : Nat) : Int) - 1 = -1 := rfl
      rw [hm1]
      clear HC HWW HW HF0 hk hm1
      rcases HX with ⟨_, hc, HSL2⟩ | ⟨hc, _⟩
      case inr => exact absurd hc (by decide)
      refine wp_seq ?_
      refine kS fun K hK => ?_
      refine sq 2 [(true, 0), (true, 1)] fun T hT => ?_
      iterate 2 refine tk ?_
      refine nlS hT HF fun vw1 HG => ?_
      clear hT T HF
      go_wp2
      refine hK.out _ _ ?_; clear hK K
      show Code.wp _ _ _ _ _
      have HF := HG; clear HG
      refine wp_cond_false (by rfl) ?_
      refine wp_exit ?_
      try simp only [Exit.then, Exit.inBlock]
      refine hK1 _ _ ?_
      clear h0_ h1_ K_ J_ hK1
      show Code.wp _ _ _ _ _
      have hsl1 : s.extract 0 c = up := HSL.out
      have hcl1 : (c : Int) ≤ (s.size : Int) := by omega
      refine kS fun K hK => ?_
      have HG0 : Hid (Gr vw1 vw1) := Lib.hid (Gr.refl _)
      refine sq 7 [(true, 0), (true, 1), (true, 2), (false, 3), (true, 4), (true, 5), (true, 6)] fun T hT => ?_
      iterate 3 refine tk ?_
      refine wpPlan_callE rfl (by rfl) Tryz.call124 (by rfl) (fun w' hw => (zrziparse up (a) 0 _ HPN.out HPC.out (by omega)).mono ?_)
      rintro e vv2 ⟨⟨rv1, rfl, bx2⟩, hg0⟩
      obtain ⟨ao1, nn1, cc1, rfl⟩ := Rn.sl bx2
      refine ⟨_, rfl, hg0, ?_⟩
      replace hg0 := Gr.trans hw hg0; clear hw
      replace HG0 := Lib.hid (HG0.out.trans hg0)
      have HGS := Lib.hid hg0; clear hg0
      clear HGS
      have RN2 := Lib.hid bx2; clear bx2
      simp only [Act.put, lA, lB, lC]
      iterate 3 refine tk ?_
      refine wpPlan_nil (hT.out _ _ ?_)
      intro vw2 hg
      simp only [puts, Act.put, lA, lB, lC, lD, lE, ↓reduceIte, Nat.reduceEqDiff]
      have HG := Lib.hid ((HF.out.gr (HG0.out.trans hg)).ar (RN2.out.gr hg))
      simp only [List.zip_cons_cons, List.zip_nil_right, List.map_cons, List.map_nil, lF, lG] at HG
      clear hT T HF hg HG0 RN2
      go_wp2
      refine hK.out _ _ ?_; clear hK K
      show Code.wp _ _ _ _ _
      refine fH ((HG.out).al (b := vw2.heap.size) (by first | rfl | simp) (by decide)) fun Wx7 HF => ?_
      clear HG
      generalize vw2.heap.size = gx3 at *
      clear hsl1 hcl1
      refine wp_seq ?_
      refine kS fun K hK => ?_
      refine sq 2 [(true, 0), (true, 1)] fun T hT => ?_
      iterate 2 refine tk ?_
      refine nlS hT HF fun vw3 HG => ?_
      clear hT T HF
      go_wp2
      refine hK.out _ _ ?_; clear hK K
      show Code.wp _ _ _ _ _
      have HF := HG; clear HG
      refine wp_cond_false (by rfl) ?_
      refine wp_skip ?_
      show Code.wp _ _ _ _ _
      refine wp_seq ?_
      have heq : ((c : Int) == (s.size : Int)) = false := by have h9 : ¬ ((c : Int) = (s.size : Int)) := (by omega); simpa using h9
      refine kS fun K hK => ?_
      refine sq 4 [(true, 0), (true, 1), (true, 2), (true, 3)] fun T hT => ?_
      iterate 4 refine tk ?_
      refine nlS hT HF fun vw4 HG => ?_
      clear hT T HF
      go_wp2
      refine hK.out _ _ ?_; clear hK K
      show Code.wp _ _ _ _ _
      have HF := HG; clear HG
      clear heq
      refine wp_cond_false (by rfl) ?_
      refine wp_skip ?_
      show Code.wp _ _ _ _ _
      have hwc : IntKind.i64.wrap ((c : Int) + 1) = ((c + 1 : Nat) : Int) := by rw [IntKind.wrap_i64]; omega
      have hsl2 : s.extract (c + 1) s.size = dn := HSL2.out
      have hcl2 : (c : Int) + 1 ≤ (s.size : Int) := by omega
      have hcl3 : (0 : Int) ≤ (c : Int) + 1 := by omega
      refine kS fun K hK => ?_
      have HG0 : Hid (Gr vw4 vw4) := Lib.hid (Gr.refl _)
      refine sq 10 [(true, 0), (true, 1), (true, 2), (true, 3), (false, 4), (true, 5), (true, 6), (true, 7), (true, 8), (true, 9)] fun T hT => ?_
      iterate 4 refine tk ?_
      refine wpPlan_callE rfl (by rfl) Tryz.call141 (by rfl) (fun w' hw => (zrparse dn 0 0 _ HQN.out HQC.out (by omega)).mono ?_)
      rintro e vv4 ⟨⟨rv2, rfl, bx4⟩, hg0⟩
      obtain ⟨ao2, nn2, cc2, rfl⟩ := Rn.sl bx4
      refine ⟨_, rfl, hg0, ?_⟩
      replace hg0 := Gr.trans hw hg0; clear hw
      replace HG0 := Lib.hid (HG0.out.trans hg0)
      have HGS := Lib.hid hg0; clear hg0
      clear HGS
      have RN4 := Lib.hid bx4; clear bx4
      simp only [Act.put, lA, lB, lC]
      iterate 5 refine tk ?_
      refine wpPlan_nil (hT.out _ _ ?_)
      intro vw5 hg
      simp only [puts, Act.put, lA, lB, lC, lD, lE, ↓reduceIte, Nat.reduceEqDiff]
      have HG := Lib.hid ((HF.out.gr (HG0.out.trans hg)).ar (RN4.out.gr hg))
      simp only [List.zip_cons_cons, List.zip_nil_right, List.map_cons, List.map_nil, lF, lG] at HG
      clear hT T HF hg HG0 RN4
      go_wp2
      refine hK.out _ _ ?_; clear hK K
      show Code.wp _ _ _ _ _
      have HF := HG; clear HG
      clear hwc hsl2 hcl2 hcl3
      refine wp_seq ?_
      refine kS fun K hK => ?_
      refine sq 2 [(true, 0), (true, 1)] fun T hT => ?_
      iterate 2 refine tk ?_
      refine nlS hT HF fun vw6 HG => ?_
      clear hT T HF
      go_wp2
      refine hK.out _ _ ?_; clear hK K
      show Code.wp _ _ _ _ _
      have HF := HG; clear HG
      refine wp_cond_false (by rfl) ?_
      refine wp_skip ?_
      show Code.wp _ _ _ _ _
      refine wp_seq ?_
      have hlz : ((nn2 : Int) == 0) = true := by have hl := Rn.len (HF.out.rn 3 rfl); rw [hl, tw_zero]; rfl
      refine kS fun K hK => ?_
      refine sq 3 [(true, 0), (true, 1), (true, 2)] fun T hT => ?_
      iterate 3 refine tk ?_
      refine nlS hT HF fun vw7 HG => ?_
      clear hT T HF
      go_wp2
      refine hK.out _ _ ?_; clear hK K
      show Code.wp _ _ _ _ _
      have HF := HG; clear HG
      clear hlz
      refine wp_cond_true (by rfl) ?_
      refine kS fun K hK => ?_
      refine sq 1 [(true, 0)] fun T hT => ?_
      refine tk ?_
      refine nlS hT HF fun vw8 HG => ?_
      clear hT T HF
      have lx0 := HG.out.c 0 rfl; have fx0 := HG.out.f 0 rfl
      have r0 := Gr.refl vw8
      go_wp2
      refine hK.out _ _ ?_; clear hK K
      show Code.wp _ _ _ _ _
      clear r0 lx0 fx0
      refine fH (((HG.out).put2 0 0 rfl).put 0 2 _ rfl) fun Wx16 HF => ?_
      clear HG
      refine wp_ret ?_
      try simp only [Exit.then, Exit.inBlock]
      have lx0 := HF.out.c 0 rfl
      have r0 := Gr.refl Wx16
      exact bodyPost_ret (v := .tuple #[(.agg #[.bool false, .slice none 0 0, .slice none 0 0]), .int .i64 5]) (by simp [results, Tryz.results51, go_sem, lx0 _ r0]) rfl ⟨⟨.slice none 0 0, .slice none 0 0, rfl, (by rw [show Int.natAbs (((0 : Rat)).num) = 0 from rfl]; exact Rn.zero _), (by rw [show ((0 : Rat)).den - 1 = 0 from rfl]; exact Rn.zero _)⟩, HF.out.1⟩
    · obtain ⟨k, rfl⟩ : ∃ k, gk = k + 1 := ⟨gk - 1, by omega⟩
      have hj2 : ((k + 1 : Nat) : Int) - 1 = (k : Int) := by omega
      rw [hj2]
      have hlt : k < s.size := by omega
      have hlt2 : (k : Int) < (s.size : Int) := by omega
      have hcs := HC.out.2.1
      obtain ⟨y, hy⟩ : ∃ y, (s[k]'hlt).toNat = y := ⟨_, rfl⟩
      have hyb : byt s k = y := by rw [← hy, byt_at hlt]
      have HYB := Lib.hid hyb
      clear hyb
      by_cases hb : y = 47
      · subst hb
        go_wp2_with fail
        go_roundg k
        case measure => omega
        case rel => exact ⟨k, rfl, by go_num, by omega, Lib.hid ⟨Nat.le_refl _, by omega, fun p h1 h2 => by omega, fun _ => HYB.out⟩, Lib.hid rfl⟩
      · have hb2 : ¬ (y : Int) = 47 := by omega
        go_wp2_with fail
        go_roundg k
        case measure => omega
        case rel => exact ⟨c, rfl, by go_num, by omega, Lib.hid ⟨by have := HC.out.1; omega, HC.out.2.1, fun p h1 h2 => by
          by_cases e : p = k
          · subst e; rw [HYB.out]; exact hb
          · exact HC.out.2.2.1 p (by omega) h2, HC.out.2.2.2⟩, Lib.hid rfl⟩

set_option maxHeartbeats 8000000 in
set_option maxRecDepth 100000 in
theorem qreads_e (s up dn : ByteArray) (a : Int) (n : Nat) (z : Rat) (w : World) (hs : s.size ≤ 9223372036854775807) (hup : up.size ≤ 9223372036854775807) (hdn : dn.size ≤ 9223372036854775807) (HUP : Hid (fup s = up)) (HDN : Hid (fdn s = dn)) (HTW : Hid (ftwo s = true)) (HPC : Hid (icode up = 0)) (HPN : Hid (inum up = a)) (hwa : tw (Int.natAbs a) ≤ 1100) (HQC : Hid (pcode dn = 0)) (HQN : Hid (pnum dn = n)) (hn0 : 0 < n) (hwn : tw n ≤ 1100) (HZ : Hid (mkRat a n = z))  :
    Calls Tryz.prog 51 #[.string s] w fun e w' => (∃ r1 r2 : Value, e = .returned (.tuple #[.agg #[.bool (decide ((z).num < 0)), r1, r2], .int .i64 0]) ∧ Rn w' r1 (Int.natAbs ((z).num)) ∧ Rn w' r2 ((z).den - 1)) ∧ Below w.heap.size w w' := by
  obtain ⟨W0, HW⟩ : ∃ W0, Hid (w.alloc (.cells #[.bool false, .slice none 0 0, .slice none 0 0] 62) = W0) := ⟨_, Lib.hid rfl⟩
  have HF0 : Hid (HP w W0 [Sum.inl (w.heap.size, 62, #[.bool false, .slice none 0 0, .slice none 0 0])]) := Lib.hid (by rw [← HW.out]; exact (hp0 w).al rfl (by decide))
  go_enter Tryz.func51, Tryz.ntmps51
  go_wp2_with fail
  rw [HW.out]
  go_loopg [4, 5] s.size (fun k cut at_ wr => ∃ c : Nat, cut = .int .i64 (c : Int) ∧ at_ = .int .i64 ((k : Int) - 1) ∧ k ≤ s.size ∧ Hid (firstFrom s k c) ∧ Hid (wr = W0))
  case atStart => exact ⟨s.size, rfl, rfl, Nat.le_refl _, Lib.hid ⟨Nat.le_refl _, by omega, fun p h1 h2 => by omega, fun h => by omega⟩, Lib.hid rfl⟩
  case round =>
    rename_i K1 hK1 J_ K_ h1_ h0_
    obtain ⟨c, rfl, rfl, hk, HC, HWW⟩ := hrel
    have ew : W0 = wr := HWW.out.symm
    subst ew
    by_cases h0 : gk = 0
    · subst h0
      have hcs := HC.out.2.1
      obtain ⟨HSL, HX⟩ := first_cut HC.out HUP.out HDN.out HTW.out
      have HF := HF0
      have hm1 : ((0 : Nat) : Int) - 1 = -1 := rfl
      rw [hm1]
      clear HC HWW HW HF0 hk hm1
      rcases HX with ⟨_, hc, HSL2⟩ | ⟨hc, _⟩
      case inr => exact absurd hc (by decide)
      refine wp_seq ?_
      refine kS fun K hK => ?_
      refine sq 2 [(true, 0), (true, 1)] fun T hT => ?_
      iterate 2 refine tk ?_
      refine nlS hT HF fun vw1 HG => ?_
      clear hT T HF
      go_wp2
      refine hK.out _ _ ?_; clear hK K
      show Code.wp _ _ _ _ _
      have HF := HG; clear HG
      refine wp_cond_false (by rfl) ?_
      refine wp_exit ?_
      try simp only [Exit.then, Exit.inBlock]
      refine hK1 _ _ ?_
      clear h0_ h1_ K_ J_ hK1
      show Code.wp _ _ _ _ _
      have hsl1 : s.extract 0 c = up := HSL.out
      have hcl1 : (c : Int) ≤ (s.size : Int) := by omega
      refine kS fun K hK => ?_
      have HG0 : Hid (Gr vw1 vw1) := Lib.hid (Gr.refl _)
      refine sq 7 [(true, 0), (true, 1), (true, 2), (false, 3), (true, 4), (true, 5), (true, 6)] fun T hT => ?_
      iterate 3 refine tk ?_
      refine wpPlan_callE rfl (by rfl) Tryz.call124 (by rfl) (fun w' hw => (zrziparse up (a) 0 _ HPN.out HPC.out (by omega)).mono ?_)
      rintro e vv2 ⟨⟨rv1, rfl, bx2⟩, hg0⟩
      obtain ⟨ao1, nn1, cc1, rfl⟩ := Rn.sl bx2
      refine ⟨_, rfl, hg0, ?_⟩
      replace hg0 := Gr.trans hw hg0; clear hw
      replace HG0 := Lib.hid (HG0.out.trans hg0)
      have HGS := Lib.hid hg0; clear hg0
      clear HGS
      have RN2 := Lib.hid bx2; clear bx2
      simp only [Act.put, lA, lB, lC]
      iterate 3 refine tk ?_
      refine wpPlan_nil (hT.out _ _ ?_)
      intro vw2 hg
      simp only [puts, Act.put, lA, lB, lC, lD, lE, ↓reduceIte, Nat.reduceEqDiff]
      have HG := Lib.hid ((HF.out.gr (HG0.out.trans hg)).ar (RN2.out.gr hg))
      simp only [List.zip_cons_cons, List.zip_nil_right, List.map_cons, List.map_nil, lF, lG] at HG
      clear hT T HF hg HG0 RN2
      go_wp2
      refine hK.out _ _ ?_; clear hK K
      show Code.wp _ _ _ _ _
      refine fH ((HG.out).al (b := vw2.heap.size) (by first | rfl | simp) (by decide)) fun Wx7 HF => ?_
      clear HG
      generalize vw2.heap.size = gx3 at *
      clear hsl1 hcl1
      refine wp_seq ?_
      refine kS fun K hK => ?_
      refine sq 2 [(true, 0), (true, 1)] fun T hT => ?_
      iterate 2 refine tk ?_
      refine nlS hT HF fun vw3 HG => ?_
      clear hT T HF
      go_wp2
      refine hK.out _ _ ?_; clear hK K
      show Code.wp _ _ _ _ _
      have HF := HG; clear HG
      refine wp_cond_false (by rfl) ?_
      refine wp_skip ?_
      show Code.wp _ _ _ _ _
      refine wp_seq ?_
      have heq : ((c : Int) == (s.size : Int)) = false := by have h9 : ¬ ((c : Int) = (s.size : Int)) := (by omega); simpa using h9
      refine kS fun K hK => ?_
      refine sq 4 [(true, 0), (true, 1), (true, 2), (true, 3)] fun T hT => ?_
      iterate 4 refine tk ?_
      refine nlS hT HF fun vw4 HG => ?_
      clear hT T HF
      go_wp2
      refine hK.out _ _ ?_; clear hK K
      show Code.wp _ _ _ _ _
      have HF := HG; clear HG
      clear heq
      refine wp_cond_false (by rfl) ?_
      refine wp_skip ?_
      show Code.wp _ _ _ _ _
      have hwc : IntKind.i64.wrap ((c : Int) + 1) = ((c + 1 : Nat) : Int) := by rw [IntKind.wrap_i64]; omega
      have hsl2 : s.extract (c + 1) s.size = dn := HSL2.out
      have hcl2 : (c : Int) + 1 ≤ (s.size : Int) := by omega
      have hcl3 : (0 : Int) ≤ (c : Int) + 1 := by omega
      refine kS fun K hK => ?_
      have HG0 : Hid (Gr vw4 vw4) := Lib.hid (Gr.refl _)
      refine sq 10 [(true, 0), (true, 1), (true, 2), (true, 3), (false, 4), (true, 5), (true, 6), (true, 7), (true, 8), (true, 9)] fun T hT => ?_
      iterate 4 refine tk ?_
      refine wpPlan_callE rfl (by rfl) Tryz.call141 (by rfl) (fun w' hw => (zrparse dn n 0 _ HQN.out HQC.out (by omega)).mono ?_)
      rintro e vv4 ⟨⟨rv2, rfl, bx4⟩, hg0⟩
      obtain ⟨ao2, nn2, cc2, rfl⟩ := Rn.sl bx4
      refine ⟨_, rfl, hg0, ?_⟩
      replace hg0 := Gr.trans hw hg0; clear hw
      replace HG0 := Lib.hid (HG0.out.trans hg0)
      have HGS := Lib.hid hg0; clear hg0
      clear HGS
      have RN4 := Lib.hid bx4; clear bx4
      simp only [Act.put, lA, lB, lC]
      iterate 5 refine tk ?_
      refine wpPlan_nil (hT.out _ _ ?_)
      intro vw5 hg
      simp only [puts, Act.put, lA, lB, lC, lD, lE, ↓reduceIte, Nat.reduceEqDiff]
      have HG := Lib.hid ((HF.out.gr (HG0.out.trans hg)).ar (RN4.out.gr hg))
      simp only [List.zip_cons_cons, List.zip_nil_right, List.map_cons, List.map_nil, lF, lG] at HG
      clear hT T HF hg HG0 RN4
      go_wp2
      refine hK.out _ _ ?_; clear hK K
      show Code.wp _ _ _ _ _
      have HF := HG; clear HG
      clear hwc hsl2 hcl2 hcl3
      refine wp_seq ?_
      refine kS fun K hK => ?_
      refine sq 2 [(true, 0), (true, 1)] fun T hT => ?_
      iterate 2 refine tk ?_
      refine nlS hT HF fun vw6 HG => ?_
      clear hT T HF
      go_wp2
      refine hK.out _ _ ?_; clear hK K
      show Code.wp _ _ _ _ _
      have HF := HG; clear HG
      refine wp_cond_false (by rfl) ?_
      refine wp_skip ?_
      show Code.wp _ _ _ _ _
      refine wp_seq ?_
      have hlz : ((nn2 : Int) == 0) = false := by have hl := Rn.len (HF.out.rn 3 rfl); have ht : 0 < tw n := tw_pos hn0; have h8 : ¬ (nn2 : Int) = 0 := (by omega); simpa using h8
      refine kS fun K hK => ?_
      refine sq 3 [(true, 0), (true, 1), (true, 2)] fun T hT => ?_
      iterate 3 refine tk ?_
      refine nlS hT HF fun vw7 HG => ?_
      clear hT T HF
      go_wp2
      refine hK.out _ _ ?_; clear hK K
      show Code.wp _ _ _ _ _
      have HF := HG; clear HG
      clear hlz
      refine wp_cond_false (by rfl) ?_
      refine wp_skip ?_
      show Code.wp _ _ _ _ _
      have HZ1 : Hid (mkRat (a) (n) = z) := Lib.hid (HZ.out)
      have su1 : rz (z) ≤ 1100 := by have e := HZ1.out; first | omega | (rw [← e]; exact rz_mkRat (k := 1100) (by omega) (by omega) (by decide))
      have lx3 := HF.out.c 2 rfl
      refine kS fun K hK => ?_
      have HG0 : Hid (Gr vw7 vw7) := Lib.hid (Gr.refl _)
      refine sq 3 [(true, 0), (true, 1), (false, 2)] fun T hT => ?_
      iterate 2 refine tk ?_
      refine wpPlan_callE rfl (by rfl) Tryz.call142 (by rfl) (fun w' hw => (qfrom_any (a) (n) (z) _ _ _ HZ1.out (ok) (by omega) (by omega) (HF.out.r 1 rfl (HG0.out.trans hw)) (HF.out.r 3 rfl (HG0.out.trans hw))).mono ?_)
      rintro e vv5 ⟨⟨rv3, rv4, rfl, bx5, bx6⟩, hg0⟩
      obtain ⟨ao3, nn3, cc3, rfl⟩ := Rn.sl bx5
      obtain ⟨ao4, nn4, cc4, rfl⟩ := Rn.sl bx6
      refine ⟨_, rfl, hg0, ?_⟩
      replace hg0 := Gr.trans hw hg0; clear hw
      replace HG0 := Lib.hid (HG0.out.trans hg0)
      have HGS := Lib.hid hg0; clear hg0
      clear HGS
      have RN5 := Lib.hid bx5; clear bx5
      have RN6 := Lib.hid bx6; clear bx6
      clear lx3; have lx3 := fun w' (h : Gr _ w') => HF.out.c 2 rfl w' (HG0.out.trans h)
      simp only [Act.put, lA, lB, lC]
      refine wpPlan_nil (hT.out _ _ ?_)
      intro vw8 hg
      simp only [puts, Act.put, lA, lB, lC, lD, lE, ↓reduceIte, Nat.reduceEqDiff]
      have HG := Lib.hid (((HF.out.gr (HG0.out.trans hg)).ar (RN5.out.gr hg)).ar (RN6.out.gr hg))
      simp only [List.zip_cons_cons, List.zip_nil_right, List.map_cons, List.map_nil, lF, lG] at HG
      clear hT T HF hg HG0 RN5 RN6 lx3
      have lx0 := HG.out.c 0 rfl; have fx0 := HG.out.f 0 rfl
      have r0 := Gr.refl vw8
      go_wp2
      refine hK.out _ _ ?_; clear hK K
      show Code.wp _ _ _ _ _
      clear r0 lx0 fx0
      refine fH ((((((HG.out).put2 0 0 rfl).put 0 2 _ rfl).er 3).er 2).er 1) fun Wx17 HF => ?_
      clear HG
      refine wp_ret ?_
      try simp only [Exit.then, Exit.inBlock]
      have lx0 := HF.out.c 0 rfl
      have r0 := Gr.refl Wx17
      exact bodyPost_ret (v := .tuple #[(.agg #[.bool (decide ((z).num < 0)), (.slice ao3 nn3 cc3), (.slice ao4 nn4 cc4)]), .int .i64 0]) (by simp [results, Tryz.results51, go_sem, lx0 _ r0]) rfl ⟨⟨(.slice ao3 nn3 cc3), (.slice ao4 nn4 cc4), rfl, (HF.out.rn 1 rfl), (HF.out.rn 2 rfl)⟩, HF.out.1⟩
    · obtain ⟨k, rfl⟩ : ∃ k, gk = k + 1 := ⟨gk - 1, by omega⟩
      have hj2 : ((k + 1 : Nat) : Int) - 1 = (k : Int) := by omega
      rw [hj2]
      have hlt : k < s.size := by omega
      have hlt2 : (k : Int) < (s.size : Int) := by omega
      have hcs := HC.out.2.1
      obtain ⟨y, hy⟩ : ∃ y, (s[k]'hlt).toNat = y := ⟨_, rfl⟩
      have hyb : byt s k = y := by rw [← hy, byt_at hlt]
      have HYB := Lib.hid hyb
      clear hyb
      by_cases hb : y = 47
      · subst hb
        go_wp2_with fail
        go_roundg k
        case measure => omega
        case rel => exact ⟨k, rfl, by go_num, by omega, Lib.hid ⟨Nat.le_refl _, by omega, fun p h1 h2 => by omega, fun _ => HYB.out⟩, Lib.hid rfl⟩
      · have hb2 : ¬ (y : Int) = 47 := by omega
        go_wp2_with fail
        go_roundg k
        case measure => omega
        case rel => exact ⟨c, rfl, by go_num, by omega, Lib.hid ⟨by have := HC.out.1; omega, HC.out.2.1, fun p h1 h2 => by
          by_cases e : p = k
          · subst e; rw [HYB.out]; exact hb
          · exact HC.out.2.2.1 p (by omega) h2, HC.out.2.2.2⟩, Lib.hid rfl⟩

end Go.Proofs.YtpcfncbcpknobaaGreatDoor
