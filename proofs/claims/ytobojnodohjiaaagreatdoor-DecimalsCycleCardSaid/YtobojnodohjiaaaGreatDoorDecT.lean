
/- decimals.Text. -/
import Derived.Test.YtobojnodohjiaaaGreatDoorDecB
import Derived.Test.YtobojnodohjiaaaGreatDoorFieldP
namespace Go.Proofs.YtobojnodohjiaaaGreatDoor
open Go.RowKit
set_option linter.unusedSimpArgs false
set_option linter.unusedVariables false
attribute [local go_sem ↓] Go.wp_at_zero Go.wp_at_succ
attribute [local go_sem ↓] eq_nat eq_nat_zero eq_int
/-- i zeros ahead of a text -/
def zpad : Nat → ByteArray → ByteArray
  | 0, d => d
  | i + 1, d => (⟨#[48]⟩ : ByteArray) ++ zpad i d
theorem cat_sz (a b : ByteArray) : (a ++ b).size = a.size + b.size := ByteArray.size_append
theorem zpad_size : ∀ i d, (zpad i d).size = d.size + i
  | 0, d => rfl
  | i + 1, d => by rw [zpad, cat_sz, zpad_size i d]; have : (⟨#[48]⟩ : ByteArray).size = 1 := rfl; omega
/-- a sign, digits, of which the last p lie behind the point -/
def wrt (sg d : ByteArray) (p : Nat) : ByteArray := if p = 0 then sg ++ d else sg ++ d.extract 0 (d.size - p) ++ (⟨#[46]⟩ : ByteArray) ++ d.extract (d.size - p) d.size
/-- the digits of n, at least p + 1 -/
def dig (n p : Nat) : ByteArray := zpad ((p : Int) + 1 - ((⟨(Lib.decDigits n).toArray⟩ : ByteArray).size : Int)).toNat ⟨(Lib.decDigits n).toArray⟩
/-- the decimal notation of z / 10^p -/
def dtx (z : Int) (p : Nat) : ByteArray := wrt (if z < 0 then ⟨#[45]⟩ else ⟨#[]⟩) (dig z.natAbs p) p
theorem dig_size (n p : Nat) : p + 1 ≤ (dig n p).size := by unfold dig; rw [zpad_size]; omega
theorem dig_most (n p : Nat) : (dig n p).size ≤ (⟨(Lib.decDigits n).toArray⟩ : ByteArray).size + p + 1 := by unfold dig; rw [zpad_size]; omega
theorem dtx_lit {z : Int} {p : Nat} {l : List UInt8} {s : ByteArray} (h : Lib.decDigits z.natAbs = l) (e : wrt (if z < 0 then ⟨#[45]⟩ else ⟨#[]⟩) (zpad ((p : Int) + 1 - (l.length : Int)).toNat ⟨l.toArray⟩) p = s) : dtx z p = s := by
  unfold dtx dig
  rw [h]
  exact e

theorem sgI_nn {z : Int} (h : ¬ z < 0) : ¬ sgI z < 0 := by
  rcases Int.lt_trichotomy z 0 with h1 | h1 | h1
  · exact absurd h1 h
  · subst h1; decide
  · rw [sgI_gt h1]; decide

set_option maxRecDepth 20000 in
set_option maxHeartbeats 4000000 in
theorem dtx1_0 (sg d r : ByteArray) (g1 g2 : Nat) (w : World) (bx8 : Bx w g1 3 #[.int .i64 0]) (bx9 : Bx w g2 9 #[.string d]) (HR : Hid (sg ++ d = r)) (hd : d.size ≤ 1000000) (hsg : sg.size ≤ 1) :
    Calls Tryz.prog 241 #[.string sg, .pointer (some ⟨g1, 0, none⟩), .pointer (some ⟨g2, 0, none⟩)] w fun e w' => e = .returned ((.string r)) ∧ Below w.heap.size w w' := by
  go_enter Tryz.func241, Tryz.ntmps241
  have HF := Lib.hid (hp0 w)
  have BX8 := Lib.hid bx8; clear bx8
  have BX9 := Lib.hid bx9; clear bx9
  refine kS fun K hK => ?_
  refine wp_region_lit ?_
  go_wp2
  refine hK.out _ _ ?_; clear hK K
  show Code.wp _ _ _ _ _
  refine fH (HF.out) fun Wx0 HG => ?_
  clear HF; have HF := HG; clear HG
  refine wp_seq ?_
  have lx8 := (BX8.out.gr HF.out.1).cells
  refine kS fun K hK => ?_
  refine sq 2 [(true, 0), (true, 1)] fun T hT => ?_
  iterate 2 refine tk ?_
  refine nlS hT HF fun vw1 HG => ?_
  clear hT T HF lx8
  go_wp2
  refine hK.out _ _ ?_; clear hK K
  show Code.wp _ _ _ _ _
  have HF := HG; clear HG
  refine wp_cond_true (by rfl) ?_
  have hlen1 : ¬ (9223372036854775807 < sg.size + d.size) := by omega
  have hcat1 : sg ++ d = r := HR.out
  have lx9 := (BX9.out.gr HF.out.1).cells
  refine kS fun K hK => ?_
  refine sq 4 [(true, 0), (true, 1), (true, 2), (true, 3)] fun T hT => ?_
  iterate 4 refine tk ?_
  refine nlS hT HF fun vw2 HG => ?_
  clear hT T HF lx9
  go_wp2
  refine hK.out _ _ ?_; clear hK K
  show Code.wp _ _ _ _ _
  have HF := HG; clear HG
  clear hlen1 hcat1
  refine wp_ret ?_
  try simp only [Exit.then, Exit.inBlock]
  exact bodyPost_ret (v := .string r) (by simp [results, Tryz.results241, go_sem]) rfl ⟨rfl, HF.out.1⟩

set_option maxRecDepth 20000 in
set_option maxHeartbeats 4000000 in
theorem dtx1_p (sg d r1 r2 t1 t2 r : ByteArray) (p a g1 g2 : Nat) (w : World) (bx8 : Bx w g1 3 #[.int .i64 (((p : Nat) : Int))]) (bx9 : Bx w g2 9 #[.string d]) (HP0 : Hid (0 < p)) (hpp : 0 < p) (hap : a + p = d.size) (HR1 : Hid (d.extract 0 a = r1)) (HR2 : Hid (d.extract a d.size = r2)) (HC1 : Hid (sg ++ r1 = t1)) (HC2 : Hid (t1 ++ (⟨#[46]⟩ : ByteArray) = t2)) (HC3 : Hid (t2 ++ r2 = r)) (hd : d.size ≤ 1000000) (hz1 : r1.size ≤ 1000000) (hz2 : r2.size ≤ 1000000) (hz3 : t1.size ≤ 1000001) (hz4 : t2.size ≤ 1000002) (hsg : sg.size ≤ 1) :
    Calls Tryz.prog 241 #[.string sg, .pointer (some ⟨g1, 0, none⟩), .pointer (some ⟨g2, 0, none⟩)] w fun e w' => e = .returned ((.string r)) ∧ Below w.heap.size w w' := by
  go_enter Tryz.func241, Tryz.ntmps241
  have HF := Lib.hid (hp0 w)
  have BX8 := Lib.hid bx8; clear bx8
  have BX9 := Lib.hid bx9; clear bx9
  refine kS fun K hK => ?_
  refine wp_region_lit ?_
  go_wp2
  refine hK.out _ _ ?_; clear hK K
  show Code.wp _ _ _ _ _
  refine fH (HF.out) fun Wx0 HG => ?_
  clear HF; have HF := HG; clear HG
  refine wp_seq ?_
  have hp0 : ((p : Int) == 0) = false := by have h9 : ¬ ((p : Int) = 0) := (by omega); simpa using h9
  have lx8 := (BX8.out.gr HF.out.1).cells
  refine kS fun K hK => ?_
  refine sq 2 [(true, 0), (true, 1)] fun T hT => ?_
  iterate 2 refine tk ?_
  refine nlS hT HF fun vw1 HG => ?_
  clear hT T HF lx8
  go_wp2
  refine hK.out _ _ ?_; clear hK K
  show Code.wp _ _ _ _ _
  have HF := HG; clear HG
  clear hp0
  refine wp_cond_false (by rfl) ?_
  refine wp_skip ?_
  show Code.wp _ _ _ _ _
  have hwa : IntKind.i64.wrap ((d.size : Int) - (p : Int)) = (a : Int) := by rw [IntKind.wrap_i64]; omega
  have lx8 := (BX8.out.gr HF.out.1).cells
  have lx9 := (BX9.out.gr HF.out.1).cells
  refine kS fun K hK => ?_
  refine sq 5 [(true, 0), (true, 1), (true, 2), (true, 3), (true, 4)] fun T hT => ?_
  iterate 5 refine tk ?_
  refine nlS hT HF fun vw2 HG => ?_
  clear hT T HF lx8 lx9
  go_wp2
  refine hK.out _ _ ?_; clear hK K
  show Code.wp _ _ _ _ _
  have HF := HG; clear HG
  clear hwa
  have hsl1 : d.extract 0 a = r1 := HR1.out
  have hcl1 : (a : Int) ≤ (d.size : Int) := by omega
  have hlen1 : ¬ (9223372036854775807 < sg.size + r1.size) := by omega
  have hcat1 : sg ++ r1 = t1 := HC1.out
  have hlen2 : ¬ (9223372036854775807 < t1.size + 1) := by omega
  have hcat2 : t1 ++ (⟨#[46]⟩ : ByteArray) = t2 := HC2.out
  have hsl2 : d.extract a d.size = r2 := HR2.out
  have hlen3 : ¬ (9223372036854775807 < t2.size + r2.size) := by omega
  have hcat3 : t2 ++ r2 = r := HC3.out
  have lx9 := (BX9.out.gr HF.out.1).cells
  refine kS fun K hK => ?_
  refine pd 10 [(true, 0), (true, 1), (true, 2), (true, 3), (true, 4), (true, 5), (true, 6), (true, 7), (true, 8), (true, 9)] fun T hT => ?_
  iterate 10 refine tk ?_
  refine nlD hT HF fun vw3 HG => ?_
  clear hT T HF lx9
  go_wp2
  refine hK.out _ _ ?_; clear hK K
  show Code.wp _ _ _ _ _
  have HF := HG; clear HG
  clear hsl1 hcl1 hlen1 hcat1 hlen2 hcat2 hsl2 hlen3 hcat3
  refine wp_ret ?_
  try simp only [Exit.then, Exit.inBlock]
  exact bodyPost_ret (v := .string r) (by simp [results, Tryz.results241, go_sem]) rfl ⟨rfl, HF.out.1⟩

theorem dtx1 (sg d r : ByteArray) (p g1 g2 : Nat) (w : World) (bx8 : Bx w g1 3 #[.int .i64 ((p : Nat) : Int)]) (bx9 : Bx w g2 9 #[.string d]) (hr : wrt sg d p = r) (hp : p + 1 ≤ d.size) (hd : d.size ≤ 1000000) (hsg : sg.size ≤ 1) :
    Calls Tryz.prog 241 #[.string sg, .pointer (some ⟨g1, 0, none⟩), .pointer (some ⟨g2, 0, none⟩)] w fun e w' => e = .returned (.string r) ∧ Below w.heap.size w w' := by
  unfold wrt at hr
  by_cases h0 : p = 0
  · subst h0
    rw [if_pos rfl] at hr
    exact dtx1_0 sg d r g1 g2 w bx8 bx9 (Lib.hid hr) hd hsg
  · rw [if_neg h0] at hr
    have e1 : (d.extract 0 (d.size - p)).size ≤ 1000000 := by simp; omega
    have e2 : (d.extract (d.size - p) d.size).size ≤ 1000000 := by simp; omega
    have e3 : (sg ++ d.extract 0 (d.size - p)).size ≤ 1000001 := by rw [cat_sz]; omega
    have e4 : (sg ++ d.extract 0 (d.size - p) ++ (⟨#[46]⟩ : ByteArray)).size ≤ 1000002 := by rw [cat_sz]; have : (⟨#[46]⟩ : ByteArray).size = 1 := rfl; omega
    exact dtx1_p sg d _ _ _ _ r p (d.size - p) g1 g2 w bx8 bx9 (Lib.hid (by omega)) (by omega) (by omega) (Lib.hid rfl) (Lib.hid rfl) (Lib.hid rfl) (Lib.hid rfl) (Lib.hid hr) hd e1 e2 e3 e4 hsg

set_option maxRecDepth 20000 in
set_option maxHeartbeats 4000000 in
theorem dtext0 (a : Rat) (k : Nat) (way z c t : Int) (D DG r : ByteArray) (w : World) (HM : Hid (rnd way (a * (((10 ^ k : Nat) : Int) : Rat)) = z)) (hk : k ≤ 100) (hw1 : 1 ≤ way) (hw2 : way ≤ 3) (hs : sz a ≤ 900) (HD : Hid (⟨(Lib.decDigits (Int.natAbs z)).toArray⟩ = D)) (hD : D.size ≤ 100000) (HCC : Hid ((k : Int) + 1 - (D.size : Int) = c)) (HDG : Hid (zpad c.toNat D = DG)) (HDZ : Hid (k + 1 ≤ DG.size)) (hdz : k + 1 ≤ DG.size) (hdz2 : DG.size ≤ 200000) (HTS : Hid (sgI z = t)) (HRR : Hid (wrt (if z < 0 then (⟨#[45]⟩ : ByteArray) else ⟨#[]⟩) DG k = r)) (HT : Hid (Tab w)) :
    Calls Tryz.prog 170 #[(Value.agg #[.int .u64 ((lo (Int.natAbs ((a).num)) : Nat) : Int), .string (bg (Int.natAbs ((a).num))), .bool (decide (((a).num) < 0)), .int .u64 ((lo ((a).den - 1) : Nat) : Int), .string (bg ((a).den - 1))]), .int .i64 (((k : Nat) : Int)), .int .i64 (way)] w fun e w' => e = .returned ((.tuple #[.string r, .int .i64 0])) ∧ Below w.heap.size w w' := by
  have hc9 : c ≤ 101 := by have := HCC.out; omega
  go_enter Tryz.func170, Tryz.ntmps170
  have HF := Lib.hid (hp0 w)
  refine kS fun K hK => ?_
  refine wp_region_lit ?_
  go_wp2
  refine hK.out _ _ ?_; clear hK K
  show Code.wp _ _ _ _ _
  obtain ⟨W1, HW1⟩ : ∃ W, Hid (((w.alloc (.cells #[.int .u64 ((lo (Int.natAbs ((a).num)) : Nat) : Int), .string (bg (Int.natAbs ((a).num))), .bool (decide (((a).num) < 0)), .int .u64 ((lo ((a).den - 1) : Nat) : Int), .string (bg ((a).den - 1))] 36)).alloc (.cells #[.int .i64 (((k : Nat) : Int))] 3)) = W) := ⟨_, Lib.hid rfl⟩
  rw [HW1.out]
  have BX0 : Hid (Bx W1 (w.heap.size) 36 #[.int .u64 ((lo (Int.natAbs ((a).num)) : Nat) : Int), .string (bg (Int.natAbs ((a).num))), .bool (decide (((a).num) < 0)), .int .u64 ((lo ((a).den - 1) : Nat) : Int), .string (bg ((a).den - 1))]) := Lib.hid (by rw [← HW1.out]; exact (Bx.at rfl).alloc _)
  have BX1 : Hid (Bx W1 (w.heap.size + 1) 3 #[.int .i64 (((k : Nat) : Int))]) := Lib.hid (by rw [← HW1.out]; exact Bx.at (by simp))
  have HBW : Hid (Below w.heap.size w W1) := Lib.hid (by rw [← HW1.out]; exact ((Below.refl _ _).alloc (Nat.le_refl _) _).alloc (by simp) _)
  replace HT := Lib.hid (HT.out.gr HBW.out)
  clear HF; have HF := Lib.hid (hp0 W1); clear HW1
  have HZ1 : Hid (rnd (way) ((a) * (((10 ^ k : Nat) : Int) : Rat)) = z) := Lib.hid (HM.out)
  have su1 : wl (Int.natAbs (z)) ≤ 914 := by have e := HZ1.out; first | omega | (rw [← e]; have e1 := wl_rnd (way) ((a) * (((10 ^ k : Nat) : Int) : Rat)); have e2 := sz_mul (a) (((10 ^ k : Nat) : Int) : Rat); have e3 := sz_tenq (k := k) (by omega); omega)
  have lx0 := (BX0.out.gr HF.out.1).cells
  have lx1 := (BX1.out.gr HF.out.1).cells
  refine kS fun K hK => ?_
  refine sq 7 [(true, 0), (true, 1), (true, 2), (true, 3), (true, 4), (true, 5), (true, 6)] fun T hT => ?_
  iterate 3 refine tk ?_
  refine ck Tryz.call239 (fun w' hw => drounded (way) (a) k (z) _ (by omega) (by omega) HZ1.out (by omega) om) ?_
  iterate 3 refine tk ?_
  refine nlS hT HF fun vw1 HG => ?_
  clear hT T HF lx0 lx1
  go_wp2
  refine hK.out _ _ ?_; clear hK K
  show Code.wp _ _ _ _ _
  refine fH ((HG.out).al (b := vw1.heap.size) (by first | rfl | simp) (by decide)) fun Wx1 HF => ?_
  clear HG
  generalize vw1.heap.size = gx3 at *
  refine wp_seq ?_
  refine kS fun K hK => ?_
  refine sq 2 [(true, 0), (true, 1)] fun T hT => ?_
  iterate 2 refine tk ?_
  refine nlS hT HF fun vw2 HG => ?_
  clear hT T HF
  go_wp2
  refine hK.out _ _ ?_; clear hK K
  show Code.wp _ _ _ _ _
  have HF := HG; clear HG
  refine wp_cond_false (by rfl) ?_
  refine wp_skip ?_
  show Code.wp _ _ _ _ _
  have HB := HPb HF
  have lx3 := HF.out.c 0 rfl
  refine kS fun K hK => ?_
  refine sq 3 [(true, 0), (true, 1), (true, 2)] fun T hT => ?_
  refine tk ?_
  refine ck Tryz.call100 (fun w' hw => abs_any (z) _) ?_
  refine ck Tryz.call154 (fun w' hw => nztexts (Int.natAbs (z)) D _ HD.out om (Lib.hid (HT.out.gr (Gr.trans HB.out hw)))) ?_
  refine nlS hT HF fun vw3 HG => ?_
  clear hT T HF lx3 HB
  go_wp2
  refine hK.out _ _ ?_; clear hK K
  show Code.wp _ _ _ _ _
  refine fH ((HG.out).al (b := vw3.heap.size) (by first | rfl | simp) (by decide)) fun Wx4 HF => ?_
  clear HG
  generalize vw3.heap.size = gx4 at *
  refine wp_seq ?_
  have hwk : IntKind.i64.wrap ((k : Int) + 1) = (k : Int) + 1 := by rw [IntKind.wrap_i64]; omega
  have hwc : IntKind.i64.wrap ((k : Int) + 1 - (D.size : Int)) = c := by have e9 := HCC.out; rw [IntKind.wrap_i64]; omega
  have lx4 := HF.out.c 1 rfl
  have lx1 := (BX1.out.gr HF.out.1).cells
  refine kS fun K hK => ?_
  refine sq 6 [(true, 0), (true, 1), (true, 2), (true, 3), (true, 4), (true, 5)] fun T hT => ?_
  iterate 6 refine tk ?_
  refine nlS hT HF fun vw4 HG => ?_
  clear hT T HF lx4 lx1
  go_wp2
  refine hK.out _ _ ?_; clear hK K
  show Code.wp _ _ _ _ _
  have HF := HG; clear HG
  clear hwk hwc
  refine wp_block ?_
  go_loopg [30] c.toNat (fun k iv wr => ∃ (i : Nat) (s : ByteArray), iv = .int .i64 (i : Int) ∧ i + k = c.toNat ∧ Hid (zpad i D = s) ∧ Hid (HP W1 wr [Sum.inl (gx3, 34, #[.int .u64 ((lo (Int.natAbs (z)) : Nat) : Int), .string (bg (Int.natAbs (z))), .bool (decide ((z) < 0))]), Sum.inl (gx4, 9, #[.string s])]))
  case atStart => exact ⟨0, D, rfl, by omega, Lib.hid rfl, HF⟩
  case round =>
    rename_i J_ K_ h1_ h0_
    clear HF
    obtain ⟨i, s, rfl, hik, HS, HF⟩ := hrel
    have hsz : s.size ≤ 200000 := by rw [← HS.out, zpad_size]; omega
    rcases gk with _ | k'
    · have HI : Hid (i = c.toNat) := Lib.hid (by omega)
      obtain rfl : s = DG := by rw [← HS.out, ← HDG.out, HI.out]
      have hlt9 : ¬ ((i : Int) < c) := by omega
      refine kS fun K hK => ?_
      refine sq 1 [(true, 0)] fun T hT => ?_
      refine tk ?_
      refine nlS hT HF fun vw5 HG => ?_
      clear hT T HF
      go_wp2
      refine hK.out _ _ ?_; clear hK K
      show Code.wp _ _ _ _ _
      have HF := HG; clear HG
      clear hlt9
      refine wp_seq ?_
      refine wp_cond_false (by rfl) ?_
      refine wp_exit ?_
      show Code.wp _ _ _ _ _
      refine kS fun K hK => ?_
      refine sq 2 [(true, 0), (true, 1)] fun T hT => ?_
      iterate 2 refine tk ?_
      refine nlS hT HF fun vw6 HG => ?_
      clear hT T HF
      go_wp2
      refine hK.out _ _ ?_; clear hK K
      show Code.wp _ _ _ _ _
      have HF := HG; clear HG
      refine wp_seq ?_
      by_cases hneg : z < 0
      · have HNG := Lib.hid hneg
        have HR : Hid (wrt (⟨#[45]⟩ : ByteArray) s k = r) := Lib.hid (by have e := HRR.out; rwa [if_pos hneg] at e)
        clear hneg
        have htn : t < 0 := by rw [← HTS.out, sgI_lt HNG.out]; decide
        have lx3 := HF.out.c 0 rfl
        refine kS fun K hK => ?_
        refine sq 3 [(true, 0), (true, 1), (true, 2)] fun T hT => ?_
        refine tk ?_
        refine ck Tryz.call101 (fun w' hw => zisign (z) (t) _ (HTS.out)) ?_
        refine tk ?_
        refine nlS hT HF fun vw7 HG => ?_
        clear hT T HF lx3
        go_wp2
        refine hK.out _ _ ?_; clear hK K
        show Code.wp _ _ _ _ _
        refine fH ((HG.out).er 0) fun Wx10 HF => ?_
        clear HG
        clear htn
        refine wp_cond_true (by rfl) ?_
        have HB := HPb HF
        refine kS fun K hK => ?_
        refine sq 4 [(true, 0), (true, 1), (true, 2), (true, 3)] fun T hT => ?_
        refine tk ?_
        refine wpPlan_callV rfl (by rfl) (by rfl) Tryz.call241 (fun w' hw => dtx1 ⟨#[45]⟩ s r k (w.heap.size + 1) gx4 _ (BX1.out.gr (Gr.trans HB.out hw)) ((HF.out.bx 0 rfl).gr hw) HR.out (by omega) (by omega) (by decide)) (by rfl) ?_
        simp only [Act.put, lA, lB, lC]
        iterate 2 refine tk ?_
        refine nlS hT HF fun vw8 HG => ?_
        clear hT T HF HB
        go_wp2
        refine hK.out _ _ ?_; clear hK K
        show Code.wp _ _ _ _ _
        have HF := HG; clear HG
        refine wp_ret ?_
        try simp only [Exit.then, Exit.inBlock]
        exact bodyPost_ret (v := .tuple #[.string r, .int .i64 0]) (by simp [results, Tryz.results170, go_sem]) rfl ⟨rfl, HBW.out.trans (HF.out.1.mono HBW.out.size)⟩
      · have HNG := Lib.hid hneg
        have HR : Hid (wrt (⟨#[]⟩ : ByteArray) s k = r) := Lib.hid (by have e := HRR.out; rwa [if_neg hneg] at e)
        clear hneg
        have htn : ¬ t < 0 := by rw [← HTS.out]; exact sgI_nn HNG.out
        have lx3 := HF.out.c 0 rfl
        refine kS fun K hK => ?_
        refine sq 3 [(true, 0), (true, 1), (true, 2)] fun T hT => ?_
        refine tk ?_
        refine ck Tryz.call101 (fun w' hw => zisign (z) (t) _ (HTS.out)) ?_
        refine tk ?_
        refine nlS hT HF fun vw7 HG => ?_
        clear hT T HF lx3
        go_wp2
        refine hK.out _ _ ?_; clear hK K
        show Code.wp _ _ _ _ _
        refine fH ((HG.out).er 0) fun Wx10 HF => ?_
        clear HG
        clear htn
        refine wp_cond_false (by rfl) ?_
        refine wp_skip ?_
        show Code.wp _ _ _ _ _
        have HB := HPb HF
        refine kS fun K hK => ?_
        refine sq 4 [(true, 0), (true, 1), (true, 2), (true, 3)] fun T hT => ?_
        refine tk ?_
        refine wpPlan_callV rfl (by rfl) (by rfl) Tryz.call241 (fun w' hw => dtx1 ⟨#[]⟩ s r k (w.heap.size + 1) gx4 _ (BX1.out.gr (Gr.trans HB.out hw)) ((HF.out.bx 0 rfl).gr hw) HR.out (by omega) (by omega) (by decide)) (by rfl) ?_
        simp only [Act.put, lA, lB, lC]
        iterate 2 refine tk ?_
        refine nlS hT HF fun vw8 HG => ?_
        clear hT T HF HB
        go_wp2
        refine hK.out _ _ ?_; clear hK K
        show Code.wp _ _ _ _ _
        refine fH ((HG.out).er 0) fun Wx12 HF => ?_
        clear HG
        refine wp_ret ?_
        try simp only [Exit.then, Exit.inBlock]
        exact bodyPost_ret (v := .tuple #[.string r, .int .i64 0]) (by simp [results, Tryz.results170, go_sem]) rfl ⟨rfl, HBW.out.trans (HF.out.1.mono HBW.out.size)⟩
    · obtain ⟨s', HS'⟩ : ∃ q, Hid ((⟨#[48]⟩ : ByteArray) ++ s = q) := ⟨_, Lib.hid rfl⟩
      have hlt9 : (i : Int) < c := by omega
      refine kS fun K hK => ?_
      refine sq 1 [(true, 0)] fun T hT => ?_
      refine tk ?_
      refine nlS hT HF fun vw5 HG => ?_
      clear hT T HF
      go_wp2
      refine hK.out _ _ ?_; clear hK K
      show Code.wp _ _ _ _ _
      have HF := HG; clear HG
      clear hlt9
      refine wp_seq ?_
      refine wp_cond_true (by rfl) ?_
      refine wp_skip ?_
      show Code.wp _ _ _ _ _
      refine wp_seq ?_
      refine wp_block ?_
      have hlen1 : ¬ (9223372036854775807 < 1 + s.size) := by omega
      have hcat1 : (⟨#[48]⟩ : ByteArray) ++ s = s' := HS'.out
      have lx4 := HF.out.c 1 rfl
      refine kL fun K hK => ?_
      refine sq 2 [(true, 0), (true, 1)] fun T hT => ?_
      iterate 2 refine tk ?_
      refine nlS hT HF fun vw6 HG => ?_
      clear hT T HF lx4
      have lx4 := HG.out.c 1 rfl; have fx4 := HG.out.f 1 rfl
      have r0 := Gr.refl vw6
      go_wp2
      refine hK.out _ _ ?_; clear hK K
      show Code.wp _ _ _ _ _
      clear r0 lx4 fx4
      refine fH ((HG.out).put 1 0 _ rfl) fun Wx7 HF => ?_
      clear HG
      clear hlen1 hcat1
      have hwi : IntKind.i64.wrap ((i : Int) + 1) = (i : Int) + 1 := by rw [IntKind.wrap_i64]; omega
      refine kL fun K hK => ?_
      refine sq 2 [(true, 0), (true, 1)] fun T hT => ?_
      iterate 2 refine tk ?_
      refine nlS hT HF fun vw7 HG => ?_
      clear hT T HF
      go_wp2
      refine hK.out _ _ ?_; clear hK K
      try simp only [Exit.then, Exit.inBlock]
      have HF := Lib.hid (HG.out); clear HG
      clear hwi
      refine h0_ _ _ ?_
      go_roundg k'
      case measure => omega
      case rel => exact ⟨i + 1, s', rfl, by omega, Lib.hid (by rw [← HS'.out, ← HS.out]; rfl), Lib.hid (HF.out)⟩

theorem dtext (way : Int) (a : Rat) (k : Nat) (r : ByteArray) (w : World) (hr : dtx (rnd way (a * (((10 ^ k : Nat) : Int) : Rat))) k = r) (hw1 : 1 ≤ way) (hw2 : way ≤ 3) (hk : k ≤ 100) (hs : sz a ≤ 900) (HT : Hid (Tab w)) :
    Calls Tryz.prog 170 #[(Value.agg #[.int .u64 ((lo (Int.natAbs ((a).num)) : Nat) : Int), .string (bg (Int.natAbs ((a).num))), .bool (decide (((a).num) < 0)), .int .u64 ((lo ((a).den - 1) : Nat) : Int), .string (bg ((a).den - 1))]), .int .i64 ((k : Nat) : Int), .int .i64 way] w fun e w' => e = .returned (.tuple #[.string r, .int .i64 0]) ∧ Below w.heap.size w w' := by
  have e1 := wl_rnd way (a * (((10 ^ k : Nat) : Int) : Rat))
  have e2 := sz_mul a (((10 ^ k : Nat) : Int) : Rat)
  have e3 := sz_tenq (k := k) (by omega)
  have e4 := dec_size (n := (rnd way (a * (((10 ^ k : Nat) : Int) : Rat))).natAbs) (k := 914) (by omega)
  have e5 := dig_size (rnd way (a * (((10 ^ k : Nat) : Int) : Rat))).natAbs k
  have e6 := dig_most (rnd way (a * (((10 ^ k : Nat) : Int) : Rat))).natAbs k
  exact dtext0 a k way _ _ _ _ _ r w (Lib.hid rfl) hk hw1 hw2 hs (Lib.hid rfl) (by omega) (Lib.hid rfl) (Lib.hid rfl) (Lib.hid e5) e5 (by unfold dig at e6; omega) (Lib.hid rfl) (Lib.hid hr) HT

end Go.Proofs.YtobojnodohjiaaaGreatDoor
