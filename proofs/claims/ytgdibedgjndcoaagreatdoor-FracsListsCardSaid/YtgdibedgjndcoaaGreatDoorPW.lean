/- A pack of texts: CutS, FParse. No condition but those stated. -/
import Derived.Test.YtgdibedgjndcoaaGreatDoorHp
import Derived.Test.YtgdibedgjndcoaaGreatDoorTextQ
import Derived.Test.YtgdibedgjndcoaaGreatDoorShelf
import Derived.Lib.IndexLaws
import Derived.Test.YtgdibedgjndcoaaGreatDoorPV
import Derived.Test.YtgdibedgjndcoaaGreatDoorPQ
set_option linter.unusedVariables false
set_option linter.unusedSimpArgs false

/- strings.Cut at "/", and its plain part. No condition but those stated. -/
namespace Go.Proofs.YtgdibedgjndcoaaGreatDoor
open Go.RowKit
set_option linter.unusedSimpArgs false
set_option linter.unusedVariables false
/-- where the first slash lies, or -1 -/
def fi (s : ByteArray) : Int := Lib.indexByte s.data.toList 47
def fup (s : ByteArray) : ByteArray := if 0 ≤ fi s then s.extract 0 (fi s).toNat else s
def fdn (s : ByteArray) : ByteArray := if 0 ≤ fi s then s.extract ((fi s).toNat + 1) s.size else ⟨#[]⟩
def ftwo (s : ByteArray) : Bool := decide (0 ≤ fi s)
theorem fi_cases (s : ByteArray) : fi s = -1 ∨ ∃ i : Nat, fi s = (i : Int) ∧ i < s.size := by
  have h := Lib.indexByte_ge s.data.toList 47
  by_cases e : fi s = -1
  · exact .inl e
  · obtain ⟨i, hi⟩ : ∃ i : Nat, fi s = (i : Int) := ⟨(fi s).toNat, by unfold fi at *; omega⟩
    have h2 := (Lib.indexByte_some hi).1
    refine .inr ⟨i, hi, ?_⟩
    have h3 := (List.getElem?_eq_some_iff.1 h2).1
    simpa using h3
theorem fup_size (s : ByteArray) : (fup s).size ≤ s.size := by
  unfold fup; split
  · simp; omega
  · exact Nat.le_refl _
theorem fdn_size (s : ByteArray) : (fdn s).size ≤ s.size := by
  unfold fdn; split
  · simp
  · exact Nat.zero_le _
theorem liteS_cut (s : ByteArray) (w : World) (hs : s.size ≤ 9223372036854775807) :
    Calls Tryz.prog 203 #[.string s, .string ⟨#[47]⟩] w fun e w' => e = .returned (.tuple #[.string (fup s), .string (fdn s), .bool (ftwo s)]) ∧ Below w.heap.size w w' := by
  rcases fi_cases s with h | ⟨i, h, hi⟩
  · have e1 : fup s = s := by unfold fup; rw [if_neg (by omega)]
    have e2 : fdn s = ⟨#[]⟩ := by unfold fdn; rw [if_neg (by omega)]
    have e3 : ftwo s = false := decide_eq_false (by omega)
    rw [e1, e2, e3]
    have H := Lib.hid h
    clear h e1 e2 e3
    go_enter Tryz.func203, Tryz.ntmps203
    go_wp2_with fail
    refine (Tryz.stringslite_Index_one s 47 w).mono ?_
    rintro e w1 ⟨rfl, rfl⟩
    have h2 : Lib.indexByte s.data.toList 47 = -1 := H.out
    rw [h2]
    go_wp2
    exact bodyPost_ret (v := .tuple #[.string s, .string ⟨#[]⟩, .bool false]) (by simp [results, Tryz.results203, go_sem]) rfl ⟨rfl, Below.refl _ _⟩
  · have e1 : fup s = s.extract 0 i := by unfold fup; rw [if_pos (by omega), h]; rfl
    have e2 : fdn s = s.extract (i + 1) s.size := by unfold fdn; rw [if_pos (by omega), h]; rfl
    have e3 : ftwo s = true := decide_eq_true (by omega)
    rw [e1, e2, e3]
    have H := Lib.hid h
    clear h e1 e2 e3
    go_enter Tryz.func203, Tryz.ntmps203
    go_wp2_with fail
    refine (Tryz.stringslite_Index_one s 47 w).mono ?_
    rintro e w1 ⟨rfl, rfl⟩
    have h2 : Lib.indexByte s.data.toList 47 = (i : Int) := H.out
    rw [h2]
    have hw1 : IntKind.i64.wrap ((i : Int) + 1) = ((i + 1 : Nat) : Int) := by rw [IntKind.wrap_i64]; omega
    have hle : (i : Int) ≤ (s.size : Int) := by omega
    have hle2 : ((i + 1 : Nat) : Int) ≤ (s.size : Int) := by omega
    go_wp2
    go_region
    go_wp2
    exact bodyPost_ret (v := .tuple #[.string (s.extract 0 i), .string (s.extract (i + 1) s.size), .bool true]) (by simp [results, Tryz.results203, go_sem]) rfl ⟨rfl, (Below.refl _ _).drew⟩
theorem scut_any (s : ByteArray) (w : World) (hs : s.size ≤ 9223372036854775807) :
    Calls Tryz.prog 144 #[.string s, .string ⟨#[47]⟩] w fun e w' => e = .returned (.tuple #[.string (fup s), .string (fdn s), .bool (ftwo s)]) ∧ Below w.heap.size w w' := by
  go_enter Tryz.func144, Tryz.ntmps144
  go_wp2_with fail
  refine (liteS_cut s w hs).mono ?_
  rintro e w1 ⟨rfl, hb⟩
  have HB := Lib.hid hb
  clear hb
  go_wp2
  exact bodyPost_ret (v := .tuple #[.string (fup s), .string (fdn s), .bool (ftwo s)]) (by simp [results, Tryz.results144, go_sem]) rfl ⟨rfl, HB.out⟩
end Go.Proofs.YtgdibedgjndcoaaGreatDoor


/- fracs.Parse. -/
namespace Go.Proofs.YtgdibedgjndcoaaGreatDoor
open Go.RowKit
set_option linter.unusedSimpArgs false
set_option linter.unusedVariables false
attribute [local go_sem ↓] Go.wp_at_zero Go.wp_at_succ
attribute [local go_sem ↓] eq_nat eq_nat_zero eq_int
theorem zscut (s up dn : ByteArray) (tw : Bool) (w : World) (h1 : fup s = up) (h2 : fdn s = dn) (h3 : ftwo s = tw) (hs : s.size ≤ 9223372036854775807) :
    Calls Tryz.prog 144 #[.string s, .string ⟨#[47]⟩] w fun e w' => e = .returned (.tuple #[.string up, .string dn, .bool tw]) ∧ Below w.heap.size w w' := h1 ▸ h2 ▸ h3 ▸ scut_any s w hs

set_option maxRecDepth 20000 in
set_option maxHeartbeats 4000000 in
theorem fparse_a3 (s up dn : ByteArray) (tw : Bool) (w : World) (HUP : Hid (fup s = up)) (HDN : Hid (fdn s = dn)) (HTW : Hid (ftwo s = tw)) (hs : s.size ≤ 9223372036854775807) (hup : up.size ≤ 9223372036854775807) (hdn : dn.size ≤ 9223372036854775807) (HPC : Hid (icode up = 3)) (HPN : Hid (inum up = 0))  :
    Calls Tryz.prog 86 #[.string s] w fun e w' => e = .returned (.tuple #[(.agg #[.int .u64 ((lo (Int.natAbs (((0 : Rat)).num)) : Nat) : Int), .string (bg (Int.natAbs (((0 : Rat)).num))), .bool (decide ((((0 : Rat)).num) < 0)), .int .u64 ((lo (((0 : Rat)).den - 1) : Nat) : Int), .string (bg (((0 : Rat)).den - 1))]), .int .i64 3]) ∧ Below w.heap.size w w' := by
  go_enter Tryz.func86, Tryz.ntmps86
  have HF := Lib.hid (hp0 w)
  refine kS fun K hK => ?_
  refine wp_region_lit ?_
  go_wp2
  refine hK.out _ _ ?_; clear hK K
  show Code.wp _ _ _ _ _
  refine fH ((HF.out).al (b := w.heap.size) (by first | rfl | simp) (by decide)) fun Wx0 HG => ?_
  clear HF; have HF := HG; clear HG
  refine kS fun K hK => ?_
  refine sq 9 [(true, 0), (true, 1), (true, 2), (true, 3), (true, 4), (true, 5), (true, 6), (true, 7), (true, 8)] fun T hT => ?_
  refine tk ?_
  refine ck Tryz.call144 (fun w' hw => zscut s up dn tw _ HUP.out HDN.out HTW.out (by omega)) ?_
  iterate 7 refine tk ?_
  refine nlS hT HF fun vw1 HG => ?_
  clear hT T HF
  go_wp2
  refine hK.out _ _ ?_; clear hK K
  show Code.wp _ _ _ _ _
  have HF := HG; clear HG
  refine kS fun K hK => ?_
  refine sq 5 [(true, 0), (true, 1), (true, 2), (true, 3), (true, 4)] fun T hT => ?_
  refine tk ?_
  refine ck Tryz.call167 (fun w' hw => ziparse up (0) 3 _ HPN.out HPC.out (by omega)) ?_
  iterate 3 refine tk ?_
  refine nlS hT HF fun vw2 HG => ?_
  clear hT T HF
  go_wp2
  refine hK.out _ _ ?_; clear hK K
  show Code.wp _ _ _ _ _
  refine fH ((HG.out).al (b := vw2.heap.size) (by first | rfl | simp) (by decide)) fun Wx2 HF => ?_
  clear HG
  generalize vw2.heap.size = gx2 at *
  refine wp_seq ?_
  refine kS fun K hK => ?_
  refine sq 6 [(true, 0), (true, 1), (true, 2), (true, 3), (true, 4), (true, 5)] fun T hT => ?_
  iterate 3 refine tk ?_
  iterate 2 refine sk ?_
  refine tk ?_
  refine nlS hT HF fun vw3 HG => ?_
  clear hT T HF
  go_wp2
  refine hK.out _ _ ?_; clear hK K
  show Code.wp _ _ _ _ _
  have HF := HG; clear HG
  refine wp_cond_true (by rfl) ?_
  have HZ1 : Hid (((0 : Int) : Rat) = (0 : Rat)) := Lib.hid (by decide +kernel)
  have su1 : sz ((0 : Rat)) ≤ 1 := sz_of (wl_le.2 (by decide +kernel)) (wl_le.2 (by decide +kernel))
  have lx2 := HF.out.c 1 rfl
  refine kS fun K hK => ?_
  refine sq 3 [(true, 0), (true, 1), (true, 2)] fun T hT => ?_
  refine tk ?_
  refine ck Tryz.call87 (fun w' hw => fwhole_any (0) (0 : Rat) _ HZ1.out) ?_
  refine tk ?_
  refine nlS hT HF fun vw4 HG => ?_
  clear hT T HF lx2
  have lx0 := HG.out.c 0 rfl; have fx0 := HG.out.f 0 rfl
  have r0 := Gr.refl vw4
  go_wp2
  refine hK.out _ _ ?_; clear hK K
  show Code.wp _ _ _ _ _
  clear r0 lx0 fx0
  refine fH ((((HG.out).put2 0 0 rfl).put2 0 2 rfl).put 0 4 _ rfl) fun Wx4 HF => ?_
  clear HG
  refine wp_ret ?_
  try simp only [Exit.then, Exit.inBlock]
  have lx0 := HF.out.c 0 rfl
  have r0 := Gr.refl Wx4
  exact bodyPost_ret (v := .tuple #[(.agg #[.int .u64 ((lo (Int.natAbs (((0 : Rat)).num)) : Nat) : Int), .string (bg (Int.natAbs (((0 : Rat)).num))), .bool (decide ((((0 : Rat)).num) < 0)), .int .u64 ((lo (((0 : Rat)).den - 1) : Nat) : Int), .string (bg (((0 : Rat)).den - 1))]), .int .i64 3]) (by simp [results, Tryz.results86, go_sem, lx0 _ r0]) rfl ⟨rfl, HF.out.1⟩

set_option maxRecDepth 20000 in
set_option maxHeartbeats 4000000 in
theorem fparse_a4 (s up dn : ByteArray) (tw : Bool) (w : World) (HUP : Hid (fup s = up)) (HDN : Hid (fdn s = dn)) (HTW : Hid (ftwo s = tw)) (hs : s.size ≤ 9223372036854775807) (hup : up.size ≤ 9223372036854775807) (hdn : dn.size ≤ 9223372036854775807) (HPC : Hid (icode up = 4)) (HPN : Hid (inum up = 0))  :
    Calls Tryz.prog 86 #[.string s] w fun e w' => e = .returned (.tuple #[(.agg #[.int .u64 ((lo (Int.natAbs (((0 : Rat)).num)) : Nat) : Int), .string (bg (Int.natAbs (((0 : Rat)).num))), .bool (decide ((((0 : Rat)).num) < 0)), .int .u64 ((lo (((0 : Rat)).den - 1) : Nat) : Int), .string (bg (((0 : Rat)).den - 1))]), .int .i64 4]) ∧ Below w.heap.size w w' := by
  go_enter Tryz.func86, Tryz.ntmps86
  have HF := Lib.hid (hp0 w)
  refine kS fun K hK => ?_
  refine wp_region_lit ?_
  go_wp2
  refine hK.out _ _ ?_; clear hK K
  show Code.wp _ _ _ _ _
  refine fH ((HF.out).al (b := w.heap.size) (by first | rfl | simp) (by decide)) fun Wx0 HG => ?_
  clear HF; have HF := HG; clear HG
  refine kS fun K hK => ?_
  refine sq 9 [(true, 0), (true, 1), (true, 2), (true, 3), (true, 4), (true, 5), (true, 6), (true, 7), (true, 8)] fun T hT => ?_
  refine tk ?_
  refine ck Tryz.call144 (fun w' hw => zscut s up dn tw _ HUP.out HDN.out HTW.out (by omega)) ?_
  iterate 7 refine tk ?_
  refine nlS hT HF fun vw1 HG => ?_
  clear hT T HF
  go_wp2
  refine hK.out _ _ ?_; clear hK K
  show Code.wp _ _ _ _ _
  have HF := HG; clear HG
  refine kS fun K hK => ?_
  refine sq 5 [(true, 0), (true, 1), (true, 2), (true, 3), (true, 4)] fun T hT => ?_
  refine tk ?_
  refine ck Tryz.call167 (fun w' hw => ziparse up (0) 4 _ HPN.out HPC.out (by omega)) ?_
  iterate 3 refine tk ?_
  refine nlS hT HF fun vw2 HG => ?_
  clear hT T HF
  go_wp2
  refine hK.out _ _ ?_; clear hK K
  show Code.wp _ _ _ _ _
  refine fH ((HG.out).al (b := vw2.heap.size) (by first | rfl | simp) (by decide)) fun Wx2 HF => ?_
  clear HG
  generalize vw2.heap.size = gx2 at *
  refine wp_seq ?_
  refine kS fun K hK => ?_
  refine sq 6 [(true, 0), (true, 1), (true, 2), (true, 3), (true, 4), (true, 5)] fun T hT => ?_
  iterate 3 refine tk ?_
  iterate 2 refine sk ?_
  refine tk ?_
  refine nlS hT HF fun vw3 HG => ?_
  clear hT T HF
  go_wp2
  refine hK.out _ _ ?_; clear hK K
  show Code.wp _ _ _ _ _
  have HF := HG; clear HG
  refine wp_cond_true (by rfl) ?_
  have HZ1 : Hid (((0 : Int) : Rat) = (0 : Rat)) := Lib.hid (by decide +kernel)
  have su1 : sz ((0 : Rat)) ≤ 1 := sz_of (wl_le.2 (by decide +kernel)) (wl_le.2 (by decide +kernel))
  have lx2 := HF.out.c 1 rfl
  refine kS fun K hK => ?_
  refine sq 3 [(true, 0), (true, 1), (true, 2)] fun T hT => ?_
  refine tk ?_
  refine ck Tryz.call87 (fun w' hw => fwhole_any (0) (0 : Rat) _ HZ1.out) ?_
  refine tk ?_
  refine nlS hT HF fun vw4 HG => ?_
  clear hT T HF lx2
  have lx0 := HG.out.c 0 rfl; have fx0 := HG.out.f 0 rfl
  have r0 := Gr.refl vw4
  go_wp2
  refine hK.out _ _ ?_; clear hK K
  show Code.wp _ _ _ _ _
  clear r0 lx0 fx0
  refine fH ((((HG.out).put2 0 0 rfl).put2 0 2 rfl).put 0 4 _ rfl) fun Wx4 HF => ?_
  clear HG
  refine wp_ret ?_
  try simp only [Exit.then, Exit.inBlock]
  have lx0 := HF.out.c 0 rfl
  have r0 := Gr.refl Wx4
  exact bodyPost_ret (v := .tuple #[(.agg #[.int .u64 ((lo (Int.natAbs (((0 : Rat)).num)) : Nat) : Int), .string (bg (Int.natAbs (((0 : Rat)).num))), .bool (decide ((((0 : Rat)).num) < 0)), .int .u64 ((lo (((0 : Rat)).den - 1) : Nat) : Int), .string (bg (((0 : Rat)).den - 1))]), .int .i64 4]) (by simp [results, Tryz.results86, go_sem, lx0 _ r0]) rfl ⟨rfl, HF.out.1⟩

set_option maxRecDepth 20000 in
set_option maxHeartbeats 4000000 in
theorem fparse_b (s up dn : ByteArray) (a : Int) (z : Rat) (w : World) (HUP : Hid (fup s = up)) (HDN : Hid (fdn s = dn)) (HTW : Hid (ftwo s = false)) (hs : s.size ≤ 9223372036854775807) (hup : up.size ≤ 9223372036854775807) (hdn : dn.size ≤ 9223372036854775807) (HPC : Hid (icode up = 0)) (HPN : Hid (inum up = a)) (hwa : wl (Int.natAbs a) ≤ 600) (HZ : Hid (((a : Int) : Rat) = z))  :
    Calls Tryz.prog 86 #[.string s] w fun e w' => e = .returned (.tuple #[(.agg #[.int .u64 ((lo (Int.natAbs ((z).num)) : Nat) : Int), .string (bg (Int.natAbs ((z).num))), .bool (decide (((z).num) < 0)), .int .u64 ((lo ((z).den - 1) : Nat) : Int), .string (bg ((z).den - 1))]), .int .i64 0]) ∧ Below w.heap.size w w' := by
  go_enter Tryz.func86, Tryz.ntmps86
  have HF := Lib.hid (hp0 w)
  refine kS fun K hK => ?_
  refine wp_region_lit ?_
  go_wp2
  refine hK.out _ _ ?_; clear hK K
  show Code.wp _ _ _ _ _
  refine fH ((HF.out).al (b := w.heap.size) (by first | rfl | simp) (by decide)) fun Wx0 HG => ?_
  clear HF; have HF := HG; clear HG
  refine kS fun K hK => ?_
  refine sq 9 [(true, 0), (true, 1), (true, 2), (true, 3), (true, 4), (true, 5), (true, 6), (true, 7), (true, 8)] fun T hT => ?_
  refine tk ?_
  refine ck Tryz.call144 (fun w' hw => zscut s up dn false _ HUP.out HDN.out HTW.out (by omega)) ?_
  iterate 7 refine tk ?_
  refine nlS hT HF fun vw1 HG => ?_
  clear hT T HF
  go_wp2
  refine hK.out _ _ ?_; clear hK K
  show Code.wp _ _ _ _ _
  have HF := HG; clear HG
  refine kS fun K hK => ?_
  refine sq 5 [(true, 0), (true, 1), (true, 2), (true, 3), (true, 4)] fun T hT => ?_
  refine tk ?_
  refine ck Tryz.call167 (fun w' hw => ziparse up (a) 0 _ HPN.out HPC.out (by omega)) ?_
  iterate 3 refine tk ?_
  refine nlS hT HF fun vw2 HG => ?_
  clear hT T HF
  go_wp2
  refine hK.out _ _ ?_; clear hK K
  show Code.wp _ _ _ _ _
  refine fH ((HG.out).al (b := vw2.heap.size) (by first | rfl | simp) (by decide)) fun Wx2 HF => ?_
  clear HG
  generalize vw2.heap.size = gx2 at *
  refine wp_seq ?_
  refine kS fun K hK => ?_
  refine sq 6 [(true, 0), (true, 1), (true, 2), (true, 3), (true, 4), (true, 5)] fun T hT => ?_
  iterate 6 refine tk ?_
  refine nlS hT HF fun vw3 HG => ?_
  clear hT T HF
  go_wp2
  refine hK.out _ _ ?_; clear hK K
  show Code.wp _ _ _ _ _
  have HF := HG; clear HG
  refine wp_cond_true (by rfl) ?_
  have HZ1 : Hid (((a : Int) : Rat) = z) := Lib.hid (HZ.out)
  have su1 : sz (z) ≤ 600 := by have e := HZ1.out; first | omega | (rw [← e]; rw [sz_int]; omega)
  have lx2 := HF.out.c 1 rfl
  refine kS fun K hK => ?_
  refine sq 3 [(true, 0), (true, 1), (true, 2)] fun T hT => ?_
  refine tk ?_
  refine ck Tryz.call87 (fun w' hw => fwhole_any (a) (z) _ HZ1.out) ?_
  refine tk ?_
  refine nlS hT HF fun vw4 HG => ?_
  clear hT T HF lx2
  have lx0 := HG.out.c 0 rfl; have fx0 := HG.out.f 0 rfl
  have r0 := Gr.refl vw4
  go_wp2
  refine hK.out _ _ ?_; clear hK K
  show Code.wp _ _ _ _ _
  clear r0 lx0 fx0
  refine fH ((((HG.out).put2 0 0 rfl).put2 0 2 rfl).put 0 4 _ rfl) fun Wx4 HF => ?_
  clear HG
  refine wp_ret ?_
  try simp only [Exit.then, Exit.inBlock]
  have lx0 := HF.out.c 0 rfl
  have r0 := Gr.refl Wx4
  exact bodyPost_ret (v := .tuple #[(.agg #[.int .u64 ((lo (Int.natAbs ((z).num)) : Nat) : Int), .string (bg (Int.natAbs ((z).num))), .bool (decide (((z).num) < 0)), .int .u64 ((lo ((z).den - 1) : Nat) : Int), .string (bg ((z).den - 1))]), .int .i64 0]) (by simp [results, Tryz.results86, go_sem, lx0 _ r0]) rfl ⟨rfl, HF.out.1⟩

set_option maxRecDepth 20000 in
set_option maxHeartbeats 4000000 in
theorem fparse_c3 (s up dn : ByteArray) (a : Int) (w : World) (HUP : Hid (fup s = up)) (HDN : Hid (fdn s = dn)) (HTW : Hid (ftwo s = true)) (hs : s.size ≤ 9223372036854775807) (hup : up.size ≤ 9223372036854775807) (hdn : dn.size ≤ 9223372036854775807) (HPC : Hid (icode up = 0)) (HPN : Hid (inum up = a)) (hwa : wl (Int.natAbs a) ≤ 600) (HQC : Hid (pcode dn = 3)) (HQN : Hid (pnum dn = 0))  :
    Calls Tryz.prog 86 #[.string s] w fun e w' => e = .returned ((.tuple #[(.agg #[.int .u64 0, .string ⟨#[]⟩, .bool false, .int .u64 0, .string ⟨#[]⟩]), .int .i64 3])) ∧ Below w.heap.size w w' := by
  go_enter Tryz.func86, Tryz.ntmps86
  have HF := Lib.hid (hp0 w)
  refine kS fun K hK => ?_
  refine wp_region_lit ?_
  go_wp2
  refine hK.out _ _ ?_; clear hK K
  show Code.wp _ _ _ _ _
  refine fH ((HF.out).al (b := w.heap.size) (by first | rfl | simp) (by decide)) fun Wx0 HG => ?_
  clear HF; have HF := HG; clear HG
  refine kS fun K hK => ?_
  refine sq 9 [(true, 0), (true, 1), (true, 2), (true, 3), (true, 4), (true, 5), (true, 6), (true, 7), (true, 8)] fun T hT => ?_
  refine tk ?_
  refine ck Tryz.call144 (fun w' hw => zscut s up dn true _ HUP.out HDN.out HTW.out (by omega)) ?_
  iterate 7 refine tk ?_
  refine nlS hT HF fun vw1 HG => ?_
  clear hT T HF
  go_wp2
  refine hK.out _ _ ?_; clear hK K
  show Code.wp _ _ _ _ _
  have HF := HG; clear HG
  refine kS fun K hK => ?_
  refine sq 5 [(true, 0), (true, 1), (true, 2), (true, 3), (true, 4)] fun T hT => ?_
  refine tk ?_
  refine ck Tryz.call167 (fun w' hw => ziparse up (a) 0 _ HPN.out HPC.out (by omega)) ?_
  iterate 3 refine tk ?_
  refine nlS hT HF fun vw2 HG => ?_
  clear hT T HF
  go_wp2
  refine hK.out _ _ ?_; clear hK K
  show Code.wp _ _ _ _ _
  refine fH ((HG.out).al (b := vw2.heap.size) (by first | rfl | simp) (by decide)) fun Wx2 HF => ?_
  clear HG
  generalize vw2.heap.size = gx2 at *
  refine wp_seq ?_
  refine kS fun K hK => ?_
  refine sq 6 [(true, 0), (true, 1), (true, 2), (true, 3), (true, 4), (true, 5)] fun T hT => ?_
  iterate 6 refine tk ?_
  refine nlS hT HF fun vw3 HG => ?_
  clear hT T HF
  go_wp2
  refine hK.out _ _ ?_; clear hK K
  show Code.wp _ _ _ _ _
  have HF := HG; clear HG
  refine wp_cond_false (by rfl) ?_
  refine wp_skip ?_
  show Code.wp _ _ _ _ _
  refine kS fun K hK => ?_
  refine sq 5 [(true, 0), (true, 1), (true, 2), (true, 3), (true, 4)] fun T hT => ?_
  refine tk ?_
  refine ck Tryz.call145 (fun w' hw => nzparse dn 0 3 _ HQN.out HQC.out (by omega)) ?_
  iterate 3 refine tk ?_
  refine nlS hT HF fun vw4 HG => ?_
  clear hT T HF
  go_wp2
  refine hK.out _ _ ?_; clear hK K
  show Code.wp _ _ _ _ _
  refine fH ((HG.out).al (b := vw4.heap.size) (by first | rfl | simp) (by decide)) fun Wx5 HF => ?_
  clear HG
  generalize vw4.heap.size = gx3 at *
  refine wp_seq ?_
  refine kS fun K hK => ?_
  refine sq 2 [(true, 0), (true, 1)] fun T hT => ?_
  iterate 2 refine tk ?_
  refine nlS hT HF fun vw5 HG => ?_
  clear hT T HF
  go_wp2
  refine hK.out _ _ ?_; clear hK K
  show Code.wp _ _ _ _ _
  have HF := HG; clear HG
  refine wp_cond_true (by rfl) ?_
  refine kS fun K hK => ?_
  refine sq 2 [(true, 0), (true, 1)] fun T hT => ?_
  iterate 2 refine tk ?_
  refine nlS hT HF fun vw6 HG => ?_
  clear hT T HF
  have lx0 := HG.out.c 0 rfl; have fx0 := HG.out.f 0 rfl
  have r0 := Gr.refl vw6
  go_wp2
  refine hK.out _ _ ?_; clear hK K
  show Code.wp _ _ _ _ _
  clear r0 lx0 fx0
  refine fH ((((HG.out).put2 0 0 rfl).put2 0 2 rfl).put 0 4 _ rfl) fun Wx7 HF => ?_
  clear HG
  refine wp_ret ?_
  try simp only [Exit.then, Exit.inBlock]
  have lx0 := HF.out.c 0 rfl
  have r0 := Gr.refl Wx7
  exact bodyPost_ret (v := .tuple #[(.agg #[.int .u64 0, .string ⟨#[]⟩, .bool false, .int .u64 0, .string ⟨#[]⟩]), .int .i64 3]) (by simp [results, Tryz.results86, go_sem, lx0 _ r0]) rfl ⟨rfl, HF.out.1⟩

set_option maxRecDepth 20000 in
set_option maxHeartbeats 4000000 in
theorem fparse_c4 (s up dn : ByteArray) (a : Int) (w : World) (HUP : Hid (fup s = up)) (HDN : Hid (fdn s = dn)) (HTW : Hid (ftwo s = true)) (hs : s.size ≤ 9223372036854775807) (hup : up.size ≤ 9223372036854775807) (hdn : dn.size ≤ 9223372036854775807) (HPC : Hid (icode up = 0)) (HPN : Hid (inum up = a)) (hwa : wl (Int.natAbs a) ≤ 600) (HQC : Hid (pcode dn = 4)) (HQN : Hid (pnum dn = 0))  :
    Calls Tryz.prog 86 #[.string s] w fun e w' => e = .returned ((.tuple #[(.agg #[.int .u64 0, .string ⟨#[]⟩, .bool false, .int .u64 0, .string ⟨#[]⟩]), .int .i64 4])) ∧ Below w.heap.size w w' := by
  go_enter Tryz.func86, Tryz.ntmps86
  have HF := Lib.hid (hp0 w)
  refine kS fun K hK => ?_
  refine wp_region_lit ?_
  go_wp2
  refine hK.out _ _ ?_; clear hK K
  show Code.wp _ _ _ _ _
  refine fH ((HF.out).al (b := w.heap.size) (by first | rfl | simp) (by decide)) fun Wx0 HG => ?_
  clear HF; have HF := HG; clear HG
  refine kS fun K hK => ?_
  refine sq 9 [(true, 0), (true, 1), (true, 2), (true, 3), (true, 4), (true, 5), (true, 6), (true, 7), (true, 8)] fun T hT => ?_
  refine tk ?_
  refine ck Tryz.call144 (fun w' hw => zscut s up dn true _ HUP.out HDN.out HTW.out (by omega)) ?_
  iterate 7 refine tk ?_
  refine nlS hT HF fun vw1 HG => ?_
  clear hT T HF
  go_wp2
  refine hK.out _ _ ?_; clear hK K
  show Code.wp _ _ _ _ _
  have HF := HG; clear HG
  refine kS fun K hK => ?_
  refine sq 5 [(true, 0), (true, 1), (true, 2), (true, 3), (true, 4)] fun T hT => ?_
  refine tk ?_
  refine ck Tryz.call167 (fun w' hw => ziparse up (a) 0 _ HPN.out HPC.out (by omega)) ?_
  iterate 3 refine tk ?_
  refine nlS hT HF fun vw2 HG => ?_
  clear hT T HF
  go_wp2
  refine hK.out _ _ ?_; clear hK K
  show Code.wp _ _ _ _ _
  refine fH ((HG.out).al (b := vw2.heap.size) (by first | rfl | simp) (by decide)) fun Wx2 HF => ?_
  clear HG
  generalize vw2.heap.size = gx2 at *
  refine wp_seq ?_
  refine kS fun K hK => ?_
  refine sq 6 [(true, 0), (true, 1), (true, 2), (true, 3), (true, 4), (true, 5)] fun T hT => ?_
  iterate 6 refine tk ?_
  refine nlS hT HF fun vw3 HG => ?_
  clear hT T HF
  go_wp2
  refine hK.out _ _ ?_; clear hK K
  show Code.wp _ _ _ _ _
  have HF := HG; clear HG
  refine wp_cond_false (by rfl) ?_
  refine wp_skip ?_
  show Code.wp _ _ _ _ _
  refine kS fun K hK => ?_
  refine sq 5 [(true, 0), (true, 1), (true, 2), (true, 3), (true, 4)] fun T hT => ?_
  refine tk ?_
  refine ck Tryz.call145 (fun w' hw => nzparse dn 0 4 _ HQN.out HQC.out (by omega)) ?_
  iterate 3 refine tk ?_
  refine nlS hT HF fun vw4 HG => ?_
  clear hT T HF
  go_wp2
  refine hK.out _ _ ?_; clear hK K
  show Code.wp _ _ _ _ _
  refine fH ((HG.out).al (b := vw4.heap.size) (by first | rfl | simp) (by decide)) fun Wx5 HF => ?_
  clear HG
  generalize vw4.heap.size = gx3 at *
  refine wp_seq ?_
  refine kS fun K hK => ?_
  refine sq 2 [(true, 0), (true, 1)] fun T hT => ?_
  iterate 2 refine tk ?_
  refine nlS hT HF fun vw5 HG => ?_
  clear hT T HF
  go_wp2
  refine hK.out _ _ ?_; clear hK K
  show Code.wp _ _ _ _ _
  have HF := HG; clear HG
  refine wp_cond_true (by rfl) ?_
  refine kS fun K hK => ?_
  refine sq 2 [(true, 0), (true, 1)] fun T hT => ?_
  iterate 2 refine tk ?_
  refine nlS hT HF fun vw6 HG => ?_
  clear hT T HF
  have lx0 := HG.out.c 0 rfl; have fx0 := HG.out.f 0 rfl
  have r0 := Gr.refl vw6
  go_wp2
  refine hK.out _ _ ?_; clear hK K
  show Code.wp _ _ _ _ _
  clear r0 lx0 fx0
  refine fH ((((HG.out).put2 0 0 rfl).put2 0 2 rfl).put 0 4 _ rfl) fun Wx7 HF => ?_
  clear HG
  refine wp_ret ?_
  try simp only [Exit.then, Exit.inBlock]
  have lx0 := HF.out.c 0 rfl
  have r0 := Gr.refl Wx7
  exact bodyPost_ret (v := .tuple #[(.agg #[.int .u64 0, .string ⟨#[]⟩, .bool false, .int .u64 0, .string ⟨#[]⟩]), .int .i64 4]) (by simp [results, Tryz.results86, go_sem, lx0 _ r0]) rfl ⟨rfl, HF.out.1⟩

set_option maxRecDepth 20000 in
set_option maxHeartbeats 4000000 in
theorem fparse_d (s up dn : ByteArray) (a : Int) (w : World) (HUP : Hid (fup s = up)) (HDN : Hid (fdn s = dn)) (HTW : Hid (ftwo s = true)) (hs : s.size ≤ 9223372036854775807) (hup : up.size ≤ 9223372036854775807) (hdn : dn.size ≤ 9223372036854775807) (HPC : Hid (icode up = 0)) (HPN : Hid (inum up = a)) (hwa : wl (Int.natAbs a) ≤ 600) (HQC : Hid (pcode dn = 0)) (HQN : Hid (pnum dn = 0))  :
    Calls Tryz.prog 86 #[.string s] w fun e w' => e = .returned (.tuple #[(.agg #[.int .u64 ((lo (Int.natAbs (((0 : Rat)).num)) : Nat) : Int), .string (bg (Int.natAbs (((0 : Rat)).num))), .bool (decide ((((0 : Rat)).num) < 0)), .int .u64 ((lo (((0 : Rat)).den - 1) : Nat) : Int), .string (bg (((0 : Rat)).den - 1))]), .int .i64 5]) ∧ Below w.heap.size w w' := by
  go_enter Tryz.func86, Tryz.ntmps86
  have HF := Lib.hid (hp0 w)
  refine kS fun K hK => ?_
  refine wp_region_lit ?_
  go_wp2
  refine hK.out _ _ ?_; clear hK K
  show Code.wp _ _ _ _ _
  refine fH ((HF.out).al (b := w.heap.size) (by first | rfl | simp) (by decide)) fun Wx0 HG => ?_
  clear HF; have HF := HG; clear HG
  refine kS fun K hK => ?_
  refine sq 9 [(true, 0), (true, 1), (true, 2), (true, 3), (true, 4), (true, 5), (true, 6), (true, 7), (true, 8)] fun T hT => ?_
  refine tk ?_
  refine ck Tryz.call144 (fun w' hw => zscut s up dn true _ HUP.out HDN.out HTW.out (by omega)) ?_
  iterate 7 refine tk ?_
  refine nlS hT HF fun vw1 HG => ?_
  clear hT T HF
  go_wp2
  refine hK.out _ _ ?_; clear hK K
  show Code.wp _ _ _ _ _
  have HF := HG; clear HG
  refine kS fun K hK => ?_
  refine sq 5 [(true, 0), (true, 1), (true, 2), (true, 3), (true, 4)] fun T hT => ?_
  refine tk ?_
  refine ck Tryz.call167 (fun w' hw => ziparse up (a) 0 _ HPN.out HPC.out (by omega)) ?_
  iterate 3 refine tk ?_
  refine nlS hT HF fun vw2 HG => ?_
  clear hT T HF
  go_wp2
  refine hK.out _ _ ?_; clear hK K
  show Code.wp _ _ _ _ _
  refine fH ((HG.out).al (b := vw2.heap.size) (by first | rfl | simp) (by decide)) fun Wx2 HF => ?_
  clear HG
  generalize vw2.heap.size = gx2 at *
  refine wp_seq ?_
  refine kS fun K hK => ?_
  refine sq 6 [(true, 0), (true, 1), (true, 2), (true, 3), (true, 4), (true, 5)] fun T hT => ?_
  iterate 6 refine tk ?_
  refine nlS hT HF fun vw3 HG => ?_
  clear hT T HF
  go_wp2
  refine hK.out _ _ ?_; clear hK K
  show Code.wp _ _ _ _ _
  have HF := HG; clear HG
  refine wp_cond_false (by rfl) ?_
  refine wp_skip ?_
  show Code.wp _ _ _ _ _
  refine kS fun K hK => ?_
  refine sq 5 [(true, 0), (true, 1), (true, 2), (true, 3), (true, 4)] fun T hT => ?_
  refine tk ?_
  refine ck Tryz.call145 (fun w' hw => nzparse dn 0 0 _ HQN.out HQC.out (by omega)) ?_
  iterate 3 refine tk ?_
  refine nlS hT HF fun vw4 HG => ?_
  clear hT T HF
  go_wp2
  refine hK.out _ _ ?_; clear hK K
  show Code.wp _ _ _ _ _
  refine fH ((HG.out).al (b := vw4.heap.size) (by first | rfl | simp) (by decide)) fun Wx5 HF => ?_
  clear HG
  generalize vw4.heap.size = gx3 at *
  refine wp_seq ?_
  refine kS fun K hK => ?_
  refine sq 2 [(true, 0), (true, 1)] fun T hT => ?_
  iterate 2 refine tk ?_
  refine nlS hT HF fun vw5 HG => ?_
  clear hT T HF
  go_wp2
  refine hK.out _ _ ?_; clear hK K
  show Code.wp _ _ _ _ _
  have HF := HG; clear HG
  refine wp_cond_false (by rfl) ?_
  refine wp_skip ?_
  show Code.wp _ _ _ _ _
  have lx2 := HF.out.c 1 rfl
  have lx3 := HF.out.c 2 rfl
  refine kS fun K hK => ?_
  refine sq 5 [(true, 0), (true, 1), (true, 2), (true, 3), (true, 4)] fun T hT => ?_
  iterate 2 refine tk ?_
  refine ck Tryz.call112 (fun w' hw => ffrom_none (a) (0) _ (ok)) ?_
  iterate 2 refine tk ?_
  refine nlS hT HF fun vw6 HG => ?_
  clear hT T HF lx2 lx3
  have lx0 := HG.out.c 0 rfl; have fx0 := HG.out.f 0 rfl
  have r0 := Gr.refl vw6
  go_wp2
  refine hK.out _ _ ?_; clear hK K
  show Code.wp _ _ _ _ _
  clear r0 lx0 fx0
  refine fH ((((((HG.out).put2 0 0 rfl).put2 0 2 rfl).put 0 4 _ rfl).er 2).er 1) fun Wx8 HF => ?_
  clear HG
  refine wp_ret ?_
  try simp only [Exit.then, Exit.inBlock]
  have lx0 := HF.out.c 0 rfl
  have r0 := Gr.refl Wx8
  exact bodyPost_ret (v := .tuple #[(.agg #[.int .u64 ((lo (Int.natAbs (((0 : Rat)).num)) : Nat) : Int), .string (bg (Int.natAbs (((0 : Rat)).num))), .bool (decide ((((0 : Rat)).num) < 0)), .int .u64 ((lo (((0 : Rat)).den - 1) : Nat) : Int), .string (bg (((0 : Rat)).den - 1))]), .int .i64 5]) (by simp [results, Tryz.results86, go_sem, lx0 _ r0]) rfl ⟨rfl, HF.out.1⟩

set_option maxRecDepth 20000 in
set_option maxHeartbeats 4000000 in
theorem fparse_e (s up dn : ByteArray) (a : Int) (n : Nat) (z : Rat) (w : World) (HUP : Hid (fup s = up)) (HDN : Hid (fdn s = dn)) (HTW : Hid (ftwo s = true)) (hs : s.size ≤ 9223372036854775807) (hup : up.size ≤ 9223372036854775807) (hdn : dn.size ≤ 9223372036854775807) (HPC : Hid (icode up = 0)) (HPN : Hid (inum up = a)) (hwa : wl (Int.natAbs a) ≤ 600) (HQC : Hid (pcode dn = 0)) (HQN : Hid (pnum dn = n)) (hn0 : 0 < n) (hwn : wl n ≤ 600) (HZ : Hid (mkRat a n = z))  :
    Calls Tryz.prog 86 #[.string s] w fun e w' => e = .returned (.tuple #[(.agg #[.int .u64 ((lo (Int.natAbs ((z).num)) : Nat) : Int), .string (bg (Int.natAbs ((z).num))), .bool (decide (((z).num) < 0)), .int .u64 ((lo ((z).den - 1) : Nat) : Int), .string (bg ((z).den - 1))]), .int .i64 0]) ∧ Below w.heap.size w w' := by
  go_enter Tryz.func86, Tryz.ntmps86
  have HF := Lib.hid (hp0 w)
  refine kS fun K hK => ?_
  refine wp_region_lit ?_
  go_wp2
  refine hK.out _ _ ?_; clear hK K
  show Code.wp _ _ _ _ _
  refine fH ((HF.out).al (b := w.heap.size) (by first | rfl | simp) (by decide)) fun Wx0 HG => ?_
  clear HF; have HF := HG; clear HG
  refine kS fun K hK => ?_
  refine sq 9 [(true, 0), (true, 1), (true, 2), (true, 3), (true, 4), (true, 5), (true, 6), (true, 7), (true, 8)] fun T hT => ?_
  refine tk ?_
  refine ck Tryz.call144 (fun w' hw => zscut s up dn true _ HUP.out HDN.out HTW.out (by omega)) ?_
  iterate 7 refine tk ?_
  refine nlS hT HF fun vw1 HG => ?_
  clear hT T HF
  go_wp2
  refine hK.out _ _ ?_; clear hK K
  show Code.wp _ _ _ _ _
  have HF := HG; clear HG
  refine kS fun K hK => ?_
  refine sq 5 [(true, 0), (true, 1), (true, 2), (true, 3), (true, 4)] fun T hT => ?_
  refine tk ?_
  refine ck Tryz.call167 (fun w' hw => ziparse up (a) 0 _ HPN.out HPC.out (by omega)) ?_
  iterate 3 refine tk ?_
  refine nlS hT HF fun vw2 HG => ?_
  clear hT T HF
  go_wp2
  refine hK.out _ _ ?_; clear hK K
  show Code.wp _ _ _ _ _
  refine fH ((HG.out).al (b := vw2.heap.size) (by first | rfl | simp) (by decide)) fun Wx2 HF => ?_
  clear HG
  generalize vw2.heap.size = gx2 at *
  refine wp_seq ?_
  refine kS fun K hK => ?_
  refine sq 6 [(true, 0), (true, 1), (true, 2), (true, 3), (true, 4), (true, 5)] fun T hT => ?_
  iterate 6 refine tk ?_
  refine nlS hT HF fun vw3 HG => ?_
  clear hT T HF
  go_wp2
  refine hK.out _ _ ?_; clear hK K
  show Code.wp _ _ _ _ _
  have HF := HG; clear HG
  refine wp_cond_false (by rfl) ?_
  refine wp_skip ?_
  show Code.wp _ _ _ _ _
  refine kS fun K hK => ?_
  refine sq 5 [(true, 0), (true, 1), (true, 2), (true, 3), (true, 4)] fun T hT => ?_
  refine tk ?_
  refine ck Tryz.call145 (fun w' hw => nzparse dn n 0 _ HQN.out HQC.out (by omega)) ?_
  iterate 3 refine tk ?_
  refine nlS hT HF fun vw4 HG => ?_
  clear hT T HF
  go_wp2
  refine hK.out _ _ ?_; clear hK K
  show Code.wp _ _ _ _ _
  refine fH ((HG.out).al (b := vw4.heap.size) (by first | rfl | simp) (by decide)) fun Wx5 HF => ?_
  clear HG
  generalize vw4.heap.size = gx3 at *
  refine wp_seq ?_
  refine kS fun K hK => ?_
  refine sq 2 [(true, 0), (true, 1)] fun T hT => ?_
  iterate 2 refine tk ?_
  refine nlS hT HF fun vw5 HG => ?_
  clear hT T HF
  go_wp2
  refine hK.out _ _ ?_; clear hK K
  show Code.wp _ _ _ _ _
  have HF := HG; clear HG
  refine wp_cond_false (by rfl) ?_
  refine wp_skip ?_
  show Code.wp _ _ _ _ _
  have HZ1 : Hid (mkRat (a) (n) = z) := Lib.hid (HZ.out)
  have su1 : sz (z) ≤ 600 := by have e := HZ1.out; first | omega | (rw [← e]; exact sz_mkRat (k := 600) om om (by decide))
  have lx2 := HF.out.c 1 rfl
  have lx3 := HF.out.c 2 rfl
  refine kS fun K hK => ?_
  refine sq 5 [(true, 0), (true, 1), (true, 2), (true, 3), (true, 4)] fun T hT => ?_
  iterate 2 refine tk ?_
  refine ck Tryz.call112 (fun w' hw => ffrom_ok (a) (n) (z) _ (Lib.hid HZ1.out) (ok) om om) ?_
  iterate 2 refine tk ?_
  refine nlS hT HF fun vw6 HG => ?_
  clear hT T HF lx2 lx3
  have lx0 := HG.out.c 0 rfl; have fx0 := HG.out.f 0 rfl
  have r0 := Gr.refl vw6
  go_wp2
  refine hK.out _ _ ?_; clear hK K
  show Code.wp _ _ _ _ _
  clear r0 lx0 fx0
  refine fH ((((((HG.out).put2 0 0 rfl).put2 0 2 rfl).put 0 4 _ rfl).er 2).er 1) fun Wx8 HF => ?_
  clear HG
  refine wp_ret ?_
  try simp only [Exit.then, Exit.inBlock]
  have lx0 := HF.out.c 0 rfl
  have r0 := Gr.refl Wx8
  exact bodyPost_ret (v := .tuple #[(.agg #[.int .u64 ((lo (Int.natAbs ((z).num)) : Nat) : Int), .string (bg (Int.natAbs ((z).num))), .bool (decide (((z).num) < 0)), .int .u64 ((lo ((z).den - 1) : Nat) : Int), .string (bg ((z).den - 1))]), .int .i64 0]) (by simp [results, Tryz.results86, go_sem, lx0 _ r0]) rfl ⟨rfl, HF.out.1⟩

/-- the code of a fraction's text, and the fraction -/
def fcode (s : ByteArray) : Int := if icode (fup s) ≠ 0 then icode (fup s) else if ftwo s = false then 0 else if pcode (fdn s) ≠ 0 then pcode (fdn s) else if pnum (fdn s) = 0 then 5 else 0
def fnum (s : ByteArray) : Rat := if icode (fup s) ≠ 0 then 0 else if ftwo s = false then ((inum (fup s) : Int) : Rat) else if pcode (fdn s) ≠ 0 then 0 else mkRat (inum (fup s)) (pnum (fdn s))
theorem pcode_cases2 (s : ByteArray) : (pcode s = 0 ∧ wl (pnum s) ≤ 512 ∧ tw (pnum s) ≤ 1024) ∨ (pcode s = 3 ∧ pnum s = 0) ∨ (pcode s = 4 ∧ pnum s = 0) := by
  by_cases h2 : 4096 < s.size
  · exact .inr (.inl (pcode_limit h2))
  · by_cases h3 : pgood s
    · exact .inl ⟨(pcode_good (by omega) h3).1, wl_le.2 (pnum_bp s 512 rfl), tw_le.2 (pnum_tp s 1024 rfl)⟩
    · exact .inr (.inr (pcode_bad (by omega) h3))
theorem icode_cases2 (s : ByteArray) : (icode s = 0 ∧ wl (inum s).natAbs ≤ 512 ∧ tw (inum s).natAbs ≤ 1024) ∨ (icode s = 3 ∧ inum s = 0) ∨ (icode s = 4 ∧ inum s = 0) := by
  rcases icode_cases s with hc | hc | hc
  · refine .inl ⟨hc, ?_, ?_⟩
    · rw [inum_abs s hc]; exact wl_le.2 (pnum_bp (idig s) 512 rfl)
    · rw [inum_abs s hc]; exact tw_le.2 (pnum_tp (idig s) 1024 rfl)
  · exact .inr (.inl ⟨hc, inum_bad (by rw [hc]; decide)⟩)
  · exact .inr (.inr ⟨hc, inum_bad (by rw [hc]; decide)⟩)
theorem fparse_any (s : ByteArray) (w : World) (hs : s.size ≤ 9223372036854775807) :
    Calls Tryz.prog 86 #[.string s] w fun e w' => e = .returned (.tuple #[(Value.agg #[.int .u64 ((lo (Int.natAbs ((fnum s).num)) : Nat) : Int), .string (bg (Int.natAbs ((fnum s).num))), .bool (decide (((fnum s).num) < 0)), .int .u64 ((lo ((fnum s).den - 1) : Nat) : Int), .string (bg ((fnum s).den - 1))]), .int .i64 (fcode s)]) ∧ Below w.heap.size w w' := by
  have h1 := Nat.le_trans (fup_size s) hs
  have h2 := Nat.le_trans (fdn_size s) hs
  rcases icode_cases2 (fup s) with ⟨hc, hw, _⟩ | ⟨hc, hn⟩ | ⟨hc, hn⟩
  · rcases Bool.eq_false_or_eq_true (ftwo s) with ht | ht
    · rcases pcode_cases2 (fdn s) with ⟨qc, qw, _⟩ | ⟨qc, qn⟩ | ⟨qc, qn⟩
      · by_cases h0 : pnum (fdn s) = 0
        · have e1 : fcode s = 5 := by unfold fcode; simp [hc, ht, qc, h0]
          have e2 : fnum s = 0 := by unfold fnum; simp [hc, ht, qc, h0]
          rw [e1, e2]
          exact fparse_d s _ _ _ w (Lib.hid rfl) (Lib.hid rfl) (Lib.hid ht) hs h1 h2 (Lib.hid hc) (Lib.hid rfl) (by omega) (Lib.hid qc) (Lib.hid h0)
        · have e1 : fcode s = 0 := by unfold fcode; simp [hc, ht, qc, h0]
          have e2 : mkRat (inum (fup s)) (pnum (fdn s)) = fnum s := by unfold fnum; simp [hc, ht, qc]
          rw [e1]
          exact fparse_e s _ _ _ _ _ w (Lib.hid rfl) (Lib.hid rfl) (Lib.hid ht) hs h1 h2 (Lib.hid hc) (Lib.hid rfl) (by omega) (Lib.hid qc) (Lib.hid rfl) (by omega) (by omega) (Lib.hid e2)
      · have e1 : fcode s = 3 := by unfold fcode; simp [hc, ht, qc]
        have e2 : fnum s = 0 := by unfold fnum; simp [hc, ht, qc]
        rw [e1, e2]
        exact fparse_c3 s _ _ _ w (Lib.hid rfl) (Lib.hid rfl) (Lib.hid ht) hs h1 h2 (Lib.hid hc) (Lib.hid rfl) (by omega) (Lib.hid qc) (Lib.hid qn)
      · have e1 : fcode s = 4 := by unfold fcode; simp [hc, ht, qc]
        have e2 : fnum s = 0 := by unfold fnum; simp [hc, ht, qc]
        rw [e1, e2]
        exact fparse_c4 s _ _ _ w (Lib.hid rfl) (Lib.hid rfl) (Lib.hid ht) hs h1 h2 (Lib.hid hc) (Lib.hid rfl) (by omega) (Lib.hid qc) (Lib.hid qn)
    · have e1 : fcode s = 0 := by unfold fcode; simp [hc, ht]
      have e2 : ((inum (fup s) : Int) : Rat) = fnum s := by unfold fnum; simp [hc, ht]
      rw [e1]
      exact fparse_b s _ _ _ _ w (Lib.hid rfl) (Lib.hid rfl) (Lib.hid ht) hs h1 h2 (Lib.hid hc) (Lib.hid rfl) (by omega) (Lib.hid e2)
  · have e1 : fcode s = 3 := by unfold fcode; simp [hc]
    have e2 : fnum s = 0 := by unfold fnum; simp [hc]
    rw [e1, e2]
    exact fparse_a3 s _ _ _ w (Lib.hid rfl) (Lib.hid rfl) (Lib.hid rfl) hs h1 h2 (Lib.hid hc) (Lib.hid hn)
  · have e1 : fcode s = 4 := by unfold fcode; simp [hc]
    have e2 : fnum s = 0 := by unfold fnum; simp [hc]
    rw [e1, e2]
    exact fparse_a4 s _ _ _ w (Lib.hid rfl) (Lib.hid rfl) (Lib.hid rfl) hs h1 h2 (Lib.hid hc) (Lib.hid hn)
theorem zfparse (s : ByteArray) (z : Rat) (c : Int) (w : World) (hz : fnum s = z) (hc : fcode s = c) (hs : s.size ≤ 9223372036854775807) :
    Calls Tryz.prog 86 #[.string s] w fun e w' => e = .returned (.tuple #[(Value.agg #[.int .u64 ((lo (Int.natAbs ((z).num)) : Nat) : Int), .string (bg (Int.natAbs ((z).num))), .bool (decide (((z).num) < 0)), .int .u64 ((lo ((z).den - 1) : Nat) : Int), .string (bg ((z).den - 1))]), .int .i64 c]) ∧ Below w.heap.size w w' := hz ▸ hc ▸ fparse_any s w hs

end Go.Proofs.YtgdibedgjndcoaaGreatDoor
