
/- gussetlaw05: text, of, both, ordered. -/
import Derived.Test.YtaflakcemiilaaaGreatDoorRot2
import Derived.Test.YtaflakcemiilaaaGreatDoorRot3
import Derived.Test.YtaflakcemiilaaaGreatDoorRot4
import Derived.Test.YtaflakcemiilaaaGreatDoorLawQ0
import Derived.Test.YtaflakcemiilaaaGreatDoorHpB
namespace Go.Proofs.YtaflakcemiilaaaGreatDoor
open Go.RowKit
set_option linter.unusedSimpArgs false
set_option linter.unusedVariables false
attribute [local go_sem ↓] Go.wp_at_zero Go.wp_at_succ
attribute [local go_sem ↓] eq_nat eq_nat_zero eq_int
theorem fs0 (w : World) (f : Nat → Rat) : Fs w (.slice none 0 0) 0 f := .inl ⟨_, _, rfl, rfl⟩
def f1_ (a : Rat) : Nat → Rat := fun _ => a
def f2_ (a b : Rat) : Nat → Rat := fun i => if i = 0 then a else b
theorem fs1 {w w' : World} {g : Nat} {a : Rat} (h : Bx w g 36 #[.int .u64 ((lo (Int.natAbs ((a).num)) : Nat) : Int), .string (bg (Int.natAbs ((a).num))), .bool (decide (((a).num) < 0)), .int .u64 ((lo ((a).den - 1) : Nat) : Int), .string (bg ((a).den - 1))]) (hg : Gr w w') : Fs w' (.slice (some ⟨g, 0, none⟩) 1 1) 1 (f1_ a) := by
  have hc := h.cells w' hg
  refine .inr ⟨g, 0, 1, rfl, (h.gr hg).lt, fun i hi j hj => ?_⟩
  obtain rfl : i = 0 := by omega
  have e : 0 + 0 * 5 + j = j := by omega
  rw [e, hc]
  match j, hj with
  | 0, _ => rfl
  | 1, _ => rfl
  | 2, _ => rfl
  | 3, _ => rfl
  | 4, _ => rfl
theorem fs2 {w w' : World} {g : Nat} {a b : Rat} (h : Bx w g 36 #[.int .u64 ((lo (Int.natAbs ((a).num)) : Nat) : Int), .string (bg (Int.natAbs ((a).num))), .bool (decide (((a).num) < 0)), .int .u64 ((lo ((a).den - 1) : Nat) : Int), .string (bg ((a).den - 1)), .int .u64 ((lo (Int.natAbs ((b).num)) : Nat) : Int), .string (bg (Int.natAbs ((b).num))), .bool (decide (((b).num) < 0)), .int .u64 ((lo ((b).den - 1) : Nat) : Int), .string (bg ((b).den - 1))]) (hg : Gr w w') : Fs w' (.slice (some ⟨g, 0, none⟩) 2 2) 2 (f2_ a b) := by
  have hc := h.cells w' hg
  refine .inr ⟨g, 0, 2, rfl, (h.gr hg).lt, fun i hi j hj => ?_⟩
  rcases (show i = 0 ∨ i = 1 by omega) with rfl | rfl
  · have e : 0 + 0 * 5 + j = j := by omega
    rw [e, hc]
    match j, hj with
    | 0, _ => rfl
    | 1, _ => rfl
    | 2, _ => rfl
    | 3, _ => rfl
    | 4, _ => rfl
  · have e : 0 + 1 * 5 + j = 5 + j := by omega
    rw [e, hc]
    match j, hj with
    | 0, _ => rfl
    | 1, _ => rfl
    | 2, _ => rfl
    | 3, _ => rfl
    | 4, _ => rfl
theorem qsum1 (a : Rat) : qsum (f1_ a) 1 = a := by show (0 : Rat) + a = a; rw [Rat.zero_add]
theorem qsum2 (a b z : Rat) (h : a + b = z) : qsum (f2_ a b) 2 = z := by show (0 : Rat) + a + b = z; rw [Rat.zero_add]; exact h
theorem fsz0 (f : Nat → Rat) : ∀ i, i < 0 → sz (f i) ≤ 1000 := fun i hi => absurd hi (Nat.not_lt_zero _)
theorem fsz1 {a : Rat} (h : sz a ≤ 1000) : ∀ i, i < 1 → sz (f1_ a i) ≤ 1000 := fun i hi => h
theorem fsz2 {a b : Rat} (h : sz a ≤ 1000) (h2 : sz b ≤ 1000) : ∀ i, i < 2 → sz (f2_ a b i) ≤ 1000 := fun i hi => by unfold f2_; split <;> assumption

theorem zftext5 (q : Rat) (s : ByteArray) (w : World) (h : ftx q = s) (hs : sz q ≤ 100000) (HT : Hid (Tab w)) :
    Calls Tryz.prog 103 #[(Value.agg #[.int .u64 ((lo (Int.natAbs ((q).num)) : Nat) : Int), .string (bg (Int.natAbs ((q).num))), .bool (decide (((q).num) < 0)), .int .u64 ((lo ((q).den - 1) : Nat) : Int), .string (bg ((q).den - 1))])] w fun e w' => e = .returned (.string s) ∧ Below w.heap.size w w' := h ▸ ftext_any q w hs HT

set_option maxRecDepth 20000 in
set_option maxHeartbeats 4000000 in
theorem ftext5c_any (q : Rat) (s : ByteArray) (b : Bool) (w : World) (HB_ : Hid (((ftx q).toList == s.toList) = b)) (hs : sz q ≤ 100000) (HT : Hid (Tab w)) :
    Calls Tryz.prog 90 #[(Value.agg #[.int .u64 ((lo (Int.natAbs ((q).num)) : Nat) : Int), .string (bg (Int.natAbs ((q).num))), .bool (decide (((q).num) < 0)), .int .u64 ((lo ((q).den - 1) : Nat) : Int), .string (bg ((q).den - 1))]), .string s] w fun e w' => e = .returned ((.bool b)) ∧ Below w.heap.size w w' := by
  go_enter Tryz.func90, Tryz.ntmps90
  have HF := Lib.hid (hp0 w)
  refine kS fun K hK => ?_
  refine wp_region_lit ?_
  go_wp2
  refine hK.out _ _ ?_; clear hK K
  show Code.wp _ _ _ _ _
  refine fH ((HF.out).al (b := w.heap.size) (by first | rfl | simp) (by decide)) fun Wx0 HG => ?_
  clear HF; have HF := HG; clear HG
  have HB := HPb HF
  have hse : ((ftx q).toList == s.toList) = b := HB_.out
  have lx0 := HF.out.c 0 rfl
  refine kS fun K hK => ?_
  refine sq 5 [(true, 0), (true, 1), (true, 2), (true, 3), (true, 4)] fun T hT => ?_
  refine tk ?_
  refine ck Tryz.call103 (fun w' hw => ftext_any (q) _ om (Lib.hid (HT.out.gr (Gr.trans HB.out hw)))) ?_
  iterate 3 refine tk ?_
  refine nlS hT HF fun vw1 HG => ?_
  clear hT T HF lx0 HB
  go_wp2
  refine hK.out _ _ ?_; clear hK K
  show Code.wp _ _ _ _ _
  refine fH ((HG.out).er 0) fun Wx1 HF => ?_
  clear HG
  clear hse
  refine wp_ret ?_
  try simp only [Exit.then, Exit.inBlock]
  exact bodyPost_ret (v := .bool (b)) (by simp [results, Tryz.results90, go_sem]) rfl ⟨rfl, HF.out.1⟩

set_option maxRecDepth 20000 in
set_option maxHeartbeats 4000000 in
theorem of5_any (n d : Int) (z : Rat) (w : World) (HZ : Hid ((n : Rat) / (d : Rat) = z)) (hd : d ≠ 0) (h1 : -9223372036854775808 ≤ n) (h2 : n ≤ 9223372036854775807) (h3 : -9223372036854775808 ≤ d) (h4 : d ≤ 9223372036854775807) :
    Calls Tryz.prog 88 #[.int .i64 (n), .int .i64 (d)] w fun e w' => e = .returned (.agg #[.int .u64 ((lo (Int.natAbs ((z).num)) : Nat) : Int), .string (bg (Int.natAbs ((z).num))), .bool (decide (((z).num) < 0)), .int .u64 ((lo ((z).den - 1) : Nat) : Int), .string (bg ((z).den - 1))]) ∧ Below w.heap.size w w' := by
  go_enter Tryz.func88, Tryz.ntmps88
  have HF := Lib.hid (hp0 w)
  refine kS fun K hK => ?_
  refine wp_region_lit ?_
  go_wp2
  refine hK.out _ _ ?_; clear hK K
  show Code.wp _ _ _ _ _
  refine fH ((HF.out).al (b := w.heap.size) (by first | rfl | simp) (by decide)) fun Wx0 HG => ?_
  clear HF; have HF := HG; clear HG
  have HZ1 : Hid (((n : Int) : Rat) / ((d : Int) : Rat) = z) := Lib.hid (HZ.out)
  have su1 : sz (z) ≤ 4 := by have e := HZ1.out; first | omega | (rw [← e]; exact sz_quot (n) (d) om om om om)
  refine kS fun K hK => ?_
  refine sq 6 [(true, 0), (true, 1), (true, 2), (true, 3), (true, 4), (true, 5)] fun T hT => ?_
  iterate 2 refine tk ?_
  refine ck Tryz.call94 (fun w' hw => fof_any (n) (d) (z) _ HZ1.out (by first | decide | omega) om om om om) ?_
  iterate 3 refine tk ?_
  refine nlS hT HF fun vw1 HG => ?_
  clear hT T HF
  go_wp2
  refine hK.out _ _ ?_; clear hK K
  show Code.wp _ _ _ _ _
  refine fH ((HG.out).al (b := vw1.heap.size) (by first | rfl | simp) (by decide)) fun Wx1 HF => ?_
  clear HG
  generalize vw1.heap.size = gx2 at *
  have lx2 := HF.out.c 1 rfl
  refine kS fun K hK => ?_
  refine sq 1 [(true, 0)] fun T hT => ?_
  refine tk ?_
  refine nlS hT HF fun vw2 HG => ?_
  clear hT T HF lx2
  have lx0 := HG.out.c 0 rfl; have fx0 := HG.out.f 0 rfl
  have r0 := Gr.refl vw2
  go_wp2
  refine hK.out _ _ ?_; clear hK K
  show Code.wp _ _ _ _ _
  clear r0 lx0 fx0
  refine fH (((((HG.out).put2 0 0 rfl).put2 0 2 rfl).put 0 4 _ rfl).er 1) fun Wx2 HF => ?_
  clear HG
  refine wp_ret ?_
  try simp only [Exit.then, Exit.inBlock]
  have lx0 := HF.out.c 0 rfl
  have r0 := Gr.refl Wx2
  exact bodyPost_ret (v := .agg #[.int .u64 ((lo (Int.natAbs ((z).num)) : Nat) : Int), .string (bg (Int.natAbs ((z).num))), .bool (decide (((z).num) < 0)), .int .u64 ((lo ((z).den - 1) : Nat) : Int), .string (bg ((z).den - 1))]) (by simp [results, Tryz.results88, go_sem, lx0 _ r0]) rfl ⟨rfl, HF.out.1⟩

set_option maxRecDepth 20000 in
set_option maxHeartbeats 4000000 in
theorem both5_any (a x y : Rat) (k : Nat) (tx ty t1 r : ByteArray) (w : World) (HA : Hid (0 ≤ a)) (HX : Hid (rlo a k = x)) (HY : Hid (rhi a k = y)) (hk : k ≤ 100) (hs : sz a ≤ 500) (HTX : Hid (ftx x = tx)) (HTY : Hid (ftx y = ty)) (HC1 : Hid (tx ++ (⟨#[32]⟩ : ByteArray) = t1)) (HC2 : Hid (t1 ++ ty = r)) (hz1 : tx.size ≤ 1000000) (hz2 : ty.size ≤ 1000000) (hz3 : t1.size ≤ 1000001) (HT : Hid (Tab w)) :
    Calls Tryz.prog 89 #[(Value.agg #[.int .u64 ((lo (Int.natAbs ((a).num)) : Nat) : Int), .string (bg (Int.natAbs ((a).num))), .bool (decide (((a).num) < 0)), .int .u64 ((lo ((a).den - 1) : Nat) : Int), .string (bg ((a).den - 1))]), .int .i64 (((k : Nat) : Int))] w fun e w' => e = .returned ((.string r)) ∧ Below w.heap.size w w' := by
  go_enter Tryz.func89, Tryz.ntmps89
  have HF := Lib.hid (hp0 w)
  refine kS fun K hK => ?_
  refine wp_region_lit ?_
  go_wp2
  refine hK.out _ _ ?_; clear hK K
  show Code.wp _ _ _ _ _
  refine fH ((HF.out).al (b := w.heap.size) (by first | rfl | simp) (by decide)) fun Wx0 HG => ?_
  clear HF; have HF := HG; clear HG
  have HZ1 : Hid (rlo (a) k = x) := Lib.hid (HX.out)
  have su1 : sz (x) ≤ 510 := by have e := HZ1.out; first | omega | (rw [← e]; exact Nat.le_trans (sz_rlo (by omega) om) (by omega))
  have lx0 := HF.out.c 0 rfl
  refine kS fun K hK => ?_
  refine sq 6 [(true, 0), (true, 1), (true, 2), (true, 3), (true, 4), (true, 5)] fun T hT => ?_
  iterate 2 refine tk ?_
  refine ck Tryz.call23 (fun w' hw => rBelow_ok (a) (x) k _ (Lib.hid (by first | exact ok | exact HA.out)) (Lib.hid HZ1.out) (by omega) om) ?_
  iterate 3 refine tk ?_
  refine nlS hT HF fun vw1 HG => ?_
  clear hT T HF lx0
  go_wp2
  refine hK.out _ _ ?_; clear hK K
  show Code.wp _ _ _ _ _
  refine fH ((HG.out).al (b := vw1.heap.size) (by first | rfl | simp) (by decide)) fun Wx1 HF => ?_
  clear HG
  generalize vw1.heap.size = gx2 at *
  have HZ2 : Hid (rhi (a) k = y) := Lib.hid (HY.out)
  have su2 : sz (y) ≤ 510 := by have e := HZ2.out; first | omega | (rw [← e]; exact Nat.le_trans (sz_rhi (by omega) om) (by omega))
  have lx0 := HF.out.c 0 rfl
  refine kS fun K hK => ?_
  refine sq 6 [(true, 0), (true, 1), (true, 2), (true, 3), (true, 4), (true, 5)] fun T hT => ?_
  iterate 2 refine tk ?_
  refine ck Tryz.call25 (fun w' hw => rAbove_ok (a) (y) k _ (Lib.hid (by first | exact ok | exact HA.out)) (Lib.hid HZ2.out) (by omega) om) ?_
  iterate 3 refine tk ?_
  refine nlS hT HF fun vw2 HG => ?_
  clear hT T HF lx0
  go_wp2
  refine hK.out _ _ ?_; clear hK K
  show Code.wp _ _ _ _ _
  refine fH (((HG.out).al (b := vw2.heap.size) (by first | rfl | simp) (by decide)).er 0) fun Wx2 HF => ?_
  clear HG
  generalize vw2.heap.size = gx3 at *
  have HB := HPb HF
  have hlen1 : ¬ (9223372036854775807 < tx.size + 1) := by omega
  have hcat1 : tx ++ (⟨#[32]⟩ : ByteArray) = t1 := HC1.out
  have hlen2 : ¬ (9223372036854775807 < t1.size + ty.size) := by omega
  have hcat2 : t1 ++ ty = r := HC2.out
  have lx2 := HF.out.c 0 rfl
  have lx3 := HF.out.c 1 rfl
  refine kS fun K hK => ?_
  refine pd 6 [(true, 0), (true, 3), (true, 1), (true, 2), (true, 4), (true, 5)] fun T hT => ?_
  iterate 2 refine tk ?_
  refine ck Tryz.call103 (fun w' hw => zftext5 (x) tx _ HTX.out om (Lib.hid (HT.out.gr (Gr.trans HB.out hw)))) ?_
  refine tk ?_
  refine ck Tryz.call103 (fun w' hw => zftext5 (y) ty _ HTY.out om (Lib.hid (HT.out.gr (Gr.trans HB.out hw)))) ?_
  refine tk ?_
  refine nlD hT HF fun vw3 HG => ?_
  clear hT T HF lx2 lx3 HB
  go_wp2
  refine hK.out _ _ ?_; clear hK K
  show Code.wp _ _ _ _ _
  refine fH (((HG.out).er 1).er 0) fun Wx3 HF => ?_
  clear HG
  clear hlen1 hcat1 hlen2 hcat2
  refine wp_ret ?_
  try simp only [Exit.then, Exit.inBlock]
  exact bodyPost_ret (v := .string r) (by simp [results, Tryz.results89, go_sem]) rfl ⟨rfl, HF.out.1⟩

theorem info_Frac5 : (Tryz.prog.info? 36).map (fun i => (i.zero, i.size, i.bytes)) = some (some (.agg #[.int .u64 0, .string ⟨#[]⟩, .bool false, .int .u64 0, .string ⟨#[]⟩]), 5, 56) := by kernel_rfl

set_option maxRecDepth 20000 in
set_option maxHeartbeats 8000000 in
theorem ordd1_c (a b l : Int) (x y q : Rat) (c : Int) (g : Nat) (w : World) (HX : Hid (((a : Int) : Rat) = x)) (HY : Hid (((b : Int) : Rat) = y)) (ha1 : -1000 ≤ a) (ha2 : a ≤ 1000) (hb1 : -1000 ≤ b) (hb2 : b ≤ 1000) (HXN : Hid (0 ≤ x)) (HYN : Hid (0 ≤ y)) (HLN : Hid (0 ≤ q - (x + y))) (HQ0 : Hid (((l : Int) : Rat) = q)) (hl1 : -1000 ≤ l) (hl2 : l ≤ 1000) (hsq : sz q ≤ 2) (HQN : Hid (0 ≤ q)) (bx9 : Bx w g 2 #[.int .i64 l]) (HC : Hid (sgQ ((4 : Rat) * (x * y) - (q - (x + y)) * (q - (x + y))) = c)) :
    Calls Tryz.prog 91 #[.int .i64 a, .int .i64 b, .slice (some ⟨g, 0, none⟩) 1 1] w fun e w' => e = .returned (.int .i64 c) ∧ Below w.heap.size w w' := by
  have hw1 : IntKind.i64.wrap 1 = 1 := by decide
  obtain ⟨i0, hi, hz0, hz1, hz2⟩ := info_parts info_Frac5
  go_enter Tryz.func91, Tryz.ntmps91
  have HF := Lib.hid (hp0 w)
  have BX9 := Lib.hid bx9; clear bx9
  refine kS fun K hK => ?_
  refine wp_region_lit ?_
  go_wp2
  refine hK.out _ _ ?_; clear hK K
  show Code.wp _ _ _ _ _
  refine fH (HF.out) fun Wx0 HG => ?_
  clear HF; have HF := HG; clear HG
  refine kS fun K hK => ?_
  refine wp_region_lit ?_
  go_wp2
  refine hK.out _ _ ?_; clear hK K
  show Code.wp _ _ _ _ _
  refine fH (HF.out) fun Wx1 HG => ?_
  clear HF; have HF := HG; clear HG
  refine wp_seq ?_
  refine kS fun K hK => ?_
  refine wp_region_lit ?_
  go_wp2
  refine hK.out _ _ ?_; clear hK K
  show Code.wp _ _ _ _ _
  refine fH (HF.out) fun Wx2 HG => ?_
  clear HF; have HF := HG; clear HG
  refine wp_block ?_
  refine wp_loop_rounds 3 ?_
  rw [rounds_succ]
  refine wp_seq ?_
  refine kS fun K hK => ?_
  refine sq 4 [(true, 0), (true, 1), (true, 2), (true, 3)] fun T hT => ?_
  iterate 4 refine tk ?_
  refine nlS hT HF fun vw1 HG => ?_
  clear hT T HF
  go_wp2
  refine hK.out _ _ ?_; clear hK K
  show Code.wp _ _ _ _ _
  have HF := HG; clear HG
  refine wp_cond_true (by rfl) ?_
  refine wp_skip ?_
  show Code.wp _ _ _ _ _
  refine wp_seq ?_
  refine wp_block ?_
  have HQ : Hid (((l : Int) : Rat) = q) := HQ0
  refine kL fun K hK => ?_
  have e0 : _ := BX9.out.cells _ HF.out.1
  go_wp2_with fail
  refine (fint_any l q _ HQ.out (by omega) (by omega)).mono ?_
  rintro e w1 ⟨rfl, hb1⟩
  have HF1 := Lib.hid (HF.out.gr hb1)
  clear hb1 e0 HF
  have HN := Lib.hid (show ∀ j u, [.int .u64 ((lo (Int.natAbs ((q).num)) : Nat) : Int), .string (bg (Int.natAbs ((q).num))), .bool (decide (((q).num) < 0)), .int .u64 ((lo ((q).den - 1) : Nat) : Int), .string (bg ((q).den - 1))][j]? = some u → (w1.alloc (.cells #[.int .u64 ((lo (Int.natAbs ((q).num)) : Nat) : Int), .string (bg (Int.natAbs ((q).num))), .bool (decide (((q).num) < 0)), .int .u64 ((lo ((q).den - 1) : Nat) : Int), .string (bg ((q).den - 1))] 36)).cell? ((⟨w1.heap.size, 0, none⟩ : Addr).add j) = some u from fun j u hj => by
    match j, hj with
    | 0, hj => simp at hj; subst hj; simp [Addr.add, go_sem]
    | 1, hj => simp at hj; subst hj; simp [Addr.add, go_sem]
    | 2, hj => simp at hj; subst hj; simp [Addr.add, go_sem]
    | 3, hj => simp at hj; subst hj; simp [Addr.add, go_sem]
    | 4, hj => simp at hj; subst hj; simp [Addr.add, go_sem])
  have HF2 := Lib.hid (HF1.out.gr (Gr.alloc _ (.cells #[.int .u64 ((lo (Int.natAbs ((q).num)) : Nat) : Int), .string (bg (Int.natAbs ((q).num))), .bool (decide (((q).num) < 0)), .int .u64 ((lo ((q).den - 1) : Nat) : Int), .string (bg ((q).den - 1))] 36)))
  have HA : Hid (Apart ([] : List (Sum (Nat × TypeId × Array Value) (Value × Nat))) (.slice none 0 0)) := Lib.hid (fun i x hx e => by cases e)
  clear HF1
  go_wp2_with (first | (at_builtin; refine apX HF2 (Lib.hid (World.ownsRow_nil _ _ _ _)) HA (.tmp 17) (.tmp 23) 82 hi hz0 hz1 hz2 rfl Tryz.underlying82 (m := 1) (c := 1) (ad := ⟨w1.heap.size, 0, none⟩) (news := [.int .u64 ((lo (Int.natAbs ((q).num)) : Nat) : Int), .string (bg (Int.natAbs ((q).num))), .bool (decide (((q).num) < 0)), .int .u64 ((lo ((q).den - 1) : Nat) : Int), .string (bg ((q).den - 1))]) (by unfold maxLen; omega) (by omega) (by intro i v m h; rcases i with _ | i <;> simp at h) (by simp [Act.eval, Act.put]) (by simp [Act.eval, Act.put]) HN rfl ?c1 (by decide) rfl rfl ?_) | fail)
  case c1 => intro u hu; simp at hu; rcases hu with rfl | rfl | rfl | rfl | rfl <;> rfl
  intro u' w3 HF3 HW3 HA3
  obtain ⟨gR, cur, HF, HR⟩ : ∃ gR cur, Hid (HP w w3 [Sum.inl (gR, 36, cur)]) ∧ Hid (RowV gR cur 5 u' 1 (fcs (f1_ q) 1)) := by
    obtain ⟨gR, cur, h1, h2⟩ := own_hp HF3.out HW3.out HA3.out (by omega) (by decide)
    exact ⟨gR, cur, Lib.hid h1, Lib.hid h2⟩
  clear HF2 HA HN HF3 HW3 HA3
  go_wp2_with fail
  refine hK.out _ _ ?_; clear hK K
  show Code.wp _ _ _ _ _
  refine kL fun K hK => ?_
  refine sq 3 [(true, 0), (true, 1), (true, 2)] fun T hT => ?_
  iterate 3 refine tk ?_
  refine nlS hT HF fun vw2 HG => ?_
  clear hT T HF
  go_wp2
  refine hK.out _ _ ?_; clear hK K
  show Code.rounds _ _ _ _ _ _
  rw [rounds_succ]
  have HF := HG; clear HG
  refine wp_seq ?_
  refine kS fun K hK => ?_
  refine sq 4 [(true, 0), (true, 1), (true, 2), (true, 3)] fun T hT => ?_
  iterate 4 refine tk ?_
  refine nlS hT HF fun vw3 HG => ?_
  clear hT T HF
  go_wp2
  refine hK.out _ _ ?_; clear hK K
  show Code.wp _ _ _ _ _
  have HF := HG; clear HG
  refine wp_cond_false (by rfl) ?_
  refine wp_exit ?_
  show Code.wp _ _ _ _ _
  have HZ1 : Hid (((a : Int) : Rat) = x) := Lib.hid (HX.out)
  have su1 : sz (x) ≤ 2 := by have e := HZ1.out; first | omega | (rw [← e]; exact sz_int64 om om)
  have HZ2 : Hid (((b : Int) : Rat) = y) := Lib.hid (HY.out)
  have su2 : sz (y) ≤ 2 := by have e := HZ2.out; first | omega | (rw [← e]; exact sz_int64 om om)
  refine kS fun K hK => ?_
  refine sq 11 [(true, 0), (true, 1), (true, 2), (true, 3), (true, 4), (true, 5), (true, 6), (true, 7), (true, 8), (true, 9), (true, 10)] fun T hT => ?_
  refine tk ?_
  refine ck Tryz.call32 (fun w' hw => fint_any (a) (x) _ HZ1.out om om) ?_
  refine tk ?_
  refine ck Tryz.call32 (fun w' hw => fint_any (b) (y) _ HZ2.out om om) ?_
  refine tk ?_
  refine ck Tryz.call34 (fun w' hw => rorder_c (x) (y) q _ 1 (f1_ q) _ (c) _ (Lib.hid (rowv_fs HR.out ((HF.out.bx 0 rfl).gr hw))) (by omega) (Lib.hid (fsz1 (by omega))) (Lib.hid (qsum1 _)) (by first | omega | exact sz_of (wl_le.2 (by decide +kernel)) (wl_le.2 (by decide +kernel))) om om (Lib.hid (by first | exact ok | exact HXN.out | exact HYN.out | exact HQN.out | exact HLN.out)) (Lib.hid (by first | exact ok | exact HXN.out | exact HYN.out | exact HQN.out | exact HLN.out)) (Lib.hid (by first | exact ok | exact HXN.out | exact HYN.out | exact HQN.out | exact HLN.out)) (Lib.hid rfl) (Lib.hid (by first | exact ok | exact HXN.out | exact HYN.out | exact HQN.out | exact HLN.out)) (Lib.hid (HC.out))) ?_
  iterate 5 refine tk ?_
  refine nlS hT HF fun vw4 HG => ?_
  clear hT T HF
  go_wp2
  refine hK.out _ _ ?_; clear hK K
  show Code.wp _ _ _ _ _
  have HF := HG; clear HG
  refine wp_seq ?_
  refine kS fun K hK => ?_
  refine sq 2 [(true, 0), (true, 1)] fun T hT => ?_
  iterate 2 refine tk ?_
  refine nlS hT HF fun vw5 HG => ?_
  clear hT T HF
  go_wp2
  refine hK.out _ _ ?_; clear hK K
  show Code.wp _ _ _ _ _
  have HF := HG; clear HG
  refine wp_cond_false (by rfl) ?_
  refine wp_skip ?_
  show Code.wp _ _ _ _ _
  refine kS fun K hK => ?_
  refine sq 2 [(true, 0), (true, 1)] fun T hT => ?_
  iterate 2 refine tk ?_
  refine nlS hT HF fun vw6 HG => ?_
  clear hT T HF
  go_wp2
  refine hK.out _ _ ?_; clear hK K
  show Code.wp _ _ _ _ _
  have HF := HG; clear HG
  refine wp_ret ?_
  try simp only [Exit.then, Exit.inBlock]
  exact bodyPost_ret (v := .int .i64 (c)) (by simp [results, Tryz.results91, go_sem]) rfl ⟨rfl, HF.out.1⟩

set_option maxRecDepth 20000 in
set_option maxHeartbeats 8000000 in
theorem ordd0_0 (a b : Int) (x y : Rat) (w : World) (HX : Hid (((a : Int) : Rat) = x)) (HY : Hid (((b : Int) : Rat) = y)) (ha1 : -1000 ≤ a) (ha2 : a ≤ 1000) (hb1 : -1000 ≤ b) (hb2 : b ≤ 1000) (HXN : Hid (0 ≤ x)) (HYN : Hid (0 ≤ y)) (HLN : Hid ((0 : Rat) - (x + y) < 0)) :
    Calls Tryz.prog 91 #[.int .i64 a, .int .i64 b, .slice none 0 0] w fun e w' => e = .returned (.int .i64 1) ∧ Below w.heap.size w w' := by
  have hw1 : IntKind.i64.wrap 1 = 1 := by decide
  obtain ⟨i0, hi, hz0, hz1, hz2⟩ := info_parts info_Frac5
  go_enter Tryz.func91, Tryz.ntmps91
  have HF := Lib.hid (hp0 w)
  refine kS fun K hK => ?_
  refine wp_region_lit ?_
  go_wp2
  refine hK.out _ _ ?_; clear hK K
  show Code.wp _ _ _ _ _
  refine fH (HF.out) fun Wx0 HG => ?_
  clear HF; have HF := HG; clear HG
  refine kS fun K hK => ?_
  refine wp_region_lit ?_
  go_wp2
  refine hK.out _ _ ?_; clear hK K
  show Code.wp _ _ _ _ _
  refine fH (HF.out) fun Wx1 HG => ?_
  clear HF; have HF := HG; clear HG
  refine wp_seq ?_
  refine kS fun K hK => ?_
  refine wp_region_lit ?_
  go_wp2
  refine hK.out _ _ ?_; clear hK K
  show Code.wp _ _ _ _ _
  refine fH (HF.out) fun Wx2 HG => ?_
  clear HF; have HF := HG; clear HG
  refine wp_block ?_
  refine wp_loop_rounds 3 ?_
  rw [rounds_succ]
  refine wp_seq ?_
  refine kS fun K hK => ?_
  refine sq 4 [(true, 0), (true, 1), (true, 2), (true, 3)] fun T hT => ?_
  iterate 4 refine tk ?_
  refine nlS hT HF fun vw1 HG => ?_
  clear hT T HF
  go_wp2
  refine hK.out _ _ ?_; clear hK K
  show Code.wp _ _ _ _ _
  have HF := HG; clear HG
  refine wp_cond_false (by rfl) ?_
  refine wp_exit ?_
  show Code.wp _ _ _ _ _
  have HZ1 : Hid (((a : Int) : Rat) = x) := Lib.hid (HX.out)
  have su1 : sz (x) ≤ 2 := by have e := HZ1.out; first | omega | (rw [← e]; exact sz_int64 om om)
  have HZ2 : Hid (((b : Int) : Rat) = y) := Lib.hid (HY.out)
  have su2 : sz (y) ≤ 2 := by have e := HZ2.out; first | omega | (rw [← e]; exact sz_int64 om om)
  refine kS fun K hK => ?_
  refine sq 11 [(true, 0), (true, 1), (true, 2), (true, 3), (true, 4), (true, 5), (true, 6), (true, 7), (true, 8), (true, 9), (true, 10)] fun T hT => ?_
  refine tk ?_
  refine ck Tryz.call32 (fun w' hw => fint_any (a) (x) _ HZ1.out om om) ?_
  refine tk ?_
  refine ck Tryz.call32 (fun w' hw => fint_any (b) (y) _ HZ2.out om om) ?_
  refine tk ?_
  refine ck Tryz.call34 (fun w' hw => rorder_1 (x) (y) (0 : Rat) _ 0 (fun _ => 0) _ _ (Lib.hid (fs0 _ _)) (by omega) (Lib.hid (fsz0 _)) (Lib.hid rfl) (by first | omega | exact sz_of (wl_le.2 (by decide +kernel)) (wl_le.2 (by decide +kernel))) om om (Lib.hid (by first | exact ok | exact HXN.out | exact HYN.out | exact HQN.out | exact HLN.out)) (Lib.hid (by first | exact ok | exact HXN.out | exact HYN.out | exact HQN.out | exact HLN.out)) (Lib.hid (by first | exact ok | exact HXN.out | exact HYN.out | exact HQN.out | exact HLN.out)) (Lib.hid rfl) (Lib.hid (by first | exact ok | exact HXN.out | exact HYN.out | exact HQN.out | exact HLN.out))) ?_
  iterate 5 refine tk ?_
  refine nlS hT HF fun vw2 HG => ?_
  clear hT T HF
  go_wp2
  refine hK.out _ _ ?_; clear hK K
  show Code.wp _ _ _ _ _
  have HF := HG; clear HG
  refine wp_seq ?_
  refine kS fun K hK => ?_
  refine sq 2 [(true, 0), (true, 1)] fun T hT => ?_
  iterate 2 refine tk ?_
  refine nlS hT HF fun vw3 HG => ?_
  clear hT T HF
  go_wp2
  refine hK.out _ _ ?_; clear hK K
  show Code.wp _ _ _ _ _
  have HF := HG; clear HG
  refine wp_cond_false (by rfl) ?_
  refine wp_skip ?_
  show Code.wp _ _ _ _ _
  refine kS fun K hK => ?_
  refine sq 2 [(true, 0), (true, 1)] fun T hT => ?_
  iterate 2 refine tk ?_
  refine nlS hT HF fun vw4 HG => ?_
  clear hT T HF
  go_wp2
  refine hK.out _ _ ?_; clear hK K
  show Code.wp _ _ _ _ _
  have HF := HG; clear HG
  refine wp_ret ?_
  try simp only [Exit.then, Exit.inBlock]
  exact bodyPost_ret (v := .int .i64 1) (by simp [results, Tryz.results91, go_sem]) rfl ⟨rfl, HF.out.1⟩

end Go.Proofs.YtaflakcemiilaaaGreatDoor
