
/- decimals: without, Cycle. -/
import Derived.Test.YtobojnodohjiaaaGreatDoorDecA
namespace Go.Proofs.YtobojnodohjiaaaGreatDoor
open Go.RowKit
set_option linter.unusedSimpArgs false
set_option linter.unusedVariables false
attribute [local go_sem ↓] Go.wp_at_zero Go.wp_at_succ
attribute [local go_sem ↓] eq_nat eq_nat_zero eq_int
/-- how often f divides x (at most k times), and what is left -/
def wo (f : Nat) : Nat → Nat → Nat × Nat
  | x, 0 => (x, 0)
  | x, k + 1 => if x % f = 0 then ((wo f (x / f) k).1, (wo f (x / f) k).2 + 1) else (x, 0)
theorem wo_stop {f x k : Nat} (h : ¬ x % f = 0) : wo f x (k + 1) = (x, 0) := by rw [wo, if_neg h]
theorem wo_go1 {f x k : Nat} (h : x % f = 0) : (wo f x (k + 1)).1 = (wo f (x / f) k).1 := by rw [wo, if_pos h]
theorem wo_go2 {f x k : Nat} (h : x % f = 0) : (wo f x (k + 1)).2 = (wo f (x / f) k).2 + 1 := by rw [wo, if_pos h]
theorem wo_le (f : Nat) : ∀ k x, (wo f x k).2 ≤ k ∧ (wo f x k).1 ≤ x
  | 0, x => ⟨Nat.le_refl _, Nat.le_refl _⟩
  | k + 1, x => by
    have h := wo_le f k (x / f)
    have h2 := Nat.div_le_self x f
    unfold wo
    split
    · exact ⟨by simp; omega, by simp; omega⟩
    · exact ⟨Nat.zero_le _, Nat.le_refl _⟩
theorem wo_pos (f : Nat) : ∀ k x, 0 < x → 0 < (wo f x k).1
  | 0, x, h => h
  | k + 1, x, h => by
    unfold wo
    split
    · rename_i h2
      have hd := Nat.dvd_of_mod_eq_zero h2
      exact wo_pos f k (x / f) (Nat.div_pos (Nat.le_of_dvd h hd) (by rcases Nat.eq_zero_or_pos f with e | e; (subst e; rw [Nat.zero_dvd] at hd; omega); exact e))
    · exact h
/-- the rounds of Cycle's loop -/
def cyr (d a : Nat) : Nat → Nat → Nat → Nat
  | 0, _, j => j
  | k + 1, p, j => if p * 10 % d = 1 ∨ 100 < a + (j + 1) then j + 1 else cyr d a k (p * 10 % d) (j + 1)
theorem cyr_stop {d a k p j : Nat} (h : p * 10 % d = 1 ∨ 100 < a + (j + 1)) : cyr d a (k + 1) p j = j + 1 := by rw [cyr, if_pos h]
theorem cyr_go {d a k p j : Nat} (h : ¬ (p * 10 % d = 1 ∨ 100 < a + (j + 1))) : cyr d a (k + 1) p j = cyr d a k (p * 10 % d) (j + 1) := by rw [cyr, if_neg h]
def cyd (n : Nat) : Nat := (wo 5 (wo 2 n 101).1 101).1
def cya (n : Nat) : Nat := max (wo 2 n 101).2 (wo 5 (wo 2 n 101).1 101).2
def cyl (n : Nat) : Nat := if cyd n = 1 then 0 else cyr (cyd n) (cya n) 101 1 0
/-- what Cycle returns for a number with the denominator n -/
def cyc (n : Nat) : Int × Int × Int := if 100 < cya n + cyl n then (0, 0, 3) else ((cya n : Int), (cyl n : Int), 0)

set_option maxRecDepth 20000 in
set_option maxHeartbeats 4000000 in
theorem without0 (n f M r1 r2 : Nat) (w : World) (HR1 : Hid ((wo f n M).1 = r1)) (HR2 : Hid ((wo f n M).2 + 0 = r2)) (HWN : Hid (wl n ≤ 1000)) (hf : 0 < f) (hwf : wl f ≤ 1) (hM : M ≤ 1000) :
    Calls Tryz.prog 175 #[(Value.agg #[.int .u64 ((lo (n) : Nat) : Int), .string (bg (n))]), (Value.agg #[.int .u64 ((lo (f) : Nat) : Int), .string (bg (f))]), .int .i64 (((M : Nat) : Int))] w fun e w' => e = .returned ((.tuple #[(Value.agg #[.int .u64 ((lo (r1) : Nat) : Int), .string (bg (r1))]), .int .i64 ((r2 : Nat) : Int)])) ∧ Below w.heap.size w w' := by
  have hwn := HWN.out
  go_enter Tryz.func175, Tryz.ntmps175
  have HF := Lib.hid (hp0 w)
  refine kS fun K hK => ?_
  refine wp_region_lit ?_
  go_wp2
  refine hK.out _ _ ?_; clear hK K
  show Code.wp _ _ _ _ _
  refine fH ((((HF.out).al (b := w.heap.size) (by first | rfl | simp) (by decide)).al (b := w.heap.size + 1) (by first | rfl | simp) (by decide)).al (b := w.heap.size + 1 + 1) (by first | rfl | simp) (by decide)) fun Wx0 HG => ?_
  clear HF; have HF := HG; clear HG
  generalize w.heap.size + 1 + 1 = gx2 at *
  generalize w.heap.size + 1 = gx1 at *
  refine wp_seq ?_
  refine kS fun K hK => ?_
  refine sq 2 [(true, 0), (true, 1)] fun T hT => ?_
  iterate 2 refine tk ?_
  refine nlS hT HF fun vw1 HG => ?_
  clear hT T HF
  go_wp2
  refine hK.out _ _ ?_; clear hK K
  show Code.wp _ _ _ _ _
  have HF := HG; clear HG
  refine wp_block ?_
  go_loopg [13] M (fun k iv wr => ∃ i x : Nat, iv = .int .i64 (i : Int) ∧ i + k = M ∧ Hid ((wo f x k).1 = r1) ∧ Hid ((wo f x k).2 + i = r2) ∧ Hid (wl x ≤ 1000) ∧ Hid (HP w wr [Sum.inl (w.heap.size, 30, #[.int .u64 ((lo (x) : Nat) : Int), .string (bg (x))]), Sum.inl (gx1, 30, #[.int .u64 ((lo (f) : Nat) : Int), .string (bg (f))]), Sum.inl (gx2, 30, #[.int .u64 0, .string ⟨#[]⟩])]))
  case atStart => exact ⟨0, n, rfl, by omega, HR1, HR2, HWN, HF⟩
  case round =>
    rename_i J_ K_ h1_ h0_
    clear HF
    obtain ⟨i, x, rfl, hik, HX1, HX2, HWX, HF⟩ := hrel
    have hwx := HWX.out
    rcases gk with _ | k
    · obtain rfl : x = r1 := HX1.out
      obtain rfl : M = r2 := by have := HX2.out; rw [wo] at this; omega
      have hlt9 : ¬ (i : Int) < (M : Int) := by have := hik; omega
      refine kS fun K hK => ?_
      refine sq 1 [(true, 0)] fun T hT => ?_
      refine tk ?_
      refine nlS hT HF fun vw2 HG => ?_
      clear hT T HF
      go_wp2
      refine hK.out _ _ ?_; clear hK K
      show Code.wp _ _ _ _ _
      have HF := HG; clear HG
      clear hlt9
      refine wp_seq ?_
      refine wp_cond_false (by rfl) ?_
      refine wp_exit ?_
      show Code.wp _ _ _ _ _
      have lx0 := HF.out.c 0 rfl
      refine kS fun K hK => ?_
      refine sq 2 [(true, 0), (true, 1)] fun T hT => ?_
      iterate 2 refine tk ?_
      refine nlS hT HF fun vw3 HG => ?_
      clear hT T HF lx0
      have lx2 := HG.out.c 2 rfl; have fx2 := HG.out.f 2 rfl
      have r0 := Gr.refl vw3
      go_wp2
      refine hK.out _ _ ?_; clear hK K
      show Code.wp _ _ _ _ _
      clear r0 lx2 fx2
      refine fH ((((HG.out).put2 2 0 rfl).er 1).er 0) fun Wx9 HF => ?_
      clear HG
      refine wp_ret ?_
      try simp only [Exit.then, Exit.inBlock]
      have lx2 := HF.out.c 0 rfl
      have r0 := Gr.refl Wx9
      exact bodyPost_ret (v := .tuple #[(.agg #[.int .u64 ((lo (x) : Nat) : Int), .string (bg (x))]), .int .i64 (((M : Nat) : Int))]) (by simp [results, Tryz.results175, go_sem, lx2 _ r0]) rfl ⟨rfl, HF.out.1⟩
    · by_cases hdv : x % f = 0
      · have HDV := Lib.hid hdv
        clear hdv
        obtain ⟨y, HY⟩ : ∃ y, Hid (x / f = y) := ⟨_, Lib.hid rfl⟩
        have hlt9 : (i : Int) < (M : Int) := by have := hik; omega
        refine kS fun K hK => ?_
        refine sq 1 [(true, 0)] fun T hT => ?_
        refine tk ?_
        refine nlS hT HF fun vw2 HG => ?_
        clear hT T HF
        go_wp2
        refine hK.out _ _ ?_; clear hK K
        show Code.wp _ _ _ _ _
        have HF := HG; clear HG
        clear hlt9
        refine wp_seq ?_
        refine wp_cond_true (by rfl) ?_
        refine wp_skip ?_
        show Code.wp _ _ _ _ _
        refine wp_seq ?_
        refine wp_block ?_
        refine kS fun K hK => ?_
        refine sq 2 [(true, 0), (true, 1)] fun T hT => ?_
        iterate 2 refine tk ?_
        refine nlS hT HF fun vw3 HG => ?_
        clear hT T HF
        go_wp2
        refine hK.out _ _ ?_; clear hK K
        show Code.wp _ _ _ _ _
        have HF := HG; clear HG
        have HZ1 : Hid ((x) / (f) = y) := Lib.hid (HY.out)
        have su1 : wl (y) ≤ 1000 := by have e := HZ1.out; first | omega | (rw [← e]; have := wl_div (x) (f); omega)
        have HZ2 : Hid ((x) % (f) = 0) := Lib.hid (HDV.out)
        have su2 : wl (0) ≤ 1000 := by have e := HZ2.out; first | omega | (rw [← e]; have := wl_mod (x) (f); omega) | exact wl_le.2 (by decide +kernel)
        have lx0 := HF.out.c 0 rfl
        have lx1 := HF.out.c 1 rfl
        refine kS fun K hK => ?_
        refine sq 7 [(true, 0), (true, 1), (true, 2), (true, 3), (true, 4), (true, 5), (true, 6)] fun T hT => ?_
        iterate 2 refine tk ?_
        refine ck Tryz.call43 (fun w' hw => nzdiv (x) (f) (y) (0) _ HZ1.out HZ2.out (ok) om om) ?_
        iterate 4 refine tk ?_
        refine nlS hT HF fun vw4 HG => ?_
        clear hT T HF lx0 lx1
        go_wp2
        refine hK.out _ _ ?_; clear hK K
        show Code.wp _ _ _ _ _
        refine fH (((HG.out).al (b := vw4.heap.size) (by first | rfl | simp) (by decide)).al (b := vw4.heap.size + 1) (by first | rfl | simp) (by decide)) fun Wx4 HF => ?_
        clear HG
        generalize vw4.heap.size + 1 = gx5 at *
        generalize vw4.heap.size = gx4 at *
        refine wp_seq ?_
        have lx5 := HF.out.c 4 rfl
        refine kS fun K hK => ?_
        refine sq 3 [(true, 0), (true, 1), (true, 2)] fun T hT => ?_
        iterate 3 refine tk ?_
        refine nlS hT HF fun vw5 HG => ?_
        clear hT T HF lx5
        go_wp2
        refine hK.out _ _ ?_; clear hK K
        show Code.wp _ _ _ _ _
        have HF := HG; clear HG
        refine wp_cond_false (by rfl) ?_
        refine wp_skip ?_
        show Code.wp _ _ _ _ _
        have lx4 := HF.out.c 3 rfl
        refine kL fun K hK => ?_
        refine sq 1 [(true, 0)] fun T hT => ?_
        refine tk ?_
        refine nlS hT HF fun vw6 HG => ?_
        clear hT T HF lx4
        have lx0 := HG.out.c 0 rfl; have fx0 := HG.out.f 0 rfl
        have r0 := Gr.refl vw6
        go_wp2
        refine hK.out _ _ ?_; clear hK K
        show Code.wp _ _ _ _ _
        clear r0 lx0 fx0
        refine fH ((HG.out).put2 0 0 rfl) fun Wx7 HF => ?_
        clear HG
        have hwi : IntKind.i64.wrap ((i : Int) + 1) = (i : Int) + 1 := by rw [IntKind.wrap_i64]; omega
        refine kL fun K hK => ?_
        refine sq 2 [(true, 0), (true, 1)] fun T hT => ?_
        iterate 2 refine tk ?_
        refine nlS hT HF fun vw7 HG => ?_
        clear hT T HF
        go_wp2
        refine hK.out _ _ ?_; clear hK K
        try simp only [Exit.then, Exit.inBlock]
        have HF := Lib.hid (HG.out); clear HG
        clear hwi
        refine h0_ _ _ ?_
        go_roundg k
        case measure => omega
        case rel => exact ⟨i + 1, y, by go_num, by omega, Lib.hid (by rw [← HX1.out, wo_go1 HDV.out, HY.out]), Lib.hid (by rw [← HX2.out, wo_go2 HDV.out, HY.out]; omega), Lib.hid (by rw [← HY.out]; exact Nat.le_trans (wl_div _ _) hwx), Lib.hid (((HF.out).er 4).er 3)⟩
      · have HDV := Lib.hid hdv
        clear hdv
        obtain rfl : x = r1 := by have := HX1.out; rwa [wo_stop HDV.out] at this
        obtain rfl : i = r2 := by have := HX2.out; rw [wo_stop HDV.out] at this; omega
        have hlt9 : (i : Int) < (M : Int) := by have := hik; omega
        refine kS fun K hK => ?_
        refine sq 1 [(true, 0)] fun T hT => ?_
        refine tk ?_
        refine nlS hT HF fun vw2 HG => ?_
        clear hT T HF
        go_wp2
        refine hK.out _ _ ?_; clear hK K
        show Code.wp _ _ _ _ _
        have HF := HG; clear HG
        clear hlt9
        refine wp_seq ?_
        refine wp_cond_true (by rfl) ?_
        refine wp_skip ?_
        show Code.wp _ _ _ _ _
        refine wp_seq ?_
        refine wp_block ?_
        refine kS fun K hK => ?_
        refine sq 2 [(true, 0), (true, 1)] fun T hT => ?_
        iterate 2 refine tk ?_
        refine nlS hT HF fun vw3 HG => ?_
        clear hT T HF
        go_wp2
        refine hK.out _ _ ?_; clear hK K
        show Code.wp _ _ _ _ _
        have HF := HG; clear HG
        obtain ⟨u1, HZ1⟩ : ∃ z, Hid ((x) / (f) = z) := ⟨_, Lib.hid rfl⟩
        have su1 : wl (u1) ≤ 1000 := by rw [← HZ1.out]; have := wl_div (x) (f); omega
        have HZ2 : Hid ((x) % (f) = (x % f)) := Lib.hid (rfl)
        have su2 : wl ((x % f)) ≤ 1000 := by have := wl_mod (x) (f); omega
        have lx0 := HF.out.c 0 rfl
        have lx1 := HF.out.c 1 rfl
        refine kS fun K hK => ?_
        refine sq 7 [(true, 0), (true, 1), (true, 2), (true, 3), (true, 4), (true, 5), (true, 6)] fun T hT => ?_
        iterate 2 refine tk ?_
        refine ck Tryz.call43 (fun w' hw => nzdiv (x) (f) (u1) ((x % f)) _ HZ1.out HZ2.out (by first | exact ok | (simp only [← HZ1.out] <;> first | exact ok)) om om) ?_
        iterate 4 refine tk ?_
        refine nlS hT HF fun vw4 HG => ?_
        clear hT T HF lx0 lx1
        go_wp2
        refine hK.out _ _ ?_; clear hK K
        show Code.wp _ _ _ _ _
        refine fH (((HG.out).al (b := vw4.heap.size) (by first | rfl | simp) (by decide)).al (b := vw4.heap.size + 1) (by first | rfl | simp) (by decide)) fun Wx4 HF => ?_
        clear HG
        generalize vw4.heap.size + 1 = gx5 at *
        generalize vw4.heap.size = gx4 at *
        refine wp_seq ?_
        have hnz : decide (x % f = 0) = false := decide_eq_false HDV.out
        have lx5 := HF.out.c 4 rfl
        refine kS fun K hK => ?_
        refine sq 3 [(true, 0), (true, 1), (true, 2)] fun T hT => ?_
        iterate 3 refine tk ?_
        refine nlS hT HF fun vw5 HG => ?_
        clear hT T HF lx5
        go_wp2
        refine hK.out _ _ ?_; clear hK K
        show Code.wp _ _ _ _ _
        have HF := HG; clear HG
        clear hnz
        refine wp_cond_true (by rfl) ?_
        have lx0 := HF.out.c 0 rfl
        refine kS fun K hK => ?_
        refine sq 2 [(true, 0), (true, 1)] fun T hT => ?_
        iterate 2 refine tk ?_
        refine nlS hT HF fun vw6 HG => ?_
        clear hT T HF lx0
        have lx2 := HG.out.c 2 rfl; have fx2 := HG.out.f 2 rfl
        have r0 := Gr.refl vw6
        go_wp2
        refine hK.out _ _ ?_; clear hK K
        show Code.wp _ _ _ _ _
        clear r0 lx2 fx2
        refine fH ((HG.out).put2 2 0 rfl) fun Wx6 HF => ?_
        clear HG
        refine wp_ret ?_
        try simp only [Exit.then, Exit.inBlock]
        have lx2 := HF.out.c 2 rfl
        have r0 := Gr.refl Wx6
        exact bodyPost_ret (v := .tuple #[(.agg #[.int .u64 ((lo (x) : Nat) : Int), .string (bg (x))]), .int .i64 ((i : Int))]) (by simp [results, Tryz.results175, go_sem, lx2 _ r0]) rfl ⟨rfl, HF.out.1⟩

set_option maxRecDepth 20000 in
set_option maxHeartbeats 4000000 in
theorem cycle_of (q : Rat) (x t d f a R : Nat) (c1 c2 c3 : Int) (w : World) (HWX : Hid ((wo 2 q.den 101).1 = x)) (HWT : Hid ((wo 2 q.den 101).2 = t)) (HWD : Hid ((wo 5 x 101).1 = d)) (HWF : Hid ((wo 5 x 101).2 = f)) (HMX : Hid (max ((t : Nat) : Int) ((f : Nat) : Int) = (a : Int))) (ha : a ≤ 101) (hs : sz q ≤ 900) (HDN : Hid (¬ d = 1)) (HD0 : Hid (0 < d)) (HR : Hid (cyr d a 101 1 0 = R)) (HRES : Hid ((if 100 < a + R then ((0 : Int), (0 : Int), (3 : Int)) else ((a : Int), (R : Int), 0)) = (c1, c2, c3))) :
    Calls Tryz.prog 67 #[(Value.agg #[.int .u64 ((lo (Int.natAbs ((q).num)) : Nat) : Int), .string (bg (Int.natAbs ((q).num))), .bool (decide (((q).num) < 0)), .int .u64 ((lo ((q).den - 1) : Nat) : Int), .string (bg ((q).den - 1))])] w fun e w' => e = .returned ((.tuple #[.int .i64 c1, .int .i64 c2, .int .i64 c3])) ∧ Below w.heap.size w w' := by
  have hmx := HMX.out
  go_enter Tryz.func67, Tryz.ntmps67
  have HF := Lib.hid (hp0 w)
  refine kS fun K hK => ?_
  refine wp_region_lit ?_
  go_wp2
  refine hK.out _ _ ?_; clear hK K
  show Code.wp _ _ _ _ _
  refine fH ((HF.out).al (b := w.heap.size) (by first | rfl | simp) (by decide)) fun Wx0 HG => ?_
  clear HF; have HF := HG; clear HG
  have su1 : wl ((q).den) ≤ 900 := Nat.le_trans (sz_den _) om
  have sp1 : 0 < (q).den := (q).den_pos
  have su_0_1 : wl 2 ≤ 1 := wl_le.2 (by decide +kernel)
  have HZ2 : Hid ((wo (2) ((q).den) 101).1 = x) := Lib.hid (HWX.out)
  have su2 : wl (x) ≤ 900 := by have e := HZ2.out; first | omega | (rw [← e]; exact Nat.le_trans (wl_mono (wo_le _ _ _).2) (by omega))
  have lx0 := HF.out.c 0 rfl
  refine kS fun K hK => ?_
  refine sq 7 [(true, 0), (true, 1), (true, 2), (true, 3), (true, 4), (true, 5), (true, 6)] fun T hT => ?_
  refine tk ?_
  refine ck Tryz.call38 (fun w' hw => fDen_any (q) _ om) ?_
  refine ck Tryz.call24 (fun w' hw => nzof 2 _ (by decide)) ?_
  refine ck Tryz.call175 (fun w' hw => without0 ((q).den) (2) 101 (x) (t) _ (Lib.hid HZ2.out) (Lib.hid (HWT.out)) (Lib.hid om) (by decide) (wl_small (by decide)) (by omega)) ?_
  iterate 3 refine tk ?_
  refine nlS hT HF fun vw1 HG => ?_
  clear hT T HF lx0
  go_wp2
  refine hK.out _ _ ?_; clear hK K
  show Code.wp _ _ _ _ _
  refine fH (((HG.out).al (b := vw1.heap.size) (by first | rfl | simp) (by decide)).er 0) fun Wx1 HF => ?_
  clear HG
  generalize vw1.heap.size = gx2 at *
  have su_1_2 : wl 5 ≤ 1 := wl_le.2 (by decide +kernel)
  have HZ3 : Hid ((wo (5) (x) 101).1 = d) := Lib.hid (HWD.out)
  have su3 : wl (d) ≤ 900 := by have e := HZ3.out; first | omega | (rw [← e]; exact Nat.le_trans (wl_mono (wo_le _ _ _).2) (by omega))
  have lx2 := HF.out.c 0 rfl
  refine kS fun K hK => ?_
  refine wp_region_plan 6 [] [5] (fun _ => 0) (fun _ => .cells #[] 0) [(true, 0), (true, 1), (true, 2), (true, 3), (true, 4), (true, 5)] (by kernel_rfl) (by kernel_rfl) (fun i hi => by cases hi) (by intro i hi; simp only [List.mem_cons, List.not_mem_nil, or_false] at hi; rcases hi with rfl <;> exact ⟨_, rfl, pure_extract⟩) (fun _ _ _ _ _ h => h) (fun T hT => ?_)
  refine tk ?_
  refine ck Tryz.call24 (fun w' hw => nzof 5 _ (by decide)) ?_
  refine ck Tryz.call175 (fun w' hw => without0 (x) (5) 101 (d) (f) _ (Lib.hid HZ3.out) (Lib.hid (HWF.out)) (Lib.hid om) (by decide) (wl_small (by decide)) (by omega)) ?_
  iterate 3 refine tk ?_
  refine wpPlan_nil (hT.out _ _ ?_)
  intro G vw2 hg hf
  simp only [puts, Act.put, lA, lB, lC, lD, lE, ↓reduceIte, Nat.reduceEqDiff]
  have HG := Lib.hid (HF.out.gr hg)
  clear hT T HF hg hf lx2
  have lx2 := HG.out.c 0 rfl; have fx2 := HG.out.f 0 rfl
  have r0 := Gr.refl vw2
  go_wp2
  refine hK.out _ _ ?_; clear hK K
  show Code.wp _ _ _ _ _
  clear r0 lx2 fx2
  refine fH ((HG.out).put2 0 0 rfl) fun Wx2 HF => ?_
  clear HG
  refine kS fun K hK => ?_
  refine sq 4 [(true, 0), (true, 1), (true, 2), (true, 3)] fun T hT => ?_
  iterate 4 refine tk ?_
  refine nlS hT HF fun vw3 HG => ?_
  clear hT T HF
  go_wp2
  refine hK.out _ _ ?_; clear hK K
  show Code.wp _ _ _ _ _
  have HF := HG; clear HG
  have su_2_4 : wl 1 ≤ 1 := wl_le.2 (by decide +kernel)
  have su_3_4 : wl 1 ≤ 1 := wl_le.2 (by decide +kernel)
  refine kS fun K hK => ?_
  refine sq 2 [(true, 0), (true, 1)] fun T hT => ?_
  refine ck Tryz.call24 (fun w' hw => nzof 1 _ (by decide)) ?_
  refine ck Tryz.call24 (fun w' hw => nzof 1 _ (by decide)) ?_
  refine nlS hT HF fun vw4 HG => ?_
  clear hT T HF
  go_wp2
  refine hK.out _ _ ?_; clear hK K
  show Code.wp _ _ _ _ _
  refine fH (((HG.out).al (b := vw4.heap.size) (by first | rfl | simp) (by decide)).al (b := vw4.heap.size + 1) (by first | rfl | simp) (by decide)) fun Wx4 HF => ?_
  clear HG
  generalize vw4.heap.size + 1 = gx4 at *
  generalize vw4.heap.size = gx3 at *
  refine wp_seq ?_
  refine wp_block ?_
  go_loopg [3] 101 (fun k iv wr => ∃ j p : Nat, iv = .int .i64 (j : Int) ∧ j + k = 101 ∧ j ≤ 100 ∧ Hid (cyr d a k p j = R) ∧ Hid (wl p ≤ 1000) ∧ Hid (HP w wr [Sum.inl (gx2, 30, #[.int .u64 ((lo (d) : Nat) : Int), .string (bg (d))]), Sum.inl (gx3, 30, #[.int .u64 ((lo (p) : Nat) : Int), .string (bg (p))]), Sum.inl (gx4, 30, #[.int .u64 ((lo (1) : Nat) : Int), .string (bg (1))])]))
  case atStart => exact ⟨0, 1, rfl, by omega, by omega, HR, Lib.hid (wl_le.2 (by decide +kernel)), HF⟩
  case round =>
    rename_i J_ K_ h1_ h0_
    clear HF
    obtain ⟨j, p, rfl, hik, hj, HX, HWP, HF⟩ := hrel
    have hwp := HWP.out
    obtain ⟨k, rfl⟩ : ∃ k, gk = k + 1 := ⟨gk - 1, by omega⟩
    obtain ⟨q, HQ⟩ : ∃ q, Hid (p * 10 % d = q) := ⟨_, Lib.hid rfl⟩
    by_cases hq : q = 1
    · obtain rfl : R = j + 1 := by have e := HX.out; rwa [cyr_stop (.inl (by rw [HQ.out, hq])), eq_comm] at e
      subst hq
      by_cases hfar : 100 < a + (j + 1)
      · have HC : Hid ((0 : Int) = c1 ∧ (0 : Int) = c2 ∧ (3 : Int) = c3) := Lib.hid (by have e := HRES.out; rw [if_pos hfar] at e; simpa using e)
        obtain ⟨rfl, rfl, rfl⟩ := HC.out
        clear HC HRES
        refine wp_seq ?_
        have hd1 : decide (d = 1) = false := decide_eq_false HDN.out
        have lx2 := HF.out.c 0 rfl
        have lx4 := HF.out.c 2 rfl
        refine kS fun K hK => ?_
        refine sq 3 [(true, 0), (true, 1), (true, 2)] fun T hT => ?_
        iterate 3 refine tk ?_
        refine nlS hT HF fun vw5 HG => ?_
        clear hT T HF lx2 lx4
        go_wp2
        refine hK.out _ _ ?_; clear hK K
        show Code.wp _ _ _ _ _
        have HF := HG; clear HG
        clear hd1
        refine wp_cond_true (by rfl) ?_
        refine wp_skip ?_
        show Code.wp _ _ _ _ _
        refine wp_block ?_
        have su_4_6 : wl 10 ≤ 1 := wl_le.2 (by decide +kernel)
        obtain ⟨u4, HZ4⟩ : ∃ z, Hid ((p) * (10) = z) := ⟨_, Lib.hid rfl⟩
        have su4 : wl (u4) ≤ 1001 := by rw [← HZ4.out]; have := wl_mul (p) (10); omega
        obtain ⟨u5, HZ5⟩ : ∃ z, Hid ((u4) / (d) = z) := ⟨_, Lib.hid rfl⟩
        have su5 : wl (u5) ≤ 1001 := by rw [← HZ5.out]; have := wl_div (u4) (d); omega
        have HZ6 : Hid ((u4) % (d) = 1) := Lib.hid (by rw [← HQ.out]; simp only [← HZ5.out, ← HZ4.out])
        have su6 : wl (1) ≤ 1001 := by have e := HZ6.out; first | omega | (rw [← e]; have := wl_mod (u4) (d); omega) | exact wl_le.2 (by decide +kernel)
        have lx2 := HF.out.c 0 rfl
        have lx3 := HF.out.c 1 rfl
        refine kS fun K hK => ?_
        refine wp_region_plan 9 [] [8] (fun _ => 0) (fun _ => .cells #[] 0) [(true, 0), (true, 3), (true, 1), (true, 2), (true, 4), (true, 5), (true, 6), (true, 7), (true, 8)] (by kernel_rfl) (by kernel_rfl) (fun i hi => by cases hi) (by intro i hi; simp only [List.mem_cons, List.not_mem_nil, or_false] at hi; rcases hi with rfl <;> exact ⟨_, rfl, pure_extract⟩) (fun _ _ _ _ _ h => h) (fun T hT => ?_)
        iterate 2 refine tk ?_
        refine ck Tryz.call24 (fun w' hw => nzof 10 _ (by decide)) ?_
        refine ck Tryz.call110 (fun w' hw => nzmul (p) (10) (u4) _ HZ4.out om om) ?_
        refine ck Tryz.call43 (fun w' hw => nzdiv (u4) (d) (u5) (1) _ HZ5.out HZ6.out (by exact HD0.out) om om) ?_
        iterate 4 refine tk ?_
        refine wpPlan_nil (hT.out _ _ ?_)
        intro G vw6 hg hf
        simp only [puts, Act.put, lA, lB, lC, lD, lE, ↓reduceIte, Nat.reduceEqDiff]
        have HG := Lib.hid (HF.out.gr hg)
        clear hT T HF hg hf lx2 lx3
        have lx3 := HG.out.c 1 rfl; have fx3 := HG.out.f 1 rfl
        have r0 := Gr.refl vw6
        go_wp2
        refine hK.out _ _ ?_; clear hK K
        show Code.wp _ _ _ _ _
        clear r0 lx3 fx3
        refine fH ((HG.out).put2 1 0 rfl) fun Wx6 HF => ?_
        clear HG
        have hwj : IntKind.i64.wrap ((j : Int) + 1) = (j : Int) + 1 := by rw [IntKind.wrap_i64]; omega
        refine kS fun K hK => ?_
        refine sq 3 [(true, 0), (true, 1), (true, 2)] fun T hT => ?_
        iterate 3 refine tk ?_
        refine nlS hT HF fun vw7 HG => ?_
        clear hT T HF
        go_wp2
        refine hK.out _ _ ?_; clear hK K
        show Code.wp _ _ _ _ _
        have HF := HG; clear HG
        clear hwj
        have lx3 := HF.out.c 1 rfl
        have lx4 := HF.out.c 2 rfl
        refine kS fun K hK => ?_
        refine sq 9 [(true, 0), (true, 1), (true, 2), (true, 3), (true, 4), (true, 5), (true, 6), (true, 7), (true, 8)] fun T hT => ?_
        iterate 4 refine tk ?_
        iterate 4 refine sk ?_
        refine tk ?_
        refine nlS hT HF fun vw8 HG => ?_
        clear hT T HF lx3 lx4
        go_wp2
        refine hK.out _ _ ?_; clear hK K
        show Code.wp _ _ _ _ _
        have HF := HG; clear HG
        refine wp_cond_true (by rfl) ?_
        refine wp_exit ?_
        show Code.wp _ _ _ _ _
        refine wp_seq ?_
        have hws : IntKind.i64.wrap ((a : Int) + ((j : Int) + 1)) = (a : Int) + ((j : Int) + 1) := by rw [IntKind.wrap_i64]; omega
        have hgf : 100 < (a : Int) + ((j : Int) + 1) := by omega
        refine kS fun K hK => ?_
        refine sq 4 [(true, 0), (true, 1), (true, 2), (true, 3)] fun T hT => ?_
        iterate 4 refine tk ?_
        refine nlS hT HF fun vw9 HG => ?_
        clear hT T HF
        go_wp2
        refine hK.out _ _ ?_; clear hK K
        show Code.wp _ _ _ _ _
        refine fH ((((HG.out).er 2).er 1).er 0) fun Wx9 HF => ?_
        clear HG
        clear hws hgf
        refine wp_cond_true (by rfl) ?_
        refine kS fun K hK => ?_
        refine wp_region_lit ?_
        go_wp2
        refine hK.out _ _ ?_; clear hK K
        show Code.wp _ _ _ _ _
        refine fH (HF.out) fun Wx10 HG => ?_
        clear HF; have HF := HG; clear HG
        refine wp_ret ?_
        try simp only [Exit.then, Exit.inBlock]
        exact bodyPost_ret (v := .tuple #[.int .i64 0, .int .i64 0, .int .i64 3]) (by simp [results, Tryz.results67, go_sem]) rfl ⟨rfl, HF.out.1⟩
      · have HC : Hid ((a : Int) = c1 ∧ (j : Int) + 1 = c2 ∧ (0 : Int) = c3) := Lib.hid (by have e := HRES.out; rw [if_neg hfar] at e; simpa using e)
        obtain ⟨rfl, rfl, rfl⟩ := HC.out
        clear HC HRES
        refine wp_seq ?_
        have hd1 : decide (d = 1) = false := decide_eq_false HDN.out
        have lx2 := HF.out.c 0 rfl
        have lx4 := HF.out.c 2 rfl
        refine kS fun K hK => ?_
        refine sq 3 [(true, 0), (true, 1), (true, 2)] fun T hT => ?_
        iterate 3 refine tk ?_
        refine nlS hT HF fun vw5 HG => ?_
        clear hT T HF lx2 lx4
        go_wp2
        refine hK.out _ _ ?_; clear hK K
        show Code.wp _ _ _ _ _
        have HF := HG; clear HG
        clear hd1
        refine wp_cond_true (by rfl) ?_
        refine wp_skip ?_
        show Code.wp _ _ _ _ _
        refine wp_block ?_
        have su_4_6 : wl 10 ≤ 1 := wl_le.2 (by decide +kernel)
        obtain ⟨u4, HZ4⟩ : ∃ z, Hid ((p) * (10) = z) := ⟨_, Lib.hid rfl⟩
        have su4 : wl (u4) ≤ 1001 := by rw [← HZ4.out]; have := wl_mul (p) (10); omega
        obtain ⟨u5, HZ5⟩ : ∃ z, Hid ((u4) / (d) = z) := ⟨_, Lib.hid rfl⟩
        have su5 : wl (u5) ≤ 1001 := by rw [← HZ5.out]; have := wl_div (u4) (d); omega
        have HZ6 : Hid ((u4) % (d) = 1) := Lib.hid (by rw [← HQ.out]; simp only [← HZ5.out, ← HZ4.out])
        have su6 : wl (1) ≤ 1001 := by have e := HZ6.out; first | omega | (rw [← e]; have := wl_mod (u4) (d); omega) | exact wl_le.2 (by decide +kernel)
        have lx2 := HF.out.c 0 rfl
        have lx3 := HF.out.c 1 rfl
        refine kS fun K hK => ?_
        refine wp_region_plan 9 [] [8] (fun _ => 0) (fun _ => .cells #[] 0) [(true, 0), (true, 3), (true, 1), (true, 2), (true, 4), (true, 5), (true, 6), (true, 7), (true, 8)] (by kernel_rfl) (by kernel_rfl) (fun i hi => by cases hi) (by intro i hi; simp only [List.mem_cons, List.not_mem_nil, or_false] at hi; rcases hi with rfl <;> exact ⟨_, rfl, pure_extract⟩) (fun _ _ _ _ _ h => h) (fun T hT => ?_)
        iterate 2 refine tk ?_
        refine ck Tryz.call24 (fun w' hw => nzof 10 _ (by decide)) ?_
        refine ck Tryz.call110 (fun w' hw => nzmul (p) (10) (u4) _ HZ4.out om om) ?_
        refine ck Tryz.call43 (fun w' hw => nzdiv (u4) (d) (u5) (1) _ HZ5.out HZ6.out (by exact HD0.out) om om) ?_
        iterate 4 refine tk ?_
        refine wpPlan_nil (hT.out _ _ ?_)
        intro G vw6 hg hf
        simp only [puts, Act.put, lA, lB, lC, lD, lE, ↓reduceIte, Nat.reduceEqDiff]
        have HG := Lib.hid (HF.out.gr hg)
        clear hT T HF hg hf lx2 lx3
        have lx3 := HG.out.c 1 rfl; have fx3 := HG.out.f 1 rfl
        have r0 := Gr.refl vw6
        go_wp2
        refine hK.out _ _ ?_; clear hK K
        show Code.wp _ _ _ _ _
        clear r0 lx3 fx3
        refine fH ((HG.out).put2 1 0 rfl) fun Wx6 HF => ?_
        clear HG
        have hwj : IntKind.i64.wrap ((j : Int) + 1) = (j : Int) + 1 := by rw [IntKind.wrap_i64]; omega
        refine kS fun K hK => ?_
        refine sq 3 [(true, 0), (true, 1), (true, 2)] fun T hT => ?_
        iterate 3 refine tk ?_
        refine nlS hT HF fun vw7 HG => ?_
        clear hT T HF
        go_wp2
        refine hK.out _ _ ?_; clear hK K
        show Code.wp _ _ _ _ _
        have HF := HG; clear HG
        clear hwj
        have lx3 := HF.out.c 1 rfl
        have lx4 := HF.out.c 2 rfl
        refine kS fun K hK => ?_
        refine sq 9 [(true, 0), (true, 1), (true, 2), (true, 3), (true, 4), (true, 5), (true, 6), (true, 7), (true, 8)] fun T hT => ?_
        iterate 4 refine tk ?_
        iterate 4 refine sk ?_
        refine tk ?_
        refine nlS hT HF fun vw8 HG => ?_
        clear hT T HF lx3 lx4
        go_wp2
        refine hK.out _ _ ?_; clear hK K
        show Code.wp _ _ _ _ _
        have HF := HG; clear HG
        refine wp_cond_true (by rfl) ?_
        refine wp_exit ?_
        show Code.wp _ _ _ _ _
        refine wp_seq ?_
        have hws : IntKind.i64.wrap ((a : Int) + ((j : Int) + 1)) = (a : Int) + ((j : Int) + 1) := by rw [IntKind.wrap_i64]; omega
        have hgf : ¬ 100 < (a : Int) + ((j : Int) + 1) := by omega
        refine kS fun K hK => ?_
        refine sq 4 [(true, 0), (true, 1), (true, 2), (true, 3)] fun T hT => ?_
        iterate 4 refine tk ?_
        refine nlS hT HF fun vw9 HG => ?_
        clear hT T HF
        go_wp2
        refine hK.out _ _ ?_; clear hK K
        show Code.wp _ _ _ _ _
        refine fH ((((HG.out).er 2).er 1).er 0) fun Wx9 HF => ?_
        clear HG
        clear hws hgf
        refine wp_cond_false (by rfl) ?_
        refine wp_skip ?_
        show Code.wp _ _ _ _ _
        refine kS fun K hK => ?_
        refine sq 5 [(true, 0), (true, 1), (true, 2), (true, 3), (true, 4)] fun T hT => ?_
        iterate 5 refine tk ?_
        refine nlS hT HF fun vw10 HG => ?_
        clear hT T HF
        go_wp2
        refine hK.out _ _ ?_; clear hK K
        show Code.wp _ _ _ _ _
        have HF := HG; clear HG
        refine wp_ret ?_
        try simp only [Exit.then, Exit.inBlock]
        exact bodyPost_ret (v := .tuple #[.int .i64 ((a : Int)), .int .i64 ((j : Int) + 1), .int .i64 0]) (by simp [results, Tryz.results67, go_sem]) rfl ⟨rfl, HF.out.1⟩
    · have HNQ := Lib.hid hq
      clear hq
      by_cases hfar : 100 < a + (j + 1)
      · obtain rfl : R = j + 1 := by have e := HX.out; rwa [cyr_stop (.inr hfar), eq_comm] at e
        have HC : Hid ((0 : Int) = c1 ∧ (0 : Int) = c2 ∧ (3 : Int) = c3) := Lib.hid (by have e := HRES.out; rw [if_pos hfar] at e; simpa using e)
        obtain ⟨rfl, rfl, rfl⟩ := HC.out
        clear HC HRES
        refine wp_seq ?_
        have hd1 : decide (d = 1) = false := decide_eq_false HDN.out
        have lx2 := HF.out.c 0 rfl
        have lx4 := HF.out.c 2 rfl
        refine kS fun K hK => ?_
        refine sq 3 [(true, 0), (true, 1), (true, 2)] fun T hT => ?_
        iterate 3 refine tk ?_
        refine nlS hT HF fun vw5 HG => ?_
        clear hT T HF lx2 lx4
        go_wp2
        refine hK.out _ _ ?_; clear hK K
        show Code.wp _ _ _ _ _
        have HF := HG; clear HG
        clear hd1
        refine wp_cond_true (by rfl) ?_
        refine wp_skip ?_
        show Code.wp _ _ _ _ _
        refine wp_block ?_
        have su_4_6 : wl 10 ≤ 1 := wl_le.2 (by decide +kernel)
        obtain ⟨u4, HZ4⟩ : ∃ z, Hid ((p) * (10) = z) := ⟨_, Lib.hid rfl⟩
        have su4 : wl (u4) ≤ 1001 := by rw [← HZ4.out]; have := wl_mul (p) (10); omega
        obtain ⟨u5, HZ5⟩ : ∃ z, Hid ((u4) / (d) = z) := ⟨_, Lib.hid rfl⟩
        have su5 : wl (u5) ≤ 1001 := by rw [← HZ5.out]; have := wl_div (u4) (d); omega
        have HZ6 : Hid ((u4) % (d) = q) := Lib.hid (by rw [← HQ.out]; simp only [← HZ5.out, ← HZ4.out])
        have su6 : wl (q) ≤ 1001 := by have e := HZ6.out; first | omega | (rw [← e]; have := wl_mod (u4) (d); omega)
        have lx2 := HF.out.c 0 rfl
        have lx3 := HF.out.c 1 rfl
        refine kS fun K hK => ?_
        refine wp_region_plan 9 [] [8] (fun _ => 0) (fun _ => .cells #[] 0) [(true, 0), (true, 3), (true, 1), (true, 2), (true, 4), (true, 5), (true, 6), (true, 7), (true, 8)] (by kernel_rfl) (by kernel_rfl) (fun i hi => by cases hi) (by intro i hi; simp only [List.mem_cons, List.not_mem_nil, or_false] at hi; rcases hi with rfl <;> exact ⟨_, rfl, pure_extract⟩) (fun _ _ _ _ _ h => h) (fun T hT => ?_)
        iterate 2 refine tk ?_
        refine ck Tryz.call24 (fun w' hw => nzof 10 _ (by decide)) ?_
        refine ck Tryz.call110 (fun w' hw => nzmul (p) (10) (u4) _ HZ4.out om om) ?_
        refine ck Tryz.call43 (fun w' hw => nzdiv (u4) (d) (u5) (q) _ HZ5.out HZ6.out (by exact HD0.out) om om) ?_
        iterate 4 refine tk ?_
        refine wpPlan_nil (hT.out _ _ ?_)
        intro G vw6 hg hf
        simp only [puts, Act.put, lA, lB, lC, lD, lE, ↓reduceIte, Nat.reduceEqDiff]
        have HG := Lib.hid (HF.out.gr hg)
        clear hT T HF hg hf lx2 lx3
        have lx3 := HG.out.c 1 rfl; have fx3 := HG.out.f 1 rfl
        have r0 := Gr.refl vw6
        go_wp2
        refine hK.out _ _ ?_; clear hK K
        show Code.wp _ _ _ _ _
        clear r0 lx3 fx3
        refine fH ((HG.out).put2 1 0 rfl) fun Wx6 HF => ?_
        clear HG
        have hwj : IntKind.i64.wrap ((j : Int) + 1) = (j : Int) + 1 := by rw [IntKind.wrap_i64]; omega
        refine kS fun K hK => ?_
        refine sq 3 [(true, 0), (true, 1), (true, 2)] fun T hT => ?_
        iterate 3 refine tk ?_
        refine nlS hT HF fun vw7 HG => ?_
        clear hT T HF
        go_wp2
        refine hK.out _ _ ?_; clear hK K
        show Code.wp _ _ _ _ _
        have HF := HG; clear HG
        clear hwj
        have hq1 : decide (q = 1) = false := decide_eq_false HNQ.out
        have hwt : IntKind.i64.wrap ((a : Int) + ((j : Int) + 1)) = (a : Int) + ((j : Int) + 1) := by rw [IntKind.wrap_i64]; omega
        have hgt : 100 < (a : Int) + ((j : Int) + 1) := by omega
        have lx3 := HF.out.c 1 rfl
        have lx4 := HF.out.c 2 rfl
        refine kS fun K hK => ?_
        refine sq 9 [(true, 0), (true, 1), (true, 2), (true, 3), (true, 4), (true, 5), (true, 6), (true, 7), (true, 8)] fun T hT => ?_
        iterate 9 refine tk ?_
        refine nlS hT HF fun vw8 HG => ?_
        clear hT T HF lx3 lx4
        go_wp2
        refine hK.out _ _ ?_; clear hK K
        show Code.wp _ _ _ _ _
        have HF := HG; clear HG
        clear hq1 hwt hgt
        refine wp_cond_true (by rfl) ?_
        refine wp_exit ?_
        show Code.wp _ _ _ _ _
        refine wp_seq ?_
        have hws : IntKind.i64.wrap ((a : Int) + ((j : Int) + 1)) = (a : Int) + ((j : Int) + 1) := by rw [IntKind.wrap_i64]; omega
        have hgf : 100 < (a : Int) + ((j : Int) + 1) := by omega
        refine kS fun K hK => ?_
        refine sq 4 [(true, 0), (true, 1), (true, 2), (true, 3)] fun T hT => ?_
        iterate 4 refine tk ?_
        refine nlS hT HF fun vw9 HG => ?_
        clear hT T HF
        go_wp2
        refine hK.out _ _ ?_; clear hK K
        show Code.wp _ _ _ _ _
        refine fH ((((HG.out).er 2).er 1).er 0) fun Wx9 HF => ?_
        clear HG
        clear hws hgf
        refine wp_cond_true (by rfl) ?_
        refine kS fun K hK => ?_
        refine wp_region_lit ?_
        go_wp2
        refine hK.out _ _ ?_; clear hK K
        show Code.wp _ _ _ _ _
        refine fH (HF.out) fun Wx10 HG => ?_
        clear HF; have HF := HG; clear HG
        refine wp_ret ?_
        try simp only [Exit.then, Exit.inBlock]
        exact bodyPost_ret (v := .tuple #[.int .i64 0, .int .i64 0, .int .i64 3]) (by simp [results, Tryz.results67, go_sem]) rfl ⟨rfl, HF.out.1⟩
      · refine wp_seq ?_
        have hd1 : decide (d = 1) = false := decide_eq_false HDN.out
        have lx2 := HF.out.c 0 rfl
        have lx4 := HF.out.c 2 rfl
        refine kS fun K hK => ?_
        refine sq 3 [(true, 0), (true, 1), (true, 2)] fun T hT => ?_
        iterate 3 refine tk ?_
        refine nlS hT HF fun vw5 HG => ?_
        clear hT T HF lx2 lx4
        go_wp2
        refine hK.out _ _ ?_; clear hK K
        show Code.wp _ _ _ _ _
        have HF := HG; clear HG
        clear hd1
        refine wp_cond_true (by rfl) ?_
        refine wp_skip ?_
        show Code.wp _ _ _ _ _
        refine wp_block ?_
        have su_4_6 : wl 10 ≤ 1 := wl_le.2 (by decide +kernel)
        obtain ⟨u4, HZ4⟩ : ∃ z, Hid ((p) * (10) = z) := ⟨_, Lib.hid rfl⟩
        have su4 : wl (u4) ≤ 1001 := by rw [← HZ4.out]; have := wl_mul (p) (10); omega
        obtain ⟨u5, HZ5⟩ : ∃ z, Hid ((u4) / (d) = z) := ⟨_, Lib.hid rfl⟩
        have su5 : wl (u5) ≤ 1001 := by rw [← HZ5.out]; have := wl_div (u4) (d); omega
        have HZ6 : Hid ((u4) % (d) = q) := Lib.hid (by rw [← HQ.out]; simp only [← HZ5.out, ← HZ4.out])
        have su6 : wl (q) ≤ 1001 := by have e := HZ6.out; first | omega | (rw [← e]; have := wl_mod (u4) (d); omega)
        have lx2 := HF.out.c 0 rfl
        have lx3 := HF.out.c 1 rfl
        refine kS fun K hK => ?_
        refine wp_region_plan 9 [] [8] (fun _ => 0) (fun _ => .cells #[] 0) [(true, 0), (true, 3), (true, 1), (true, 2), (true, 4), (true, 5), (true, 6), (true, 7), (true, 8)] (by kernel_rfl) (by kernel_rfl) (fun i hi => by cases hi) (by intro i hi; simp only [List.mem_cons, List.not_mem_nil, or_false] at hi; rcases hi with rfl <;> exact ⟨_, rfl, pure_extract⟩) (fun _ _ _ _ _ h => h) (fun T hT => ?_)
        iterate 2 refine tk ?_
        refine ck Tryz.call24 (fun w' hw => nzof 10 _ (by decide)) ?_
        refine ck Tryz.call110 (fun w' hw => nzmul (p) (10) (u4) _ HZ4.out om om) ?_
        refine ck Tryz.call43 (fun w' hw => nzdiv (u4) (d) (u5) (q) _ HZ5.out HZ6.out (by exact HD0.out) om om) ?_
        iterate 4 refine tk ?_
        refine wpPlan_nil (hT.out _ _ ?_)
        intro G vw6 hg hf
        simp only [puts, Act.put, lA, lB, lC, lD, lE, ↓reduceIte, Nat.reduceEqDiff]
        have HG := Lib.hid (HF.out.gr hg)
        clear hT T HF hg hf lx2 lx3
        have lx3 := HG.out.c 1 rfl; have fx3 := HG.out.f 1 rfl
        have r0 := Gr.refl vw6
        go_wp2
        refine hK.out _ _ ?_; clear hK K
        show Code.wp _ _ _ _ _
        clear r0 lx3 fx3
        refine fH ((HG.out).put2 1 0 rfl) fun Wx6 HF => ?_
        clear HG
        have hwj : IntKind.i64.wrap ((j : Int) + 1) = (j : Int) + 1 := by rw [IntKind.wrap_i64]; omega
        refine kS fun K hK => ?_
        refine sq 3 [(true, 0), (true, 1), (true, 2)] fun T hT => ?_
        iterate 3 refine tk ?_
        refine nlS hT HF fun vw7 HG => ?_
        clear hT T HF
        go_wp2
        refine hK.out _ _ ?_; clear hK K
        show Code.wp _ _ _ _ _
        have HF := HG; clear HG
        clear hwj
        have hq1 : decide (q = 1) = false := decide_eq_false HNQ.out
        have hwt : IntKind.i64.wrap ((a : Int) + ((j : Int) + 1)) = (a : Int) + ((j : Int) + 1) := by rw [IntKind.wrap_i64]; omega
        have hgt : ¬ 100 < (a : Int) + ((j : Int) + 1) := by omega
        have lx3 := HF.out.c 1 rfl
        have lx4 := HF.out.c 2 rfl
        refine kS fun K hK => ?_
        refine sq 9 [(true, 0), (true, 1), (true, 2), (true, 3), (true, 4), (true, 5), (true, 6), (true, 7), (true, 8)] fun T hT => ?_
        iterate 9 refine tk ?_
        refine nlS hT HF fun vw8 HG => ?_
        clear hT T HF lx3 lx4
        go_wp2
        refine hK.out _ _ ?_; clear hK K
        show Code.wp _ _ _ _ _
        have HF := HG; clear HG
        clear hq1 hwt hgt
        refine wp_cond_false (by rfl) ?_
        refine wp_skip ?_
        try simp only [Exit.then, Exit.inBlock]
        refine h0_ _ _ ?_
        go_roundg k
        case measure => omega
        case rel => exact ⟨j + 1, q, rfl, by omega, by omega, Lib.hid (by have e := HX.out; rwa [cyr_go (by rw [HQ.out]; rintro (h | h); exact HNQ.out h; omega), HQ.out] at e), Lib.hid (by rw [← HQ.out]; exact Nat.le_trans (wl_mono (Nat.le_of_lt (Nat.mod_lt _ HD0.out))) (by omega)), Lib.hid (HF.out)⟩

set_option maxRecDepth 20000 in
set_option maxHeartbeats 4000000 in
theorem cycle_o1 (q : Rat) (x t f a : Nat) (w : World) (HWX : Hid ((wo 2 q.den 101).1 = x)) (HWT : Hid ((wo 2 q.den 101).2 = t)) (HWD : Hid ((wo 5 x 101).1 = 1)) (HWF : Hid ((wo 5 x 101).2 = f)) (HMX : Hid (max ((t : Nat) : Int) ((f : Nat) : Int) = (a : Int))) (ha : a ≤ 101) (hs : sz q ≤ 900) (hfar : ¬ 100 < a) :
    Calls Tryz.prog 67 #[(Value.agg #[.int .u64 ((lo (Int.natAbs ((q).num)) : Nat) : Int), .string (bg (Int.natAbs ((q).num))), .bool (decide (((q).num) < 0)), .int .u64 ((lo ((q).den - 1) : Nat) : Int), .string (bg ((q).den - 1))])] w fun e w' => e = .returned ((.tuple #[.int .i64 (a : Int), .int .i64 0, .int .i64 0])) ∧ Below w.heap.size w w' := by
  have hmx := HMX.out
  go_enter Tryz.func67, Tryz.ntmps67
  have HF := Lib.hid (hp0 w)
  refine kS fun K hK => ?_
  refine wp_region_lit ?_
  go_wp2
  refine hK.out _ _ ?_; clear hK K
  show Code.wp _ _ _ _ _
  refine fH ((HF.out).al (b := w.heap.size) (by first | rfl | simp) (by decide)) fun Wx0 HG => ?_
  clear HF; have HF := HG; clear HG
  have su1 : wl ((q).den) ≤ 900 := Nat.le_trans (sz_den _) om
  have sp1 : 0 < (q).den := (q).den_pos
  have su_0_1 : wl 2 ≤ 1 := wl_le.2 (by decide +kernel)
  have HZ2 : Hid ((wo (2) ((q).den) 101).1 = x) := Lib.hid (HWX.out)
  have su2 : wl (x) ≤ 900 := by have e := HZ2.out; first | omega | (rw [← e]; exact Nat.le_trans (wl_mono (wo_le _ _ _).2) (by omega))
  have lx0 := HF.out.c 0 rfl
  refine kS fun K hK => ?_
  refine sq 7 [(true, 0), (true, 1), (true, 2), (true, 3), (true, 4), (true, 5), (true, 6)] fun T hT => ?_
  refine tk ?_
  refine ck Tryz.call38 (fun w' hw => fDen_any (q) _ om) ?_
  refine ck Tryz.call24 (fun w' hw => nzof 2 _ (by decide)) ?_
  refine ck Tryz.call175 (fun w' hw => without0 ((q).den) (2) 101 (x) (t) _ (Lib.hid HZ2.out) (Lib.hid (HWT.out)) (Lib.hid om) (by decide) (wl_small (by decide)) (by omega)) ?_
  iterate 3 refine tk ?_
  refine nlS hT HF fun vw1 HG => ?_
  clear hT T HF lx0
  go_wp2
  refine hK.out _ _ ?_; clear hK K
  show Code.wp _ _ _ _ _
  refine fH (((HG.out).al (b := vw1.heap.size) (by first | rfl | simp) (by decide)).er 0) fun Wx1 HF => ?_
  clear HG
  generalize vw1.heap.size = gx2 at *
  have su_1_2 : wl 5 ≤ 1 := wl_le.2 (by decide +kernel)
  have HZ3 : Hid ((wo (5) (x) 101).1 = 1) := Lib.hid (HWD.out)
  have su3 : wl (1) ≤ 900 := by have e := HZ3.out; first | omega | (rw [← e]; exact Nat.le_trans (wl_mono (wo_le _ _ _).2) (by omega)) | exact wl_le.2 (by decide +kernel)
  have lx2 := HF.out.c 0 rfl
  refine kS fun K hK => ?_
  refine wp_region_plan 6 [] [5] (fun _ => 0) (fun _ => .cells #[] 0) [(true, 0), (true, 1), (true, 2), (true, 3), (true, 4), (true, 5)] (by kernel_rfl) (by kernel_rfl) (fun i hi => by cases hi) (by intro i hi; simp only [List.mem_cons, List.not_mem_nil, or_false] at hi; rcases hi with rfl <;> exact ⟨_, rfl, pure_extract⟩) (fun _ _ _ _ _ h => h) (fun T hT => ?_)
  refine tk ?_
  refine ck Tryz.call24 (fun w' hw => nzof 5 _ (by decide)) ?_
  refine ck Tryz.call175 (fun w' hw => without0 (x) (5) 101 (1) (f) _ (Lib.hid HZ3.out) (Lib.hid (HWF.out)) (Lib.hid om) (by decide) (wl_small (by decide)) (by omega)) ?_
  iterate 3 refine tk ?_
  refine wpPlan_nil (hT.out _ _ ?_)
  intro G vw2 hg hf
  simp only [puts, Act.put, lA, lB, lC, lD, lE, ↓reduceIte, Nat.reduceEqDiff]
  have HG := Lib.hid (HF.out.gr hg)
  clear hT T HF hg hf lx2
  have lx2 := HG.out.c 0 rfl; have fx2 := HG.out.f 0 rfl
  have r0 := Gr.refl vw2
  go_wp2
  refine hK.out _ _ ?_; clear hK K
  show Code.wp _ _ _ _ _
  clear r0 lx2 fx2
  refine fH ((HG.out).put2 0 0 rfl) fun Wx2 HF => ?_
  clear HG
  refine kS fun K hK => ?_
  refine sq 4 [(true, 0), (true, 1), (true, 2), (true, 3)] fun T hT => ?_
  iterate 4 refine tk ?_
  refine nlS hT HF fun vw3 HG => ?_
  clear hT T HF
  go_wp2
  refine hK.out _ _ ?_; clear hK K
  show Code.wp _ _ _ _ _
  have HF := HG; clear HG
  have su_2_4 : wl 1 ≤ 1 := wl_le.2 (by decide +kernel)
  have su_3_4 : wl 1 ≤ 1 := wl_le.2 (by decide +kernel)
  refine kS fun K hK => ?_
  refine sq 2 [(true, 0), (true, 1)] fun T hT => ?_
  refine ck Tryz.call24 (fun w' hw => nzof 1 _ (by decide)) ?_
  refine ck Tryz.call24 (fun w' hw => nzof 1 _ (by decide)) ?_
  refine nlS hT HF fun vw4 HG => ?_
  clear hT T HF
  go_wp2
  refine hK.out _ _ ?_; clear hK K
  show Code.wp _ _ _ _ _
  refine fH (((HG.out).al (b := vw4.heap.size) (by first | rfl | simp) (by decide)).al (b := vw4.heap.size + 1) (by first | rfl | simp) (by decide)) fun Wx4 HF => ?_
  clear HG
  generalize vw4.heap.size + 1 = gx4 at *
  generalize vw4.heap.size = gx3 at *
  refine wp_seq ?_
  refine wp_block ?_
  refine wp_loop_rounds 12 ?_
  rw [rounds_succ]
  refine wp_seq ?_
  have lx2 := HF.out.c 0 rfl
  have lx4 := HF.out.c 2 rfl
  refine kS fun K hK => ?_
  refine sq 3 [(true, 0), (true, 1), (true, 2)] fun T hT => ?_
  iterate 3 refine tk ?_
  refine nlS hT HF fun vw5 HG => ?_
  clear hT T HF lx2 lx4
  go_wp2
  refine hK.out _ _ ?_; clear hK K
  show Code.wp _ _ _ _ _
  have HF := HG; clear HG
  refine wp_cond_false (by rfl) ?_
  refine wp_exit ?_
  show Code.wp _ _ _ _ _
  refine wp_seq ?_
  have hws : IntKind.i64.wrap (a : Int) = (a : Int) := by rw [IntKind.wrap_i64]; omega
  have hgf : ¬ 100 < (a : Int) := by omega
  refine kS fun K hK => ?_
  refine sq 4 [(true, 0), (true, 1), (true, 2), (true, 3)] fun T hT => ?_
  iterate 4 refine tk ?_
  refine nlS hT HF fun vw6 HG => ?_
  clear hT T HF
  go_wp2
  refine hK.out _ _ ?_; clear hK K
  show Code.wp _ _ _ _ _
  refine fH ((((HG.out).er 2).er 1).er 0) fun Wx9 HF => ?_
  clear HG
  clear hws hgf
  refine wp_cond_false (by rfl) ?_
  refine wp_skip ?_
  show Code.wp _ _ _ _ _
  refine kS fun K hK => ?_
  refine sq 5 [(true, 0), (true, 1), (true, 2), (true, 3), (true, 4)] fun T hT => ?_
  iterate 5 refine tk ?_
  refine nlS hT HF fun vw7 HG => ?_
  clear hT T HF
  go_wp2
  refine hK.out _ _ ?_; clear hK K
  show Code.wp _ _ _ _ _
  have HF := HG; clear HG
  refine wp_ret ?_
  try simp only [Exit.then, Exit.inBlock]
  exact bodyPost_ret (v := .tuple #[.int .i64 ((a : Int)), .int .i64 0, .int .i64 0]) (by simp [results, Tryz.results67, go_sem]) rfl ⟨rfl, HF.out.1⟩

set_option maxRecDepth 20000 in
set_option maxHeartbeats 4000000 in
theorem cycle_o2 (q : Rat) (x t f a : Nat) (w : World) (HWX : Hid ((wo 2 q.den 101).1 = x)) (HWT : Hid ((wo 2 q.den 101).2 = t)) (HWD : Hid ((wo 5 x 101).1 = 1)) (HWF : Hid ((wo 5 x 101).2 = f)) (HMX : Hid (max ((t : Nat) : Int) ((f : Nat) : Int) = (a : Int))) (ha : a ≤ 101) (hs : sz q ≤ 900) (hfar : 100 < a) :
    Calls Tryz.prog 67 #[(Value.agg #[.int .u64 ((lo (Int.natAbs ((q).num)) : Nat) : Int), .string (bg (Int.natAbs ((q).num))), .bool (decide (((q).num) < 0)), .int .u64 ((lo ((q).den - 1) : Nat) : Int), .string (bg ((q).den - 1))])] w fun e w' => e = .returned ((.tuple #[.int .i64 0, .int .i64 0, .int .i64 3])) ∧ Below w.heap.size w w' := by
  have hmx := HMX.out
  go_enter Tryz.func67, Tryz.ntmps67
  have HF := Lib.hid (hp0 w)
  refine kS fun K hK => ?_
  refine wp_region_lit ?_
  go_wp2
  refine hK.out _ _ ?_; clear hK K
  show Code.wp _ _ _ _ _
  refine fH ((HF.out).al (b := w.heap.size) (by first | rfl | simp) (by decide)) fun Wx0 HG => ?_
  clear HF; have HF := HG; clear HG
  have su1 : wl ((q).den) ≤ 900 := Nat.le_trans (sz_den _) om
  have sp1 : 0 < (q).den := (q).den_pos
  have su_0_1 : wl 2 ≤ 1 := wl_le.2 (by decide +kernel)
  have HZ2 : Hid ((wo (2) ((q).den) 101).1 = x) := Lib.hid (HWX.out)
  have su2 : wl (x) ≤ 900 := by have e := HZ2.out; first | omega | (rw [← e]; exact Nat.le_trans (wl_mono (wo_le _ _ _).2) (by omega))
  have lx0 := HF.out.c 0 rfl
  refine kS fun K hK => ?_
  refine sq 7 [(true, 0), (true, 1), (true, 2), (true, 3), (true, 4), (true, 5), (true, 6)] fun T hT => ?_
  refine tk ?_
  refine ck Tryz.call38 (fun w' hw => fDen_any (q) _ om) ?_
  refine ck Tryz.call24 (fun w' hw => nzof 2 _ (by decide)) ?_
  refine ck Tryz.call175 (fun w' hw => without0 ((q).den) (2) 101 (x) (t) _ (Lib.hid HZ2.out) (Lib.hid (HWT.out)) (Lib.hid om) (by decide) (wl_small (by decide)) (by omega)) ?_
  iterate 3 refine tk ?_
  refine nlS hT HF fun vw1 HG => ?_
  clear hT T HF lx0
  go_wp2
  refine hK.out _ _ ?_; clear hK K
  show Code.wp _ _ _ _ _
  refine fH (((HG.out).al (b := vw1.heap.size) (by first | rfl | simp) (by decide)).er 0) fun Wx1 HF => ?_
  clear HG
  generalize vw1.heap.size = gx2 at *
  have su_1_2 : wl 5 ≤ 1 := wl_le.2 (by decide +kernel)
  have HZ3 : Hid ((wo (5) (x) 101).1 = 1) := Lib.hid (HWD.out)
  have su3 : wl (1) ≤ 900 := by have e := HZ3.out; first | omega | (rw [← e]; exact Nat.le_trans (wl_mono (wo_le _ _ _).2) (by omega)) | exact wl_le.2 (by decide +kernel)
  have lx2 := HF.out.c 0 rfl
  refine kS fun K hK => ?_
  refine wp_region_plan 6 [] [5] (fun _ => 0) (fun _ => .cells #[] 0) [(true, 0), (true, 1), (true, 2), (true, 3), (true, 4), (true, 5)] (by kernel_rfl) (by kernel_rfl) (fun i hi => by cases hi) (by intro i hi; simp only [List.mem_cons, List.not_mem_nil, or_false] at hi; rcases hi with rfl <;> exact ⟨_, rfl, pure_extract⟩) (fun _ _ _ _ _ h => h) (fun T hT => ?_)
  refine tk ?_
  refine ck Tryz.call24 (fun w' hw => nzof 5 _ (by decide)) ?_
  refine ck Tryz.call175 (fun w' hw => without0 (x) (5) 101 (1) (f) _ (Lib.hid HZ3.out) (Lib.hid (HWF.out)) (Lib.hid om) (by decide) (wl_small (by decide)) (by omega)) ?_
  iterate 3 refine tk ?_
  refine wpPlan_nil (hT.out _ _ ?_)
  intro G vw2 hg hf
  simp only [puts, Act.put, lA, lB, lC, lD, lE, ↓reduceIte, Nat.reduceEqDiff]
  have HG := Lib.hid (HF.out.gr hg)
  clear hT T HF hg hf lx2
  have lx2 := HG.out.c 0 rfl; have fx2 := HG.out.f 0 rfl
  have r0 := Gr.refl vw2
  go_wp2
  refine hK.out _ _ ?_; clear hK K
  show Code.wp _ _ _ _ _
  clear r0 lx2 fx2
  refine fH ((HG.out).put2 0 0 rfl) fun Wx2 HF => ?_
  clear HG
  refine kS fun K hK => ?_
  refine sq 4 [(true, 0), (true, 1), (true, 2), (true, 3)] fun T hT => ?_
  iterate 4 refine tk ?_
  refine nlS hT HF fun vw3 HG => ?_
  clear hT T HF
  go_wp2
  refine hK.out _ _ ?_; clear hK K
  show Code.wp _ _ _ _ _
  have HF := HG; clear HG
  have su_2_4 : wl 1 ≤ 1 := wl_le.2 (by decide +kernel)
  have su_3_4 : wl 1 ≤ 1 := wl_le.2 (by decide +kernel)
  refine kS fun K hK => ?_
  refine sq 2 [(true, 0), (true, 1)] fun T hT => ?_
  refine ck Tryz.call24 (fun w' hw => nzof 1 _ (by decide)) ?_
  refine ck Tryz.call24 (fun w' hw => nzof 1 _ (by decide)) ?_
  refine nlS hT HF fun vw4 HG => ?_
  clear hT T HF
  go_wp2
  refine hK.out _ _ ?_; clear hK K
  show Code.wp _ _ _ _ _
  refine fH (((HG.out).al (b := vw4.heap.size) (by first | rfl | simp) (by decide)).al (b := vw4.heap.size + 1) (by first | rfl | simp) (by decide)) fun Wx4 HF => ?_
  clear HG
  generalize vw4.heap.size + 1 = gx4 at *
  generalize vw4.heap.size = gx3 at *
  refine wp_seq ?_
  refine wp_block ?_
  refine wp_loop_rounds 12 ?_
  rw [rounds_succ]
  refine wp_seq ?_
  have lx2 := HF.out.c 0 rfl
  have lx4 := HF.out.c 2 rfl
  refine kS fun K hK => ?_
  refine sq 3 [(true, 0), (true, 1), (true, 2)] fun T hT => ?_
  iterate 3 refine tk ?_
  refine nlS hT HF fun vw5 HG => ?_
  clear hT T HF lx2 lx4
  go_wp2
  refine hK.out _ _ ?_; clear hK K
  show Code.wp _ _ _ _ _
  have HF := HG; clear HG
  refine wp_cond_false (by rfl) ?_
  refine wp_exit ?_
  show Code.wp _ _ _ _ _
  refine wp_seq ?_
  have hws : IntKind.i64.wrap (a : Int) = (a : Int) := by rw [IntKind.wrap_i64]; omega
  have hgf : 100 < (a : Int) := by omega
  refine kS fun K hK => ?_
  refine sq 4 [(true, 0), (true, 1), (true, 2), (true, 3)] fun T hT => ?_
  iterate 4 refine tk ?_
  refine nlS hT HF fun vw6 HG => ?_
  clear hT T HF
  go_wp2
  refine hK.out _ _ ?_; clear hK K
  show Code.wp _ _ _ _ _
  refine fH ((((HG.out).er 2).er 1).er 0) fun Wx9 HF => ?_
  clear HG
  clear hws hgf
  refine wp_cond_true (by rfl) ?_
  refine kS fun K hK => ?_
  refine wp_region_lit ?_
  go_wp2
  refine hK.out _ _ ?_; clear hK K
  show Code.wp _ _ _ _ _
  refine fH (HF.out) fun Wx10 HG => ?_
  clear HF; have HF := HG; clear HG
  refine wp_ret ?_
  try simp only [Exit.then, Exit.inBlock]
  exact bodyPost_ret (v := .tuple #[.int .i64 0, .int .i64 0, .int .i64 3]) (by simp [results, Tryz.results67, go_sem]) rfl ⟨rfl, HF.out.1⟩

theorem cycle_any (q : Rat) (c1 c2 c3 : Int) (w : World) (h : cyc q.den = (c1, c2, c3)) (hs : sz q ≤ 900) :
    Calls Tryz.prog 67 #[(Value.agg #[.int .u64 ((lo (Int.natAbs ((q).num)) : Nat) : Int), .string (bg (Int.natAbs ((q).num))), .bool (decide (((q).num) < 0)), .int .u64 ((lo ((q).den - 1) : Nat) : Int), .string (bg ((q).den - 1))])] w fun e w' => e = .returned (.tuple #[.int .i64 c1, .int .i64 c2, .int .i64 c3]) ∧ Below w.heap.size w w' := by
  have a1 := (wo_le 2 101 q.den).1
  have a2 := (wo_le 5 101 (wo 2 q.den 101).1).1
  have hp : 0 < cyd q.den := wo_pos _ _ _ (wo_pos _ _ _ q.den_pos)
  have hmx : max (((wo 2 q.den 101).2 : Nat) : Int) (((wo 5 (wo 2 q.den 101).1 101).2 : Nat) : Int) = ((cya q.den : Nat) : Int) := by unfold cya; omega
  have hca : cya q.den ≤ 101 := by unfold cya; omega
  unfold cyc cyl at h
  by_cases hd : cyd q.den = 1
  · rw [if_pos hd] at h
    by_cases hf : 100 < cya q.den
    · rw [if_pos (by omega)] at h
      injection h with h1 h2; injection h2 with h2 h3; subst h1 h2 h3
      exact cycle_o2 q _ _ _ _ w (Lib.hid rfl) (Lib.hid rfl) (Lib.hid hd) (Lib.hid rfl) (Lib.hid hmx) hca hs hf
    · rw [if_neg (by omega)] at h
      injection h with h1 h2; injection h2 with h2 h3; subst h1 h2 h3
      exact cycle_o1 q _ _ _ _ w (Lib.hid rfl) (Lib.hid rfl) (Lib.hid hd) (Lib.hid rfl) (Lib.hid hmx) hca hs hf
  · rw [if_neg hd] at h
    exact cycle_of q _ _ _ _ _ _ _ _ _ w (Lib.hid rfl) (Lib.hid rfl) (Lib.hid rfl) (Lib.hid rfl) (Lib.hid hmx) hca hs (Lib.hid hd) (Lib.hid hp) (Lib.hid rfl) (Lib.hid h)

end Go.Proofs.YtobojnodohjiaaaGreatDoor
