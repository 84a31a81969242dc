/- A pack of texts: NatZ, LawN, LawN2, LawW. No condition but those stated. -/
import Derived.Test.YteenojfbnbkedaaDoorSh
import Derived.Test.YteenojfbnbkedaaDoorPC
import Derived.Test.YteenojfbnbkedaaDoorPR
import Derived.Test.YteenojfbnbkedaaDoorPE
import Derived.Test.YteenojfbnbkedaaDoorPP
import Derived.Test.YteenojfbnbkedaaDoorRefK
import Derived.Test.YteenojfbnbkedaaDoorPH
import Derived.Test.YteenojfbnbkedaaDoorRefL
import Derived.Test.YteenojfbnbkedaaDoorPI
set_option linter.unusedVariables false
set_option linter.unusedSimpArgs false

/- The contracts of package nats with the result under a name of the caller's. No condition but a bound on lengths. -/
namespace Go.Proofs.YteenojfbnbkedaaDoor
open Go.RowKit
set_option linter.unusedSimpArgs false
set_option linter.unusedVariables false

theorem nzof (n : Nat) (w : World) (h : n < 18446744073709551616) :
    Calls Tryd.prog 38 #[.int .u64 ((n : Nat) : Int)] w fun e w' => e = .returned (Value.agg #[.int .u64 (lo (n)), .string (bg (n))]) ∧ Below w.heap.size w w' := by
  have := of_small ((n : Nat) : Int) w (by omega) (by omega)
  rwa [Int.toNat_natCast] at this
theorem nzgcd (a b z : Nat) (w : World) (hz : Nat.gcd a b = z) (ha : wl a ≤ 549755813888) (hb : wl b ≤ 549755813888) :
    Calls Tryd.prog 25 #[(Value.agg #[.int .u64 (lo (a)), .string (bg (a))]), (Value.agg #[.int .u64 (lo (b)), .string (bg (b))])] w fun e w' => e = .returned (Value.agg #[.int .u64 (lo (z)), .string (bg (z))]) ∧ Below w.heap.size w w' := hz ▸ gcd_any a b w ha hb
theorem nzadd (a b z : Nat) (w : World) (hz : a + b = z) (ha : wl a ≤ 549755813888) (hb : wl b ≤ 549755813888) :
    Calls Tryd.prog 18 #[(Value.agg #[.int .u64 (lo (a)), .string (bg (a))]), (Value.agg #[.int .u64 (lo (b)), .string (bg (b))])] w fun e w' => e = .returned (Value.agg #[.int .u64 (lo (z)), .string (bg (z))]) ∧ Below w.heap.size w w' := hz ▸ add_any a b w ha hb
theorem nzmul (a b z : Nat) (w : World) (hz : a * b = z) (ha : wl a ≤ 549755813888) (hb : wl b ≤ 549755813888) :
    Calls Tryd.prog 23 #[(Value.agg #[.int .u64 (lo (a)), .string (bg (a))]), (Value.agg #[.int .u64 (lo (b)), .string (bg (b))])] w fun e w' => e = .returned (Value.agg #[.int .u64 (lo (z)), .string (bg (z))]) ∧ Below w.heap.size w w' := hz ▸ mul_any a b w ha hb
theorem nzsub (a b z : Nat) (w : World) (hz : a - b = z) (h0 : b ≤ a) (ha : wl a ≤ 549755813888) (hb : wl b ≤ 549755813888) :
    Calls Tryd.prog 16 #[(Value.agg #[.int .u64 (lo (a)), .string (bg (a))]), (Value.agg #[.int .u64 (lo (b)), .string (bg (b))])] w fun e w' => e = .returned (.tuple #[(Value.agg #[.int .u64 (lo (z)), .string (bg (z))]), .bool true]) ∧ Below w.heap.size w w' := by
  have := sub_any a b w (by omega) (by omega)
  rw [decide_eq_true h0, hz] at this
  exact this
theorem nzsubno (a b : Nat) (w : World) (h0 : a < b) (ha : wl a ≤ 549755813888) (hb : wl b ≤ 549755813888) :
    Calls Tryd.prog 16 #[(Value.agg #[.int .u64 (lo (a)), .string (bg (a))]), (Value.agg #[.int .u64 (lo (b)), .string (bg (b))])] w fun e w' => e = .returned (.tuple #[(Value.agg #[.int .u64 (lo (0)), .string (bg (0))]), .bool false]) ∧ Below w.heap.size w w' := by
  have := sub_any a b w (by omega) (by omega)
  rw [decide_eq_false (by omega), show a - b = 0 by omega] at this
  exact this
theorem nzdiv (a b q r : Nat) (w : World) (hq : a / b = q) (hr : a % b = r) (h0 : 0 < b) (ha : wl a ≤ 549755813888) (hb : wl b ≤ 549755813888) :
    Calls Tryd.prog 22 #[(Value.agg #[.int .u64 (lo (a)), .string (bg (a))]), (Value.agg #[.int .u64 (lo (b)), .string (bg (b))])] w fun e w' => e = .returned (.tuple #[(Value.agg #[.int .u64 (lo (q)), .string (bg (q))]), (Value.agg #[.int .u64 (lo (r)), .string (bg (r))]), .bool true]) ∧ Below w.heap.size w w' := by
  refine (div_any a b w ha hb).mono fun e w' h => ?_
  unfold DivPost at h
  rw [if_neg (by omega), hq, hr] at h
  exact h
theorem nzdivno (a b : Nat) (w : World) (h0 : b = 0) (ha : wl a ≤ 549755813888) (hb : wl b ≤ 549755813888) :
    Calls Tryd.prog 22 #[(Value.agg #[.int .u64 (lo (a)), .string (bg (a))]), (Value.agg #[.int .u64 (lo (b)), .string (bg (b))])] w fun e w' => e = .returned (.tuple #[(Value.agg #[.int .u64 (lo (0)), .string (bg (0))]), (Value.agg #[.int .u64 (lo (0)), .string (bg (0))]), .bool false]) ∧ Below w.heap.size w w' := by
  refine (div_any a b w ha hb).mono fun e w' h => ?_
  unfold DivPost at h
  rw [if_pos h0] at h
  exact h
theorem nzcmp (a b : Nat) (c : Int) (w : World) (hc : cmpI (a : Int) (b : Int) = c) (ha : wl a ≤ 549755813888) (hb : wl b ≤ 549755813888) :
    Calls Tryd.prog 20 #[(Value.agg #[.int .u64 (lo (a)), .string (bg (a))]), (Value.agg #[.int .u64 (lo (b)), .string (bg (b))])] w fun e w' => e = .returned (.int .i64 c) ∧ Below w.heap.size w w' := by
  rw [← hc]
  exact cmp_any a b w (by omega) (by omega)
theorem nzpow (a n z : Nat) (w : World) (hz : a ^ n = z) (hn : n ≤ 4096) (hb : n * nb a ≤ 262144) (ha : wl a ≤ 8192) :
    Calls Tryd.prog 32 #[(Value.agg #[.int .u64 (lo (a)), .string (bg (a))]), .int .i64 ((n : Nat) : Int)] w fun e w' => e = .returned (.tuple #[(Value.agg #[.int .u64 (lo (z)), .string (bg (z))]), .int .i64 0]) ∧ Below w.heap.size w w' := hz ▸ pow_ok a n w hn hb ha
theorem nzsqrt (a z : Nat) (w : World) (hz : rt a = z) (ha : wl a ≤ 900000) :
    Calls Tryd.prog 28 #[(Value.agg #[.int .u64 (lo (a)), .string (bg (a))])] w fun e w' => e = .returned (Value.agg #[.int .u64 (lo (z)), .string (bg (z))]) ∧ Below w.heap.size w w' := hz ▸ sqrt_any a w ha
theorem nzbits (a n : Nat) (w : World) (hz : nb a = n) (ha : wl a ≤ 900000) :
    Calls Tryd.prog 30 #[(Value.agg #[.int .u64 (lo (a)), .string (bg (a))])] w fun e w' => e = .returned (.int .i64 ((n : Nat) : Int)) ∧ Below w.heap.size w w' := hz ▸ bits_any a w (by omega)
/-- the decimal form of a known number -/
theorem nztext (a : Nat) (s : List UInt8) (w : World) (hs : Lib.decDigits a = s) (ha : wl a ≤ 900000) (HT : Hid (Tab w)) :
    Calls Tryd.prog 36 #[(Value.agg #[.int .u64 (lo (a)), .string (bg (a))])] w fun e w' => e = .returned (.string ⟨s.toArray⟩) ∧ Below w.heap.size w w' := hs ▸ text_any a w (by omega) HT
theorem nzparse (s : ByteArray) (n : Nat) (c : Int) (w : World) (hn : pnum s = n) (hc : pcode s = c) (hs : s.size ≤ 9223372036854775807) :
    Calls Tryd.prog 34 #[.string s] w fun e w' => e = .returned (.tuple #[(Value.agg #[.int .u64 (lo (n)), .string (bg (n))]), .int .i64 c]) ∧ Below w.heap.size w w' := hn ▸ hc ▸ parse_any s w hs
set_option maxRecDepth 100000 in
theorem nzu64 (a z : Nat) (w : World) (hz : a = z) (h : a < 18446744073709551616) :
    Calls Tryd.prog 39 #[(Value.agg #[.int .u64 (lo (a)), .string (bg (a))])] w fun e w' => e = .returned (.tuple #[.int .u64 ((z : Nat) : Int), .bool true]) ∧ Below w.heap.size w w' := by
  have e1 : lo a = z := by rw [lo_small h]; exact hz
  have e2 : decide (a < 18446744073709551616) = true := decide_eq_true h
  refine (u64_any a w).mono fun e w' hh => ⟨?_, hh.2⟩
  rw [hh.1, e1, e2]
set_option maxRecDepth 100000 in
theorem nzu64no (a : Nat) (w : World) (h : ¬ a < 18446744073709551616) :
    Calls Tryd.prog 39 #[(Value.agg #[.int .u64 (lo (a)), .string (bg (a))])] w fun e w' => e = .returned (.tuple #[.int .u64 0, .bool false]) ∧ Below w.heap.size w w' := by
  have e1 : lo a = 0 := lo_big h
  have e2 : decide (a < 18446744073709551616) = false := decide_eq_false h
  refine (u64_any a w).mono fun e w' hh => ⟨?_, hh.2⟩
  rw [hh.1, e1, e2]
  rfl
/-- the digits of a given number -/
def decF : Nat → Nat → List UInt8 → List UInt8
  | 0, _, acc => acc
  | k + 1, u, acc => if u < 10 then UInt8.ofNat (48 + u) :: acc else decF k (u / 10) (UInt8.ofNat (48 + u % 10) :: acc)
theorem decF_eq : ∀ (k u : Nat) (acc : List UInt8), u < 10 ^ (k + 1) → decF (k + 1) u acc = Lib.decDigits u ++ acc
  | 0, u, acc, h => by
    have h' : u < 10 := by simpa using h
    unfold decF
    rw [if_pos h', Lib.decDigits, dif_pos h']
    rfl
  | k + 1, u, acc, h => by
    unfold decF
    by_cases h' : u < 10
    · rw [if_pos h', Lib.decDigits, dif_pos h']; rfl
    · rw [if_neg h', decF_eq k (u / 10) _ (by rw [Nat.pow_succ] at h; omega), decDigits_big h', List.append_assoc]; rfl
theorem dec_lit {u : Nat} {s : List UInt8} (k : Nat) (h : u < 10 ^ (k + 1)) (e : decF (k + 1) u [] = s) : Lib.decDigits u = s := by
  rw [← e, decF_eq k u [] h, List.append_nil]
end Go.Proofs.YteenojfbnbkedaaDoor


/- gussetlaw01: Made, same, number. No condition but a bound on lengths. -/
namespace Go.Proofs.YteenojfbnbkedaaDoor
open Go.RowKit
set_option linter.unusedSimpArgs false
set_option linter.unusedVariables false

set_option maxRecDepth 20000 in
set_option maxHeartbeats 2000000 in
theorem zmade (v : Value) (k : Nat) (f : Nat → Nat) (z : Nat) (w0 w : World) (hz : vl f k = z) (hk : k ≤ 1000000) (h : Wa w0 v k f) (hgr : Gr w0 w) (hf : ∀ i, i < k → f i < 4294967296) :
    Calls Tryd.prog 13 #[v] w fun e w' => e = .returned (Value.agg #[.int .u64 (lo (z)), .string (bg (z))]) ∧ Below w.heap.size w w' := by
  have HZ := Lib.hid hz
  have HF := Lib.hid hf
  have HW := Lib.hid (h.gr hgr)
  obtain ⟨ao, c, rfl⟩ := h.slice
  clear hf h hz hgr
  obtain ⟨W0, HW0⟩ : ∃ W0, Hid ((w.alloc (.cells #[.int .u64 0, .string ⟨#[]⟩] 26)).alloc (.cells #[.int .u64 0, .string ⟨#[]⟩] 26) = W0) := ⟨_, Lib.hid rfl⟩
  have HB0 : Hid (Below w.heap.size w W0) := Lib.hid (by rw [← HW0.out]; exact ((Below.refl _ _).alloc (Nat.le_refl _) _).alloc (by simp) _)
  have HR0 : Hid (Bx W0 w.heap.size 26 #[.int .u64 0, .string ⟨#[]⟩]) := Lib.hid (by rw [← HW0.out]; exact (Bx.new _ _ _).alloc _)
  have HO0 : Hid (Bx W0 (w.heap.size + 1) 26 #[.int .u64 (lo (upv f k k)), .string (bg (upv f k k))]) := Lib.hid (by rw [← HW0.out, upv_none, lo_zero, bg_zero]; exact Bx.at (by simp))
  go_enter Tryd.func13, Tryd.ntmps13
  go_wp2_with fail
  rw [HW0.out]
  clear HW0
  go_loopg [4] k (fun j i wr => i = .int .i64 ((j : Int) - 1) ∧ j ≤ k ∧ Hid (Bx wr w.heap.size 26 #[.int .u64 0, .string ⟨#[]⟩]) ∧ Hid (Bx wr (w.heap.size + 1) 26 #[.int .u64 (lo (upv f k j)), .string (bg (upv f k j))]) ∧ Hid (Below w.heap.size w wr))
  case atStart => exact ⟨rfl, Nat.le_refl _, HR0, HO0, HB0⟩
  case round =>
    obtain ⟨rfl, hj, HR, HO, HB⟩ := hrel
    clear HR0 HO0 HB0
    by_cases h0 : gk = 0
    · subst h0
      have hv : upv f k 0 = z := by rw [upv_all]; exact HZ.out
      rw [hv] at HO
      clear hv
      have x0 := HO.out.c0 (Gr.refl _)
      have x1 := HO.out.c1 (Gr.refl _)
      have r0 := HR.out.c0 (Gr.refl _)
      have r1 := HR.out.c1 (Gr.refl _)
      have fr := HR.out.free wr (Gr.refl _)
      go_wp2_with fail
      exact bodyPost_ret (v := (Value.agg #[.int .u64 (lo (z)), .string (bg (z))])) (by simp [results, Tryd.results13, go_sem, r0, r1]) rfl ⟨rfl, below_set2 HB.out (Nat.le_refl _) _ _⟩
    · obtain ⟨j, rfl⟩ : ∃ j, gk = j + 1 := ⟨gk - 1, by omega⟩
      have hj2 : ((j + 1 : Nat) : Int) - 1 = (j : Int) := by omega
      rw [hj2]
      rcases HW.out with ⟨_, _, _, h⟩ | ⟨b, o, c2, hv, hb, hcell⟩
      · omega
      injection hv with hv1 _ hv3
      subst hv1 hv3
      obtain ⟨d, hd⟩ : ∃ d, f j = d := ⟨_, rfl⟩
      have hd2 : d < 4294967296 := by rw [← hd]; exact HF.out j (by omega)
      have hc : ∀ w', Gr wr w' → w'.cell? ⟨b, o + j, none⟩ = some (.int .u32 (d : Int)) := fun w' hw => by
        rw [← hd, ← hcell j (by omega)]
        exact Below.cell (Below.trans HB.out (Below.mono hw HB.out.size)) (p := ⟨b, o + j, none⟩) hb
      go_wp2_with fail
      have HC := Lib.hid hc
      have HBW : Hid (wl (upv f k (j + 1)) ≤ 1000000) := Lib.hid (Nat.le_trans (upv_lt HF.out (j + 1)) hk)
      have hst := upv_step f (show j < k by omega)
      rw [hd] at hst
      have HST := Lib.hid hst
      obtain ⟨x, hx⟩ : ∃ x, upv f k (j + 1) = x := ⟨_, rfl⟩
      rw [hx] at HO HBW HST
      obtain ⟨y, hy⟩ : ∃ y, x * 4294967296 = y := ⟨_, rfl⟩
      rw [hy] at HST
      have HY : Hid (x * 4294967296 = y ∧ wl y ≤ 1000002) := Lib.hid ⟨hy, by have := wl_mul x 4294967296; have := HBW.out; have h2 : wl 4294967296 ≤ 2 := wl_le.2 (by decide); rw [← hy]; omega⟩
      have HDW : Hid (wl d ≤ 1) := Lib.hid (wl_small hd2)
      clear hx hy hst hcell hc HW
      have HOX := Lib.hid HO.out.cells
      refine wp_region_plan 10 [] [] (fun _ => 0) (fun _ => .cells #[] 0) [(true, 0), (true, 1), (true, 2), (true, 3), (true, 4), (true, 5), (true, 6), (true, 7), (true, 8), (true, 9)] (by kernel_rfl) (by kernel_rfl) (fun i hi => by cases hi) (fun i hi => by cases hi) (fun _ _ _ _ _ h => h) (fun T hT => ?_)
      have lx := HC.out
      have lo := HOX.out
      have hjk : j < k := by omega
      have hwr : IntKind.u64.wrap (d : Int) = (d : Int) := by rw [IntKind.wrap_u64]; omega
      refine wpPlan_takeL (v := ?_) rfl (by rfl) (fun w' hw => ?_) ?_; rotate_left; go_simp; with_reducible rfl; simp only [Act.put, rA, rB, rC]
      refine wpPlan_callL rfl (by rfl) Tryd.call38 (fun w' hw => nzof 4294967296 _ (by decide)) (by rfl) ?_
      simp only [Act.put, rA, rB, rC]
      refine wpPlan_callL rfl (by rfl) Tryd.call23 (fun w' hw => nzmul x 4294967296 y _ HY.out.1 (by have := HBW.out; omega) (by have h2 : wl 4294967296 ≤ 2 := wl_le.2 (by decide); omega)) (by rfl) ?_
      simp only [Act.put, rA, rB, rC]
      iterate 5 (refine wpPlan_takeL (v := ?_) rfl (by rfl) (fun w' hw => ?_) ?_; rotate_left; go_simp; with_reducible rfl; simp only [Act.put, rA, rB, rC])
      refine wpPlan_callL rfl (by rfl) Tryd.call38 (fun w' hw => nzof d _ (by omega)) (by rfl) ?_
      simp only [Act.put, rA, rB, rC]
      refine wpPlan_callL rfl (by rfl) Tryd.call18 (fun w' hw => nzadd y d _ _ HST.out.symm (by have := HY.out.2; omega) (by have := HDW.out; omega)) (by rfl) ?_
      simp only [Act.put, rA, rB, rC]
      refine wpPlan_nil (hT.out _ _ ?_); clear hT T
      intro G vw1 hg hf
      simp only [puts, Act.put, rA, rB, rC, rD, rE, ↓reduceIte, Nat.reduceEqDiff]
      have HG := Lib.hid hg
      clear hg hf lx lo HC HOX hwr hd2
      have x0 := HO.out.c0 HG.out
      have x1 := HO.out.c1 HG.out
      have fx := HO.out.free vw1 HG.out
      go_wp2_with fail
      go_roundg j
      case measure => omega
      case rel => exact ⟨rfl, by omega, Lib.hid ((HR.out.gr HG.out).keep2 (by omega) _ _), Lib.hid ((HO.out.gr HG.out).set2 _ _), Lib.hid (below_set2 (Below.trans HB.out (Below.mono HG.out HB.out.size)) (by omega) _ _)⟩
end Go.Proofs.YteenojfbnbkedaaDoor


/- gussetlaw01: same, number; the reference in z-form. -/
namespace Go.Proofs.YteenojfbnbkedaaDoor
open Go.RowKit
set_option linter.unusedSimpArgs false
set_option linter.unusedVariables false
attribute [local go_sem ↓] Go.wp_at_zero Go.wp_at_succ
theorem zrofw (v : Value) (k : Nat) (f : Nat → Nat) (z : Nat) (w0 w : World) (hz : vl f k = z) (hk : k ≤ 1000000) (h : Wa w0 v k f) (hg : Gr w0 w) (hf : ∀ i, i < k → f i < 4294967296) :
    Calls Tryd.prog 14 #[v] w fun e w' => (∃ v', e = .returned v' ∧ Rn w' v' z) ∧ Below w.heap.size w w' := hz ▸ rofw_any v k f w hk (h.gr hg) hf
theorem zrsqrt (v : Value) (x z : Nat) (w : World) (hz : rt x = z) (hx : Rn w v x) (bx : tw x ≤ 100000000) :
    Calls Tryd.prog 29 #[v] w fun e w' => (∃ v', e = .returned v' ∧ Rn w' v' z) ∧ Below w.heap.size w w' := hz ▸ rsqrt_any v x w hx bx
theorem zrbits (v : Value) (x n : Nat) (w : World) (hz : nb x = n) (hx : Rn w v x) (bx : tw x ≤ 10000000) :
    Calls Tryd.prog 31 #[v] w fun e w' => e = .returned (.int .i64 ((n : Nat) : Int)) ∧ Below w.heap.size w w' := hz ▸ rbits_any v x w hx bx
theorem zrpow (v : Value) (x n z : Nat) (w : World) (hz : x ^ n = z) (hx : Rn w v x) (hn : n ≤ 4096) (bx : tw x ≤ 10000) :
    Calls Tryd.prog 33 #[v, .int .i64 ((n : Nat) : Int)] w fun e w' => (∃ v', e = .returned v' ∧ Rn w' v' z) ∧ Below w.heap.size w w' := hz ▸ rpow_any v x n w hx hn bx
theorem zrparse (s : ByteArray) (n : Nat) (c : Int) (w : World) (hn : pnum s = n) (hc : pcode s = c) (hs : s.size ≤ 9223372036854775807) :
    Calls Tryd.prog 35 #[.string s] w fun e w' => (∃ v', e = .returned (.tuple #[v', .int .i64 c]) ∧ Rn w' v' n) ∧ Below w.heap.size w w' := hn ▸ hc ▸ rparse_any s w hs
theorem zrtext (v : Value) (x : Nat) (s : ByteArray) (w : World) (hs : (⟨(Lib.decDigits x).toArray⟩ : ByteArray) = s) (hx : Rn w v x) (bx : tw x ≤ 10000000) :
    Calls Tryd.prog 37 #[v] w fun e w' => e = .returned (.string s) ∧ Below w.heap.size w w' := hs ▸ rtext_any v x w hx bx
theorem nztexts (a : Nat) (s : ByteArray) (w : World) (hs : (⟨(Lib.decDigits a).toArray⟩ : ByteArray) = s) (ha : wl a ≤ 900000) (HT : Hid (Tab w)) :
    Calls Tryd.prog 36 #[(Value.agg #[.int .u64 (lo (a)), .string (bg (a))])] w fun e w' => e = .returned (.string s) ∧ Below w.heap.size w w' := hs ▸ text_any a w (by omega) HT
theorem Rn.len {w : World} {ao : Option Addr} {n c k : Nat} (h : Rn w (.slice ao n c) k) : n = tw k := by
  obtain ⟨ao', c', e, _⟩ := Dr.slice h
  injection e with _ e2 _

set_option maxHeartbeats 1000000 in
theorem same_any (a r : Nat) (v : Value) (w : World) (h : a = r) (hr : Rn w v r) (ha : wl a ≤ 900000) (hb : tw r ≤ 10000000) (HT : Hid (Tab w)) :
    Calls Tryd.prog 17 #[(Value.agg #[.int .u64 (lo (a)), .string (bg (a))]), v] w fun e w' => e = .returned (.bool true) ∧ Below w.heap.size w w' := by
  subst h
  have HR := Lib.hid hr
  clear hr
  have HB0 : Hid (Below w.heap.size w (w.alloc (.cells #[.int .u64 (lo (a)), .string (bg (a))] 26))) := Lib.hid ((Below.refl _ _).alloc (Nat.le_refl _) _)
  have HX0 : Hid (Bx (w.alloc (.cells #[.int .u64 (lo (a)), .string (bg (a))] 26)) w.heap.size 26 #[.int .u64 (lo (a)), .string (bg (a))]) := Lib.hid (Bx.new _ _ _)
  go_enter Tryd.func17, Tryd.ntmps17
  go_wp2_with fail
  refine (text_any a _ (by omega) (Lib.hid (HT.out.gr HB0.out))).mono ?_
  rintro e w1 ⟨rfl, hb1⟩
  have HB1 : Hid (Gr w w1) := Lib.hid (Gr.trans HB0.out hb1)
  clear hb1 HX0 HB0
  go_wp2_with fail
  refine (rtext_any v a w1 (HR.out.gr HB1.out) hb).mono ?_
  rintro e w2 ⟨rfl, hb2⟩
  have HB2 : Hid (Gr w w2) := Lib.hid (Gr.trans HB1.out hb2)
  clear hb2
  go_wp2
  go_ret
  exact ⟨rfl, HB2.out⟩

end Go.Proofs.YteenojfbnbkedaaDoor


/- gussetlaw01.works: the examples of the chapter. -/
namespace Go.Proofs.YteenojfbnbkedaaDoor
open Go.RowKit
set_option linter.unusedSimpArgs false
set_option linter.unusedVariables false
attribute [local go_sem ↓] Go.wp_at_zero Go.wp_at_succ
attribute [local go_sem ↓] eq_nat eq_nat_zero
set_option maxRecDepth 100000 in
set_option maxHeartbeats 4000000 in
theorem works_any   (w : World)   (HT : Hid (Tab w)) :
    Calls Tryd.prog 12 #[] w fun e w' => e = .returned (.bool true) ∧ Below w.heap.size w w' := by
  go_enter Tryd.func12, Tryd.ntmps12
  refine sK fun K hK => ?_
  refine wp_region_lit ?_
  go_wp2
  refine hK.out _ _ ?_; clear hK K
  show Code.wp _ _ _ _ _
  refine forgetW (fun w2 => Below w.heap.size w w2) (Below.refl _ _) ?_
  rintro Wx HB
  replace HB := Lib.hid HB
  have su_0_1 : wl 18446744073709551615 ≤ 2 := wl_le.2 (by decide +kernel)
  refine sK fun K hK => ?_
  refine wp_region_seqplan 1 [(true, 0)] (by rfl) (by simp) (fun T hT => ?_)
  refine wpPlan_callL rfl (by rfl) Tryd.call38 (fun w' hw => nzof 18446744073709551615 _ (by decide)) (by rfl) ?_
  simp only [Act.put, rA, rB, rC]
  refine wpPlan_nil (hT.out _ _ ?_); clear hT T
  intro vw1 hg
  simp only [puts, Act.put, rA, rB, rC, rD, rE, ↓reduceIte, Nat.reduceEqDiff]
  have HG := Lib.hid (hg)
  clear hg
  have r0 := Gr.refl vw1
  go_wp2
  refine hK.out _ _ ?_; clear hK K
  show Code.wp _ _ _ _ _
  clear r0
  have hsz : w.heap.size ≤ vw1.heap.size := Nat.le_trans HB.out.size HG.out.size
  refine forgetW (fun w2 => Bx w2 (vw1.heap.size) 26 #[.int .u64 (lo (18446744073709551615)), .string (bg (18446744073709551615))] ∧ Below w.heap.size w w2) ⟨(Bx.at (by simp) : Bx _ (vw1.heap.size) _ _), (HB.out.trans (HG.out.mono HB.out.size)).alloc (by first | omega | (simp; omega)) _⟩ ?_
  clear HB HG
  rintro Wx1 ⟨bx0, HB⟩
  replace HB := Lib.hid HB
  have yx0 : w.heap.size ≤ vw1.heap.size := by omega
  generalize hx0 : vw1.heap.size = gx0 at *
  clear hx0
  clear hsz
  have su_1_2 : wl 10 ≤ 1 := wl_le.2 (by decide +kernel)
  have HZ1 : Hid ((10) ^ 20 = 100000000000000000000) := Lib.hid (by decide +kernel)
  have su1 : wl (100000000000000000000) ≤ 3 := wl_le.2 (by decide +kernel)
  have BX0 := Lib.hid bx0
  clear bx0
  refine sK fun K hK => ?_
  refine wp_region_seqplan 5 [(true, 0), (true, 1), (true, 2), (true, 3), (true, 4)] (by rfl) (by simp) (fun T hT => ?_)
  refine wpPlan_callL rfl (by rfl) Tryd.call38 (fun w' hw => nzof 10 _ (by decide)) (by rfl) ?_
  simp only [Act.put, rA, rB, rC]
  refine wpPlan_callL rfl (by rfl) Tryd.call32 (fun w' hw => nzpow (10) 20 (100000000000000000000) _ HZ1.out (by decide) (by decide +kernel) (by first | omega | exact wlc (by decide))) (by rfl) ?_
  simp only [Act.put, rA, rB, rC]
  iterate 3 (refine wpPlan_takeL (v := ?_) rfl (by rfl) (fun w' hw => ?_) ?_; rotate_left; go_simp; with_reducible rfl; simp only [Act.put, rA, rB, rC])
  refine wpPlan_nil (hT.out _ _ ?_); clear hT T
  intro vw2 hg
  simp only [puts, Act.put, rA, rB, rC, rD, rE, ↓reduceIte, Nat.reduceEqDiff]
  have HG := Lib.hid (hg)
  clear hg
  replace BX0 := bG BX0 HG
  have r0 := Gr.refl vw2
  go_wp2
  refine hK.out _ _ ?_; clear hK K
  show Code.wp _ _ _ _ _
  clear r0
  have hsz : w.heap.size ≤ vw2.heap.size := Nat.le_trans HB.out.size HG.out.size
  have mx0 : gx0 < vw2.heap.size := BX0.out.lt
  refine forgetW (fun w2 => Bx w2 gx0 26 #[.int .u64 (lo (18446744073709551615)), .string (bg (18446744073709551615))] ∧ Bx w2 (vw2.heap.size) 26 #[.int .u64 (lo (100000000000000000000)), .string (bg (100000000000000000000))] ∧ Below w.heap.size w w2) ⟨(BX0.out).alloc _, (Bx.at (by simp) : Bx _ (vw2.heap.size) _ _), (HB.out.trans (HG.out.mono HB.out.size)).alloc (by first | omega | (simp; omega)) _⟩ ?_
  clear HB HG BX0
  rintro Wx2 ⟨bx0, bx1, HB⟩
  replace HB := Lib.hid HB
  have yx1 : w.heap.size ≤ vw2.heap.size := by omega
  have qx0_1 : gx0 < vw2.heap.size := by omega
  generalize hx1 : vw2.heap.size = gx1 at *
  clear hx1
  clear hsz mx0
  have su_2_3 : wl 7 ≤ 1 := wl_le.2 (by decide +kernel)
  have HZ2 : Hid ((100000000000000000000) / (7) = 14285714285714285714) := Lib.hid (by decide +kernel)
  have su2 : wl (14285714285714285714) ≤ 3 := wl_le.2 (by decide +kernel)
  have HZ3 : Hid ((100000000000000000000) % (7) = 2) := Lib.hid (by decide +kernel)
  have su3 : wl (2) ≤ 3 := wl_le.2 (by decide +kernel)
  have lx1 := bx1.cells
  have BX0 := Lib.hid bx0
  have BX1 := Lib.hid bx1
  clear bx0 bx1
  refine sK fun K hK => ?_
  refine wp_region_plan 9 [7, 8] [5, 6] (fun i => if i = 7 then 4 else 5) (fun i => if i = 7 then .cells #[.int .u64 0, .string ⟨#[]⟩] 26 else .cells #[.int .u64 0, .string ⟨#[]⟩] 26) [(true, 0), (true, 1), (true, 2), (true, 3), (true, 4), (true, 5), (true, 6)] (by kernel_rfl) (by kernel_rfl) (by intro i hi; simp only [List.mem_cons, List.not_mem_nil, or_false] at hi; rcases hi with rfl | rfl <;> exact ⟨_, rfl, rfl, rfl, by simp, fun ρ w => by kernel_rfl⟩) (by intro i hi; simp only [List.mem_cons, List.not_mem_nil, or_false] at hi; rcases hi with rfl | rfl <;> exact ⟨_, rfl, pure_extract⟩) (fun _ _ _ _ _ h => h) (fun T hT => ?_)
  refine wpPlan_takeL (v := ?_) rfl (by rfl) (fun w' hw => ?_) ?_; rotate_left; go_simp; with_reducible rfl; simp only [Act.put, rA, rB, rC]
  refine wpPlan_callL rfl (by rfl) Tryd.call38 (fun w' hw => nzof 7 _ (by decide)) (by rfl) ?_
  simp only [Act.put, rA, rB, rC]
  refine wpPlan_callL rfl (by rfl) Tryd.call22 (fun w' hw => nzdiv (100000000000000000000) (7) (14285714285714285714) (2) _ HZ2.out HZ3.out (by first | rfl | omega | (simp; done) | grind) (by first | omega | exact wlc (by decide)) (by first | omega | exact wlc (by decide))) (by rfl) ?_
  simp only [Act.put, rA, rB, rC]
  iterate 4 (refine wpPlan_takeL (v := ?_) rfl (by rfl) (fun w' hw => ?_) ?_; rotate_left; go_simp; with_reducible rfl; simp only [Act.put, rA, rB, rC])
  refine wpPlan_nil (hT.out _ _ ?_); clear hT T
  intro G vw3 hg hf
  simp only [puts, Act.put, rA, rB, rC, rD, rE, ↓reduceIte, Nat.reduceEqDiff]
  clear lx1
  have HG := Lib.hid (hg)
  clear hg
  have bx2 := Bx.of_fresh hf (i := 7) (by decide) rfl
  have yx2 := (hf.1 7 (by decide)).1
  have bx3 := Bx.of_fresh hf (i := 8) (by decide) rfl
  have yx3 := (hf.1 8 (by decide)).1
  have dx2_3 : G 7 ≠ G 8 := fun e => absurd (hf.2 7 (by decide) 8 (by decide) e) (by decide)
  clear hf
  generalize G 7 = gx2 at *
  generalize G 8 = gx3 at *
  have qx0_2 : gx0 < gx2 := Nat.lt_of_lt_of_le BX0.out.lt yx2
  have qx0_3 : gx0 < gx3 := Nat.lt_of_lt_of_le BX0.out.lt yx3
  have qx1_2 : gx1 < gx2 := Nat.lt_of_lt_of_le BX1.out.lt yx2
  have qx1_3 : gx1 < gx3 := Nat.lt_of_lt_of_le BX1.out.lt yx3
  replace yx2 : w.heap.size ≤ gx2 := Nat.le_trans HB.out.size yx2
  replace yx3 : w.heap.size ≤ gx3 := Nat.le_trans HB.out.size yx3
  replace BX0 := bG BX0 HG
  replace BX1 := bG BX1 HG
  have lx2 := bx2.cells; have fx2 := bx2.free
  have lx3 := bx3.cells; have fx3 := bx3.free
  have r0 := Gr.refl vw3
  have BX2 := Lib.hid bx2; clear bx2
  have BX3 := Lib.hid bx3; clear bx3
  go_wp2
  refine hK.out _ _ ?_; clear hK K
  show Code.wp _ _ _ _ _
  clear lx2 fx2
  clear lx3 fx3
  clear r0
  refine forgetW (fun w2 => Bx w2 gx0 26 #[.int .u64 (lo (18446744073709551615)), .string (bg (18446744073709551615))] ∧ Bx w2 gx1 26 #[.int .u64 (lo (100000000000000000000)), .string (bg (100000000000000000000))] ∧ Bx w2 gx2 26 #[.int .u64 (lo (14285714285714285714)), .string (bg (14285714285714285714))] ∧ Bx w2 gx3 26 #[.int .u64 (lo (2)), .string (bg (2))] ∧ Below w.heap.size w w2) ⟨so2 (so2 (BX0.out) (by show gx0 ≠ gx2; omega)) (by show gx0 ≠ gx3; omega), so2 (so2 (BX1.out) (by show gx1 ≠ gx2; omega)) (by show gx1 ≠ gx3; omega), (so2 (((BX2.out).set 0 _).set 1 _) (by show gx2 ≠ gx3; omega)).eq (by simp only [rA, rB, rC]), (((so2 (BX3.out) (by show gx3 ≠ gx2; omega)).set 0 _).set 1 _).eq (by simp only [rA, rB, rC]), sc2 (sc2 (HB.out.trans (HG.out.mono HB.out.size)) (by show w.heap.size ≤ gx2; omega)) (by show w.heap.size ≤ gx3; omega)⟩ ?_
  clear HB HG BX0 BX1 BX2 BX3
  rintro Wx3 ⟨bx0, bx1, bx2, bx3, HB⟩
  replace HB := Lib.hid HB
  have su_3_4 : wl 2 ≤ 1 := wl_le.2 (by decide +kernel)
  have HZ4 : Hid ((2) ^ 70 = 1180591620717411303424) := Lib.hid (by decide +kernel)
  have su4 : wl (1180591620717411303424) ≤ 3 := wl_le.2 (by decide +kernel)
  have BX0 := Lib.hid bx0
  have BX1 := Lib.hid bx1
  have BX2 := Lib.hid bx2
  have BX3 := Lib.hid bx3
  clear bx0 bx1 bx2 bx3
  refine sK fun K hK => ?_
  refine wp_region_seqplan 5 [(true, 0), (true, 1), (true, 2), (true, 3), (true, 4)] (by rfl) (by simp) (fun T hT => ?_)
  refine wpPlan_callL rfl (by rfl) Tryd.call38 (fun w' hw => nzof 2 _ (by decide)) (by rfl) ?_
  simp only [Act.put, rA, rB, rC]
  refine wpPlan_callL rfl (by rfl) Tryd.call32 (fun w' hw => nzpow (2) 70 (1180591620717411303424) _ HZ4.out (by decide) (by decide +kernel) (by first | omega | exact wlc (by decide))) (by rfl) ?_
  simp only [Act.put, rA, rB, rC]
  iterate 3 (refine wpPlan_takeL (v := ?_) rfl (by rfl) (fun w' hw => ?_) ?_; rotate_left; go_simp; with_reducible rfl; simp only [Act.put, rA, rB, rC])
  refine wpPlan_nil (hT.out _ _ ?_); clear hT T
  intro vw4 hg
  simp only [puts, Act.put, rA, rB, rC, rD, rE, ↓reduceIte, Nat.reduceEqDiff]
  have HG := Lib.hid (hg)
  clear hg
  replace BX0 := bG BX0 HG
  replace BX1 := bG BX1 HG
  replace BX2 := bG BX2 HG
  replace BX3 := bG BX3 HG
  have r0 := Gr.refl vw4
  go_wp2
  refine hK.out _ _ ?_; clear hK K
  show Code.wp _ _ _ _ _
  clear r0
  have hsz : w.heap.size ≤ vw4.heap.size := Nat.le_trans HB.out.size HG.out.size
  have mx0 : gx0 < vw4.heap.size := BX0.out.lt
  have mx1 : gx1 < vw4.heap.size := BX1.out.lt
  have mx2 : gx2 < vw4.heap.size := BX2.out.lt
  have mx3 : gx3 < vw4.heap.size := BX3.out.lt
  refine forgetW (fun w2 => Bx w2 gx0 26 #[.int .u64 (lo (18446744073709551615)), .string (bg (18446744073709551615))] ∧ Bx w2 gx1 26 #[.int .u64 (lo (100000000000000000000)), .string (bg (100000000000000000000))] ∧ Bx w2 gx2 26 #[.int .u64 (lo (14285714285714285714)), .string (bg (14285714285714285714))] ∧ Bx w2 gx3 26 #[.int .u64 (lo (2)), .string (bg (2))] ∧ Bx w2 (vw4.heap.size) 26 #[.int .u64 (lo (1180591620717411303424)), .string (bg (1180591620717411303424))] ∧ Below w.heap.size w w2) ⟨(BX0.out).alloc _, (BX1.out).alloc _, (BX2.out).alloc _, (BX3.out).alloc _, (Bx.at (by simp) : Bx _ (vw4.heap.size) _ _), (HB.out.trans (HG.out.mono HB.out.size)).alloc (by first | omega | (simp; omega)) _⟩ ?_
  clear HB HG BX0 BX1 BX2 BX3
  rintro Wx4 ⟨bx0, bx1, bx2, bx3, bx4, HB⟩
  replace HB := Lib.hid HB
  have yx4 : w.heap.size ≤ vw4.heap.size := by omega
  have qx0_4 : gx0 < vw4.heap.size := by omega
  have qx1_4 : gx1 < vw4.heap.size := by omega
  have qx2_4 : gx2 < vw4.heap.size := by omega
  have qx3_4 : gx3 < vw4.heap.size := by omega
  generalize hx4 : vw4.heap.size = gx4 at *
  clear hx4
  clear hsz mx0 mx1 mx2 mx3
  have su_4_5 : wl 6 ≤ 1 := wl_le.2 (by decide +kernel)
  have HZ5 : Hid ((6) ^ 20 = 3656158440062976) := Lib.hid (by decide +kernel)
  have su5 : wl (3656158440062976) ≤ 2 := wl_le.2 (by decide +kernel)
  have BX0 := Lib.hid bx0
  have BX1 := Lib.hid bx1
  have BX2 := Lib.hid bx2
  have BX3 := Lib.hid bx3
  have BX4 := Lib.hid bx4
  clear bx0 bx1 bx2 bx3 bx4
  refine sK fun K hK => ?_
  refine wp_region_seqplan 5 [(true, 0), (true, 1), (true, 2), (true, 3), (true, 4)] (by rfl) (by simp) (fun T hT => ?_)
  refine wpPlan_callL rfl (by rfl) Tryd.call38 (fun w' hw => nzof 6 _ (by decide)) (by rfl) ?_
  simp only [Act.put, rA, rB, rC]
  refine wpPlan_callL rfl (by rfl) Tryd.call32 (fun w' hw => nzpow (6) 20 (3656158440062976) _ HZ5.out (by decide) (by decide +kernel) (by first | omega | exact wlc (by decide))) (by rfl) ?_
  simp only [Act.put, rA, rB, rC]
  iterate 3 (refine wpPlan_takeL (v := ?_) rfl (by rfl) (fun w' hw => ?_) ?_; rotate_left; go_simp; with_reducible rfl; simp only [Act.put, rA, rB, rC])
  refine wpPlan_nil (hT.out _ _ ?_); clear hT T
  intro vw5 hg
  simp only [puts, Act.put, rA, rB, rC, rD, rE, ↓reduceIte, Nat.reduceEqDiff]
  have HG := Lib.hid (hg)
  clear hg
  replace BX0 := bG BX0 HG
  replace BX1 := bG BX1 HG
  replace BX2 := bG BX2 HG
  replace BX3 := bG BX3 HG
  replace BX4 := bG BX4 HG
  have r0 := Gr.refl vw5
  go_wp2
  refine hK.out _ _ ?_; clear hK K
  show Code.wp _ _ _ _ _
  clear r0
  have hsz : w.heap.size ≤ vw5.heap.size := Nat.le_trans HB.out.size HG.out.size
  have mx0 : gx0 < vw5.heap.size := BX0.out.lt
  have mx1 : gx1 < vw5.heap.size := BX1.out.lt
  have mx2 : gx2 < vw5.heap.size := BX2.out.lt
  have mx3 : gx3 < vw5.heap.size := BX3.out.lt
  have mx4 : gx4 < vw5.heap.size := BX4.out.lt
  refine forgetW (fun w2 => Bx w2 gx0 26 #[.int .u64 (lo (18446744073709551615)), .string (bg (18446744073709551615))] ∧ Bx w2 gx1 26 #[.int .u64 (lo (100000000000000000000)), .string (bg (100000000000000000000))] ∧ Bx w2 gx2 26 #[.int .u64 (lo (14285714285714285714)), .string (bg (14285714285714285714))] ∧ Bx w2 gx3 26 #[.int .u64 (lo (2)), .string (bg (2))] ∧ Bx w2 gx4 26 #[.int .u64 (lo (1180591620717411303424)), .string (bg (1180591620717411303424))] ∧ Bx w2 (vw5.heap.size) 26 #[.int .u64 (lo (3656158440062976)), .string (bg (3656158440062976))] ∧ Below w.heap.size w w2) ⟨(BX0.out).alloc _, (BX1.out).alloc _, (BX2.out).alloc _, (BX3.out).alloc _, (BX4.out).alloc _, (Bx.at (by simp) : Bx _ (vw5.heap.size) _ _), (HB.out.trans (HG.out.mono HB.out.size)).alloc (by first | omega | (simp; omega)) _⟩ ?_
  clear HB HG BX0 BX1 BX2 BX3 BX4
  rintro Wx5 ⟨bx0, bx1, bx2, bx3, bx4, bx5, HB⟩
  replace HB := Lib.hid HB
  have yx5 : w.heap.size ≤ vw5.heap.size := by omega
  have qx0_5 : gx0 < vw5.heap.size := by omega
  have qx1_5 : gx1 < vw5.heap.size := by omega
  have qx2_5 : gx2 < vw5.heap.size := by omega
  have qx3_5 : gx3 < vw5.heap.size := by omega
  have qx4_5 : gx4 < vw5.heap.size := by omega
  generalize hx5 : vw5.heap.size = gx5 at *
  clear hx5
  clear hsz mx0 mx1 mx2 mx3 mx4
  have su_5_6 : wl 1 ≤ 1 := wl_le.2 (by decide +kernel)
  have HZ6 : Hid ((100000000000000000000) - (1) = 99999999999999999999) := Lib.hid (by decide +kernel)
  have su6 : wl (99999999999999999999) ≤ 3 := wl_le.2 (by decide +kernel)
  have lx1 := bx1.cells
  have BX0 := Lib.hid bx0
  have BX1 := Lib.hid bx1
  have BX2 := Lib.hid bx2
  have BX3 := Lib.hid bx3
  have BX4 := Lib.hid bx4
  have BX5 := Lib.hid bx5
  clear bx0 bx1 bx2 bx3 bx4 bx5
  refine sK fun K hK => ?_
  refine wp_region_plan 7 [6] [5] (fun _ => 11) (fun _ => .cells #[.int .u64 0, .string ⟨#[]⟩] 26) [(true, 0), (true, 1), (true, 2), (true, 3), (true, 4), (true, 5)] (by kernel_rfl) (by kernel_rfl) (by intro i hi; simp only [List.mem_cons, List.not_mem_nil, or_false] at hi; rcases hi with rfl <;> exact ⟨_, rfl, rfl, rfl, by simp, fun ρ w => by kernel_rfl⟩) (by intro i hi; simp only [List.mem_cons, List.not_mem_nil, or_false] at hi; rcases hi with rfl <;> exact ⟨_, rfl, pure_extract⟩) (fun _ _ _ _ _ h => h) (fun T hT => ?_)
  refine wpPlan_takeL (v := ?_) rfl (by rfl) (fun w' hw => ?_) ?_; rotate_left; go_simp; with_reducible rfl; simp only [Act.put, rA, rB, rC]
  refine wpPlan_callL rfl (by rfl) Tryd.call38 (fun w' hw => nzof 1 _ (by decide)) (by rfl) ?_
  simp only [Act.put, rA, rB, rC]
  refine wpPlan_callL rfl (by rfl) Tryd.call16 (fun w' hw => nzsub (100000000000000000000) (1) (99999999999999999999) _ HZ6.out (by first | rfl | omega | (simp; done) | grind) (by first | omega | exact wlc (by decide)) (by first | omega | exact wlc (by decide))) (by rfl) ?_
  simp only [Act.put, rA, rB, rC]
  iterate 3 (refine wpPlan_takeL (v := ?_) rfl (by rfl) (fun w' hw => ?_) ?_; rotate_left; go_simp; with_reducible rfl; simp only [Act.put, rA, rB, rC])
  refine wpPlan_nil (hT.out _ _ ?_); clear hT T
  intro G vw6 hg hf
  simp only [puts, Act.put, rA, rB, rC, rD, rE, ↓reduceIte, Nat.reduceEqDiff]
  clear lx1
  have HG := Lib.hid (hg)
  clear hg
  have bx6 := Bx.of_fresh hf (i := 6) (by decide) rfl
  have yx6 := (hf.1 6 (by decide)).1
  clear hf
  generalize G 6 = gx6 at *
  have qx0_6 : gx0 < gx6 := Nat.lt_of_lt_of_le BX0.out.lt yx6
  have qx1_6 : gx1 < gx6 := Nat.lt_of_lt_of_le BX1.out.lt yx6
  have qx2_6 : gx2 < gx6 := Nat.lt_of_lt_of_le BX2.out.lt yx6
  have qx3_6 : gx3 < gx6 := Nat.lt_of_lt_of_le BX3.out.lt yx6
  have qx4_6 : gx4 < gx6 := Nat.lt_of_lt_of_le BX4.out.lt yx6
  have qx5_6 : gx5 < gx6 := Nat.lt_of_lt_of_le BX5.out.lt yx6
  replace yx6 : w.heap.size ≤ gx6 := Nat.le_trans HB.out.size yx6
  replace BX0 := bG BX0 HG
  replace BX1 := bG BX1 HG
  replace BX2 := bG BX2 HG
  replace BX3 := bG BX3 HG
  replace BX4 := bG BX4 HG
  replace BX5 := bG BX5 HG
  have lx6 := bx6.cells; have fx6 := bx6.free
  have r0 := Gr.refl vw6
  have BX6 := Lib.hid bx6; clear bx6
  go_wp2
  refine hK.out _ _ ?_; clear hK K
  show Code.wp _ _ _ _ _
  clear lx6 fx6
  clear r0
  refine forgetW (fun w2 => Bx w2 gx0 26 #[.int .u64 (lo (18446744073709551615)), .string (bg (18446744073709551615))] ∧ Bx w2 gx2 26 #[.int .u64 (lo (14285714285714285714)), .string (bg (14285714285714285714))] ∧ Bx w2 gx3 26 #[.int .u64 (lo (2)), .string (bg (2))] ∧ Bx w2 gx4 26 #[.int .u64 (lo (1180591620717411303424)), .string (bg (1180591620717411303424))] ∧ Bx w2 gx5 26 #[.int .u64 (lo (3656158440062976)), .string (bg (3656158440062976))] ∧ Bx w2 gx6 26 #[.int .u64 (lo (99999999999999999999)), .string (bg (99999999999999999999))] ∧ Below w.heap.size w w2) ⟨so2 (BX0.out) (by show gx0 ≠ gx6; omega), so2 (BX2.out) (by show gx2 ≠ gx6; omega), so2 (BX3.out) (by show gx3 ≠ gx6; omega), so2 (BX4.out) (by show gx4 ≠ gx6; omega), so2 (BX5.out) (by show gx5 ≠ gx6; omega), (((BX6.out).set 0 _).set 1 _).eq (by simp only [rA, rB, rC]), sc2 (HB.out.trans (HG.out.mono HB.out.size)) (by show w.heap.size ≤ gx6; omega)⟩ ?_
  clear HB HG BX0 BX1 BX2 BX3 BX4 BX5 BX6
  rintro Wx6 ⟨bx0, bx2, bx3, bx4, bx5, bx6, HB⟩
  replace HB := Lib.hid HB
  have su_6_7 : wl 3 ≤ 1 := wl_le.2 (by decide +kernel)
  have su_7_7 : wl 5 ≤ 1 := wl_le.2 (by decide +kernel)
  have BX0 := Lib.hid bx0
  have BX2 := Lib.hid bx2
  have BX3 := Lib.hid bx3
  have BX4 := Lib.hid bx4
  have BX5 := Lib.hid bx5
  have BX6 := Lib.hid bx6
  clear bx0 bx2 bx3 bx4 bx5 bx6
  refine sK fun K hK => ?_
  refine wp_region_seqplan 6 [(true, 0), (true, 1), (true, 2), (true, 3), (true, 4), (true, 5)] (by rfl) (by simp) (fun T hT => ?_)
  refine wpPlan_callL rfl (by rfl) Tryd.call38 (fun w' hw => nzof 3 _ (by decide)) (by rfl) ?_
  simp only [Act.put, rA, rB, rC]
  refine wpPlan_callL rfl (by rfl) Tryd.call38 (fun w' hw => nzof 5 _ (by decide)) (by rfl) ?_
  simp only [Act.put, rA, rB, rC]
  refine wpPlan_callL rfl (by rfl) Tryd.call16 (fun w' hw => nzsubno (3) (5) _ (by first | rfl | omega | (simp; done) | grind) (by first | omega | exact wlc (by decide)) (by first | omega | exact wlc (by decide))) (by rfl) ?_
  simp only [Act.put, rA, rB, rC]
  iterate 3 (refine wpPlan_takeL (v := ?_) rfl (by rfl) (fun w' hw => ?_) ?_; rotate_left; go_simp; with_reducible rfl; simp only [Act.put, rA, rB, rC])
  refine wpPlan_nil (hT.out _ _ ?_); clear hT T
  intro vw7 hg
  simp only [puts, Act.put, rA, rB, rC, rD, rE, ↓reduceIte, Nat.reduceEqDiff]
  have HG := Lib.hid (hg)
  clear hg
  replace BX0 := bG BX0 HG
  replace BX2 := bG BX2 HG
  replace BX3 := bG BX3 HG
  replace BX4 := bG BX4 HG
  replace BX5 := bG BX5 HG
  replace BX6 := bG BX6 HG
  have r0 := Gr.refl vw7
  go_wp2
  refine hK.out _ _ ?_; clear hK K
  show Code.wp _ _ _ _ _
  clear r0
  have hsz : w.heap.size ≤ vw7.heap.size := Nat.le_trans HB.out.size HG.out.size
  have mx0 : gx0 < vw7.heap.size := BX0.out.lt
  have mx2 : gx2 < vw7.heap.size := BX2.out.lt
  have mx3 : gx3 < vw7.heap.size := BX3.out.lt
  have mx4 : gx4 < vw7.heap.size := BX4.out.lt
  have mx5 : gx5 < vw7.heap.size := BX5.out.lt
  have mx6 : gx6 < vw7.heap.size := BX6.out.lt
  refine forgetW (fun w2 => Bx w2 gx0 26 #[.int .u64 (lo (18446744073709551615)), .string (bg (18446744073709551615))] ∧ Bx w2 gx2 26 #[.int .u64 (lo (14285714285714285714)), .string (bg (14285714285714285714))] ∧ Bx w2 gx3 26 #[.int .u64 (lo (2)), .string (bg (2))] ∧ Bx w2 gx4 26 #[.int .u64 (lo (1180591620717411303424)), .string (bg (1180591620717411303424))] ∧ Bx w2 gx5 26 #[.int .u64 (lo (3656158440062976)), .string (bg (3656158440062976))] ∧ Bx w2 gx6 26 #[.int .u64 (lo (99999999999999999999)), .string (bg (99999999999999999999))] ∧ Below w.heap.size w w2) ⟨(BX0.out).alloc _, (BX2.out).alloc _, (BX3.out).alloc _, (BX4.out).alloc _, (BX5.out).alloc _, (BX6.out).alloc _, (HB.out.trans (HG.out.mono HB.out.size)).alloc (by first | omega | (simp; omega)) _⟩ ?_
  clear HB HG BX0 BX2 BX3 BX4 BX5 BX6
  rintro Wx7 ⟨bx0, bx2, bx3, bx4, bx5, bx6, HB⟩
  replace HB := Lib.hid HB
  clear hsz mx0 mx2 mx3 mx4 mx5 mx6
  have su_8_8 : wl 5 ≤ 1 := wl_le.2 (by decide +kernel)
  have BX0 := Lib.hid bx0
  have BX2 := Lib.hid bx2
  have BX3 := Lib.hid bx3
  have BX4 := Lib.hid bx4
  have BX5 := Lib.hid bx5
  have BX6 := Lib.hid bx6
  clear bx0 bx2 bx3 bx4 bx5 bx6
  refine sK fun K hK => ?_
  refine wp_region_seqplan 7 [(true, 0), (true, 1), (true, 2), (true, 3), (true, 4), (true, 5), (true, 6)] (by rfl) (by simp) (fun T hT => ?_)
  refine wpPlan_callL rfl (by rfl) Tryd.call38 (fun w' hw => nzof 5 _ (by decide)) (by rfl) ?_
  simp only [Act.put, rA, rB, rC]
  refine wpPlan_takeL (v := ?_) rfl (by rfl) (fun w' hw => ?_) ?_; rotate_left; go_simp; with_reducible rfl; simp only [Act.put, rA, rB, rC]
  refine wpPlan_callL rfl (by rfl) Tryd.call22 (fun w' hw => nzdivno (5) (0) _ (by first | rfl | omega | (simp; done) | grind) (by first | omega | exact wlc (by decide)) (by first | omega | exact wlc (by decide))) (by rfl) ?_
  simp only [Act.put, rA, rB, rC]
  iterate 4 (refine wpPlan_takeL (v := ?_) rfl (by rfl) (fun w' hw => ?_) ?_; rotate_left; go_simp; with_reducible rfl; simp only [Act.put, rA, rB, rC])
  refine wpPlan_nil (hT.out _ _ ?_); clear hT T
  intro vw8 hg
  simp only [puts, Act.put, rA, rB, rC, rD, rE, ↓reduceIte, Nat.reduceEqDiff]
  have HG := Lib.hid (hg)
  clear hg
  replace BX0 := bG BX0 HG
  replace BX2 := bG BX2 HG
  replace BX3 := bG BX3 HG
  replace BX4 := bG BX4 HG
  replace BX5 := bG BX5 HG
  replace BX6 := bG BX6 HG
  have r0 := Gr.refl vw8
  go_wp2
  refine hK.out _ _ ?_; clear hK K
  show Code.wp _ _ _ _ _
  clear r0
  have hsz : w.heap.size ≤ vw8.heap.size := Nat.le_trans HB.out.size HG.out.size
  have mx0 : gx0 < vw8.heap.size := BX0.out.lt
  have mx2 : gx2 < vw8.heap.size := BX2.out.lt
  have mx3 : gx3 < vw8.heap.size := BX3.out.lt
  have mx4 : gx4 < vw8.heap.size := BX4.out.lt
  have mx5 : gx5 < vw8.heap.size := BX5.out.lt
  have mx6 : gx6 < vw8.heap.size := BX6.out.lt
  refine forgetW (fun w2 => Bx w2 gx0 26 #[.int .u64 (lo (18446744073709551615)), .string (bg (18446744073709551615))] ∧ Bx w2 gx2 26 #[.int .u64 (lo (14285714285714285714)), .string (bg (14285714285714285714))] ∧ Bx w2 gx3 26 #[.int .u64 (lo (2)), .string (bg (2))] ∧ Bx w2 gx4 26 #[.int .u64 (lo (1180591620717411303424)), .string (bg (1180591620717411303424))] ∧ Bx w2 gx5 26 #[.int .u64 (lo (3656158440062976)), .string (bg (3656158440062976))] ∧ Bx w2 gx6 26 #[.int .u64 (lo (99999999999999999999)), .string (bg (99999999999999999999))] ∧ Below w.heap.size w w2) ⟨((BX0.out).alloc _).alloc _, ((BX2.out).alloc _).alloc _, ((BX3.out).alloc _).alloc _, ((BX4.out).alloc _).alloc _, ((BX5.out).alloc _).alloc _, ((BX6.out).alloc _).alloc _, ((HB.out.trans (HG.out.mono HB.out.size)).alloc (by first | omega | (simp; omega)) _).alloc (by first | omega | (simp; omega)) _⟩ ?_
  clear HB HG BX0 BX2 BX3 BX4 BX5 BX6
  rintro Wx8 ⟨bx0, bx2, bx3, bx4, bx5, bx6, HB⟩
  replace HB := Lib.hid HB
  clear hsz mx0 mx2 mx3 mx4 mx5 mx6
  have HZ7 : Hid ((0) ^ 0 = 1) := Lib.hid (by decide +kernel)
  have su7 : wl (1) ≤ 1 := wl_le.2 (by decide +kernel)
  have BX0 := Lib.hid bx0
  have BX2 := Lib.hid bx2
  have BX3 := Lib.hid bx3
  have BX4 := Lib.hid bx4
  have BX5 := Lib.hid bx5
  have BX6 := Lib.hid bx6
  clear bx0 bx2 bx3 bx4 bx5 bx6
  refine sK fun K hK => ?_
  refine wp_region_seqplan 5 [(true, 0), (true, 1), (true, 2), (true, 3), (true, 4)] (by rfl) (by simp) (fun T hT => ?_)
  refine wpPlan_takeL (v := ?_) rfl (by rfl) (fun w' hw => ?_) ?_; rotate_left; go_simp; with_reducible rfl; simp only [Act.put, rA, rB, rC]
  refine wpPlan_callL rfl (by rfl) Tryd.call32 (fun w' hw => nzpow (0) 0 (1) _ HZ7.out (by decide) (by decide +kernel) (by first | omega | exact wlc (by decide))) (by rfl) ?_
  simp only [Act.put, rA, rB, rC]
  iterate 3 (refine wpPlan_takeL (v := ?_) rfl (by rfl) (fun w' hw => ?_) ?_; rotate_left; go_simp; with_reducible rfl; simp only [Act.put, rA, rB, rC])
  refine wpPlan_nil (hT.out _ _ ?_); clear hT T
  intro vw9 hg
  simp only [puts, Act.put, rA, rB, rC, rD, rE, ↓reduceIte, Nat.reduceEqDiff]
  have HG := Lib.hid (hg)
  clear hg
  replace BX0 := bG BX0 HG
  replace BX2 := bG BX2 HG
  replace BX3 := bG BX3 HG
  replace BX4 := bG BX4 HG
  replace BX5 := bG BX5 HG
  replace BX6 := bG BX6 HG
  have r0 := Gr.refl vw9
  go_wp2
  refine hK.out _ _ ?_; clear hK K
  show Code.wp _ _ _ _ _
  clear r0
  have hsz : w.heap.size ≤ vw9.heap.size := Nat.le_trans HB.out.size HG.out.size
  have mx0 : gx0 < vw9.heap.size := BX0.out.lt
  have mx2 : gx2 < vw9.heap.size := BX2.out.lt
  have mx3 : gx3 < vw9.heap.size := BX3.out.lt
  have mx4 : gx4 < vw9.heap.size := BX4.out.lt
  have mx5 : gx5 < vw9.heap.size := BX5.out.lt
  have mx6 : gx6 < vw9.heap.size := BX6.out.lt
  refine forgetW (fun w2 => Bx w2 gx0 26 #[.int .u64 (lo (18446744073709551615)), .string (bg (18446744073709551615))] ∧ Bx w2 gx2 26 #[.int .u64 (lo (14285714285714285714)), .string (bg (14285714285714285714))] ∧ Bx w2 gx3 26 #[.int .u64 (lo (2)), .string (bg (2))] ∧ Bx w2 gx4 26 #[.int .u64 (lo (1180591620717411303424)), .string (bg (1180591620717411303424))] ∧ Bx w2 gx5 26 #[.int .u64 (lo (3656158440062976)), .string (bg (3656158440062976))] ∧ Bx w2 gx6 26 #[.int .u64 (lo (99999999999999999999)), .string (bg (99999999999999999999))] ∧ Bx w2 (vw9.heap.size) 26 #[.int .u64 (lo (1)), .string (bg (1))] ∧ Below w.heap.size w w2) ⟨(BX0.out).alloc _, (BX2.out).alloc _, (BX3.out).alloc _, (BX4.out).alloc _, (BX5.out).alloc _, (BX6.out).alloc _, (Bx.at (by simp) : Bx _ (vw9.heap.size) _ _), (HB.out.trans (HG.out.mono HB.out.size)).alloc (by first | omega | (simp; omega)) _⟩ ?_
  clear HB HG BX0 BX2 BX3 BX4 BX5 BX6
  rintro Wx9 ⟨bx0, bx2, bx3, bx4, bx5, bx6, bx10, HB⟩
  replace HB := Lib.hid HB
  have yx10 : w.heap.size ≤ vw9.heap.size := by omega
  have qx0_10 : gx0 < vw9.heap.size := by omega
  have qx2_10 : gx2 < vw9.heap.size := by omega
  have qx3_10 : gx3 < vw9.heap.size := by omega
  have qx4_10 : gx4 < vw9.heap.size := by omega
  have qx5_10 : gx5 < vw9.heap.size := by omega
  have qx6_10 : gx6 < vw9.heap.size := by omega
  generalize hx10 : vw9.heap.size = gx10 at *
  clear hx10
  clear hsz mx0 mx2 mx3 mx4 mx5 mx6
  have su_9_10 : wl 2 ≤ 1 := wl_le.2 (by decide +kernel)
  have BX0 := Lib.hid bx0
  have BX2 := Lib.hid bx2
  have BX3 := Lib.hid bx3
  have BX4 := Lib.hid bx4
  have BX5 := Lib.hid bx5
  have BX6 := Lib.hid bx6
  have BX10 := Lib.hid bx10
  clear bx0 bx2 bx3 bx4 bx5 bx6 bx10
  refine sK fun K hK => ?_
  refine wp_region_seqplan 5 [(true, 0), (true, 1), (true, 2), (true, 3), (true, 4)] (by rfl) (by simp) (fun T hT => ?_)
  refine wpPlan_callL rfl (by rfl) Tryd.call38 (fun w' hw => nzof 2 _ (by decide)) (by rfl) ?_
  simp only [Act.put, rA, rB, rC]
  refine wpPlan_callL rfl (by rfl) Tryd.call32 (fun w' hw => pow_neg (2) (-1) _ (by omega) (by omega)) (by rfl) ?_
  simp only [Act.put, rA, rB, rC]
  iterate 3 (refine wpPlan_takeL (v := ?_) rfl (by rfl) (fun w' hw => ?_) ?_; rotate_left; go_simp; with_reducible rfl; simp only [Act.put, rA, rB, rC])
  refine wpPlan_nil (hT.out _ _ ?_); clear hT T
  intro vw10 hg
  simp only [puts, Act.put, rA, rB, rC, rD, rE, ↓reduceIte, Nat.reduceEqDiff]
  have HG := Lib.hid (hg)
  clear hg
  replace BX0 := bG BX0 HG
  replace BX2 := bG BX2 HG
  replace BX3 := bG BX3 HG
  replace BX4 := bG BX4 HG
  replace BX5 := bG BX5 HG
  replace BX6 := bG BX6 HG
  replace BX10 := bG BX10 HG
  have r0 := Gr.refl vw10
  go_wp2
  refine hK.out _ _ ?_; clear hK K
  show Code.wp _ _ _ _ _
  clear r0
  have hsz : w.heap.size ≤ vw10.heap.size := Nat.le_trans HB.out.size HG.out.size
  have mx0 : gx0 < vw10.heap.size := BX0.out.lt
  have mx2 : gx2 < vw10.heap.size := BX2.out.lt
  have mx3 : gx3 < vw10.heap.size := BX3.out.lt
  have mx4 : gx4 < vw10.heap.size := BX4.out.lt
  have mx5 : gx5 < vw10.heap.size := BX5.out.lt
  have mx6 : gx6 < vw10.heap.size := BX6.out.lt
  have mx10 : gx10 < vw10.heap.size := BX10.out.lt
  refine forgetW (fun w2 => Bx w2 gx0 26 #[.int .u64 (lo (18446744073709551615)), .string (bg (18446744073709551615))] ∧ Bx w2 gx2 26 #[.int .u64 (lo (14285714285714285714)), .string (bg (14285714285714285714))] ∧ Bx w2 gx3 26 #[.int .u64 (lo (2)), .string (bg (2))] ∧ Bx w2 gx4 26 #[.int .u64 (lo (1180591620717411303424)), .string (bg (1180591620717411303424))] ∧ Bx w2 gx5 26 #[.int .u64 (lo (3656158440062976)), .string (bg (3656158440062976))] ∧ Bx w2 gx6 26 #[.int .u64 (lo (99999999999999999999)), .string (bg (99999999999999999999))] ∧ Bx w2 gx10 26 #[.int .u64 (lo (1)), .string (bg (1))] ∧ Below w.heap.size w w2) ⟨(BX0.out).alloc _, (BX2.out).alloc _, (BX3.out).alloc _, (BX4.out).alloc _, (BX5.out).alloc _, (BX6.out).alloc _, (BX10.out).alloc _, (HB.out.trans (HG.out.mono HB.out.size)).alloc (by first | omega | (simp; omega)) _⟩ ?_
  clear HB HG BX0 BX2 BX3 BX4 BX5 BX6 BX10
  rintro Wx10 ⟨bx0, bx2, bx3, bx4, bx5, bx6, bx10, HB⟩
  replace HB := Lib.hid HB
  clear hsz mx0 mx2 mx3 mx4 mx5 mx6 mx10
  refine wp_seq ?_
  have HZ8 : Hid ((18446744073709551615) * (18446744073709551615) = 340282366920938463426481119284349108225) := Lib.hid (by decide +kernel)
  have su8 : wl (340282366920938463426481119284349108225) ≤ 4 := wl_le.2 (by decide +kernel)
  have su_10_11 : wl 2 ≤ 1 := wl_le.2 (by decide +kernel)
  have HZ9 : Hid (Nat.gcd (1180591620717411303424) (3656158440062976) = 1048576) := Lib.hid (by decide +kernel)
  have su9 : wl (1048576) ≤ 3 := wl_le.2 (by decide +kernel)
  have su_11_11 : wl 1048576 ≤ 1 := wl_le.2 (by decide +kernel)
  have HZ10 : Hid (rt (99999999999999999999) = 9999999999) := Lib.hid (rt_eq (by decide +kernel) (by decide +kernel))
  have su10 : wl (9999999999) ≤ 3 := by have e := HZ10.out; first | omega | (rw [← e]; have := wl_mono (rt_self (99999999999999999999)); omega)
  have su_12_11 : wl 9999999999 ≤ 2 := wl_le.2 (by decide +kernel)
  have su_13_11 : wl 1 ≤ 1 := wl_le.2 (by decide +kernel)
  have HZ11 : Hid ((18446744073709551615) + (1) = 18446744073709551616) := Lib.hid (by decide +kernel)
  have su11 : wl (18446744073709551616) ≤ 3 := wl_le.2 (by decide +kernel)
  have lx0 := bx0.cells
  have lx2 := bx2.cells
  have lx3 := bx3.cells
  have lx4 := bx4.cells
  have lx5 := bx5.cells
  have lx6 := bx6.cells
  have BX0 := Lib.hid bx0
  have BX2 := Lib.hid bx2
  have BX3 := Lib.hid bx3
  have BX4 := Lib.hid bx4
  have BX5 := Lib.hid bx5
  have BX6 := Lib.hid bx6
  have BX10 := Lib.hid bx10
  clear bx0 bx2 bx3 bx4 bx5 bx6 bx10
  refine sK fun K hK => ?_
  refine wp_region_plan 38 [] [] (fun _ => 0) (fun _ => .cells #[] 0) [(true, 0), (true, 1), (true, 2), (true, 3), (true, 4), (true, 5), (true, 6), (true, 7), (true, 8), (true, 9), (true, 10), (true, 11), (true, 12), (true, 13), (true, 14), (true, 15), (true, 16), (true, 17), (true, 18), (true, 19), (true, 20), (true, 21), (true, 22), (true, 23), (true, 24), (true, 25), (true, 26), (true, 27), (true, 28), (true, 29), (true, 30), (true, 31), (true, 32), (true, 33), (true, 34), (true, 35), (true, 36), (true, 37)] (by kernel_rfl) (by kernel_rfl) (fun i hi => by cases hi) (fun i hi => by cases hi) (fun _ _ _ _ _ h => h) (fun T hT => ?_)
  iterate 2 (refine wpPlan_takeL (v := ?_) rfl (by rfl) (fun w' hw => ?_) ?_; rotate_left; go_simp; with_reducible rfl; simp only [Act.put, rA, rB, rC])
  refine wpPlan_callL rfl (by rfl) Tryd.call23 (fun w' hw => nzmul (18446744073709551615) (18446744073709551615) (340282366920938463426481119284349108225) _ HZ8.out (by first | omega | exact wlc (by decide)) (by first | omega | exact wlc (by decide))) (by rfl) ?_
  simp only [Act.put, rA, rB, rC]
  refine wpPlan_callL rfl (by rfl) Tryd.call36 (fun w' hw => nztext (340282366920938463426481119284349108225) [51, 52, 48, 50, 56, 50, 51, 54, 54, 57, 50, 48, 57, 51, 56, 52, 54, 51, 52, 50, 54, 52, 56, 49, 49, 49, 57, 50, 56, 52, 51, 52, 57, 49, 48, 56, 50, 50, 53] _ (dec_lit 39 (by decide +kernel) (by decide +kernel)) (by first | omega | exact wlc (by decide)) (Lib.hid (HT.out.gr (Gr.trans HB.out hw)))) (by rfl) ?_
  simp only [Act.put, rA, rB, rC]
  iterate 3 (refine wpPlan_takeL (v := ?_) rfl (by rfl) (fun w' hw => ?_) ?_; rotate_left; go_simp; with_reducible rfl; simp only [Act.put, rA, rB, rC])
  refine wpPlan_callL rfl (by rfl) Tryd.call36 (fun w' hw => nztext (14285714285714285714) [49, 52, 50, 56, 53, 55, 49, 52, 50, 56, 53, 55, 49, 52, 50, 56, 53, 55, 49, 52] _ (dec_lit 20 (by decide +kernel) (by decide +kernel)) (by first | omega | exact wlc (by decide)) (Lib.hid (HT.out.gr (Gr.trans HB.out hw)))) (by rfl) ?_
  simp only [Act.put, rA, rB, rC]
  iterate 4 (refine wpPlan_takeL (v := ?_) rfl (by rfl) (fun w' hw => ?_) ?_; rotate_left; go_simp; with_reducible rfl; simp only [Act.put, rA, rB, rC])
  refine wpPlan_callL rfl (by rfl) Tryd.call38 (fun w' hw => nzof 2 _ (by decide)) (by rfl) ?_
  simp only [Act.put, rA, rB, rC]
  iterate 9 (refine wpPlan_takeL (v := ?_) rfl (by rfl) (fun w' hw => ?_) ?_; rotate_left; go_simp; with_reducible rfl; simp only [Act.put, rA, rB, rC])
  refine wpPlan_callL rfl (by rfl) Tryd.call25 (fun w' hw => nzgcd (1180591620717411303424) (3656158440062976) (1048576) _ HZ9.out (by first | omega | exact wlc (by decide)) (by first | omega | exact wlc (by decide))) (by rfl) ?_
  simp only [Act.put, rA, rB, rC]
  refine wpPlan_callL rfl (by rfl) Tryd.call38 (fun w' hw => nzof 1048576 _ (by decide)) (by rfl) ?_
  simp only [Act.put, rA, rB, rC]
  iterate 4 (refine wpPlan_takeL (v := ?_) rfl (by rfl) (fun w' hw => ?_) ?_; rotate_left; go_simp; with_reducible rfl; simp only [Act.put, rA, rB, rC])
  refine wpPlan_callL rfl (by rfl) Tryd.call28 (fun w' hw => nzsqrt (99999999999999999999) (9999999999) _ HZ10.out (by first | omega | exact wlc (by decide))) (by rfl) ?_
  simp only [Act.put, rA, rB, rC]
  refine wpPlan_callL rfl (by rfl) Tryd.call38 (fun w' hw => nzof 9999999999 _ (by decide)) (by rfl) ?_
  simp only [Act.put, rA, rB, rC]
  iterate 4 (refine wpPlan_takeL (v := ?_) rfl (by rfl) (fun w' hw => ?_) ?_; rotate_left; go_simp; with_reducible rfl; simp only [Act.put, rA, rB, rC])
  refine wpPlan_callL rfl (by rfl) Tryd.call38 (fun w' hw => nzof 1 _ (by decide)) (by rfl) ?_
  simp only [Act.put, rA, rB, rC]
  refine wpPlan_callL rfl (by rfl) Tryd.call18 (fun w' hw => nzadd (18446744073709551615) (1) (18446744073709551616) _ HZ11.out (by first | omega | exact wlc (by decide)) (by first | omega | exact wlc (by decide))) (by rfl) ?_
  simp only [Act.put, rA, rB, rC]
  refine wpPlan_callL rfl (by rfl) Tryd.call30 (fun w' hw => nzbits (18446744073709551616) 65 _ (by decide +kernel) (by first | omega | exact wlc (by decide))) (by rfl) ?_
  simp only [Act.put, rA, rB, rC]
  refine wpPlan_takeL (v := ?_) rfl (by rfl) (fun w' hw => ?_) ?_; rotate_left; go_simp; with_reducible rfl; simp only [Act.put, rA, rB, rC]
  refine wpPlan_nil (hT.out _ _ ?_); clear hT T
  intro G vw11 hg hf
  simp only [puts, Act.put, rA, rB, rC, rD, rE, ↓reduceIte, Nat.reduceEqDiff]
  clear lx0 lx2 lx3 lx4 lx5 lx6
  have HG := Lib.hid (hg)
  clear hg
  replace BX0 := bG BX0 HG
  replace BX2 := bG BX2 HG
  replace BX3 := bG BX3 HG
  replace BX4 := bG BX4 HG
  replace BX5 := bG BX5 HG
  replace BX6 := bG BX6 HG
  replace BX10 := bG BX10 HG
  have r0 := Gr.refl vw11
  go_wp2
  refine hK.out _ _ ?_; clear hK K
  show Code.wp _ _ _ _ _
  clear r0
  refine forgetW (fun w2 => Bx w2 gx10 26 #[.int .u64 (lo (1)), .string (bg (1))] ∧ Below w.heap.size w w2) ⟨BX10.out, HB.out.trans (HG.out.mono HB.out.size)⟩ ?_
  clear HB HG BX0 BX2 BX3 BX4 BX5 BX6 BX10
  rintro Wx11 ⟨bx10, HB⟩
  replace HB := Lib.hid HB
  refine wp_cond_false (by rfl) ?_
  refine wp_skip ?_
  show Code.wp _ _ _ _ _
  have su_p0_13 : wl 0 ≤ 1 := wl_le.2 (by decide +kernel)
  have BX10 := Lib.hid bx10
  clear bx10
  refine sK fun K hK => ?_
  refine wp_region_seqplan 4 [(true, 0), (true, 1), (true, 2), (true, 3)] (by rfl) (by simp) (fun T hT => ?_)
  refine wpPlan_callL rfl (by rfl) Tryd.call34 (fun w' hw => nzparse ⟨#[48, 48]⟩ 0 4 _ (by decide +kernel) (by decide +kernel) (by decide)) (by rfl) ?_
  simp only [Act.put, rA, rB, rC]
  iterate 3 (refine wpPlan_takeL (v := ?_) rfl (by rfl) (fun w' hw => ?_) ?_; rotate_left; go_simp; with_reducible rfl; simp only [Act.put, rA, rB, rC])
  refine wpPlan_nil (hT.out _ _ ?_); clear hT T
  intro vw12 hg
  simp only [puts, Act.put, rA, rB, rC, rD, rE, ↓reduceIte, Nat.reduceEqDiff]
  have HG := Lib.hid (hg)
  clear hg
  replace BX10 := bG BX10 HG
  have r0 := Gr.refl vw12
  go_wp2
  refine hK.out _ _ ?_; clear hK K
  show Code.wp _ _ _ _ _
  clear r0
  have hsz : w.heap.size ≤ vw12.heap.size := Nat.le_trans HB.out.size HG.out.size
  have mx10 : gx10 < vw12.heap.size := BX10.out.lt
  refine forgetW (fun w2 => Bx w2 gx10 26 #[.int .u64 (lo (1)), .string (bg (1))] ∧ Below w.heap.size w w2) ⟨(BX10.out).alloc _, (HB.out.trans (HG.out.mono HB.out.size)).alloc (by first | omega | (simp; omega)) _⟩ ?_
  clear HB HG BX10
  rintro Wx13 ⟨bx10, HB⟩
  replace HB := Lib.hid HB
  clear hsz mx10
  have su_p1_14 : wl 0 ≤ 1 := wl_le.2 (by decide +kernel)
  have BX10 := Lib.hid bx10
  clear bx10
  refine sK fun K hK => ?_
  refine wp_region_seqplan 4 [(true, 0), (true, 1), (true, 2), (true, 3)] (by rfl) (by simp) (fun T hT => ?_)
  refine wpPlan_callL rfl (by rfl) Tryd.call34 (fun w' hw => nzparse ⟨#[]⟩ 0 4 _ (by decide +kernel) (by decide +kernel) (by decide)) (by rfl) ?_
  simp only [Act.put, rA, rB, rC]
  iterate 3 (refine wpPlan_takeL (v := ?_) rfl (by rfl) (fun w' hw => ?_) ?_; rotate_left; go_simp; with_reducible rfl; simp only [Act.put, rA, rB, rC])
  refine wpPlan_nil (hT.out _ _ ?_); clear hT T
  intro vw13 hg
  simp only [puts, Act.put, rA, rB, rC, rD, rE, ↓reduceIte, Nat.reduceEqDiff]
  have HG := Lib.hid (hg)
  clear hg
  replace BX10 := bG BX10 HG
  have r0 := Gr.refl vw13
  go_wp2
  refine hK.out _ _ ?_; clear hK K
  show Code.wp _ _ _ _ _
  clear r0
  have hsz : w.heap.size ≤ vw13.heap.size := Nat.le_trans HB.out.size HG.out.size
  have mx10 : gx10 < vw13.heap.size := BX10.out.lt
  refine forgetW (fun w2 => Bx w2 gx10 26 #[.int .u64 (lo (1)), .string (bg (1))] ∧ Below w.heap.size w w2) ⟨(BX10.out).alloc _, (HB.out.trans (HG.out.mono HB.out.size)).alloc (by first | omega | (simp; omega)) _⟩ ?_
  clear HB HG BX10
  rintro Wx14 ⟨bx10, HB⟩
  replace HB := Lib.hid HB
  clear hsz mx10
  have su_p2_15 : wl 0 ≤ 1 := wl_le.2 (by decide +kernel)
  have BX10 := Lib.hid bx10
  clear bx10
  refine sK fun K hK => ?_
  refine wp_region_seqplan 4 [(true, 0), (true, 1), (true, 2), (true, 3)] (by rfl) (by simp) (fun T hT => ?_)
  refine wpPlan_callL rfl (by rfl) Tryd.call34 (fun w' hw => nzparse ⟨#[45, 49]⟩ 0 4 _ (by decide +kernel) (by decide +kernel) (by decide)) (by rfl) ?_
  simp only [Act.put, rA, rB, rC]
  iterate 3 (refine wpPlan_takeL (v := ?_) rfl (by rfl) (fun w' hw => ?_) ?_; rotate_left; go_simp; with_reducible rfl; simp only [Act.put, rA, rB, rC])
  refine wpPlan_nil (hT.out _ _ ?_); clear hT T
  intro vw14 hg
  simp only [puts, Act.put, rA, rB, rC, rD, rE, ↓reduceIte, Nat.reduceEqDiff]
  have HG := Lib.hid (hg)
  clear hg
  replace BX10 := bG BX10 HG
  have r0 := Gr.refl vw14
  go_wp2
  refine hK.out _ _ ?_; clear hK K
  show Code.wp _ _ _ _ _
  clear r0
  have hsz : w.heap.size ≤ vw14.heap.size := Nat.le_trans HB.out.size HG.out.size
  have mx10 : gx10 < vw14.heap.size := BX10.out.lt
  refine forgetW (fun w2 => Bx w2 gx10 26 #[.int .u64 (lo (1)), .string (bg (1))] ∧ Below w.heap.size w w2) ⟨(BX10.out).alloc _, (HB.out.trans (HG.out.mono HB.out.size)).alloc (by first | omega | (simp; omega)) _⟩ ?_
  clear HB HG BX10
  rintro Wx15 ⟨bx10, HB⟩
  replace HB := Lib.hid HB
  clear hsz mx10
  have su_p3_16 : wl 12 ≤ 1 := wl_le.2 (by decide +kernel)
  have BX10 := Lib.hid bx10
  clear bx10
  refine sK fun K hK => ?_
  refine wp_region_seqplan 4 [(true, 0), (true, 1), (true, 2), (true, 3)] (by rfl) (by simp) (fun T hT => ?_)
  refine wpPlan_callL rfl (by rfl) Tryd.call34 (fun w' hw => nzparse ⟨#[49, 50]⟩ 12 0 _ (by decide +kernel) (by decide +kernel) (by decide)) (by rfl) ?_
  simp only [Act.put, rA, rB, rC]
  iterate 3 (refine wpPlan_takeL (v := ?_) rfl (by rfl) (fun w' hw => ?_) ?_; rotate_left; go_simp; with_reducible rfl; simp only [Act.put, rA, rB, rC])
  refine wpPlan_nil (hT.out _ _ ?_); clear hT T
  intro vw15 hg
  simp only [puts, Act.put, rA, rB, rC, rD, rE, ↓reduceIte, Nat.reduceEqDiff]
  have HG := Lib.hid (hg)
  clear hg
  replace BX10 := bG BX10 HG
  have r0 := Gr.refl vw15
  go_wp2
  refine hK.out _ _ ?_; clear hK K
  show Code.wp _ _ _ _ _
  clear r0
  have hsz : w.heap.size ≤ vw15.heap.size := Nat.le_trans HB.out.size HG.out.size
  have mx10 : gx10 < vw15.heap.size := BX10.out.lt
  refine forgetW (fun w2 => Bx w2 gx10 26 #[.int .u64 (lo (1)), .string (bg (1))] ∧ Bx w2 (vw15.heap.size) 26 #[.int .u64 (lo (12)), .string (bg (12))] ∧ Below w.heap.size w w2) ⟨(BX10.out).alloc _, (Bx.at (by simp) : Bx _ (vw15.heap.size) _ _), (HB.out.trans (HG.out.mono HB.out.size)).alloc (by first | omega | (simp; omega)) _⟩ ?_
  clear HB HG BX10
  rintro Wx16 ⟨bx10, bx15, HB⟩
  replace HB := Lib.hid HB
  have yx15 : w.heap.size ≤ vw15.heap.size := by omega
  have qx10_15 : gx10 < vw15.heap.size := by omega
  generalize hx15 : vw15.heap.size = gx15 at *
  clear hx15
  clear hsz mx10
  have su_14_17 : wl 1 ≤ 1 := wl_le.2 (by decide +kernel)
  have su_15_17 : wl 12 ≤ 1 := wl_le.2 (by decide +kernel)
  have lx10 := bx10.cells
  have lx15 := bx15.cells
  have BX10 := Lib.hid bx10
  have BX15 := Lib.hid bx15
  clear bx10 bx15
  refine sK fun K hK => ?_
  refine wp_region_plan 40 [] [] (fun _ => 0) (fun _ => .cells #[] 0) [(true, 0), (true, 1), (true, 2), (true, 3), (true, 4), (true, 5), (true, 6), (true, 7), (true, 8), (true, 9), (true, 10), (true, 11), (true, 12), (true, 13), (true, 14), (true, 15), (true, 16), (true, 17), (true, 18), (true, 19), (true, 20), (true, 21), (true, 22), (true, 23), (true, 24), (true, 25), (true, 26), (true, 27), (true, 28), (true, 29), (true, 30), (true, 31), (true, 32), (true, 33), (true, 34), (true, 35), (true, 36), (true, 37), (true, 38), (true, 39)] (by kernel_rfl) (by kernel_rfl) (fun i hi => by cases hi) (fun i hi => by cases hi) (fun _ _ _ _ _ h => h) (fun T hT => ?_)
  iterate 8 (refine wpPlan_takeL (v := ?_) rfl (by rfl) (fun w' hw => ?_) ?_; rotate_left; go_simp; with_reducible rfl; simp only [Act.put, rA, rB, rC])
  refine wpPlan_callL rfl (by rfl) Tryd.call38 (fun w' hw => nzof 1 _ (by decide)) (by rfl) ?_
  simp only [Act.put, rA, rB, rC]
  iterate 24 (refine wpPlan_takeL (v := ?_) rfl (by rfl) (fun w' hw => ?_) ?_; rotate_left; go_simp; with_reducible rfl; simp only [Act.put, rA, rB, rC])
  refine wpPlan_callL rfl (by rfl) Tryd.call38 (fun w' hw => nzof 12 _ (by decide)) (by rfl) ?_
  simp only [Act.put, rA, rB, rC]
  iterate 6 (refine wpPlan_takeL (v := ?_) rfl (by rfl) (fun w' hw => ?_) ?_; rotate_left; go_simp; with_reducible rfl; simp only [Act.put, rA, rB, rC])
  refine wpPlan_nil (hT.out _ _ ?_); clear hT T
  intro G vw16 hg hf
  simp only [puts, Act.put, rA, rB, rC, rD, rE, ↓reduceIte, Nat.reduceEqDiff]
  clear lx10 lx15
  have HG := Lib.hid (hg)
  clear hg
  replace BX10 := bG BX10 HG
  replace BX15 := bG BX15 HG
  have r0 := Gr.refl vw16
  go_wp2
  refine hK.out _ _ ?_; clear hK K
  show Code.wp _ _ _ _ _
  clear r0
  refine forgetW (fun w2 => Below w.heap.size w w2) (HB.out.trans (HG.out.mono HB.out.size)) ?_
  clear HB HG BX10 BX15
  rintro Wx17 HB
  replace HB := Lib.hid HB
  refine wp_ret ?_
  try simp only [Exit.then, Exit.inBlock]
  have r0 := Gr.refl Wx17
  exact bodyPost_ret (v := .bool true) (by simp [results, Tryd.results12, go_sem]) rfl ⟨rfl, HB.out⟩

end Go.Proofs.YteenojfbnbkedaaDoor
