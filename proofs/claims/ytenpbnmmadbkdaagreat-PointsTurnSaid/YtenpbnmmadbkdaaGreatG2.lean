/- Parts of the row's proof: 8 texts in one. No condition but those stated. -/
import Derived.Test.YtenpbnmmadbkdaaGreatG1
import Derived.BigQuiet
import Derived.Lib.Mul64
import Derived.Lib.BitFns
import Derived.Lib.Walk
import Derived.Lib.Small
import Derived.Laws.Bits64b
import Derived.Laws.Externs

/- gussetref01 in z-form; gussetref02.From. -/
namespace Go.Proofs.YtenpbnmmadbkdaaGreat
open Go.RowKit
set_option linter.unusedSimpArgs false
set_option linter.unusedVariables false
attribute [local go_sem ↓] Go.wp_at_zero Go.wp_at_succ
theorem zradd (v u : Value) (x y z : Nat) (w : World) (hz : x + y = z) (hx : Rn w v x) (hy : Rn w u y) (bx : tw x ≤ 1000000000) (by' : tw y ≤ 1000000000) :
    Calls Tryz.prog 96 #[v, u] w fun e w' => (∃ v', e = .returned v' ∧ Rn w' v' z) ∧ Below w.heap.size w w' := hz ▸ radd_any v u x y w hx hy bx by'
theorem zrmul (v u : Value) (x y z : Nat) (w : World) (hz : x * y = z) (hx : Rn w v x) (hy : Rn w u y) (bx : tw x ≤ 1000000000) (by' : tw y ≤ 1000000000) :
    Calls Tryz.prog 65 #[v, u] w fun e w' => (∃ v', e = .returned v' ∧ Rn w' v' z) ∧ Below w.heap.size w w' := hz ▸ rmul_any v u x y w hx hy bx by'
theorem zrsub (v u : Value) (x y z : Nat) (w : World) (hz : x - y = z) (hx : Rn w v x) (hy : Rn w u y) (hle : y ≤ x) (bx : tw x ≤ 1000000000) (by' : tw y ≤ 1000000000) :
    Calls Tryz.prog 92 #[v, u] w fun e w' => (∃ v', e = .returned v' ∧ Rn w' v' z) ∧ Below w.heap.size w w' := hz ▸ rsub_any v u x y w hx hy hle bx by'
theorem zrgcd (v u : Value) (x y z : Nat) (w : World) (hz : Nat.gcd x y = z) (hx : Rn w v x) (hy : Rn w u y) (bx : tw x ≤ 500000000) (by' : tw y ≤ 500000000) :
    Calls Tryz.prog 90 #[v, u] w fun e w' => (∃ v', e = .returned v' ∧ Rn w' v' z) ∧ Below w.heap.size w w' := hz ▸ rgcd_any v u x y w hx hy bx by'
theorem zrdiv (v u : Value) (x y q r : Nat) (w : World) (hq : x / y = q) (hr : x % y = r) (hx : Rn w v x) (hy : Rn w u y) (h0 : 0 < y) (bx : tw x ≤ 500000000) (by' : tw y ≤ 500000000) :
    Calls Tryz.prog 91 #[v, u] w fun e w' => (∃ v1 v2, e = .returned (.tuple #[v1, v2]) ∧ Rn w' v1 q ∧ Rn w' v2 r) ∧ Below w.heap.size w w' := hq ▸ hr ▸ rdiv_any v u x y w hx hy h0 bx by'
theorem zrcmp (v u : Value) (x y : Nat) (c : Int) (w : World) (hc : cmpI x y = c) (hx : Rn w v x) (hy : Rn w u y) (bx : tw x ≤ 1000000000) (by' : tw y ≤ 1000000000) :
    Calls Tryz.prog 98 #[v, u] w fun e w' => e = .returned (.int .i64 c) ∧ Below w.heap.size w w' := hc ▸ rcmp_any v u x y w hx hy bx by'
theorem tw_i64 {n : Int} (h1 : -9223372036854775808 ≤ n) (h2 : n ≤ 9223372036854775807) : tw n.natAbs ≤ 5 := tw_le.2 (by rw [show tp 5 = 100000000000000000000 from by decide]; omega)
theorem Rn.sl {w : World} {v : Value} {k : Nat} (h : Rn w v k) : ∃ ao n c, v = .slice ao n c := by
  obtain ⟨ao, c, e, _⟩ := Dr.slice h
  exact ⟨ao, _, c, e⟩
theorem zfrom_any (b : Bool) (n : Nat) (z : Int) (v : Value) (w : World) (hz : (if b then -(n : Int) else (n : Int)) = z) (h : Rn w v n) :
    Calls Tryz.prog 85 #[.bool b, v] w fun e w' => (∃ v', e = .returned (.agg #[.bool (decide (z < 0)), v']) ∧ Rn w' v' z.natAbs) ∧ Below w.heap.size w w' := by
  obtain ⟨ao, c, rfl, hc, hc2⟩ := Dr.slice h
  obtain ⟨k, hk⟩ : ∃ k, tw n = k := ⟨_, rfl⟩
  rw [hk] at h hc ⊢
  have HK := Lib.hid hk
  have HR := Lib.hid h
  have HZ := Lib.hid hz
  clear h hk hz
  cases b
  · have he : Hid (decide (z < 0) = false ∧ z.natAbs = n) := Lib.hid (by have := HZ.out; simp at this; constructor; simp; omega; omega)
    go_enter Tryz.func85, Tryz.ntmps85
    go_wp2
    exact bodyPost_ret (v := .agg #[.bool false, .slice ao k c]) (by simp [results, Tryz.results85, go_sem]) rfl ⟨⟨_, by rw [he.out.1], by rw [he.out.2]; exact HR.out.alloc _⟩, (Below.refl _ _).alloc (Nat.le_refl _) _⟩
  · by_cases h0 : k = 0
    · subst h0
      have hn : n = 0 := tw_eq_zero.1 HK.out
      have he : Hid (decide (z < 0) = false ∧ z.natAbs = n) := Lib.hid (by have := HZ.out; simp at this; constructor; simp; omega; omega)
      clear hn
      go_enter Tryz.func85, Tryz.ntmps85
      go_wp2
      exact bodyPost_ret (v := .agg #[.bool false, .slice ao 0 c]) (by simp [results, Tryz.results85, go_sem]) rfl ⟨⟨_, by rw [he.out.1], by rw [he.out.2]; exact HR.out.alloc _⟩, (Below.refl _ _).alloc (Nat.le_refl _) _⟩
    · have hn : 0 < n := Nat.pos_of_ne_zero (fun e => h0 (by rw [← HK.out, e]; exact tw_zero))
      have he : Hid (decide (z < 0) = true ∧ z.natAbs = n) := Lib.hid (by have := HZ.out; simp at this; constructor; simp; omega; omega)
      have hk0 : 0 < k := by omega
      clear hn
      go_enter Tryz.func85, Tryz.ntmps85
      go_wp2
      exact bodyPost_ret (v := .agg #[.bool true, .slice ao k c]) (by simp [results, Tryz.results85, go_sem]) rfl ⟨⟨_, by rw [he.out.1], by rw [he.out.2]; exact HR.out.alloc _⟩, (Below.refl _ _).alloc (Nat.le_refl _) _⟩

end Go.Proofs.YtenpbnmmadbkdaaGreat


/- gussetref02: Neg, Sign, Mul. -/
namespace Go.Proofs.YtenpbnmmadbkdaaGreat
open Go.RowKit
set_option linter.unusedSimpArgs false
set_option linter.unusedVariables false
attribute [local go_sem ↓] Go.wp_at_zero Go.wp_at_succ
set_option maxRecDepth 20000 in
set_option maxHeartbeats 2000000 in
theorem zneg_any (a z : Int) (va : Value) (w : World) (hz : -a = z) (bx21 : Rn w va (Int.natAbs (a))) :
    Calls Tryz.prog 89 #[(Value.agg #[.bool (decide ((a) < 0)), va])] w fun e w' => (∃ r1 : Value, e = .returned (.agg #[.bool (decide ((z) < 0)), r1]) ∧ Rn w' r1 (Int.natAbs (z))) ∧ Below w.heap.size w w' := by
  replace hz := Lib.hid hz
  obtain ⟨ao_va, n_va, c_va, rfl⟩ := Rn.sl bx21
  go_enter Tryz.func89, Tryz.ntmps89
  -- region 0
  refine wp_seq_k fun K hK => ?_
  replace hK := Lib.hid hK
  refine wp_region_lit ?_
  go_wp2
  refine hK.out _ _ ?_; clear hK K
  show Code.wp _ _ _ _ _
  refine forgetW (fun w2 => Rn w2 (.slice ao_va n_va c_va) (Int.natAbs (a)) ∧ Bx w2 (w.heap.size) 43 #[.bool (decide ((a) < 0)), (.slice ao_va n_va c_va)] ∧ Bx w2 (w.heap.size + 1) 43 #[.bool false, .slice none 0 0] ∧ Below w.heap.size w w2) ⟨((bx21).alloc _).alloc _, (Bx.at rfl).alloc _, Bx.at (by simp), ((Below.refl _ _).alloc (Nat.le_refl _) _).alloc (by simp) _⟩ ?_
  clear bx21
  rintro Wx ⟨bx21, bx22, bx23, HB⟩
  replace HB := Lib.hid HB
  -- region 1
  have HZ1 : Hid ((if !decide ((a) < 0) then -((Int.natAbs (a) : Nat) : Int) else ((Int.natAbs (a) : Nat) : Int)) = z) := Lib.hid (by rw [← hz.out]; by_cases h : a < 0 <;> simp [h] <;> omega)
  have lx22 := bx22.cells
  have BX21 := Lib.hid bx21
  have BX22 := Lib.hid bx22
  have BX23 := Lib.hid bx23
  clear bx21 bx22 bx23
  refine wp_seq_k fun K hK => ?_
  replace hK := Lib.hid hK
  have HS0 := Lib.hid (HB.out.size)
  have MX22 : w.heap.size < Wx.heap.size := BX22.out.lt
  have MX23 : w.heap.size + 1 < Wx.heap.size := BX23.out.lt
  refine wp_region_seqplan 6 [(true, 0), (true, 1), (true, 2), (true, 3), (true, 4), (false, 5)] (by rfl) (by simp) (fun T hT => ?_)
  iterate 5
    refine wpPlan_takeL (v := ?_) rfl (by rfl) (fun w' hw => ?_) ?_
    rotate_left
    · go_simp
      with_reducible rfl
    simp only [Act.put, rA, rB, rC]
  refine wpPlan_callE rfl (by rfl) Tryz.call85 (by rfl) (fun w' hw => (zfrom_any (!decide ((a) < 0)) (Int.natAbs (a)) (z) _ _ HZ1.out (BX21.out.gr hw)).mono ?_)
  rintro e vv1 ⟨⟨rv1, rfl, bx24⟩, hg0⟩
  obtain ⟨ao1, nn1, cc1, rfl⟩ := Rn.sl bx24
  refine ⟨_, rfl, hg0, ?_⟩
  replace hg0 := Gr.trans hw hg0; clear hw
  have HG0 := Lib.hid hg0; clear hg0
  replace BX21 := rG BX21 HG0
  replace BX22 := bG BX22 HG0
  replace BX23 := bG BX23 HG0
  replace HB := Lib.hid (HB.out.trans (HG0.out.mono HB.out.size))
  have BX24 := Lib.hid bx24; clear bx24
  clear HG0
  clear lx22; have lx22 := BX22.out.cells
  simp only [Act.put, rA, rB, rC]
  refine wpPlan_nil (hT.out _ _ ?_); clear hT T
  intro vw1 hg
  simp only [puts, Act.put, rA, rB, rC, rD, rE, ↓reduceIte, Nat.reduceEqDiff]
  clear lx22
  have HG := Lib.hid (hg)
  clear hg
  replace BX21 := rG BX21 HG
  replace BX22 := bG BX22 HG
  replace BX23 := bG BX23 HG
  replace BX24 := rG BX24 HG
  have lx23 := BX23.out.cells; have fx23 := BX23.out.free
  have r0 := Gr.refl vw1
  go_wp2
  refine hK.out _ _ ?_; clear hK K
  show Code.wp _ _ _ _ _
  clear lx23 fx23
  clear r0
  refine forgetW (fun w2 => Bx w2 (w.heap.size + 1) 43 #[.bool (decide ((z) < 0)), (.slice ao1 nn1 cc1)] ∧ Rn w2 (.slice ao1 nn1 cc1) (Int.natAbs (z)) ∧ Below w.heap.size w w2) ⟨(((BX23.out).set 0 _).set 1 _).eq (by simp only [rA, rB, rC]), ro2 (BX24.out) (Rn.ne BX24.out BX23.out (by decide)), sc2 (HB.out.trans (HG.out.mono HB.out.size)) (by show w.heap.size ≤ w.heap.size + 1; omega)⟩ ?_
  clear HB HG BX21 BX22 BX23 BX24
  rintro Wx1 ⟨bx23, bx24, HB⟩
  replace HB := Lib.hid HB
  refine wp_ret ?_
  try simp only [Exit.then, Exit.inBlock]
  have lx23 := bx23.cells
  have r0 := Gr.refl Wx1
  exact bodyPost_ret (v := .agg #[.bool (decide ((z) < 0)), (.slice ao1 nn1 cc1)]) (by simp [results, Tryz.results89, go_sem, lx23 _ r0]) rfl ⟨⟨(.slice ao1 nn1 cc1), rfl, bx24⟩, HB.out⟩

theorem sg_mul (a b : Int) : (if (decide (a < 0) != decide (b < 0)) then -((a.natAbs * b.natAbs : Nat) : Int) else ((a.natAbs * b.natAbs : Nat) : Int)) = a * b := by
  have h : ((a.natAbs * b.natAbs : Nat) : Int) = (a.natAbs : Int) * (b.natAbs : Int) := Int.natCast_mul _ _
  rw [h]
  by_cases h1 : a < 0 <;> by_cases h2 : b < 0
  · rw [Int.ofNat_natAbs_of_nonpos (by omega), Int.ofNat_natAbs_of_nonpos (by omega)]; simp [h1, h2, Int.neg_mul, Int.mul_neg]
  · rw [Int.ofNat_natAbs_of_nonpos (by omega), Int.natAbs_of_nonneg (by omega)]; simp [h1, h2, Int.neg_mul, Int.mul_neg]
  · rw [Int.natAbs_of_nonneg (by omega), Int.ofNat_natAbs_of_nonpos (by omega)]; simp [h1, h2, Int.neg_mul, Int.mul_neg]
  · rw [Int.natAbs_of_nonneg (by omega), Int.natAbs_of_nonneg (by omega)]; simp [h1, h2, Int.neg_mul, Int.mul_neg]
/-- the sign of an integer -/
def sgZ (a : Int) : Int := if a = 0 then 0 else if a < 0 then -1 else 1
theorem zsign_any (a s : Int) (va : Value) (w : World) (hs : sgZ a = s) (h : Rn w va a.natAbs) :
    Calls Tryz.prog 38 #[.agg #[.bool (decide (a < 0)), va]] w fun e w' => e = .returned (.int .i64 s) ∧ Below w.heap.size w w' := by
  obtain ⟨ao, c, rfl, hc, hc2⟩ := Dr.slice h
  obtain ⟨k, hk⟩ : ∃ k, tw a.natAbs = k := ⟨_, rfl⟩
  rw [hk] at hc ⊢
  have HS := Lib.hid hs
  clear h hs
  by_cases h0 : a = 0
  · subst h0
    have hk0 : k = 0 := by rw [← hk]; exact tw_zero
    subst hk0
    obtain rfl : s = 0 := by rw [← HS.out]; rfl
    clear hk
    go_enter Tryz.func38, Tryz.ntmps38
    go_wp2
    go_ret
    exact ⟨rfl, (Below.refl _ _).alloc (Nat.le_refl _) _⟩
  · have hk0 : 0 < k := by rw [← hk]; exact tw_pos (by omega)
    have hkz : ¬ (k = 0) := by omega
    clear hk
    by_cases h1 : a < 0
    · obtain rfl : s = -1 := by rw [← HS.out]; unfold sgZ; rw [if_neg h0, if_pos h1]
      go_enter Tryz.func38, Tryz.ntmps38
      go_wp2
      go_ret
      exact ⟨rfl, (Below.refl _ _).alloc (Nat.le_refl _) _⟩
    · obtain rfl : s = 1 := by rw [← HS.out]; unfold sgZ; rw [if_neg h0, if_neg h1]
      go_enter Tryz.func38, Tryz.ntmps38
      go_wp2
      go_ret
      exact ⟨rfl, (Below.refl _ _).alloc (Nat.le_refl _) _⟩

set_option maxRecDepth 20000 in
set_option maxHeartbeats 2000000 in
theorem zmul_any (a b z : Int) (va vb : Value) (w : World) (hz : a * b = z) (hs_a : tw (Int.natAbs a) ≤ 400000000) (hs_b : tw (Int.natAbs b) ≤ 400000000) (bx21 : Rn w va (Int.natAbs (a))) (bx22 : Rn w vb (Int.natAbs (b))) :
    Calls Tryz.prog 64 #[(Value.agg #[.bool (decide ((a) < 0)), va]), (Value.agg #[.bool (decide ((b) < 0)), vb])] w fun e w' => (∃ r1 : Value, e = .returned (.agg #[.bool (decide ((z) < 0)), r1]) ∧ Rn w' r1 (Int.natAbs (z))) ∧ Below w.heap.size w w' := by
  replace hz := Lib.hid hz
  obtain ⟨ao_va, n_va, c_va, rfl⟩ := Rn.sl bx21
  obtain ⟨ao_vb, n_vb, c_vb, rfl⟩ := Rn.sl bx22
  go_enter Tryz.func64, Tryz.ntmps64
  -- region 0
  refine wp_seq_k fun K hK => ?_
  replace hK := Lib.hid hK
  refine wp_region_lit ?_
  go_wp2
  refine hK.out _ _ ?_; clear hK K
  show Code.wp _ _ _ _ _
  refine forgetW (fun w2 => Rn w2 (.slice ao_va n_va c_va) (Int.natAbs (a)) ∧ Rn w2 (.slice ao_vb n_vb c_vb) (Int.natAbs (b)) ∧ Bx w2 (w.heap.size) 43 #[.bool (decide ((a) < 0)), (.slice ao_va n_va c_va)] ∧ Bx w2 (w.heap.size + 1) 43 #[.bool (decide ((b) < 0)), (.slice ao_vb n_vb c_vb)] ∧ Bx w2 (w.heap.size + 1 + 1) 43 #[.bool false, .slice none 0 0] ∧ Below w.heap.size w w2) ⟨(((bx21).alloc _).alloc _).alloc _, (((bx22).alloc _).alloc _).alloc _, ((Bx.at rfl).alloc _).alloc _, (Bx.at (by simp)).alloc _, Bx.at (by simp), (((Below.refl _ _).alloc (Nat.le_refl _) _).alloc (by simp) _).alloc (by simp; omega) _⟩ ?_
  clear bx21 bx22
  rintro Wx ⟨bx21, bx22, bx23, bx24, bx25, HB⟩
  replace HB := Lib.hid HB
  -- region 1
  obtain ⟨u1, HZ1⟩ : ∃ z, Hid ((Int.natAbs (a)) * (Int.natAbs (b)) = z) := ⟨_, Lib.hid rfl⟩
  have su1 : tw u1 ≤ 800000000 := by rw [← HZ1.out]; have := tw_mul (Int.natAbs (a)) (Int.natAbs (b)); omega
  have HZ2 : Hid ((if decide (a < 0) != decide (b < 0) then -((u1 : Nat) : Int) else ((u1 : Nat) : Int)) = z) := Lib.hid (by rw [← hz.out, ← HZ1.out]; exact sg_mul a b)
  have lx23 := bx23.cells
  have lx24 := bx24.cells
  have BX21 := Lib.hid bx21
  have BX22 := Lib.hid bx22
  have BX23 := Lib.hid bx23
  have BX24 := Lib.hid bx24
  have BX25 := Lib.hid bx25
  clear bx21 bx22 bx23 bx24 bx25
  refine wp_seq_k fun K hK => ?_
  replace hK := Lib.hid hK
  have HS0 := Lib.hid (HB.out.size)
  have MX23 : w.heap.size < Wx.heap.size := BX23.out.lt
  have MX24 : w.heap.size + 1 < Wx.heap.size := BX24.out.lt
  have MX25 : w.heap.size + 1 + 1 < Wx.heap.size := BX25.out.lt
  refine wp_region_plan 11 [] [] (fun _ => 0) (fun _ => .cells #[] 0) [(true, 0), (true, 1), (true, 2), (true, 3), (true, 4), (true, 5), (true, 6), (true, 7), (true, 8), (false, 9), (false, 10)] (by kernel_rfl) (by kernel_rfl) (fun i hi => by cases hi) (fun i hi => by cases hi) (fun _ _ _ _ _ h => h) (fun T hT => ?_)
  iterate 9
    refine wpPlan_takeL (v := ?_) rfl (by rfl) (fun w' hw => ?_) ?_
    rotate_left
    · go_simp
      with_reducible rfl
    simp only [Act.put, rA, rB, rC]
  refine wpPlan_callE rfl (by rfl) Tryz.call65 (by rfl) (fun w' hw => (zrmul _ _ (Int.natAbs (a)) (Int.natAbs (b)) (u1) _ HZ1.out (BX21.out.gr hw) (BX22.out.gr hw) (by omega) (by omega)).mono ?_)
  rintro e vv1 ⟨⟨rv1, rfl, bx26⟩, hg0⟩
  obtain ⟨ao1, nn1, cc1, rfl⟩ := Rn.sl bx26
  refine ⟨_, rfl, hg0, ?_⟩
  replace hg0 := Gr.trans hw hg0; clear hw
  have HG0 := Lib.hid hg0; clear hg0
  replace BX21 := rG BX21 HG0
  replace BX22 := rG BX22 HG0
  replace BX23 := bG BX23 HG0
  replace BX24 := bG BX24 HG0
  replace BX25 := bG BX25 HG0
  replace HB := Lib.hid (HB.out.trans (HG0.out.mono HB.out.size))
  have BX26 := Lib.hid bx26; clear bx26
  clear HG0
  clear lx23; have lx23 := BX23.out.cells
  clear lx24; have lx24 := BX24.out.cells
  simp only [Act.put, rA, rB, rC]
  refine wpPlan_callE rfl (by rfl) Tryz.call85 (by rfl) (fun w' hw => (zfrom_any (decide (a < 0) != decide (b < 0)) (u1) (z) _ _ HZ2.out (BX26.out.gr hw)).mono ?_)
  rintro e vv2 ⟨⟨rv2, rfl, bx27⟩, hg0⟩
  obtain ⟨ao2, nn2, cc2, rfl⟩ := Rn.sl bx27
  refine ⟨_, rfl, hg0, ?_⟩
  replace hg0 := Gr.trans hw hg0; clear hw
  have HG0 := Lib.hid hg0; clear hg0
  replace BX21 := rG BX21 HG0
  replace BX22 := rG BX22 HG0
  replace BX23 := bG BX23 HG0
  replace BX24 := bG BX24 HG0
  replace BX25 := bG BX25 HG0
  replace BX26 := rG BX26 HG0
  replace HB := Lib.hid (HB.out.trans (HG0.out.mono HB.out.size))
  have BX27 := Lib.hid bx27; clear bx27
  clear HG0
  clear lx23; have lx23 := BX23.out.cells
  clear lx24; have lx24 := BX24.out.cells
  simp only [Act.put, rA, rB, rC]
  refine wpPlan_nil (hT.out _ _ ?_); clear hT T
  intro G vw1 hg hf
  simp only [puts, Act.put, rA, rB, rC, rD, rE, ↓reduceIte, Nat.reduceEqDiff]
  clear lx23 lx24
  have HG := Lib.hid (hg)
  clear hg
  replace BX21 := rG BX21 HG
  replace BX22 := rG BX22 HG
  replace BX23 := bG BX23 HG
  replace BX24 := bG BX24 HG
  replace BX25 := bG BX25 HG
  replace BX26 := rG BX26 HG
  replace BX27 := rG BX27 HG
  have lx25 := BX25.out.cells; have fx25 := BX25.out.free
  have r0 := Gr.refl vw1
  go_wp2
  refine hK.out _ _ ?_; clear hK K
  show Code.wp _ _ _ _ _
  clear lx25 fx25
  clear r0
  refine forgetW (fun w2 => Bx w2 (w.heap.size + 1 + 1) 43 #[.bool (decide ((z) < 0)), (.slice ao2 nn2 cc2)] ∧ Rn w2 (.slice ao2 nn2 cc2) (Int.natAbs (z)) ∧ Below w.heap.size w w2) ⟨(((BX25.out).set 0 _).set 1 _).eq (by simp only [rA, rB, rC]), ro2 (BX27.out) (Rn.ne BX27.out BX25.out (by decide)), sc2 (HB.out.trans (HG.out.mono HB.out.size)) (by show w.heap.size ≤ w.heap.size + 1 + 1; omega)⟩ ?_
  clear HB HG BX21 BX22 BX23 BX24 BX25 BX26 BX27
  rintro Wx1 ⟨bx25, bx27, HB⟩
  replace HB := Lib.hid HB
  refine wp_ret ?_
  try simp only [Exit.then, Exit.inBlock]
  have lx25 := bx25.cells
  have r0 := Gr.refl Wx1
  exact bodyPost_ret (v := .agg #[.bool (decide ((z) < 0)), (.slice ao2 nn2 cc2)]) (by simp [results, Tryz.results64, go_sem, lx25 _ r0]) rfl ⟨⟨(.slice ao2 nn2 cc2), rfl, bx27⟩, HB.out⟩

end Go.Proofs.YtenpbnmmadbkdaaGreat


/- gussetref02: Add, Of. -/
namespace Go.Proofs.YtenpbnmmadbkdaaGreat
open Go.RowKit
set_option linter.unusedSimpArgs false
set_option linter.unusedVariables false
attribute [local go_sem ↓] Go.wp_at_zero Go.wp_at_succ
theorem cmpI_ge {x y : Nat} (h : 0 ≤ cmpI (x : Int) (y : Int)) : y ≤ x := by
  unfold cmpI at h
  split at h
  · omega
  · omega
theorem cmpI_lt' {x y : Nat} (h : ¬ 0 ≤ cmpI (x : Int) (y : Int)) : x ≤ y := by
  unfold cmpI at h
  split at h
  · omega
  · split at h <;> omega
theorem sg_add {a b : Int} (h : (decide (a < 0) == decide (b < 0)) = true) : (if decide (a < 0) then -((a.natAbs + b.natAbs : Nat) : Int) else ((a.natAbs + b.natAbs : Nat) : Int)) = a + b := by
  have e := beq_iff_eq.1 h
  have e2 := decide_eq_decide.1 e
  by_cases h1 : a < 0
  · have := e2.1 h1; simp only [h1, decide_true, if_true]; omega
  · have : ¬ b < 0 := fun h => h1 (e2.2 h)
    simp only [h1, decide_false, Bool.false_eq_true, if_false]; omega
theorem sg_sub {a b : Int} (h : (decide (a < 0) == decide (b < 0)) = false) (hl : b.natAbs ≤ a.natAbs) : (if decide (a < 0) then -((a.natAbs - b.natAbs : Nat) : Int) else ((a.natAbs - b.natAbs : Nat) : Int)) = a + b := by
  by_cases h1 : a < 0
  · have h2 : ¬ b < 0 := fun h2 => by simp [h1, h2] at h
    simp only [h1, decide_true, if_true]; omega
  · have h2 : b < 0 := by
      rcases Int.lt_or_le b 0 with h2 | h2
      · exact h2
      · simp [h1, show ¬ b < 0 by omega] at h
    simp only [h1, decide_false, Bool.false_eq_true, if_false]; omega
theorem sg_bus {a b : Int} (h : (decide (a < 0) == decide (b < 0)) = false) (hl : a.natAbs ≤ b.natAbs) : (if decide (b < 0) then -((b.natAbs - a.natAbs : Nat) : Int) else ((b.natAbs - a.natAbs : Nat) : Int)) = a + b := by
  have h' : (decide (b < 0) == decide (a < 0)) = false := by rw [← h]; exact Bool.beq_comm
  rw [sg_sub h' hl, Int.add_comm]

set_option maxRecDepth 20000 in
set_option maxHeartbeats 2000000 in
theorem zadd_same (a b z : Int) (va vb : Value) (w : World) (hz : a + b = z) (h : (decide (a < 0) == decide (b < 0)) = true) (hs_a : tw (Int.natAbs a) ≤ 400000000) (hs_b : tw (Int.natAbs b) ≤ 400000000) (bx21 : Rn w va (Int.natAbs (a))) (bx22 : Rn w vb (Int.natAbs (b))) :
    Calls Tryz.prog 69 #[(Value.agg #[.bool (decide ((a) < 0)), va]), (Value.agg #[.bool (decide ((b) < 0)), vb])] w fun e w' => (∃ r1 : Value, e = .returned (.agg #[.bool (decide ((z) < 0)), r1]) ∧ Rn w' r1 (Int.natAbs (z))) ∧ Below w.heap.size w w' := by
  replace hz := Lib.hid hz
  have HS := Lib.hid h
  obtain ⟨ao_va, n_va, c_va, rfl⟩ := Rn.sl bx21
  obtain ⟨ao_vb, n_vb, c_vb, rfl⟩ := Rn.sl bx22
  go_enter Tryz.func69, Tryz.ntmps69
  -- region 0
  refine wp_seq_k fun K hK => ?_
  replace hK := Lib.hid hK
  refine wp_region_lit ?_
  go_wp2
  refine hK.out _ _ ?_; clear hK K
  show Code.wp _ _ _ _ _
  refine forgetW (fun w2 => Rn w2 (.slice ao_va n_va c_va) (Int.natAbs (a)) ∧ Rn w2 (.slice ao_vb n_vb c_vb) (Int.natAbs (b)) ∧ Bx w2 (w.heap.size) 43 #[.bool (decide ((a) < 0)), (.slice ao_va n_va c_va)] ∧ Bx w2 (w.heap.size + 1) 43 #[.bool (decide ((b) < 0)), (.slice ao_vb n_vb c_vb)] ∧ Bx w2 (w.heap.size + 1 + 1) 43 #[.bool false, .slice none 0 0] ∧ Below w.heap.size w w2) ⟨(((bx21).alloc _).alloc _).alloc _, (((bx22).alloc _).alloc _).alloc _, ((Bx.at rfl).alloc _).alloc _, (Bx.at (by simp)).alloc _, Bx.at (by simp), (((Below.refl _ _).alloc (Nat.le_refl _) _).alloc (by simp) _).alloc (by simp; omega) _⟩ ?_
  clear bx21 bx22
  rintro Wx ⟨bx21, bx22, bx23, bx24, bx25, HB⟩
  replace HB := Lib.hid HB
  refine wp_seq ?_
  -- region 1
  have lx23 := bx23.cells
  have lx24 := bx24.cells
  have BX21 := Lib.hid bx21
  have BX22 := Lib.hid bx22
  have BX23 := Lib.hid bx23
  have BX24 := Lib.hid bx24
  have BX25 := Lib.hid bx25
  clear bx21 bx22 bx23 bx24 bx25
  refine wp_seq_k fun K hK => ?_
  replace hK := Lib.hid hK
  refine wp_region_seqplan 5 [(true, 0), (true, 1), (true, 2), (true, 3), (true, 4)] (by rfl) (by simp) (fun T hT => ?_)
  iterate 5
    refine wpPlan_takeL (v := ?_) rfl (by rfl) (fun w' hw => ?_) ?_
    rotate_left
    · go_simp
      with_reducible rfl
    simp only [Act.put, rA, rB, rC]
  refine wpPlan_nil (hT.out _ _ ?_); clear hT T
  intro vw1 hg
  simp only [puts, Act.put, rA, rB, rC, rD, rE, ↓reduceIte, Nat.reduceEqDiff]
  clear lx23 lx24
  have HG := Lib.hid (hg)
  clear hg
  replace BX21 := rG BX21 HG
  replace BX22 := rG BX22 HG
  replace BX23 := bG BX23 HG
  replace BX24 := bG BX24 HG
  replace BX25 := bG BX25 HG
  have r0 := Gr.refl vw1
  go_wp2
  refine hK.out _ _ ?_; clear hK K
  show Code.wp _ _ _ _ _
  clear r0
  refine forgetW (fun w2 => Rn w2 (.slice ao_va n_va c_va) (Int.natAbs (a)) ∧ Rn w2 (.slice ao_vb n_vb c_vb) (Int.natAbs (b)) ∧ Bx w2 (w.heap.size) 43 #[.bool (decide ((a) < 0)), (.slice ao_va n_va c_va)] ∧ Bx w2 (w.heap.size + 1) 43 #[.bool (decide ((b) < 0)), (.slice ao_vb n_vb c_vb)] ∧ Bx w2 (w.heap.size + 1 + 1) 43 #[.bool false, .slice none 0 0] ∧ Below w.heap.size w w2) ⟨BX21.out, BX22.out, BX23.out, BX24.out, BX25.out, HB.out.trans (HG.out.mono HB.out.size)⟩ ?_
  clear HB HG BX21 BX22 BX23 BX24 BX25
  rintro Wx1 ⟨bx21, bx22, bx23, bx24, bx25, HB⟩
  replace HB := Lib.hid HB
  refine wp_cond_true (by rfl) ?_
  -- region 2
  obtain ⟨u1, HZ1⟩ : ∃ z, Hid ((Int.natAbs (a)) + (Int.natAbs (b)) = z) := ⟨_, Lib.hid rfl⟩
  have su1 : tw u1 ≤ 400000001 := by rw [← HZ1.out]; have := tw_add (Int.natAbs (a)) (Int.natAbs (b)); omega
  have HZ2 : Hid ((if decide ((a) < 0) then -((u1 : Nat) : Int) else ((u1 : Nat) : Int)) = z) := Lib.hid (by rw [← hz.out, ← HZ1.out]; exact sg_add HS.out)
  have lx23 := bx23.cells
  have lx24 := bx24.cells
  have BX21 := Lib.hid bx21
  have BX22 := Lib.hid bx22
  have BX23 := Lib.hid bx23
  have BX24 := Lib.hid bx24
  have BX25 := Lib.hid bx25
  clear bx21 bx22 bx23 bx24 bx25
  refine wp_seq_k fun K hK => ?_
  replace hK := Lib.hid hK
  have HS0 := Lib.hid (HB.out.size)
  have MX23 : w.heap.size < Wx1.heap.size := BX23.out.lt
  have MX24 : w.heap.size + 1 < Wx1.heap.size := BX24.out.lt
  have MX25 : w.heap.size + 1 + 1 < Wx1.heap.size := BX25.out.lt
  refine wp_region_plan 8 [] [] (fun _ => 0) (fun _ => .cells #[] 0) [(true, 0), (true, 1), (true, 2), (true, 3), (true, 4), (true, 5), (false, 6), (false, 7)] (by kernel_rfl) (by kernel_rfl) (fun i hi => by cases hi) (fun i hi => by cases hi) (fun _ _ _ _ _ h => h) (fun T hT => ?_)
  iterate 6
    refine wpPlan_takeL (v := ?_) rfl (by rfl) (fun w' hw => ?_) ?_
    rotate_left
    · go_simp
      with_reducible rfl
    simp only [Act.put, rA, rB, rC]
  refine wpPlan_callE rfl (by rfl) Tryz.call96 (by rfl) (fun w' hw => (zradd _ _ (Int.natAbs (a)) (Int.natAbs (b)) (u1) _ HZ1.out (BX21.out.gr hw) (BX22.out.gr hw) (by omega) (by omega)).mono ?_)
  rintro e vv1 ⟨⟨rv1, rfl, bx26⟩, hg0⟩
  obtain ⟨ao1, nn1, cc1, rfl⟩ := Rn.sl bx26
  refine ⟨_, rfl, hg0, ?_⟩
  replace hg0 := Gr.trans hw hg0; clear hw
  have HG0 := Lib.hid hg0; clear hg0
  replace BX21 := rG BX21 HG0
  replace BX22 := rG BX22 HG0
  replace BX23 := bG BX23 HG0
  replace BX24 := bG BX24 HG0
  replace BX25 := bG BX25 HG0
  replace HB := Lib.hid (HB.out.trans (HG0.out.mono HB.out.size))
  have BX26 := Lib.hid bx26; clear bx26
  clear HG0
  clear lx23; have lx23 := BX23.out.cells
  clear lx24; have lx24 := BX24.out.cells
  simp only [Act.put, rA, rB, rC]
  refine wpPlan_callE rfl (by rfl) Tryz.call85 (by rfl) (fun w' hw => (zfrom_any (decide ((a) < 0)) (u1) (z) _ _ HZ2.out (BX26.out.gr hw)).mono ?_)
  rintro e vv2 ⟨⟨rv2, rfl, bx27⟩, hg0⟩
  obtain ⟨ao2, nn2, cc2, rfl⟩ := Rn.sl bx27
  refine ⟨_, rfl, hg0, ?_⟩
  replace hg0 := Gr.trans hw hg0; clear hw
  have HG0 := Lib.hid hg0; clear hg0
  replace BX21 := rG BX21 HG0
  replace BX22 := rG BX22 HG0
  replace BX23 := bG BX23 HG0
  replace BX24 := bG BX24 HG0
  replace BX25 := bG BX25 HG0
  replace BX26 := rG BX26 HG0
  replace HB := Lib.hid (HB.out.trans (HG0.out.mono HB.out.size))
  have BX27 := Lib.hid bx27; clear bx27
  clear HG0
  clear lx23; have lx23 := BX23.out.cells
  clear lx24; have lx24 := BX24.out.cells
  simp only [Act.put, rA, rB, rC]
  refine wpPlan_nil (hT.out _ _ ?_); clear hT T
  intro G vw2 hg hf
  simp only [puts, Act.put, rA, rB, rC, rD, rE, ↓reduceIte, Nat.reduceEqDiff]
  clear lx23 lx24
  have HG := Lib.hid (hg)
  clear hg
  replace BX21 := rG BX21 HG
  replace BX22 := rG BX22 HG
  replace BX23 := bG BX23 HG
  replace BX24 := bG BX24 HG
  replace BX25 := bG BX25 HG
  replace BX26 := rG BX26 HG
  replace BX27 := rG BX27 HG
  have lx25 := BX25.out.cells; have fx25 := BX25.out.free
  have r0 := Gr.refl vw2
  go_wp2
  refine hK.out _ _ ?_; clear hK K
  show Code.wp _ _ _ _ _
  clear lx25 fx25
  clear r0
  refine forgetW (fun w2 => Rn w2 (.slice ao_va n_va c_va) (Int.natAbs (a)) ∧ Rn w2 (.slice ao_vb n_vb c_vb) (Int.natAbs (b)) ∧ Bx w2 (w.heap.size) 43 #[.bool (decide ((a) < 0)), (.slice ao_va n_va c_va)] ∧ Bx w2 (w.heap.size + 1) 43 #[.bool (decide ((b) < 0)), (.slice ao_vb n_vb c_vb)] ∧ Bx w2 (w.heap.size + 1 + 1) 43 #[.bool (decide ((z) < 0)), (.slice ao2 nn2 cc2)] ∧ Rn w2 (.slice ao2 nn2 cc2) (Int.natAbs (z)) ∧ Below w.heap.size w w2) ⟨ro2 (BX21.out) (Rn.ne BX21.out BX25.out (by decide)), ro2 (BX22.out) (Rn.ne BX22.out BX25.out (by decide)), so2 (BX23.out) (by show w.heap.size ≠ w.heap.size + 1 + 1; omega), so2 (BX24.out) (by show w.heap.size + 1 ≠ w.heap.size + 1 + 1; omega), (((BX25.out).set 0 _).set 1 _).eq (by simp only [rA, rB, rC]), ro2 (BX27.out) (Rn.ne BX27.out BX25.out (by decide)), sc2 (HB.out.trans (HG.out.mono HB.out.size)) (by show w.heap.size ≤ w.heap.size + 1 + 1; omega)⟩ ?_
  clear HB HG BX21 BX22 BX23 BX24 BX25 BX26 BX27
  rintro Wx2 ⟨bx21, bx22, bx23, bx24, bx25, bx27, HB⟩
  replace HB := Lib.hid HB
  refine wp_ret ?_
  try simp only [Exit.then, Exit.inBlock]
  have lx25 := bx25.cells
  have r0 := Gr.refl Wx2
  exact bodyPost_ret (v := .agg #[.bool (decide ((z) < 0)), (.slice ao2 nn2 cc2)]) (by simp [results, Tryz.results69, go_sem, lx25 _ r0]) rfl ⟨⟨(.slice ao2 nn2 cc2), rfl, bx27⟩, HB.out⟩

set_option maxRecDepth 20000 in
set_option maxHeartbeats 2000000 in
theorem zadd_sub (a b z : Int) (c : Int) (va vb : Value) (w : World) (hz : a + b = z) (h : (decide (a < 0) == decide (b < 0)) = false) (hc : Hid (cmpI (a.natAbs : Int) (b.natAbs : Int) = c)) (hc0 : decide (0 ≤ c) = true) (hs_a : tw (Int.natAbs a) ≤ 400000000) (hs_b : tw (Int.natAbs b) ≤ 400000000) (bx21 : Rn w va (Int.natAbs (a))) (bx22 : Rn w vb (Int.natAbs (b))) :
    Calls Tryz.prog 69 #[(Value.agg #[.bool (decide ((a) < 0)), va]), (Value.agg #[.bool (decide ((b) < 0)), vb])] w fun e w' => (∃ r1 : Value, e = .returned (.agg #[.bool (decide ((z) < 0)), r1]) ∧ Rn w' r1 (Int.natAbs (z))) ∧ Below w.heap.size w w' := by
  replace hz := Lib.hid hz
  have HS := Lib.hid h
  have HLE : Hid (b.natAbs ≤ a.natAbs) := Lib.hid (cmpI_ge (by rw [hc.out]; exact of_decide_eq_true hc0))
  obtain ⟨ao_va, n_va, c_va, rfl⟩ := Rn.sl bx21
  obtain ⟨ao_vb, n_vb, c_vb, rfl⟩ := Rn.sl bx22
  go_enter Tryz.func69, Tryz.ntmps69
  -- region 0
  refine wp_seq_k fun K hK => ?_
  replace hK := Lib.hid hK
  refine wp_region_lit ?_
  go_wp2
  refine hK.out _ _ ?_; clear hK K
  show Code.wp _ _ _ _ _
  refine forgetW (fun w2 => Rn w2 (.slice ao_va n_va c_va) (Int.natAbs (a)) ∧ Rn w2 (.slice ao_vb n_vb c_vb) (Int.natAbs (b)) ∧ Bx w2 (w.heap.size) 43 #[.bool (decide ((a) < 0)), (.slice ao_va n_va c_va)] ∧ Bx w2 (w.heap.size + 1) 43 #[.bool (decide ((b) < 0)), (.slice ao_vb n_vb c_vb)] ∧ Bx w2 (w.heap.size + 1 + 1) 43 #[.bool false, .slice none 0 0] ∧ Below w.heap.size w w2) ⟨(((bx21).alloc _).alloc _).alloc _, (((bx22).alloc _).alloc _).alloc _, ((Bx.at rfl).alloc _).alloc _, (Bx.at (by simp)).alloc _, Bx.at (by simp), (((Below.refl _ _).alloc (Nat.le_refl _) _).alloc (by simp) _).alloc (by simp; omega) _⟩ ?_
  clear bx21 bx22
  rintro Wx ⟨bx21, bx22, bx23, bx24, bx25, HB⟩
  replace HB := Lib.hid HB
  refine wp_seq ?_
  -- region 1
  have lx23 := bx23.cells
  have lx24 := bx24.cells
  have BX21 := Lib.hid bx21
  have BX22 := Lib.hid bx22
  have BX23 := Lib.hid bx23
  have BX24 := Lib.hid bx24
  have BX25 := Lib.hid bx25
  clear bx21 bx22 bx23 bx24 bx25
  refine wp_seq_k fun K hK => ?_
  replace hK := Lib.hid hK
  refine wp_region_seqplan 5 [(true, 0), (true, 1), (true, 2), (true, 3), (true, 4)] (by rfl) (by simp) (fun T hT => ?_)
  iterate 5
    refine wpPlan_takeL (v := ?_) rfl (by rfl) (fun w' hw => ?_) ?_
    rotate_left
    · go_simp
      with_reducible rfl
    simp only [Act.put, rA, rB, rC]
  refine wpPlan_nil (hT.out _ _ ?_); clear hT T
  intro vw1 hg
  simp only [puts, Act.put, rA, rB, rC, rD, rE, ↓reduceIte, Nat.reduceEqDiff]
  clear lx23 lx24
  have HG := Lib.hid (hg)
  clear hg
  replace BX21 := rG BX21 HG
  replace BX22 := rG BX22 HG
  replace BX23 := bG BX23 HG
  replace BX24 := bG BX24 HG
  replace BX25 := bG BX25 HG
  have r0 := Gr.refl vw1
  go_wp2
  refine hK.out _ _ ?_; clear hK K
  show Code.wp _ _ _ _ _
  clear r0
  refine forgetW (fun w2 => Rn w2 (.slice ao_va n_va c_va) (Int.natAbs (a)) ∧ Rn w2 (.slice ao_vb n_vb c_vb) (Int.natAbs (b)) ∧ Bx w2 (w.heap.size) 43 #[.bool (decide ((a) < 0)), (.slice ao_va n_va c_va)] ∧ Bx w2 (w.heap.size + 1) 43 #[.bool (decide ((b) < 0)), (.slice ao_vb n_vb c_vb)] ∧ Bx w2 (w.heap.size + 1 + 1) 43 #[.bool false, .slice none 0 0] ∧ Below w.heap.size w w2) ⟨BX21.out, BX22.out, BX23.out, BX24.out, BX25.out, HB.out.trans (HG.out.mono HB.out.size)⟩ ?_
  clear HB HG BX21 BX22 BX23 BX24 BX25
  rintro Wx1 ⟨bx21, bx22, bx23, bx24, bx25, HB⟩
  replace HB := Lib.hid HB
  refine wp_cond_false (by rfl) ?_
  refine wp_skip ?_
  show Code.wp _ _ _ _ _
  refine wp_seq ?_
  -- region 3
  have lx23 := bx23.cells
  have lx24 := bx24.cells
  have BX21 := Lib.hid bx21
  have BX22 := Lib.hid bx22
  have BX23 := Lib.hid bx23
  have BX24 := Lib.hid bx24
  have BX25 := Lib.hid bx25
  clear bx21 bx22 bx23 bx24 bx25
  refine wp_seq_k fun K hK => ?_
  replace hK := Lib.hid hK
  refine wp_region_seqplan 6 [(true, 0), (true, 1), (true, 2), (true, 3), (true, 4), (true, 5)] (by rfl) (by simp) (fun T hT => ?_)
  iterate 4
    refine wpPlan_takeL (v := ?_) rfl (by rfl) (fun w' hw => ?_) ?_
    rotate_left
    · go_simp
      with_reducible rfl
    simp only [Act.put, rA, rB, rC]
  refine wpPlan_callL rfl (by rfl) Tryz.call98 (fun w' hw => zrcmp _ _ (Int.natAbs (a)) (Int.natAbs (b)) (c) _ (hc.out) (BX21.out.gr hw) (BX22.out.gr hw) (by omega) (by omega)) (by rfl) ?_
  simp only [Act.put, rA, rB, rC]
  iterate 1
    refine wpPlan_takeL (v := ?_) rfl (by rfl) (fun w' hw => ?_) ?_
    rotate_left
    · go_simp
      with_reducible rfl
    simp only [Act.put, rA, rB, rC]
  refine wpPlan_nil (hT.out _ _ ?_); clear hT T
  intro vw2 hg
  simp only [puts, Act.put, rA, rB, rC, rD, rE, ↓reduceIte, Nat.reduceEqDiff]
  clear lx23 lx24
  have HG := Lib.hid (hg)
  clear hg
  replace BX21 := rG BX21 HG
  replace BX22 := rG BX22 HG
  replace BX23 := bG BX23 HG
  replace BX24 := bG BX24 HG
  replace BX25 := bG BX25 HG
  have r0 := Gr.refl vw2
  go_wp2
  refine hK.out _ _ ?_; clear hK K
  show Code.wp _ _ _ _ _
  clear r0
  refine forgetW (fun w2 => Rn w2 (.slice ao_va n_va c_va) (Int.natAbs (a)) ∧ Rn w2 (.slice ao_vb n_vb c_vb) (Int.natAbs (b)) ∧ Bx w2 (w.heap.size) 43 #[.bool (decide ((a) < 0)), (.slice ao_va n_va c_va)] ∧ Bx w2 (w.heap.size + 1) 43 #[.bool (decide ((b) < 0)), (.slice ao_vb n_vb c_vb)] ∧ Bx w2 (w.heap.size + 1 + 1) 43 #[.bool false, .slice none 0 0] ∧ Below w.heap.size w w2) ⟨BX21.out, BX22.out, BX23.out, BX24.out, BX25.out, HB.out.trans (HG.out.mono HB.out.size)⟩ ?_
  clear HB HG BX21 BX22 BX23 BX24 BX25
  rintro Wx3 ⟨bx21, bx22, bx23, bx24, bx25, HB⟩
  replace HB := Lib.hid HB
  refine wp_cond_true (by rfl) ?_
  -- region 4
  obtain ⟨u1, HZ1⟩ : ∃ z, Hid ((Int.natAbs (a)) - (Int.natAbs (b)) = z) := ⟨_, Lib.hid rfl⟩
  have su1 : tw u1 ≤ 400000000 := by rw [← HZ1.out]; have := tw_sub (Int.natAbs (a)) (Int.natAbs (b)); omega
  have HZ2 : Hid ((if decide ((a) < 0) then -((u1 : Nat) : Int) else ((u1 : Nat) : Int)) = z) := Lib.hid (by rw [← hz.out, ← HZ1.out]; exact sg_sub HS.out HLE.out)
  have lx23 := bx23.cells
  have lx24 := bx24.cells
  have BX21 := Lib.hid bx21
  have BX22 := Lib.hid bx22
  have BX23 := Lib.hid bx23
  have BX24 := Lib.hid bx24
  have BX25 := Lib.hid bx25
  clear bx21 bx22 bx23 bx24 bx25
  refine wp_seq_k fun K hK => ?_
  replace hK := Lib.hid hK
  have HS0 := Lib.hid (HB.out.size)
  have MX23 : w.heap.size < Wx3.heap.size := BX23.out.lt
  have MX24 : w.heap.size + 1 < Wx3.heap.size := BX24.out.lt
  have MX25 : w.heap.size + 1 + 1 < Wx3.heap.size := BX25.out.lt
  refine wp_region_plan 8 [] [] (fun _ => 0) (fun _ => .cells #[] 0) [(true, 0), (true, 1), (true, 2), (true, 3), (true, 4), (true, 5), (false, 6), (false, 7)] (by kernel_rfl) (by kernel_rfl) (fun i hi => by cases hi) (fun i hi => by cases hi) (fun _ _ _ _ _ h => h) (fun T hT => ?_)
  iterate 6
    refine wpPlan_takeL (v := ?_) rfl (by rfl) (fun w' hw => ?_) ?_
    rotate_left
    · go_simp
      with_reducible rfl
    simp only [Act.put, rA, rB, rC]
  refine wpPlan_callE rfl (by rfl) Tryz.call92 (by rfl) (fun w' hw => (zrsub _ _ (Int.natAbs (a)) (Int.natAbs (b)) (u1) _ HZ1.out (BX21.out.gr hw) (BX22.out.gr hw) HLE.out (by omega) (by omega)).mono ?_)
  rintro e vv1 ⟨⟨rv1, rfl, bx26⟩, hg0⟩
  obtain ⟨ao1, nn1, cc1, rfl⟩ := Rn.sl bx26
  refine ⟨_, rfl, hg0, ?_⟩
  replace hg0 := Gr.trans hw hg0; clear hw
  have HG0 := Lib.hid hg0; clear hg0
  replace BX21 := rG BX21 HG0
  replace BX22 := rG BX22 HG0
  replace BX23 := bG BX23 HG0
  replace BX24 := bG BX24 HG0
  replace BX25 := bG BX25 HG0
  replace HB := Lib.hid (HB.out.trans (HG0.out.mono HB.out.size))
  have BX26 := Lib.hid bx26; clear bx26
  clear HG0
  clear lx23; have lx23 := BX23.out.cells
  clear lx24; have lx24 := BX24.out.cells
  simp only [Act.put, rA, rB, rC]
  refine wpPlan_callE rfl (by rfl) Tryz.call85 (by rfl) (fun w' hw => (zfrom_any (decide ((a) < 0)) (u1) (z) _ _ HZ2.out (BX26.out.gr hw)).mono ?_)
  rintro e vv2 ⟨⟨rv2, rfl, bx27⟩, hg0⟩
  obtain ⟨ao2, nn2, cc2, rfl⟩ := Rn.sl bx27
  refine ⟨_, rfl, hg0, ?_⟩
  replace hg0 := Gr.trans hw hg0; clear hw
  have HG0 := Lib.hid hg0; clear hg0
  replace BX21 := rG BX21 HG0
  replace BX22 := rG BX22 HG0
  replace BX23 := bG BX23 HG0
  replace BX24 := bG BX24 HG0
  replace BX25 := bG BX25 HG0
  replace BX26 := rG BX26 HG0
  replace HB := Lib.hid (HB.out.trans (HG0.out.mono HB.out.size))
  have BX27 := Lib.hid bx27; clear bx27
  clear HG0
  clear lx23; have lx23 := BX23.out.cells
  clear lx24; have lx24 := BX24.out.cells
  simp only [Act.put, rA, rB, rC]
  refine wpPlan_nil (hT.out _ _ ?_); clear hT T
  intro G vw3 hg hf
  simp only [puts, Act.put, rA, rB, rC, rD, rE, ↓reduceIte, Nat.reduceEqDiff]
  clear lx23 lx24
  have HG := Lib.hid (hg)
  clear hg
  replace BX21 := rG BX21 HG
  replace BX22 := rG BX22 HG
  replace BX23 := bG BX23 HG
  replace BX24 := bG BX24 HG
  replace BX25 := bG BX25 HG
  replace BX26 := rG BX26 HG
  replace BX27 := rG BX27 HG
  have lx25 := BX25.out.cells; have fx25 := BX25.out.free
  have r0 := Gr.refl vw3
  go_wp2
  refine hK.out _ _ ?_; clear hK K
  show Code.wp _ _ _ _ _
  clear lx25 fx25
  clear r0
  refine forgetW (fun w2 => Rn w2 (.slice ao_va n_va c_va) (Int.natAbs (a)) ∧ Rn w2 (.slice ao_vb n_vb c_vb) (Int.natAbs (b)) ∧ Bx w2 (w.heap.size) 43 #[.bool (decide ((a) < 0)), (.slice ao_va n_va c_va)] ∧ Bx w2 (w.heap.size + 1) 43 #[.bool (decide ((b) < 0)), (.slice ao_vb n_vb c_vb)] ∧ Bx w2 (w.heap.size + 1 + 1) 43 #[.bool (decide ((z) < 0)), (.slice ao2 nn2 cc2)] ∧ Rn w2 (.slice ao2 nn2 cc2) (Int.natAbs (z)) ∧ Below w.heap.size w w2) ⟨ro2 (BX21.out) (Rn.ne BX21.out BX25.out (by decide)), ro2 (BX22.out) (Rn.ne BX22.out BX25.out (by decide)), so2 (BX23.out) (by show w.heap.size ≠ w.heap.size + 1 + 1; omega), so2 (BX24.out) (by show w.heap.size + 1 ≠ w.heap.size + 1 + 1; omega), (((BX25.out).set 0 _).set 1 _).eq (by simp only [rA, rB, rC]), ro2 (BX27.out) (Rn.ne BX27.out BX25.out (by decide)), sc2 (HB.out.trans (HG.out.mono HB.out.size)) (by show w.heap.size ≤ w.heap.size + 1 + 1; omega)⟩ ?_
  clear HB HG BX21 BX22 BX23 BX24 BX25 BX26 BX27
  rintro Wx4 ⟨bx21, bx22, bx23, bx24, bx25, bx27, HB⟩
  replace HB := Lib.hid HB
  refine wp_ret ?_
  try simp only [Exit.then, Exit.inBlock]
  have lx25 := bx25.cells
  have r0 := Gr.refl Wx4
  exact bodyPost_ret (v := .agg #[.bool (decide ((z) < 0)), (.slice ao2 nn2 cc2)]) (by simp [results, Tryz.results69, go_sem, lx25 _ r0]) rfl ⟨⟨(.slice ao2 nn2 cc2), rfl, bx27⟩, HB.out⟩

set_option maxRecDepth 20000 in
set_option maxHeartbeats 2000000 in
theorem zadd_bus (a b z : Int) (c : Int) (va vb : Value) (w : World) (hz : a + b = z) (h : (decide (a < 0) == decide (b < 0)) = false) (hc : Hid (cmpI (a.natAbs : Int) (b.natAbs : Int) = c)) (hc0 : decide (0 ≤ c) = false) (hs_a : tw (Int.natAbs a) ≤ 400000000) (hs_b : tw (Int.natAbs b) ≤ 400000000) (bx21 : Rn w va (Int.natAbs (a))) (bx22 : Rn w vb (Int.natAbs (b))) :
    Calls Tryz.prog 69 #[(Value.agg #[.bool (decide ((a) < 0)), va]), (Value.agg #[.bool (decide ((b) < 0)), vb])] w fun e w' => (∃ r1 : Value, e = .returned (.agg #[.bool (decide ((z) < 0)), r1]) ∧ Rn w' r1 (Int.natAbs (z))) ∧ Below w.heap.size w w' := by
  replace hz := Lib.hid hz
  have HS := Lib.hid h
  have HLE : Hid (a.natAbs ≤ b.natAbs) := Lib.hid (cmpI_lt' (by rw [hc.out]; exact of_decide_eq_false hc0))
  obtain ⟨ao_va, n_va, c_va, rfl⟩ := Rn.sl bx21
  obtain ⟨ao_vb, n_vb, c_vb, rfl⟩ := Rn.sl bx22
  go_enter Tryz.func69, Tryz.ntmps69
  -- region 0
  refine wp_seq_k fun K hK => ?_
  replace hK := Lib.hid hK
  refine wp_region_lit ?_
  go_wp2
  refine hK.out _ _ ?_; clear hK K
  show Code.wp _ _ _ _ _
  refine forgetW (fun w2 => Rn w2 (.slice ao_va n_va c_va) (Int.natAbs (a)) ∧ Rn w2 (.slice ao_vb n_vb c_vb) (Int.natAbs (b)) ∧ Bx w2 (w.heap.size) 43 #[.bool (decide ((a) < 0)), (.slice ao_va n_va c_va)] ∧ Bx w2 (w.heap.size + 1) 43 #[.bool (decide ((b) < 0)), (.slice ao_vb n_vb c_vb)] ∧ Bx w2 (w.heap.size + 1 + 1) 43 #[.bool false, .slice none 0 0] ∧ Below w.heap.size w w2) ⟨(((bx21).alloc _).alloc _).alloc _, (((bx22).alloc _).alloc _).alloc _, ((Bx.at rfl).alloc _).alloc _, (Bx.at (by simp)).alloc _, Bx.at (by simp), (((Below.refl _ _).alloc (Nat.le_refl _) _).alloc (by simp) _).alloc (by simp; omega) _⟩ ?_
  clear bx21 bx22
  rintro Wx ⟨bx21, bx22, bx23, bx24, bx25, HB⟩
  replace HB := Lib.hid HB
  refine wp_seq ?_
  -- region 1
  have lx23 := bx23.cells
  have lx24 := bx24.cells
  have BX21 := Lib.hid bx21
  have BX22 := Lib.hid bx22
  have BX23 := Lib.hid bx23
  have BX24 := Lib.hid bx24
  have BX25 := Lib.hid bx25
  clear bx21 bx22 bx23 bx24 bx25
  refine wp_seq_k fun K hK => ?_
  replace hK := Lib.hid hK
  refine wp_region_seqplan 5 [(true, 0), (true, 1), (true, 2), (true, 3), (true, 4)] (by rfl) (by simp) (fun T hT => ?_)
  iterate 5
    refine wpPlan_takeL (v := ?_) rfl (by rfl) (fun w' hw => ?_) ?_
    rotate_left
    · go_simp
      with_reducible rfl
    simp only [Act.put, rA, rB, rC]
  refine wpPlan_nil (hT.out _ _ ?_); clear hT T
  intro vw1 hg
  simp only [puts, Act.put, rA, rB, rC, rD, rE, ↓reduceIte, Nat.reduceEqDiff]
  clear lx23 lx24
  have HG := Lib.hid (hg)
  clear hg
  replace BX21 := rG BX21 HG
  replace BX22 := rG BX22 HG
  replace BX23 := bG BX23 HG
  replace BX24 := bG BX24 HG
  replace BX25 := bG BX25 HG
  have r0 := Gr.refl vw1
  go_wp2
  refine hK.out _ _ ?_; clear hK K
  show Code.wp _ _ _ _ _
  clear r0
  refine forgetW (fun w2 => Rn w2 (.slice ao_va n_va c_va) (Int.natAbs (a)) ∧ Rn w2 (.slice ao_vb n_vb c_vb) (Int.natAbs (b)) ∧ Bx w2 (w.heap.size) 43 #[.bool (decide ((a) < 0)), (.slice ao_va n_va c_va)] ∧ Bx w2 (w.heap.size + 1) 43 #[.bool (decide ((b) < 0)), (.slice ao_vb n_vb c_vb)] ∧ Bx w2 (w.heap.size + 1 + 1) 43 #[.bool false, .slice none 0 0] ∧ Below w.heap.size w w2) ⟨BX21.out, BX22.out, BX23.out, BX24.out, BX25.out, HB.out.trans (HG.out.mono HB.out.size)⟩ ?_
  clear HB HG BX21 BX22 BX23 BX24 BX25
  rintro Wx1 ⟨bx21, bx22, bx23, bx24, bx25, HB⟩
  replace HB := Lib.hid HB
  refine wp_cond_false (by rfl) ?_
  refine wp_skip ?_
  show Code.wp _ _ _ _ _
  refine wp_seq ?_
  -- region 3
  have lx23 := bx23.cells
  have lx24 := bx24.cells
  have BX21 := Lib.hid bx21
  have BX22 := Lib.hid bx22
  have BX23 := Lib.hid bx23
  have BX24 := Lib.hid bx24
  have BX25 := Lib.hid bx25
  clear bx21 bx22 bx23 bx24 bx25
  refine wp_seq_k fun K hK => ?_
  replace hK := Lib.hid hK
  refine wp_region_seqplan 6 [(true, 0), (true, 1), (true, 2), (true, 3), (true, 4), (true, 5)] (by rfl) (by simp) (fun T hT => ?_)
  iterate 4
    refine wpPlan_takeL (v := ?_) rfl (by rfl) (fun w' hw => ?_) ?_
    rotate_left
    · go_simp
      with_reducible rfl
    simp only [Act.put, rA, rB, rC]
  refine wpPlan_callL rfl (by rfl) Tryz.call98 (fun w' hw => zrcmp _ _ (Int.natAbs (a)) (Int.natAbs (b)) (c) _ (hc.out) (BX21.out.gr hw) (BX22.out.gr hw) (by omega) (by omega)) (by rfl) ?_
  simp only [Act.put, rA, rB, rC]
  iterate 1
    refine wpPlan_takeL (v := ?_) rfl (by rfl) (fun w' hw => ?_) ?_
    rotate_left
    · go_simp
      with_reducible rfl
    simp only [Act.put, rA, rB, rC]
  refine wpPlan_nil (hT.out _ _ ?_); clear hT T
  intro vw2 hg
  simp only [puts, Act.put, rA, rB, rC, rD, rE, ↓reduceIte, Nat.reduceEqDiff]
  clear lx23 lx24
  have HG := Lib.hid (hg)
  clear hg
  replace BX21 := rG BX21 HG
  replace BX22 := rG BX22 HG
  replace BX23 := bG BX23 HG
  replace BX24 := bG BX24 HG
  replace BX25 := bG BX25 HG
  have r0 := Gr.refl vw2
  go_wp2
  refine hK.out _ _ ?_; clear hK K
  show Code.wp _ _ _ _ _
  clear r0
  refine forgetW (fun w2 => Rn w2 (.slice ao_va n_va c_va) (Int.natAbs (a)) ∧ Rn w2 (.slice ao_vb n_vb c_vb) (Int.natAbs (b)) ∧ Bx w2 (w.heap.size) 43 #[.bool (decide ((a) < 0)), (.slice ao_va n_va c_va)] ∧ Bx w2 (w.heap.size + 1) 43 #[.bool (decide ((b) < 0)), (.slice ao_vb n_vb c_vb)] ∧ Bx w2 (w.heap.size + 1 + 1) 43 #[.bool false, .slice none 0 0] ∧ Below w.heap.size w w2) ⟨BX21.out, BX22.out, BX23.out, BX24.out, BX25.out, HB.out.trans (HG.out.mono HB.out.size)⟩ ?_
  clear HB HG BX21 BX22 BX23 BX24 BX25
  rintro Wx3 ⟨bx21, bx22, bx23, bx24, bx25, HB⟩
  replace HB := Lib.hid HB
  refine wp_cond_false (by rfl) ?_
  refine wp_skip ?_
  show Code.wp _ _ _ _ _
  -- region 5
  obtain ⟨u1, HZ1⟩ : ∃ z, Hid ((Int.natAbs (b)) - (Int.natAbs (a)) = z) := ⟨_, Lib.hid rfl⟩
  have su1 : tw u1 ≤ 400000000 := by rw [← HZ1.out]; have := tw_sub (Int.natAbs (b)) (Int.natAbs (a)); omega
  have HZ2 : Hid ((if decide ((b) < 0) then -((u1 : Nat) : Int) else ((u1 : Nat) : Int)) = z) := Lib.hid (by rw [← hz.out, ← HZ1.out]; exact sg_bus HS.out HLE.out)
  have lx23 := bx23.cells
  have lx24 := bx24.cells
  have BX21 := Lib.hid bx21
  have BX22 := Lib.hid bx22
  have BX23 := Lib.hid bx23
  have BX24 := Lib.hid bx24
  have BX25 := Lib.hid bx25
  clear bx21 bx22 bx23 bx24 bx25
  refine wp_seq_k fun K hK => ?_
  replace hK := Lib.hid hK
  have HS0 := Lib.hid (HB.out.size)
  have MX23 : w.heap.size < Wx3.heap.size := BX23.out.lt
  have MX24 : w.heap.size + 1 < Wx3.heap.size := BX24.out.lt
  have MX25 : w.heap.size + 1 + 1 < Wx3.heap.size := BX25.out.lt
  refine wp_region_plan 8 [] [] (fun _ => 0) (fun _ => .cells #[] 0) [(true, 0), (true, 1), (true, 2), (true, 3), (true, 4), (true, 5), (false, 6), (false, 7)] (by kernel_rfl) (by kernel_rfl) (fun i hi => by cases hi) (fun i hi => by cases hi) (fun _ _ _ _ _ h => h) (fun T hT => ?_)
  iterate 6
    refine wpPlan_takeL (v := ?_) rfl (by rfl) (fun w' hw => ?_) ?_
    rotate_left
    · go_simp
      with_reducible rfl
    simp only [Act.put, rA, rB, rC]
  refine wpPlan_callE rfl (by rfl) Tryz.call92 (by rfl) (fun w' hw => (zrsub _ _ (Int.natAbs (b)) (Int.natAbs (a)) (u1) _ HZ1.out (BX22.out.gr hw) (BX21.out.gr hw) HLE.out (by omega) (by omega)).mono ?_)
  rintro e vv1 ⟨⟨rv1, rfl, bx26⟩, hg0⟩
  obtain ⟨ao1, nn1, cc1, rfl⟩ := Rn.sl bx26
  refine ⟨_, rfl, hg0, ?_⟩
  replace hg0 := Gr.trans hw hg0; clear hw
  have HG0 := Lib.hid hg0; clear hg0
  replace BX21 := rG BX21 HG0
  replace BX22 := rG BX22 HG0
  replace BX23 := bG BX23 HG0
  replace BX24 := bG BX24 HG0
  replace BX25 := bG BX25 HG0
  replace HB := Lib.hid (HB.out.trans (HG0.out.mono HB.out.size))
  have BX26 := Lib.hid bx26; clear bx26
  clear HG0
  clear lx23; have lx23 := BX23.out.cells
  clear lx24; have lx24 := BX24.out.cells
  simp only [Act.put, rA, rB, rC]
  refine wpPlan_callE rfl (by rfl) Tryz.call85 (by rfl) (fun w' hw => (zfrom_any (decide ((b) < 0)) (u1) (z) _ _ HZ2.out (BX26.out.gr hw)).mono ?_)
  rintro e vv2 ⟨⟨rv2, rfl, bx27⟩, hg0⟩
  obtain ⟨ao2, nn2, cc2, rfl⟩ := Rn.sl bx27
  refine ⟨_, rfl, hg0, ?_⟩
  replace hg0 := Gr.trans hw hg0; clear hw
  have HG0 := Lib.hid hg0; clear hg0
  replace BX21 := rG BX21 HG0
  replace BX22 := rG BX22 HG0
  replace BX23 := bG BX23 HG0
  replace BX24 := bG BX24 HG0
  replace BX25 := bG BX25 HG0
  replace BX26 := rG BX26 HG0
  replace HB := Lib.hid (HB.out.trans (HG0.out.mono HB.out.size))
  have BX27 := Lib.hid bx27; clear bx27
  clear HG0
  clear lx23; have lx23 := BX23.out.cells
  clear lx24; have lx24 := BX24.out.cells
  simp only [Act.put, rA, rB, rC]
  refine wpPlan_nil (hT.out _ _ ?_); clear hT T
  intro G vw3 hg hf
  simp only [puts, Act.put, rA, rB, rC, rD, rE, ↓reduceIte, Nat.reduceEqDiff]
  clear lx23 lx24
  have HG := Lib.hid (hg)
  clear hg
  replace BX21 := rG BX21 HG
  replace BX22 := rG BX22 HG
  replace BX23 := bG BX23 HG
  replace BX24 := bG BX24 HG
  replace BX25 := bG BX25 HG
  replace BX26 := rG BX26 HG
  replace BX27 := rG BX27 HG
  have lx25 := BX25.out.cells; have fx25 := BX25.out.free
  have r0 := Gr.refl vw3
  go_wp2
  refine hK.out _ _ ?_; clear hK K
  show Code.wp _ _ _ _ _
  clear lx25 fx25
  clear r0
  refine forgetW (fun w2 => Bx w2 (w.heap.size + 1 + 1) 43 #[.bool (decide ((z) < 0)), (.slice ao2 nn2 cc2)] ∧ Rn w2 (.slice ao2 nn2 cc2) (Int.natAbs (z)) ∧ Below w.heap.size w w2) ⟨(((BX25.out).set 0 _).set 1 _).eq (by simp only [rA, rB, rC]), ro2 (BX27.out) (Rn.ne BX27.out BX25.out (by decide)), sc2 (HB.out.trans (HG.out.mono HB.out.size)) (by show w.heap.size ≤ w.heap.size + 1 + 1; omega)⟩ ?_
  clear HB HG BX21 BX22 BX23 BX24 BX25 BX26 BX27
  rintro Wx5 ⟨bx25, bx27, HB⟩
  replace HB := Lib.hid HB
  refine wp_ret ?_
  try simp only [Exit.then, Exit.inBlock]
  have lx25 := bx25.cells
  have r0 := Gr.refl Wx5
  exact bodyPost_ret (v := .agg #[.bool (decide ((z) < 0)), (.slice ao2 nn2 cc2)]) (by simp [results, Tryz.results69, go_sem, lx25 _ r0]) rfl ⟨⟨(.slice ao2 nn2 cc2), rfl, bx27⟩, HB.out⟩

theorem zadd_any (a b z : Int) (va vb : Value) (w : World) (hz : a + b = z) (hs_a : tw (Int.natAbs a) ≤ 400000000) (hs_b : tw (Int.natAbs b) ≤ 400000000) (bx21 : Rn w va (Int.natAbs (a))) (bx22 : Rn w vb (Int.natAbs (b))) :
    Calls Tryz.prog 69 #[(Value.agg #[.bool (decide ((a) < 0)), va]), (Value.agg #[.bool (decide ((b) < 0)), vb])] w fun e w' => (∃ r1 : Value, e = .returned (.agg #[.bool (decide ((z) < 0)), r1]) ∧ Rn w' r1 (Int.natAbs (z))) ∧ Below w.heap.size w w' := by
  cases h : (decide (a < 0) == decide (b < 0))
  · cases hc : decide (0 ≤ cmpI (a.natAbs : Int) (b.natAbs : Int))
    · exact zadd_bus a b z _ va vb w hz h (Lib.hid rfl) hc hs_a hs_b bx21 bx22
    · exact zadd_sub a b z _ va vb w hz h (Lib.hid rfl) hc hs_a hs_b bx21 bx22
  · exact zadd_same a b z va vb w hz h hs_a hs_b bx21 bx22
theorem zof_any (n z : Int) (w : World) (hz : n = z) (h1 : -9223372036854775808 ≤ n) (h2 : n ≤ 9223372036854775807) :
    Calls Tryz.prog 84 #[.int .i64 n] w fun e w' => (∃ v', e = .returned (.agg #[.bool (decide (z < 0)), v']) ∧ Rn w' v' z.natAbs) ∧ Below w.heap.size w w' := by
  subst hz
  obtain ⟨m, hm⟩ : ∃ m, n.natAbs = m := ⟨_, rfl⟩
  have hm2 : m < 18446744073709551616 := by omega
  by_cases h : n < 0
  · have hn : n = -((m : Nat) : Int) := by omega
    have HN : Hid ((if true then -((m : Nat) : Int) else ((m : Nat) : Int)) = n) := Lib.hid (by simp; omega)
    have e1 : IntKind.u64.wrap (IntKind.u64.wrap (IntKind.i64.wrap (-IntKind.i64.wrap (n + 1))) + 1) = ((m : Nat) : Int) := by
      rw [IntKind.wrap_i64, IntKind.wrap_i64, IntKind.wrap_u64, IntKind.wrap_u64]; omega
    have e2 : IntKind.u64.wrap (-(n + 1) + 1) = ((m : Nat) : Int) := by rw [IntKind.wrap_u64]; omega
    have e3 : -(n + 1) + 1 = ((m : Nat) : Int) := by omega
    obtain ⟨W0, HW⟩ : ∃ W0, Hid (w.alloc (.cells #[.bool false, .slice none 0 0] 43) = W0) := ⟨_, Lib.hid rfl⟩
    have HX : Hid (Bx W0 w.heap.size 43 #[.bool false, .slice none 0 0]) := Lib.hid (by rw [← HW.out]; exact Bx.new _ _ _)
    have HB0 : Hid (Below w.heap.size w W0) := Lib.hid (by rw [← HW.out]; exact (Below.refl _ _).alloc (Nat.le_refl _) _)
    clear hm hn
    go_enter Tryz.func84, Tryz.ntmps84
    go_wp2_with fail
    rw [HW.out]
    refine (rof_any m _ hm2).mono ?_
    rintro e w1 ⟨⟨v1, rfl, hv⟩, hb⟩
    have HV := Lib.hid hv
    have HB1 : Hid (Gr W0 w1) := Lib.hid hb
    clear hv hb
    go_wp2_with fail
    refine (zfrom_any true m n v1 w1 HN.out HV.out).mono ?_
    rintro e w2 ⟨⟨v2, rfl, hv⟩, hb⟩
    obtain ⟨ao, nn, cc, rfl⟩ := Rn.sl hv
    have HB2 : Hid (Gr W0 w2) := Lib.hid (Gr.trans HB1.out hb)
    have bx2 := HX.out.gr HB2.out
    have HV2 := Lib.hid hv
    have HNE := Lib.hid (Rn.ne hv bx2 (by decide))
    have lx := bx2.cells
    have fx := bx2.free
    have r0 := Gr.refl w2
    clear hv hb bx2 HV HX HW
    go_wp2
    exact bodyPost_ret (v := .agg #[.bool (decide (n < 0)), .slice ao nn cc]) (by simp [results, Tryz.results84, go_sem, lx _ r0, h]) rfl
      ⟨⟨_, rfl, (HV2.out.setOther HNE.out _).setOther HNE.out _⟩, ((Gr.trans HB0.out HB2.out).setCell (Nat.le_refl _) _).setCell (Nat.le_refl _) _⟩
  · have hn : n = ((m : Nat) : Int) := by omega
    have HN : Hid ((if false then -((m : Nat) : Int) else ((m : Nat) : Int)) = n) := Lib.hid (by simp; omega)
    have e1 : IntKind.u64.wrap n = ((m : Nat) : Int) := by rw [IntKind.wrap_u64]; omega
    obtain ⟨W0, HW⟩ : ∃ W0, Hid (w.alloc (.cells #[.bool false, .slice none 0 0] 43) = W0) := ⟨_, Lib.hid rfl⟩
    have HX : Hid (Bx W0 w.heap.size 43 #[.bool false, .slice none 0 0]) := Lib.hid (by rw [← HW.out]; exact Bx.new _ _ _)
    have HB0 : Hid (Below w.heap.size w W0) := Lib.hid (by rw [← HW.out]; exact (Below.refl _ _).alloc (Nat.le_refl _) _)
    clear hm hn
    go_enter Tryz.func84, Tryz.ntmps84
    go_wp2_with fail
    rw [HW.out]
    refine (rof_any m _ hm2).mono ?_
    rintro e w1 ⟨⟨v1, rfl, hv⟩, hb⟩
    have HV := Lib.hid hv
    have HB1 : Hid (Gr W0 w1) := Lib.hid hb
    clear hv hb
    go_wp2_with fail
    refine (zfrom_any false m n v1 w1 HN.out HV.out).mono ?_
    rintro e w2 ⟨⟨v2, rfl, hv⟩, hb⟩
    obtain ⟨ao, nn, cc, rfl⟩ := Rn.sl hv
    have HB2 : Hid (Gr W0 w2) := Lib.hid (Gr.trans HB1.out hb)
    have bx2 := HX.out.gr HB2.out
    have HV2 := Lib.hid hv
    have HNE := Lib.hid (Rn.ne hv bx2 (by decide))
    have lx := bx2.cells
    have fx := bx2.free
    have r0 := Gr.refl w2
    clear hv hb bx2 HV HX HW
    go_wp2
    exact bodyPost_ret (v := .agg #[.bool (decide (n < 0)), .slice ao nn cc]) (by simp [results, Tryz.results84, go_sem, lx _ r0, h]) rfl
      ⟨⟨_, rfl, (HV2.out.setOther HNE.out _).setOther HNE.out _⟩, ((Gr.trans HB0.out HB2.out).setCell (Nat.le_refl _) _).setCell (Nat.le_refl _) _⟩

end Go.Proofs.YtenpbnmmadbkdaaGreat


/- gussetref03: one, Den, den, From, Int, Sign, Neg, Add, Mul, Sub. -/
namespace Go.Proofs.YtenpbnmmadbkdaaGreat
open Go.RowKit
set_option linter.unusedSimpArgs false
set_option linter.unusedVariables false
attribute [local go_sem ↓] Go.wp_at_zero Go.wp_at_succ
theorem rz_i64 {n : Int} (h1 : -9223372036854775808 ≤ n) (h2 : n ≤ 9223372036854775807) : rz (n : Rat) ≤ 5 := by
  rw [rz_int]
  have := tw_i64 h1 h2
  omega

set_option maxRecDepth 20000 in
set_option maxHeartbeats 2000000 in
theorem rone_any (w : World)  :
    Calls Tryz.prog 93 #[] w fun e w' => (∃ r1 : Value, e = .returned (r1) ∧ Rn w' r1 (1)) ∧ Below w.heap.size w w' := by
  go_enter Tryz.func93, Tryz.ntmps93
  -- region 0
  refine wp_seq_k fun K hK => ?_
  replace hK := Lib.hid hK
  refine wp_region_lit ?_
  go_wp2
  refine hK.out _ _ ?_; clear hK K
  show Code.wp _ _ _ _ _
  refine forgetW (fun w2 => Below w.heap.size w w2) (Below.refl _ _) ?_
  rintro Wx HB
  replace HB := Lib.hid HB
  -- region 1
  refine wp_seq_k fun K hK => ?_
  replace hK := Lib.hid hK
  have HS0 := Lib.hid (HB.out.size)
  refine wp_region_seqplan 2 [(false, 0), (true, 1)] (by rfl) (by simp) (fun T hT => ?_)
  refine wpPlan_callE rfl (by rfl) Tryz.call108 (by rfl) (fun w' hw => (rof_any 1 _ (by decide)).mono ?_)
  rintro e vv1 ⟨⟨rv1, rfl, bx0⟩, hg0⟩
  obtain ⟨ao1, nn1, cc1, rfl⟩ := Rn.sl bx0
  refine ⟨_, rfl, hg0, ?_⟩
  replace hg0 := Gr.trans hw hg0; clear hw
  have HG0 := Lib.hid hg0; clear hg0
  replace HB := Lib.hid (HB.out.trans (HG0.out.mono HB.out.size))
  have BX0 := Lib.hid bx0; clear bx0
  clear HG0
  simp only [Act.put, rA, rB, rC]
  iterate 1
    refine wpPlan_takeL (v := ?_) rfl (by rfl) (fun w' hw => ?_) ?_
    rotate_left
    · go_simp
      with_reducible rfl
    simp only [Act.put, rA, rB, rC]
  refine wpPlan_nil (hT.out _ _ ?_); clear hT T
  intro vw1 hg
  simp only [puts, Act.put, rA, rB, rC, rD, rE, ↓reduceIte, Nat.reduceEqDiff]
  have HG := Lib.hid (hg)
  clear hg
  replace BX0 := rG BX0 HG
  have r0 := Gr.refl vw1
  go_wp2
  refine hK.out _ _ ?_; clear hK K
  show Code.wp _ _ _ _ _
  clear r0
  refine forgetW (fun w2 => Rn w2 (.slice ao1 nn1 cc1) (1) ∧ Below w.heap.size w w2) ⟨BX0.out, HB.out.trans (HG.out.mono HB.out.size)⟩ ?_
  clear HB HG BX0
  rintro Wx1 ⟨bx0, HB⟩
  replace HB := Lib.hid HB
  refine wp_ret ?_
  try simp only [Exit.then, Exit.inBlock]
  have r0 := Gr.refl Wx1
  exact bodyPost_ret (v := (.slice ao1 nn1 cc1)) (by simp [results, Tryz.results93, go_sem]) rfl ⟨⟨(.slice ao1 nn1 cc1), rfl, bx0⟩, HB.out⟩

set_option maxRecDepth 20000 in
set_option maxHeartbeats 2000000 in
theorem qDen_any (a : Rat) (z : Nat) (va1 va2 : Value) (w : World) (hz : a.den = z) (hs_a : rz a ≤ 400000000) (bx21 : Rn w va1 (a.num.natAbs)) (bx22 : Rn w va2 (a.den - 1)) :
    Calls Tryz.prog 66 #[(Value.agg #[.bool (decide (a.num < 0)), va1, va2])] w fun e w' => (∃ r1 : Value, e = .returned (r1) ∧ Rn w' r1 (z)) ∧ Below w.heap.size w w' := by
  replace hz := Lib.hid hz
  have hn_a := Nat.le_trans (rz_num a) hs_a
  have hd_a := Nat.le_trans (rz_den a) hs_a
  have he_a := Nat.le_trans (tw_mono (Nat.sub_le a.den 1)) hd_a
  have hp_a : 0 < a.den := a.den_pos
  obtain ⟨ao_va1, n_va1, c_va1, rfl⟩ := Rn.sl bx21
  obtain ⟨ao_va2, n_va2, c_va2, rfl⟩ := Rn.sl bx22
  go_enter Tryz.func66, Tryz.ntmps66
  -- region 0
  refine wp_seq_k fun K hK => ?_
  replace hK := Lib.hid hK
  refine wp_region_lit ?_
  go_wp2
  refine hK.out _ _ ?_; clear hK K
  show Code.wp _ _ _ _ _
  refine forgetW (fun w2 => Rn w2 (.slice ao_va1 n_va1 c_va1) (a.num.natAbs) ∧ Rn w2 (.slice ao_va2 n_va2 c_va2) (a.den - 1) ∧ Bx w2 (w.heap.size) 45 #[.bool (decide (a.num < 0)), (.slice ao_va1 n_va1 c_va1), (.slice ao_va2 n_va2 c_va2)] ∧ Below w.heap.size w w2) ⟨(bx21).alloc _, (bx22).alloc _, Bx.at rfl, (Below.refl _ _).alloc (Nat.le_refl _) _⟩ ?_
  clear bx21 bx22
  rintro Wx ⟨bx21, bx22, bx23, HB⟩
  replace HB := Lib.hid HB
  -- region 1
  have hone : tw 1 ≤ 1 := tw_small (by decide)
  have HZ1 : Hid ((a.den - 1) + (1) = z) := Lib.hid (by rw [← hz.out]; exact Nat.sub_add_cancel hp_a)
  have lx23 := bx23.cells
  have BX21 := Lib.hid bx21
  have BX22 := Lib.hid bx22
  have BX23 := Lib.hid bx23
  clear bx21 bx22 bx23
  refine wp_seq_k fun K hK => ?_
  replace hK := Lib.hid hK
  have HS0 := Lib.hid (HB.out.size)
  have MX23 : w.heap.size < Wx.heap.size := BX23.out.lt
  refine wp_region_plan 4 [] [] (fun _ => 0) (fun _ => .cells #[] 0) [(true, 0), (true, 1), (false, 2), (false, 3)] (by kernel_rfl) (by kernel_rfl) (fun i hi => by cases hi) (fun i hi => by cases hi) (fun _ _ _ _ _ h => h) (fun T hT => ?_)
  iterate 2
    refine wpPlan_takeL (v := ?_) rfl (by rfl) (fun w' hw => ?_) ?_
    rotate_left
    · go_simp
      with_reducible rfl
    simp only [Act.put, rA, rB, rC]
  refine wpPlan_callE rfl (by rfl) Tryz.call93 (by rfl) (fun w' hw => (rone_any _).mono ?_)
  rintro e vv1 ⟨⟨rv1, rfl, bx24⟩, hg0⟩
  obtain ⟨ao1, nn1, cc1, rfl⟩ := Rn.sl bx24
  refine ⟨_, rfl, hg0, ?_⟩
  replace hg0 := Gr.trans hw hg0; clear hw
  have HG0 := Lib.hid hg0; clear hg0
  replace BX21 := rG BX21 HG0
  replace BX22 := rG BX22 HG0
  replace BX23 := bG BX23 HG0
  replace HB := Lib.hid (HB.out.trans (HG0.out.mono HB.out.size))
  have BX24 := Lib.hid bx24; clear bx24
  clear HG0
  clear lx23; have lx23 := BX23.out.cells
  simp only [Act.put, rA, rB, rC]
  refine wpPlan_callE rfl (by rfl) Tryz.call96 (by rfl) (fun w' hw => (zradd _ _ (a.den - 1) (1) (z) _ HZ1.out (BX22.out.gr hw) (BX24.out.gr hw) (by omega) (by omega)).mono ?_)
  rintro e vv2 ⟨⟨rv2, rfl, bx25⟩, hg0⟩
  obtain ⟨ao2, nn2, cc2, rfl⟩ := Rn.sl bx25
  refine ⟨_, rfl, hg0, ?_⟩
  replace hg0 := Gr.trans hw hg0; clear hw
  have HG0 := Lib.hid hg0; clear hg0
  replace BX21 := rG BX21 HG0
  replace BX22 := rG BX22 HG0
  replace BX23 := bG BX23 HG0
  replace BX24 := rG BX24 HG0
  replace HB := Lib.hid (HB.out.trans (HG0.out.mono HB.out.size))
  have BX25 := Lib.hid bx25; clear bx25
  clear HG0
  clear lx23; have lx23 := BX23.out.cells
  simp only [Act.put, rA, rB, rC]
  refine wpPlan_nil (hT.out _ _ ?_); clear hT T
  intro G vw1 hg hf
  simp only [puts, Act.put, rA, rB, rC, rD, rE, ↓reduceIte, Nat.reduceEqDiff]
  clear lx23
  have HG := Lib.hid (hg)
  clear hg
  replace BX21 := rG BX21 HG
  replace BX22 := rG BX22 HG
  replace BX23 := bG BX23 HG
  replace BX24 := rG BX24 HG
  replace BX25 := rG BX25 HG
  have r0 := Gr.refl vw1
  go_wp2
  refine hK.out _ _ ?_; clear hK K
  show Code.wp _ _ _ _ _
  clear r0
  refine forgetW (fun w2 => Rn w2 (.slice ao2 nn2 cc2) (z) ∧ Below w.heap.size w w2) ⟨BX25.out, HB.out.trans (HG.out.mono HB.out.size)⟩ ?_
  clear HB HG BX21 BX22 BX23 BX24 BX25
  rintro Wx1 ⟨bx25, HB⟩
  replace HB := Lib.hid HB
  refine wp_ret ?_
  try simp only [Exit.then, Exit.inBlock]
  have r0 := Gr.refl Wx1
  exact bodyPost_ret (v := (.slice ao2 nn2 cc2)) (by simp [results, Tryz.results66, go_sem]) rfl ⟨⟨(.slice ao2 nn2 cc2), rfl, bx25⟩, HB.out⟩

set_option maxRecDepth 20000 in
set_option maxHeartbeats 2000000 in
theorem qden_any (a : Rat) (z : Int) (va1 va2 : Value) (w : World) (hz : ((a.den : Nat) : Int) = z) (hs_a : rz a ≤ 400000000) (bx21 : Rn w va1 (a.num.natAbs)) (bx22 : Rn w va2 (a.den - 1)) :
    Calls Tryz.prog 70 #[(Value.agg #[.bool (decide (a.num < 0)), va1, va2])] w fun e w' => (∃ r1 : Value, e = .returned (.agg #[.bool (decide ((z) < 0)), r1]) ∧ Rn w' r1 (Int.natAbs (z))) ∧ Below w.heap.size w w' := by
  replace hz := Lib.hid hz
  have hn_a := Nat.le_trans (rz_num a) hs_a
  have hd_a := Nat.le_trans (rz_den a) hs_a
  have he_a := Nat.le_trans (tw_mono (Nat.sub_le a.den 1)) hd_a
  have hp_a : 0 < a.den := a.den_pos
  obtain ⟨ao_va1, n_va1, c_va1, rfl⟩ := Rn.sl bx21
  obtain ⟨ao_va2, n_va2, c_va2, rfl⟩ := Rn.sl bx22
  go_enter Tryz.func70, Tryz.ntmps70
  -- region 0
  refine wp_seq_k fun K hK => ?_
  replace hK := Lib.hid hK
  refine wp_region_lit ?_
  go_wp2
  refine hK.out _ _ ?_; clear hK K
  show Code.wp _ _ _ _ _
  refine forgetW (fun w2 => Rn w2 (.slice ao_va1 n_va1 c_va1) (a.num.natAbs) ∧ Rn w2 (.slice ao_va2 n_va2 c_va2) (a.den - 1) ∧ Bx w2 (w.heap.size) 45 #[.bool (decide (a.num < 0)), (.slice ao_va1 n_va1 c_va1), (.slice ao_va2 n_va2 c_va2)] ∧ Bx w2 (w.heap.size + 1) 43 #[.bool false, .slice none 0 0] ∧ Below w.heap.size w w2) ⟨((bx21).alloc _).alloc _, ((bx22).alloc _).alloc _, (Bx.at rfl).alloc _, Bx.at (by simp), ((Below.refl _ _).alloc (Nat.le_refl _) _).alloc (by simp) _⟩ ?_
  clear bx21 bx22
  rintro Wx ⟨bx21, bx22, bx23, bx24, HB⟩
  replace HB := Lib.hid HB
  -- region 1
  obtain ⟨u1, HZ1⟩ : ∃ z, Hid (a.den = z) := ⟨_, Lib.hid rfl⟩
  have su1 : tw u1 ≤ 400000000 := by rw [← HZ1.out]; have := rz_den (a); omega
  have HZ2 : Hid ((if false then -((u1 : Nat) : Int) else ((u1 : Nat) : Int)) = z) := Lib.hid (by rw [← hz.out, ← HZ1.out]; rfl)
  have lx23 := bx23.cells
  have BX21 := Lib.hid bx21
  have BX22 := Lib.hid bx22
  have BX23 := Lib.hid bx23
  have BX24 := Lib.hid bx24
  clear bx21 bx22 bx23 bx24
  refine wp_seq_k fun K hK => ?_
  replace hK := Lib.hid hK
  have HS0 := Lib.hid (HB.out.size)
  have MX23 : w.heap.size < Wx.heap.size := BX23.out.lt
  have MX24 : w.heap.size + 1 < Wx.heap.size := BX24.out.lt
  refine wp_region_seqplan 3 [(true, 0), (false, 1), (false, 2)] (by rfl) (by simp) (fun T hT => ?_)
  iterate 1
    refine wpPlan_takeL (v := ?_) rfl (by rfl) (fun w' hw => ?_) ?_
    rotate_left
    · go_simp
      with_reducible rfl
    simp only [Act.put, rA, rB, rC]
  refine wpPlan_callE rfl (by rfl) Tryz.call66 (by rfl) (fun w' hw => (qDen_any (a) (u1) _ _ _ HZ1.out (by omega) (BX21.out.gr hw) (BX22.out.gr hw)).mono ?_)
  rintro e vv1 ⟨⟨rv1, rfl, bx25⟩, hg0⟩
  obtain ⟨ao1, nn1, cc1, rfl⟩ := Rn.sl bx25
  refine ⟨_, rfl, hg0, ?_⟩
  replace hg0 := Gr.trans hw hg0; clear hw
  have HG0 := Lib.hid hg0; clear hg0
  replace BX21 := rG BX21 HG0
  replace BX22 := rG BX22 HG0
  replace BX23 := bG BX23 HG0
  replace BX24 := bG BX24 HG0
  replace HB := Lib.hid (HB.out.trans (HG0.out.mono HB.out.size))
  have BX25 := Lib.hid bx25; clear bx25
  clear HG0
  clear lx23; have lx23 := BX23.out.cells
  simp only [Act.put, rA, rB, rC]
  refine wpPlan_callE rfl (by rfl) Tryz.call85 (by rfl) (fun w' hw => (zfrom_any (false) (u1) (z) _ _ HZ2.out (BX25.out.gr hw)).mono ?_)
  rintro e vv2 ⟨⟨rv2, rfl, bx26⟩, hg0⟩
  obtain ⟨ao2, nn2, cc2, rfl⟩ := Rn.sl bx26
  refine ⟨_, rfl, hg0, ?_⟩
  replace hg0 := Gr.trans hw hg0; clear hw
  have HG0 := Lib.hid hg0; clear hg0
  replace BX21 := rG BX21 HG0
  replace BX22 := rG BX22 HG0
  replace BX23 := bG BX23 HG0
  replace BX24 := bG BX24 HG0
  replace BX25 := rG BX25 HG0
  replace HB := Lib.hid (HB.out.trans (HG0.out.mono HB.out.size))
  have BX26 := Lib.hid bx26; clear bx26
  clear HG0
  clear lx23; have lx23 := BX23.out.cells
  simp only [Act.put, rA, rB, rC]
  refine wpPlan_nil (hT.out _ _ ?_); clear hT T
  intro vw1 hg
  simp only [puts, Act.put, rA, rB, rC, rD, rE, ↓reduceIte, Nat.reduceEqDiff]
  clear lx23
  have HG := Lib.hid (hg)
  clear hg
  replace BX21 := rG BX21 HG
  replace BX22 := rG BX22 HG
  replace BX23 := bG BX23 HG
  replace BX24 := bG BX24 HG
  replace BX25 := rG BX25 HG
  replace BX26 := rG BX26 HG
  have lx24 := BX24.out.cells; have fx24 := BX24.out.free
  have r0 := Gr.refl vw1
  go_wp2
  refine hK.out _ _ ?_; clear hK K
  show Code.wp _ _ _ _ _
  clear lx24 fx24
  clear r0
  refine forgetW (fun w2 => Bx w2 (w.heap.size + 1) 43 #[.bool (decide ((z) < 0)), (.slice ao2 nn2 cc2)] ∧ Rn w2 (.slice ao2 nn2 cc2) (Int.natAbs (z)) ∧ Below w.heap.size w w2) ⟨(((BX24.out).set 0 _).set 1 _).eq (by simp only [rA, rB, rC]), ro2 (BX26.out) (Rn.ne BX26.out BX24.out (by decide)), sc2 (HB.out.trans (HG.out.mono HB.out.size)) (by show w.heap.size ≤ w.heap.size + 1; omega)⟩ ?_
  clear HB HG BX21 BX22 BX23 BX24 BX25 BX26
  rintro Wx1 ⟨bx24, bx26, HB⟩
  replace HB := Lib.hid HB
  refine wp_ret ?_
  try simp only [Exit.then, Exit.inBlock]
  have lx24 := bx24.cells
  have r0 := Gr.refl Wx1
  exact bodyPost_ret (v := .agg #[.bool (decide ((z) < 0)), (.slice ao2 nn2 cc2)]) (by simp [results, Tryz.results70, go_sem, lx24 _ r0]) rfl ⟨⟨(.slice ao2 nn2 cc2), rfl, bx26⟩, HB.out⟩

set_option maxRecDepth 20000 in
set_option maxHeartbeats 2000000 in
theorem qfrom_any (n : Int) (d : Nat) (z : Rat) (vn vd : Value) (w : World) (hz : mkRat n d = z) (hd0 : 0 < d) (hs_n : tw (Int.natAbs n) ≤ 400000000) (hs_d : tw d ≤ 400000000) (bx21 : Rn w vn (Int.natAbs (n))) (bx22 : Rn w vd (d)) :
    Calls Tryz.prog 63 #[(Value.agg #[.bool (decide ((n) < 0)), vn]), vd] w fun e w' => (∃ r1 r2 : Value, e = .returned (.agg #[.bool (decide (z.num < 0)), r1, r2]) ∧ Rn w' r1 (z.num.natAbs) ∧ Rn w' r2 (z.den - 1)) ∧ Below w.heap.size w w' := by
  replace hz := Lib.hid hz
  obtain ⟨ao_vn, n_vn, c_vn, rfl⟩ := Rn.sl bx21
  obtain ⟨ao_vd, n_vd, c_vd, rfl⟩ := Rn.sl bx22
  go_enter Tryz.func63, Tryz.ntmps63
  -- region 0
  refine wp_seq_k fun K hK => ?_
  replace hK := Lib.hid hK
  refine wp_region_lit ?_
  go_wp2
  refine hK.out _ _ ?_; clear hK K
  show Code.wp _ _ _ _ _
  refine forgetW (fun w2 => Rn w2 (.slice ao_vn n_vn c_vn) (Int.natAbs (n)) ∧ Rn w2 (.slice ao_vd n_vd c_vd) (d) ∧ Bx w2 (w.heap.size) 43 #[.bool (decide ((n) < 0)), (.slice ao_vn n_vn c_vn)] ∧ Bx w2 (w.heap.size + 1) 45 #[.bool false, .slice none 0 0, .slice none 0 0] ∧ Below w.heap.size w w2) ⟨((bx21).alloc _).alloc _, ((bx22).alloc _).alloc _, (Bx.at rfl).alloc _, Bx.at (by simp), ((Below.refl _ _).alloc (Nat.le_refl _) _).alloc (by simp) _⟩ ?_
  clear bx21 bx22
  rintro Wx ⟨bx21, bx22, bx23, bx24, HB⟩
  replace HB := Lib.hid HB
  -- region 1
  obtain ⟨u1, HZ1⟩ : ∃ z, Hid (Nat.gcd (Int.natAbs (n)) (d) = z) := ⟨_, Lib.hid rfl⟩
  have su1 : tw u1 ≤ 400000000 := by rw [← HZ1.out]; have := tw_gcd (Int.natAbs (n)) (d); omega
  have lx23 := bx23.cells
  have BX21 := Lib.hid bx21
  have BX22 := Lib.hid bx22
  have BX23 := Lib.hid bx23
  have BX24 := Lib.hid bx24
  clear bx21 bx22 bx23 bx24
  refine wp_seq_k fun K hK => ?_
  replace hK := Lib.hid hK
  have HS0 := Lib.hid (HB.out.size)
  have MX23 : w.heap.size < Wx.heap.size := BX23.out.lt
  have MX24 : w.heap.size + 1 < Wx.heap.size := BX24.out.lt
  refine wp_region_seqplan 5 [(true, 0), (true, 1), (true, 2), (false, 3), (true, 4)] (by rfl) (by simp) (fun T hT => ?_)
  iterate 3
    refine wpPlan_takeL (v := ?_) rfl (by rfl) (fun w' hw => ?_) ?_
    rotate_left
    · go_simp
      with_reducible rfl
    simp only [Act.put, rA, rB, rC]
  refine wpPlan_callE rfl (by rfl) Tryz.call90 (by rfl) (fun w' hw => (zrgcd _ _ (Int.natAbs (n)) (d) (u1) _ HZ1.out (BX21.out.gr hw) (BX22.out.gr hw) (by omega) (by omega)).mono ?_)
  rintro e vv1 ⟨⟨rv1, rfl, bx25⟩, hg0⟩
  obtain ⟨ao1, nn1, cc1, rfl⟩ := Rn.sl bx25
  refine ⟨_, rfl, hg0, ?_⟩
  replace hg0 := Gr.trans hw hg0; clear hw
  have HG0 := Lib.hid hg0; clear hg0
  replace BX21 := rG BX21 HG0
  replace BX22 := rG BX22 HG0
  replace BX23 := bG BX23 HG0
  replace BX24 := bG BX24 HG0
  replace HB := Lib.hid (HB.out.trans (HG0.out.mono HB.out.size))
  have BX25 := Lib.hid bx25; clear bx25
  clear HG0
  clear lx23; have lx23 := BX23.out.cells
  simp only [Act.put, rA, rB, rC]
  iterate 1
    refine wpPlan_takeL (v := ?_) rfl (by rfl) (fun w' hw => ?_) ?_
    rotate_left
    · go_simp
      with_reducible rfl
    simp only [Act.put, rA, rB, rC]
  refine wpPlan_nil (hT.out _ _ ?_); clear hT T
  intro vw1 hg
  simp only [puts, Act.put, rA, rB, rC, rD, rE, ↓reduceIte, Nat.reduceEqDiff]
  clear lx23
  have HG := Lib.hid (hg)
  clear hg
  replace BX21 := rG BX21 HG
  replace BX22 := rG BX22 HG
  replace BX23 := bG BX23 HG
  replace BX24 := bG BX24 HG
  replace BX25 := rG BX25 HG
  have r0 := Gr.refl vw1
  go_wp2
  refine hK.out _ _ ?_; clear hK K
  show Code.wp _ _ _ _ _
  clear r0
  refine forgetW (fun w2 => Rn w2 (.slice ao_vn n_vn c_vn) (Int.natAbs (n)) ∧ Rn w2 (.slice ao_vd n_vd c_vd) (d) ∧ Bx w2 (w.heap.size) 43 #[.bool (decide ((n) < 0)), (.slice ao_vn n_vn c_vn)] ∧ Bx w2 (w.heap.size + 1) 45 #[.bool false, .slice none 0 0, .slice none 0 0] ∧ Rn w2 (.slice ao1 nn1 cc1) (u1) ∧ Below w.heap.size w w2) ⟨BX21.out, BX22.out, BX23.out, BX24.out, BX25.out, HB.out.trans (HG.out.mono HB.out.size)⟩ ?_
  clear HB HG BX21 BX22 BX23 BX24 BX25
  rintro Wx1 ⟨bx21, bx22, bx23, bx24, bx25, HB⟩
  replace HB := Lib.hid HB
  -- region 2
  obtain ⟨u2, HZ2⟩ : ∃ z, Hid ((Int.natAbs (n)) / (u1) = z) := ⟨_, Lib.hid rfl⟩
  have su2 : tw u2 ≤ 400000000 := by rw [← HZ2.out]; have := tw_div (Int.natAbs (n)) (u1); omega
  obtain ⟨u3, HZ3⟩ : ∃ z, Hid ((Int.natAbs (n)) % (u1) = z) := ⟨_, Lib.hid rfl⟩
  have su3 : tw u3 ≤ 400000000 := by rw [← HZ3.out]; have := tw_mod (Int.natAbs (n)) (u1); omega
  have lx23 := bx23.cells
  have BX21 := Lib.hid bx21
  have BX22 := Lib.hid bx22
  have BX23 := Lib.hid bx23
  have BX24 := Lib.hid bx24
  have BX25 := Lib.hid bx25
  clear bx21 bx22 bx23 bx24 bx25
  refine wp_seq_k fun K hK => ?_
  replace hK := Lib.hid hK
  have HS0 := Lib.hid (HB.out.size)
  have MX23 : w.heap.size < Wx1.heap.size := BX23.out.lt
  have MX24 : w.heap.size + 1 < Wx1.heap.size := BX24.out.lt
  refine wp_region_seqplan 9 [(true, 0), (true, 1), (true, 2), (false, 3), (true, 4), (true, 5), (true, 6), (true, 7), (true, 8)] (by rfl) (by simp) (fun T hT => ?_)
  iterate 3
    refine wpPlan_takeL (v := ?_) rfl (by rfl) (fun w' hw => ?_) ?_
    rotate_left
    · go_simp
      with_reducible rfl
    simp only [Act.put, rA, rB, rC]
  refine wpPlan_callE rfl (by rfl) Tryz.call91 (by rfl) (fun w' hw => (zrdiv _ _ (Int.natAbs (n)) (u1) (u2) (u3) _ HZ2.out HZ3.out (BX21.out.gr hw) (BX25.out.gr hw) (by rw [← HZ1.out]; exact Nat.gcd_pos_of_pos_right _ hd0) (by omega) (by omega)).mono ?_)
  rintro e vv1 ⟨⟨rv2, rv3, rfl, bx26, bx27⟩, hg0⟩
  obtain ⟨ao2, nn2, cc2, rfl⟩ := Rn.sl bx26
  obtain ⟨ao3, nn3, cc3, rfl⟩ := Rn.sl bx27
  refine ⟨_, rfl, hg0, ?_⟩
  replace hg0 := Gr.trans hw hg0; clear hw
  have HG0 := Lib.hid hg0; clear hg0
  replace BX21 := rG BX21 HG0
  replace BX22 := rG BX22 HG0
  replace BX23 := bG BX23 HG0
  replace BX24 := bG BX24 HG0
  replace BX25 := rG BX25 HG0
  replace HB := Lib.hid (HB.out.trans (HG0.out.mono HB.out.size))
  have BX26 := Lib.hid bx26; clear bx26
  have BX27 := Lib.hid bx27; clear bx27
  clear HG0
  clear lx23; have lx23 := BX23.out.cells
  simp only [Act.put, rA, rB, rC]
  iterate 5
    refine wpPlan_takeL (v := ?_) rfl (by rfl) (fun w' hw => ?_) ?_
    rotate_left
    · go_simp
      with_reducible rfl
    simp only [Act.put, rA, rB, rC]
  refine wpPlan_nil (hT.out _ _ ?_); clear hT T
  intro vw2 hg
  simp only [puts, Act.put, rA, rB, rC, rD, rE, ↓reduceIte, Nat.reduceEqDiff]
  clear lx23
  have HG := Lib.hid (hg)
  clear hg
  replace BX21 := rG BX21 HG
  replace BX22 := rG BX22 HG
  replace BX23 := bG BX23 HG
  replace BX24 := bG BX24 HG
  replace BX25 := rG BX25 HG
  replace BX26 := rG BX26 HG
  replace BX27 := rG BX27 HG
  have r0 := Gr.refl vw2
  go_wp2
  refine hK.out _ _ ?_; clear hK K
  show Code.wp _ _ _ _ _
  clear r0
  refine forgetW (fun w2 => Rn w2 (.slice ao_vn n_vn c_vn) (Int.natAbs (n)) ∧ Rn w2 (.slice ao_vd n_vd c_vd) (d) ∧ Bx w2 (w.heap.size) 43 #[.bool (decide ((n) < 0)), (.slice ao_vn n_vn c_vn)] ∧ Bx w2 (w.heap.size + 1) 45 #[.bool false, .slice none 0 0, .slice none 0 0] ∧ Rn w2 (.slice ao1 nn1 cc1) (u1) ∧ Rn w2 (.slice ao2 nn2 cc2) (u2) ∧ Below w.heap.size w w2) ⟨BX21.out, BX22.out, BX23.out, BX24.out, BX25.out, BX26.out, HB.out.trans (HG.out.mono HB.out.size)⟩ ?_
  clear HB HG BX21 BX22 BX23 BX24 BX25 BX26 BX27
  rintro Wx2 ⟨bx21, bx22, bx23, bx24, bx25, bx26, HB⟩
  replace HB := Lib.hid HB
  -- region 3
  obtain ⟨u4, HZ4⟩ : ∃ z, Hid ((d) / (u1) = z) := ⟨_, Lib.hid rfl⟩
  have su4 : tw u4 ≤ 400000000 := by rw [← HZ4.out]; have := tw_div (d) (u1); omega
  obtain ⟨u5, HZ5⟩ : ∃ z, Hid ((d) % (u1) = z) := ⟨_, Lib.hid rfl⟩
  have su5 : tw u5 ≤ 400000000 := by rw [← HZ5.out]; have := tw_mod (d) (u1); omega
  have BX21 := Lib.hid bx21
  have BX22 := Lib.hid bx22
  have BX23 := Lib.hid bx23
  have BX24 := Lib.hid bx24
  have BX25 := Lib.hid bx25
  have BX26 := Lib.hid bx26
  clear bx21 bx22 bx23 bx24 bx25 bx26
  refine wp_seq_k fun K hK => ?_
  replace hK := Lib.hid hK
  have HS0 := Lib.hid (HB.out.size)
  have MX23 : w.heap.size < Wx2.heap.size := BX23.out.lt
  have MX24 : w.heap.size + 1 < Wx2.heap.size := BX24.out.lt
  refine wp_region_seqplan 8 [(true, 0), (true, 1), (false, 2), (true, 3), (true, 4), (true, 5), (true, 6), (true, 7)] (by rfl) (by simp) (fun T hT => ?_)
  iterate 2
    refine wpPlan_takeL (v := ?_) rfl (by rfl) (fun w' hw => ?_) ?_
    rotate_left
    · go_simp
      with_reducible rfl
    simp only [Act.put, rA, rB, rC]
  refine wpPlan_callE rfl (by rfl) Tryz.call91 (by rfl) (fun w' hw => (zrdiv _ _ (d) (u1) (u4) (u5) _ HZ4.out HZ5.out (BX22.out.gr hw) (BX25.out.gr hw) (by rw [← HZ1.out]; exact Nat.gcd_pos_of_pos_right _ hd0) (by omega) (by omega)).mono ?_)
  rintro e vv1 ⟨⟨rv4, rv5, rfl, bx28, bx29⟩, hg0⟩
  obtain ⟨ao4, nn4, cc4, rfl⟩ := Rn.sl bx28
  obtain ⟨ao5, nn5, cc5, rfl⟩ := Rn.sl bx29
  refine ⟨_, rfl, hg0, ?_⟩
  replace hg0 := Gr.trans hw hg0; clear hw
  have HG0 := Lib.hid hg0; clear hg0
  replace BX21 := rG BX21 HG0
  replace BX22 := rG BX22 HG0
  replace BX23 := bG BX23 HG0
  replace BX24 := bG BX24 HG0
  replace BX25 := rG BX25 HG0
  replace BX26 := rG BX26 HG0
  replace HB := Lib.hid (HB.out.trans (HG0.out.mono HB.out.size))
  have BX28 := Lib.hid bx28; clear bx28
  have BX29 := Lib.hid bx29; clear bx29
  clear HG0
  simp only [Act.put, rA, rB, rC]
  iterate 5
    refine wpPlan_takeL (v := ?_) rfl (by rfl) (fun w' hw => ?_) ?_
    rotate_left
    · go_simp
      with_reducible rfl
    simp only [Act.put, rA, rB, rC]
  refine wpPlan_nil (hT.out _ _ ?_); clear hT T
  intro vw3 hg
  simp only [puts, Act.put, rA, rB, rC, rD, rE, ↓reduceIte, Nat.reduceEqDiff]
  have HG := Lib.hid (hg)
  clear hg
  replace BX21 := rG BX21 HG
  replace BX22 := rG BX22 HG
  replace BX23 := bG BX23 HG
  replace BX24 := bG BX24 HG
  replace BX25 := rG BX25 HG
  replace BX26 := rG BX26 HG
  replace BX28 := rG BX28 HG
  replace BX29 := rG BX29 HG
  have r0 := Gr.refl vw3
  go_wp2
  refine hK.out _ _ ?_; clear hK K
  show Code.wp _ _ _ _ _
  clear r0
  refine forgetW (fun w2 => Rn w2 (.slice ao_vn n_vn c_vn) (Int.natAbs (n)) ∧ Bx w2 (w.heap.size) 43 #[.bool (decide ((n) < 0)), (.slice ao_vn n_vn c_vn)] ∧ Bx w2 (w.heap.size + 1) 45 #[.bool false, .slice none 0 0, .slice none 0 0] ∧ Rn w2 (.slice ao2 nn2 cc2) (u2) ∧ Rn w2 (.slice ao4 nn4 cc4) (u4) ∧ Below w.heap.size w w2) ⟨BX21.out, BX23.out, BX24.out, BX26.out, BX28.out, HB.out.trans (HG.out.mono HB.out.size)⟩ ?_
  clear HB HG BX21 BX22 BX23 BX24 BX25 BX26 BX28 BX29
  rintro Wx3 ⟨bx21, bx23, bx24, bx26, bx28, HB⟩
  replace HB := Lib.hid HB
  -- region 4
  have HZ6 : Hid ((if decide ((n) < 0) then -((u2 : Nat) : Int) else ((u2 : Nat) : Int)) = z.num) := Lib.hid (by rw [← HZ2.out, ← HZ1.out, ← hz.out, ← low_num n d hd0]; simp only [decide_eq_true_eq])
  have hone : tw 1 ≤ 1 := tw_small (by decide)
  have HZ7 : Hid ((u4) - (1) = z.den - 1) := Lib.hid (by rw [← HZ4.out, ← HZ1.out, ← hz.out, ← low_den n d hd0])
  have lx23 := bx23.cells
  have BX21 := Lib.hid bx21
  have BX23 := Lib.hid bx23
  have BX24 := Lib.hid bx24
  have BX26 := Lib.hid bx26
  have BX28 := Lib.hid bx28
  clear bx21 bx23 bx24 bx26 bx28
  refine wp_seq_k fun K hK => ?_
  replace hK := Lib.hid hK
  have HS0 := Lib.hid (HB.out.size)
  have MX23 : w.heap.size < Wx3.heap.size := BX23.out.lt
  have MX24 : w.heap.size + 1 < Wx3.heap.size := BX24.out.lt
  refine wp_region_seqplan 8 [(true, 0), (true, 1), (true, 2), (false, 3), (true, 4), (false, 5), (false, 6), (true, 7)] (by rfl) (by simp) (fun T hT => ?_)
  iterate 3
    refine wpPlan_takeL (v := ?_) rfl (by rfl) (fun w' hw => ?_) ?_
    rotate_left
    · go_simp
      with_reducible rfl
    simp only [Act.put, rA, rB, rC]
  refine wpPlan_callE rfl (by rfl) Tryz.call85 (by rfl) (fun w' hw => (zfrom_any (decide ((n) < 0)) (u2) (z.num) _ _ HZ6.out (BX26.out.gr hw)).mono ?_)
  rintro e vv1 ⟨⟨rv6, rfl, bx30⟩, hg0⟩
  obtain ⟨ao6, nn6, cc6, rfl⟩ := Rn.sl bx30
  refine ⟨_, rfl, hg0, ?_⟩
  replace hg0 := Gr.trans hw hg0; clear hw
  have HG0 := Lib.hid hg0; clear hg0
  replace BX21 := rG BX21 HG0
  replace BX23 := bG BX23 HG0
  replace BX24 := bG BX24 HG0
  replace BX26 := rG BX26 HG0
  replace BX28 := rG BX28 HG0
  replace HB := Lib.hid (HB.out.trans (HG0.out.mono HB.out.size))
  have BX30 := Lib.hid bx30; clear bx30
  clear HG0
  clear lx23; have lx23 := BX23.out.cells
  simp only [Act.put, rA, rB, rC]
  iterate 1
    refine wpPlan_takeL (v := ?_) rfl (by rfl) (fun w' hw => ?_) ?_
    rotate_left
    · go_simp
      with_reducible rfl
    simp only [Act.put, rA, rB, rC]
  refine wpPlan_callE rfl (by rfl) Tryz.call93 (by rfl) (fun w' hw => (rone_any _).mono ?_)
  rintro e vv2 ⟨⟨rv7, rfl, bx31⟩, hg0⟩
  obtain ⟨ao7, nn7, cc7, rfl⟩ := Rn.sl bx31
  refine ⟨_, rfl, hg0, ?_⟩
  replace hg0 := Gr.trans hw hg0; clear hw
  have HG0 := Lib.hid hg0; clear hg0
  replace BX21 := rG BX21 HG0
  replace BX23 := bG BX23 HG0
  replace BX24 := bG BX24 HG0
  replace BX26 := rG BX26 HG0
  replace BX28 := rG BX28 HG0
  replace BX30 := rG BX30 HG0
  replace HB := Lib.hid (HB.out.trans (HG0.out.mono HB.out.size))
  have BX31 := Lib.hid bx31; clear bx31
  clear HG0
  clear lx23; have lx23 := BX23.out.cells
  simp only [Act.put, rA, rB, rC]
  refine wpPlan_callE rfl (by rfl) Tryz.call92 (by rfl) (fun w' hw => (zrsub _ _ (u4) (1) (z.den - 1) _ HZ7.out (BX28.out.gr hw) (BX31.out.gr hw) (by rw [← HZ4.out, ← HZ1.out]; exact Nat.div_pos (Nat.gcd_le_right _ hd0) (Nat.gcd_pos_of_pos_right _ hd0)) (by omega) (by omega)).mono ?_)
  rintro e vv3 ⟨⟨rv8, rfl, bx32⟩, hg0⟩
  obtain ⟨ao8, nn8, cc8, rfl⟩ := Rn.sl bx32
  refine ⟨_, rfl, hg0, ?_⟩
  replace hg0 := Gr.trans hw hg0; clear hw
  have HG0 := Lib.hid hg0; clear hg0
  replace BX21 := rG BX21 HG0
  replace BX23 := bG BX23 HG0
  replace BX24 := bG BX24 HG0
  replace BX26 := rG BX26 HG0
  replace BX28 := rG BX28 HG0
  replace BX30 := rG BX30 HG0
  replace BX31 := rG BX31 HG0
  replace HB := Lib.hid (HB.out.trans (HG0.out.mono HB.out.size))
  have BX32 := Lib.hid bx32; clear bx32
  clear HG0
  clear lx23; have lx23 := BX23.out.cells
  simp only [Act.put, rA, rB, rC]
  iterate 1
    refine wpPlan_takeL (v := ?_) rfl (by rfl) (fun w' hw => ?_) ?_
    rotate_left
    · go_simp
      with_reducible rfl
    simp only [Act.put, rA, rB, rC]
  refine wpPlan_nil (hT.out _ _ ?_); clear hT T
  intro vw4 hg
  simp only [puts, Act.put, rA, rB, rC, rD, rE, ↓reduceIte, Nat.reduceEqDiff]
  clear lx23
  have HG := Lib.hid (hg)
  clear hg
  replace BX21 := rG BX21 HG
  replace BX23 := bG BX23 HG
  replace BX24 := bG BX24 HG
  replace BX26 := rG BX26 HG
  replace BX28 := rG BX28 HG
  replace BX30 := rG BX30 HG
  replace BX31 := rG BX31 HG
  replace BX32 := rG BX32 HG
  have lx24 := BX24.out.cells; have fx24 := BX24.out.free
  have r0 := Gr.refl vw4
  go_wp2
  refine hK.out _ _ ?_; clear hK K
  show Code.wp _ _ _ _ _
  clear lx24 fx24
  clear r0
  refine forgetW (fun w2 => Bx w2 (w.heap.size + 1) 45 #[.bool (decide (z.num < 0)), (.slice ao6 nn6 cc6), (.slice ao8 nn8 cc8)] ∧ Rn w2 (.slice ao6 nn6 cc6) (z.num.natAbs) ∧ Rn w2 (.slice ao8 nn8 cc8) (z.den - 1) ∧ Below w.heap.size w w2) ⟨((((BX24.out).set 0 _).set 1 _).set 2 _).eq (by simp only [rA, rB, rC]), ro3 (BX30.out) (Rn.ne BX30.out BX24.out (by decide)), ro3 (BX32.out) (Rn.ne BX32.out BX24.out (by decide)), sc3 (HB.out.trans (HG.out.mono HB.out.size)) (by show w.heap.size ≤ w.heap.size + 1; omega)⟩ ?_
  clear HB HG BX21 BX23 BX24 BX26 BX28 BX30 BX31 BX32
  rintro Wx4 ⟨bx24, bx30, bx32, HB⟩
  replace HB := Lib.hid HB
  refine wp_ret ?_
  try simp only [Exit.then, Exit.inBlock]
  have lx24 := bx24.cells
  have r0 := Gr.refl Wx4
  exact bodyPost_ret (v := .agg #[.bool (decide (z.num < 0)), (.slice ao6 nn6 cc6), (.slice ao8 nn8 cc8)]) (by simp [results, Tryz.results63, go_sem, lx24 _ r0]) rfl ⟨⟨(.slice ao6 nn6 cc6), (.slice ao8 nn8 cc8), rfl, bx30, bx32⟩, HB.out⟩

set_option maxRecDepth 20000 in
set_option maxHeartbeats 2000000 in
theorem qint_any (n : Int) (z : Rat) (w : World) (hz : (n : Rat) = z) (h1 : -9223372036854775808 ≤ n) (h2 : n ≤ 9223372036854775807)  :
    Calls Tryz.prog 52 #[.int .i64 (n)] w fun e w' => (∃ r1 r2 : Value, e = .returned (.agg #[.bool (decide (z.num < 0)), r1, r2]) ∧ Rn w' r1 (z.num.natAbs) ∧ Rn w' r2 (z.den - 1)) ∧ Below w.heap.size w w' := by
  replace hz := Lib.hid hz
  go_enter Tryz.func52, Tryz.ntmps52
  -- region 0
  refine wp_seq_k fun K hK => ?_
  replace hK := Lib.hid hK
  refine wp_region_lit ?_
  go_wp2
  refine hK.out _ _ ?_; clear hK K
  show Code.wp _ _ _ _ _
  refine forgetW (fun w2 => Bx w2 (w.heap.size) 45 #[.bool false, .slice none 0 0, .slice none 0 0] ∧ Below w.heap.size w w2) ⟨Bx.at rfl, (Below.refl _ _).alloc (Nat.le_refl _) _⟩ ?_
  rintro Wx ⟨bx0, HB⟩
  replace HB := Lib.hid HB
  -- region 1
  have HZ1 : Hid (n = z.num) := Lib.hid (by rw [← hz.out]; rfl)
  have BX0 := Lib.hid bx0
  clear bx0
  refine wp_seq_k fun K hK => ?_
  replace hK := Lib.hid hK
  have HS0 := Lib.hid (HB.out.size)
  have MX0 : w.heap.size < Wx.heap.size := BX0.out.lt
  refine wp_region_seqplan 3 [(true, 0), (false, 1), (true, 2)] (by rfl) (by simp) (fun T hT => ?_)
  iterate 1
    refine wpPlan_takeL (v := ?_) rfl (by rfl) (fun w' hw => ?_) ?_
    rotate_left
    · go_simp
      with_reducible rfl
    simp only [Act.put, rA, rB, rC]
  refine wpPlan_callE rfl (by rfl) Tryz.call84 (by rfl) (fun w' hw => (zof_any (n) (z.num) _ HZ1.out (by omega) (by omega)).mono ?_)
  rintro e vv1 ⟨⟨rv1, rfl, bx1⟩, hg0⟩
  obtain ⟨ao1, nn1, cc1, rfl⟩ := Rn.sl bx1
  refine ⟨_, rfl, hg0, ?_⟩
  replace hg0 := Gr.trans hw hg0; clear hw
  have HG0 := Lib.hid hg0; clear hg0
  replace BX0 := bG BX0 HG0
  replace HB := Lib.hid (HB.out.trans (HG0.out.mono HB.out.size))
  have BX1 := Lib.hid bx1; clear bx1
  clear HG0
  simp only [Act.put, rA, rB, rC]
  iterate 1
    refine wpPlan_takeL (v := ?_) rfl (by rfl) (fun w' hw => ?_) ?_
    rotate_left
    · go_simp
      with_reducible rfl
    simp only [Act.put, rA, rB, rC]
  refine wpPlan_nil (hT.out _ _ ?_); clear hT T
  intro vw1 hg
  simp only [puts, Act.put, rA, rB, rC, rD, rE, ↓reduceIte, Nat.reduceEqDiff]
  have HG := Lib.hid (hg)
  clear hg
  replace BX0 := bG BX0 HG
  replace BX1 := rG BX1 HG
  have lx0 := BX0.out.cells; have fx0 := BX0.out.free
  have r0 := Gr.refl vw1
  go_wp2
  refine hK.out _ _ ?_; clear hK K
  show Code.wp _ _ _ _ _
  clear lx0 fx0
  clear r0
  refine forgetW (fun w2 => Bx w2 (w.heap.size) 45 #[.bool (decide (z.num < 0)), (.slice ao1 nn1 cc1), .slice none 0 0] ∧ Rn w2 (.slice ao1 nn1 cc1) (z.num.natAbs) ∧ Below w.heap.size w w2) ⟨((((BX0.out).set 0 _).set 1 _).set 2 _).eq (by simp only [rA, rB, rC]), ro3 (BX1.out) (Rn.ne BX1.out BX0.out (by decide)), sc3 (HB.out.trans (HG.out.mono HB.out.size)) (by show w.heap.size ≤ w.heap.size; omega)⟩ ?_
  clear HB HG BX0 BX1
  rintro Wx1 ⟨bx0, bx1, HB⟩
  replace HB := Lib.hid HB
  refine wp_ret ?_
  try simp only [Exit.then, Exit.inBlock]
  have lx0 := bx0.cells
  have r0 := Gr.refl Wx1
  exact bodyPost_ret (v := .agg #[.bool (decide (z.num < 0)), (.slice ao1 nn1 cc1), .slice none 0 0]) (by simp [results, Tryz.results52, go_sem, lx0 _ r0]) rfl ⟨⟨(.slice ao1 nn1 cc1), .slice none 0 0, rfl, bx1, (by rw [show z.den - 1 = 0 from by rw [← hz.out]; rfl]; exact Rn.zero _)⟩, HB.out⟩

set_option maxRecDepth 20000 in
set_option maxHeartbeats 2000000 in
theorem qsign_any (a : Rat) (t : Int) (va1 va2 : Value) (w : World) (ht : sgQ a = t) (bx21 : Rn w va1 (a.num.natAbs)) (bx22 : Rn w va2 (a.den - 1)) :
    Calls Tryz.prog 18 #[(Value.agg #[.bool (decide (a.num < 0)), va1, va2])] w fun e w' => e = .returned (.int .i64 (t)) ∧ Below w.heap.size w w' := by
  replace ht := Lib.hid ht
  obtain ⟨ao_va1, n_va1, c_va1, rfl⟩ := Rn.sl bx21
  obtain ⟨ao_va2, n_va2, c_va2, rfl⟩ := Rn.sl bx22
  go_enter Tryz.func18, Tryz.ntmps18
  -- region 0
  refine wp_seq_k fun K hK => ?_
  replace hK := Lib.hid hK
  refine wp_region_lit ?_
  go_wp2
  refine hK.out _ _ ?_; clear hK K
  show Code.wp _ _ _ _ _
  refine forgetW (fun w2 => Rn w2 (.slice ao_va1 n_va1 c_va1) (a.num.natAbs) ∧ Rn w2 (.slice ao_va2 n_va2 c_va2) (a.den - 1) ∧ Bx w2 (w.heap.size) 45 #[.bool (decide (a.num < 0)), (.slice ao_va1 n_va1 c_va1), (.slice ao_va2 n_va2 c_va2)] ∧ Below w.heap.size w w2) ⟨(bx21).alloc _, (bx22).alloc _, Bx.at rfl, (Below.refl _ _).alloc (Nat.le_refl _) _⟩ ?_
  clear bx21 bx22
  rintro Wx ⟨bx21, bx22, bx23, HB⟩
  replace HB := Lib.hid HB
  -- region 1
  have lx23 := bx23.cells
  have BX21 := Lib.hid bx21
  have BX22 := Lib.hid bx22
  have BX23 := Lib.hid bx23
  clear bx21 bx22 bx23
  refine wp_seq_k fun K hK => ?_
  replace hK := Lib.hid hK
  refine wp_region_seqplan 4 [(true, 0), (true, 1), (true, 2), (true, 3)] (by rfl) (by simp) (fun T hT => ?_)
  iterate 2
    refine wpPlan_takeL (v := ?_) rfl (by rfl) (fun w' hw => ?_) ?_
    rotate_left
    · go_simp
      with_reducible rfl
    simp only [Act.put, rA, rB, rC]
  refine wpPlan_callL rfl (by rfl) Tryz.call38 (fun w' hw => zsign_any (a.num) (t) _ _ (by rw [← ht.out, sgQ_num]; rfl) (BX21.out.gr hw)) (by rfl) ?_
  simp only [Act.put, rA, rB, rC]
  iterate 1
    refine wpPlan_takeL (v := ?_) rfl (by rfl) (fun w' hw => ?_) ?_
    rotate_left
    · go_simp
      with_reducible rfl
    simp only [Act.put, rA, rB, rC]
  refine wpPlan_nil (hT.out _ _ ?_); clear hT T
  intro vw1 hg
  simp only [puts, Act.put, rA, rB, rC, rD, rE, ↓reduceIte, Nat.reduceEqDiff]
  clear lx23
  have HG := Lib.hid (hg)
  clear hg
  replace BX21 := rG BX21 HG
  replace BX22 := rG BX22 HG
  replace BX23 := bG BX23 HG
  have r0 := Gr.refl vw1
  go_wp2
  refine hK.out _ _ ?_; clear hK K
  show Code.wp _ _ _ _ _
  clear r0
  refine forgetW (fun w2 => Below w.heap.size w w2) (HB.out.trans (HG.out.mono HB.out.size)) ?_
  clear HB HG BX21 BX22 BX23
  rintro Wx1 HB
  replace HB := Lib.hid HB
  refine wp_ret ?_
  try simp only [Exit.then, Exit.inBlock]
  have r0 := Gr.refl Wx1
  exact bodyPost_ret (v := .int .i64 (t)) (by simp [results, Tryz.results18, go_sem]) rfl ⟨rfl, HB.out⟩

set_option maxRecDepth 20000 in
set_option maxHeartbeats 2000000 in
theorem qneg_any (a z : Rat) (va1 va2 : Value) (w : World) (hz : -a = z) (bx21 : Rn w va1 (a.num.natAbs)) (bx22 : Rn w va2 (a.den - 1)) :
    Calls Tryz.prog 62 #[(Value.agg #[.bool (decide (a.num < 0)), va1, va2])] w fun e w' => (∃ r1 r2 : Value, e = .returned (.agg #[.bool (decide (z.num < 0)), r1, r2]) ∧ Rn w' r1 (z.num.natAbs) ∧ Rn w' r2 (z.den - 1)) ∧ Below w.heap.size w w' := by
  replace hz := Lib.hid hz
  obtain ⟨ao_va1, n_va1, c_va1, rfl⟩ := Rn.sl bx21
  obtain ⟨ao_va2, n_va2, c_va2, rfl⟩ := Rn.sl bx22
  go_enter Tryz.func62, Tryz.ntmps62
  -- region 0
  refine wp_seq_k fun K hK => ?_
  replace hK := Lib.hid hK
  refine wp_region_lit ?_
  go_wp2
  refine hK.out _ _ ?_; clear hK K
  show Code.wp _ _ _ _ _
  refine forgetW (fun w2 => Rn w2 (.slice ao_va1 n_va1 c_va1) (a.num.natAbs) ∧ Rn w2 (.slice ao_va2 n_va2 c_va2) (a.den - 1) ∧ Bx w2 (w.heap.size) 45 #[.bool (decide (a.num < 0)), (.slice ao_va1 n_va1 c_va1), (.slice ao_va2 n_va2 c_va2)] ∧ Bx w2 (w.heap.size + 1) 45 #[.bool false, .slice none 0 0, .slice none 0 0] ∧ Below w.heap.size w w2) ⟨((bx21).alloc _).alloc _, ((bx22).alloc _).alloc _, (Bx.at rfl).alloc _, Bx.at (by simp), ((Below.refl _ _).alloc (Nat.le_refl _) _).alloc (by simp) _⟩ ?_
  clear bx21 bx22
  rintro Wx ⟨bx21, bx22, bx23, bx24, HB⟩
  replace HB := Lib.hid HB
  -- region 1
  have HZ1 : Hid (-(a.num) = z.num) := Lib.hid (by rw [← hz.out, Rat.neg_num])
  have lx23 := bx23.cells
  have BX21 := Lib.hid bx21
  have BX22 := Lib.hid bx22
  have BX23 := Lib.hid bx23
  have BX24 := Lib.hid bx24
  clear bx21 bx22 bx23 bx24
  refine wp_seq_k fun K hK => ?_
  replace hK := Lib.hid hK
  have HS0 := Lib.hid (HB.out.size)
  have MX23 : w.heap.size < Wx.heap.size := BX23.out.lt
  have MX24 : w.heap.size + 1 < Wx.heap.size := BX24.out.lt
  refine wp_region_plan 6 [] [] (fun _ => 0) (fun _ => .cells #[] 0) [(true, 0), (true, 1), (true, 3), (true, 4), (false, 2), (true, 5)] (by kernel_rfl) (by kernel_rfl) (fun i hi => by cases hi) (fun i hi => by cases hi) (fun _ _ _ _ _ h => h) (fun T hT => ?_)
  iterate 4
    refine wpPlan_takeL (v := ?_) rfl (by rfl) (fun w' hw => ?_) ?_
    rotate_left
    · go_simp
      with_reducible rfl
    simp only [Act.put, rA, rB, rC]
  refine wpPlan_callE rfl (by rfl) Tryz.call89 (by rfl) (fun w' hw => (zneg_any (a.num) (z.num) _ _ HZ1.out (BX21.out.gr hw)).mono ?_)
  rintro e vv1 ⟨⟨rv1, rfl, bx25⟩, hg0⟩
  obtain ⟨ao1, nn1, cc1, rfl⟩ := Rn.sl bx25
  refine ⟨_, rfl, hg0, ?_⟩
  replace hg0 := Gr.trans hw hg0; clear hw
  have HG0 := Lib.hid hg0; clear hg0
  replace BX21 := rG BX21 HG0
  replace BX22 := rG BX22 HG0
  replace BX23 := bG BX23 HG0
  replace BX24 := bG BX24 HG0
  replace HB := Lib.hid (HB.out.trans (HG0.out.mono HB.out.size))
  have BX25 := Lib.hid bx25; clear bx25
  clear HG0
  clear lx23; have lx23 := BX23.out.cells
  simp only [Act.put, rA, rB, rC]
  iterate 1
    refine wpPlan_takeL (v := ?_) rfl (by rfl) (fun w' hw => ?_) ?_
    rotate_left
    · go_simp
      with_reducible rfl
    simp only [Act.put, rA, rB, rC]
  refine wpPlan_nil (hT.out _ _ ?_); clear hT T
  intro G vw1 hg hf
  simp only [puts, Act.put, rA, rB, rC, rD, rE, ↓reduceIte, Nat.reduceEqDiff]
  clear lx23
  have HG := Lib.hid (hg)
  clear hg
  replace BX21 := rG BX21 HG
  replace BX22 := rG BX22 HG
  replace BX23 := bG BX23 HG
  replace BX24 := bG BX24 HG
  replace BX25 := rG BX25 HG
  have lx24 := BX24.out.cells; have fx24 := BX24.out.free
  have r0 := Gr.refl vw1
  go_wp2
  refine hK.out _ _ ?_; clear hK K
  show Code.wp _ _ _ _ _
  clear lx24 fx24
  clear r0
  refine forgetW (fun w2 => Rn w2 (.slice ao_va2 n_va2 c_va2) (a.den - 1) ∧ Bx w2 (w.heap.size + 1) 45 #[.bool (decide (z.num < 0)), (.slice ao1 nn1 cc1), (.slice ao_va2 n_va2 c_va2)] ∧ Rn w2 (.slice ao1 nn1 cc1) (z.num.natAbs) ∧ Below w.heap.size w w2) ⟨ro3 (BX22.out) (Rn.ne BX22.out BX24.out (by decide)), ((((BX24.out).set 0 _).set 1 _).set 2 _).eq (by simp only [rA, rB, rC]), ro3 (BX25.out) (Rn.ne BX25.out BX24.out (by decide)), sc3 (HB.out.trans (HG.out.mono HB.out.size)) (by show w.heap.size ≤ w.heap.size + 1; omega)⟩ ?_
  clear HB HG BX21 BX22 BX23 BX24 BX25
  rintro Wx1 ⟨bx22, bx24, bx25, HB⟩
  replace HB := Lib.hid HB
  refine wp_ret ?_
  try simp only [Exit.then, Exit.inBlock]
  have lx24 := bx24.cells
  have r0 := Gr.refl Wx1
  exact bodyPost_ret (v := .agg #[.bool (decide (z.num < 0)), (.slice ao1 nn1 cc1), (.slice ao_va2 n_va2 c_va2)]) (by simp [results, Tryz.results62, go_sem, lx24 _ r0]) rfl ⟨⟨(.slice ao1 nn1 cc1), (.slice ao_va2 n_va2 c_va2), rfl, bx25, (by rw [show z.den - 1 = a.den - 1 from by rw [← hz.out, Rat.neg_den]]; exact bx22)⟩, HB.out⟩

set_option maxRecDepth 20000 in
set_option maxHeartbeats 2000000 in
theorem qadd_any (a b z : Rat) (va1 va2 vb1 vb2 : Value) (w : World) (hz : a + b = z) (hs_a : rz a ≤ 100000000) (hs_b : rz b ≤ 100000000) (bx21 : Rn w va1 (a.num.natAbs)) (bx22 : Rn w va2 (a.den - 1)) (bx23 : Rn w vb1 (b.num.natAbs)) (bx24 : Rn w vb2 (b.den - 1)) :
    Calls Tryz.prog 42 #[(Value.agg #[.bool (decide (a.num < 0)), va1, va2]), (Value.agg #[.bool (decide (b.num < 0)), vb1, vb2])] w fun e w' => (∃ r1 r2 : Value, e = .returned (.agg #[.bool (decide (z.num < 0)), r1, r2]) ∧ Rn w' r1 (z.num.natAbs) ∧ Rn w' r2 (z.den - 1)) ∧ Below w.heap.size w w' := by
  replace hz := Lib.hid hz
  have hn_a := Nat.le_trans (rz_num a) hs_a
  have hd_a := Nat.le_trans (rz_den a) hs_a
  have he_a := Nat.le_trans (tw_mono (Nat.sub_le a.den 1)) hd_a
  have hp_a : 0 < a.den := a.den_pos
  have hn_b := Nat.le_trans (rz_num b) hs_b
  have hd_b := Nat.le_trans (rz_den b) hs_b
  have he_b := Nat.le_trans (tw_mono (Nat.sub_le b.den 1)) hd_b
  have hp_b : 0 < b.den := b.den_pos
  obtain ⟨ao_va1, n_va1, c_va1, rfl⟩ := Rn.sl bx21
  obtain ⟨ao_va2, n_va2, c_va2, rfl⟩ := Rn.sl bx22
  obtain ⟨ao_vb1, n_vb1, c_vb1, rfl⟩ := Rn.sl bx23
  obtain ⟨ao_vb2, n_vb2, c_vb2, rfl⟩ := Rn.sl bx24
  go_enter Tryz.func42, Tryz.ntmps42
  -- region 0
  refine wp_seq_k fun K hK => ?_
  replace hK := Lib.hid hK
  refine wp_region_lit ?_
  go_wp2
  refine hK.out _ _ ?_; clear hK K
  show Code.wp _ _ _ _ _
  refine forgetW (fun w2 => Rn w2 (.slice ao_va1 n_va1 c_va1) (a.num.natAbs) ∧ Rn w2 (.slice ao_va2 n_va2 c_va2) (a.den - 1) ∧ Rn w2 (.slice ao_vb1 n_vb1 c_vb1) (b.num.natAbs) ∧ Rn w2 (.slice ao_vb2 n_vb2 c_vb2) (b.den - 1) ∧ Bx w2 (w.heap.size) 45 #[.bool (decide (a.num < 0)), (.slice ao_va1 n_va1 c_va1), (.slice ao_va2 n_va2 c_va2)] ∧ Bx w2 (w.heap.size + 1) 45 #[.bool (decide (b.num < 0)), (.slice ao_vb1 n_vb1 c_vb1), (.slice ao_vb2 n_vb2 c_vb2)] ∧ Bx w2 (w.heap.size + 1 + 1) 45 #[.bool false, .slice none 0 0, .slice none 0 0] ∧ Below w.heap.size w w2) ⟨(((bx21).alloc _).alloc _).alloc _, (((bx22).alloc _).alloc _).alloc _, (((bx23).alloc _).alloc _).alloc _, (((bx24).alloc _).alloc _).alloc _, ((Bx.at rfl).alloc _).alloc _, (Bx.at (by simp)).alloc _, Bx.at (by simp), (((Below.refl _ _).alloc (Nat.le_refl _) _).alloc (by simp) _).alloc (by simp; omega) _⟩ ?_
  clear bx21 bx22 bx23 bx24
  rintro Wx ⟨bx21, bx22, bx23, bx24, bx25, bx26, bx27, HB⟩
  replace HB := Lib.hid HB
  -- region 1
  obtain ⟨u1, HZ1⟩ : ∃ z, Hid (((b.den : Nat) : Int) = z) := ⟨_, Lib.hid rfl⟩
  have su1 : tw (Int.natAbs u1) ≤ 100000000 := by rw [← HZ1.out]; have := rz_den (b); rw [Int.natAbs_natCast]; omega
  obtain ⟨u2, HZ2⟩ : ∃ z, Hid ((a.num) * (u1) = z) := ⟨_, Lib.hid rfl⟩
  have su2 : tw (Int.natAbs u2) ≤ 200000000 := by rw [← HZ2.out]; have := tw_imul (a.num) (u1); omega
  obtain ⟨u3, HZ3⟩ : ∃ z, Hid (((a.den : Nat) : Int) = z) := ⟨_, Lib.hid rfl⟩
  have su3 : tw (Int.natAbs u3) ≤ 100000000 := by rw [← HZ3.out]; have := rz_den (a); rw [Int.natAbs_natCast]; omega
  obtain ⟨u4, HZ4⟩ : ∃ z, Hid ((b.num) * (u3) = z) := ⟨_, Lib.hid rfl⟩
  have su4 : tw (Int.natAbs u4) ≤ 200000000 := by rw [← HZ4.out]; have := tw_imul (b.num) (u3); omega
  obtain ⟨u5, HZ5⟩ : ∃ z, Hid ((u2) + (u4) = z) := ⟨_, Lib.hid rfl⟩
  have su5 : tw (Int.natAbs u5) ≤ 200000001 := by rw [← HZ5.out]; have := tw_iadd (u2) (u4); omega
  obtain ⟨u6, HZ6⟩ : ∃ z, Hid (a.den = z) := ⟨_, Lib.hid rfl⟩
  have su6 : tw u6 ≤ 100000000 := by rw [← HZ6.out]; have := rz_den (a); omega
  obtain ⟨u7, HZ7⟩ : ∃ z, Hid (b.den = z) := ⟨_, Lib.hid rfl⟩
  have su7 : tw u7 ≤ 100000000 := by rw [← HZ7.out]; have := rz_den (b); omega
  obtain ⟨u8, HZ8⟩ : ∃ z, Hid ((u6) * (u7) = z) := ⟨_, Lib.hid rfl⟩
  have su8 : tw u8 ≤ 200000000 := by rw [← HZ8.out]; have := tw_mul (u6) (u7); omega
  have HZ9 : Hid (mkRat (u5) (u8) = z) := Lib.hid (by simp only [← HZ8.out, ← HZ7.out, ← HZ6.out, ← HZ5.out, ← HZ4.out, ← HZ3.out, ← HZ2.out, ← HZ1.out]; rw [← hz.out]; exact (Rat.add_def' a b).symm)
  have lx25 := bx25.cells
  have lx26 := bx26.cells
  have BX21 := Lib.hid bx21
  have BX22 := Lib.hid bx22
  have BX23 := Lib.hid bx23
  have BX24 := Lib.hid bx24
  have BX25 := Lib.hid bx25
  have BX26 := Lib.hid bx26
  have BX27 := Lib.hid bx27
  clear bx21 bx22 bx23 bx24 bx25 bx26 bx27
  refine wp_seq_k fun K hK => ?_
  replace hK := Lib.hid hK
  have HS0 := Lib.hid (HB.out.size)
  have MX25 : w.heap.size < Wx.heap.size := BX25.out.lt
  have MX26 : w.heap.size + 1 < Wx.heap.size := BX26.out.lt
  have MX27 : w.heap.size + 1 + 1 < Wx.heap.size := BX27.out.lt
  refine wp_region_plan 17 [] [] (fun _ => 0) (fun _ => .cells #[] 0) [(true, 0), (true, 1), (true, 2), (true, 5), (true, 6), (true, 7), (true, 11), (true, 13), (false, 3), (false, 4), (false, 8), (false, 9), (false, 10), (false, 12), (false, 14), (false, 15), (false, 16)] (by kernel_rfl) (by kernel_rfl) (fun i hi => by cases hi) (fun i hi => by cases hi) (fun _ _ _ _ _ h => h) (fun T hT => ?_)
  iterate 8
    refine wpPlan_takeL (v := ?_) rfl (by rfl) (fun w' hw => ?_) ?_
    rotate_left
    · go_simp
      with_reducible rfl
    simp only [Act.put, rA, rB, rC]
  refine wpPlan_callE rfl (by rfl) Tryz.call70 (by rfl) (fun w' hw => (qden_any (b) (u1) _ _ _ HZ1.out (by omega) (BX23.out.gr hw) (BX24.out.gr hw)).mono ?_)
  rintro e vv1 ⟨⟨rv1, rfl, bx28⟩, hg0⟩
  obtain ⟨ao1, nn1, cc1, rfl⟩ := Rn.sl bx28
  refine ⟨_, rfl, hg0, ?_⟩
  replace hg0 := Gr.trans hw hg0; clear hw
  have HG0 := Lib.hid hg0; clear hg0
  replace BX21 := rG BX21 HG0
  replace BX22 := rG BX22 HG0
  replace BX23 := rG BX23 HG0
  replace BX24 := rG BX24 HG0
  replace BX25 := bG BX25 HG0
  replace BX26 := bG BX26 HG0
  replace BX27 := bG BX27 HG0
  replace HB := Lib.hid (HB.out.trans (HG0.out.mono HB.out.size))
  have BX28 := Lib.hid bx28; clear bx28
  clear HG0
  clear lx25; have lx25 := BX25.out.cells
  clear lx26; have lx26 := BX26.out.cells
  simp only [Act.put, rA, rB, rC]
  refine wpPlan_callE rfl (by rfl) Tryz.call64 (by rfl) (fun w' hw => (zmul_any (a.num) (u1) (u2) _ _ _ HZ2.out (by omega) (by omega) (BX21.out.gr hw) (BX28.out.gr hw)).mono ?_)
  rintro e vv2 ⟨⟨rv2, rfl, bx29⟩, hg0⟩
  obtain ⟨ao2, nn2, cc2, rfl⟩ := Rn.sl bx29
  refine ⟨_, rfl, hg0, ?_⟩
  replace hg0 := Gr.trans hw hg0; clear hw
  have HG0 := Lib.hid hg0; clear hg0
  replace BX21 := rG BX21 HG0
  replace BX22 := rG BX22 HG0
  replace BX23 := rG BX23 HG0
  replace BX24 := rG BX24 HG0
  replace BX25 := bG BX25 HG0
  replace BX26 := bG BX26 HG0
  replace BX27 := bG BX27 HG0
  replace BX28 := rG BX28 HG0
  replace HB := Lib.hid (HB.out.trans (HG0.out.mono HB.out.size))
  have BX29 := Lib.hid bx29; clear bx29
  clear HG0
  clear lx25; have lx25 := BX25.out.cells
  clear lx26; have lx26 := BX26.out.cells
  simp only [Act.put, rA, rB, rC]
  refine wpPlan_callE rfl (by rfl) Tryz.call70 (by rfl) (fun w' hw => (qden_any (a) (u3) _ _ _ HZ3.out (by omega) (BX21.out.gr hw) (BX22.out.gr hw)).mono ?_)
  rintro e vv3 ⟨⟨rv3, rfl, bx30⟩, hg0⟩
  obtain ⟨ao3, nn3, cc3, rfl⟩ := Rn.sl bx30
  refine ⟨_, rfl, hg0, ?_⟩
  replace hg0 := Gr.trans hw hg0; clear hw
  have HG0 := Lib.hid hg0; clear hg0
  replace BX21 := rG BX21 HG0
  replace BX22 := rG BX22 HG0
  replace BX23 := rG BX23 HG0
  replace BX24 := rG BX24 HG0
  replace BX25 := bG BX25 HG0
  replace BX26 := bG BX26 HG0
  replace BX27 := bG BX27 HG0
  replace BX28 := rG BX28 HG0
  replace BX29 := rG BX29 HG0
  replace HB := Lib.hid (HB.out.trans (HG0.out.mono HB.out.size))
  have BX30 := Lib.hid bx30; clear bx30
  clear HG0
  clear lx25; have lx25 := BX25.out.cells
  clear lx26; have lx26 := BX26.out.cells
  simp only [Act.put, rA, rB, rC]
  refine wpPlan_callE rfl (by rfl) Tryz.call64 (by rfl) (fun w' hw => (zmul_any (b.num) (u3) (u4) _ _ _ HZ4.out (by omega) (by omega) (BX23.out.gr hw) (BX30.out.gr hw)).mono ?_)
  rintro e vv4 ⟨⟨rv4, rfl, bx31⟩, hg0⟩
  obtain ⟨ao4, nn4, cc4, rfl⟩ := Rn.sl bx31
  refine ⟨_, rfl, hg0, ?_⟩
  replace hg0 := Gr.trans hw hg0; clear hw
  have HG0 := Lib.hid hg0; clear hg0
  replace BX21 := rG BX21 HG0
  replace BX22 := rG BX22 HG0
  replace BX23 := rG BX23 HG0
  replace BX24 := rG BX24 HG0
  replace BX25 := bG BX25 HG0
  replace BX26 := bG BX26 HG0
  replace BX27 := bG BX27 HG0
  replace BX28 := rG BX28 HG0
  replace BX29 := rG BX29 HG0
  replace BX30 := rG BX30 HG0
  replace HB := Lib.hid (HB.out.trans (HG0.out.mono HB.out.size))
  have BX31 := Lib.hid bx31; clear bx31
  clear HG0
  clear lx25; have lx25 := BX25.out.cells
  clear lx26; have lx26 := BX26.out.cells
  simp only [Act.put, rA, rB, rC]
  refine wpPlan_callE rfl (by rfl) Tryz.call69 (by rfl) (fun w' hw => (zadd_any (u2) (u4) (u5) _ _ _ HZ5.out (by omega) (by omega) (BX29.out.gr hw) (BX31.out.gr hw)).mono ?_)
  rintro e vv5 ⟨⟨rv5, rfl, bx32⟩, hg0⟩
  obtain ⟨ao5, nn5, cc5, rfl⟩ := Rn.sl bx32
  refine ⟨_, rfl, hg0, ?_⟩
  replace hg0 := Gr.trans hw hg0; clear hw
  have HG0 := Lib.hid hg0; clear hg0
  replace BX21 := rG BX21 HG0
  replace BX22 := rG BX22 HG0
  replace BX23 := rG BX23 HG0
  replace BX24 := rG BX24 HG0
  replace BX25 := bG BX25 HG0
  replace BX26 := bG BX26 HG0
  replace BX27 := bG BX27 HG0
  replace BX28 := rG BX28 HG0
  replace BX29 := rG BX29 HG0
  replace BX30 := rG BX30 HG0
  replace BX31 := rG BX31 HG0
  replace HB := Lib.hid (HB.out.trans (HG0.out.mono HB.out.size))
  have BX32 := Lib.hid bx32; clear bx32
  clear HG0
  clear lx25; have lx25 := BX25.out.cells
  clear lx26; have lx26 := BX26.out.cells
  simp only [Act.put, rA, rB, rC]
  refine wpPlan_callE rfl (by rfl) Tryz.call66 (by rfl) (fun w' hw => (qDen_any (a) (u6) _ _ _ HZ6.out (by omega) (BX21.out.gr hw) (BX22.out.gr hw)).mono ?_)
  rintro e vv6 ⟨⟨rv6, rfl, bx33⟩, hg0⟩
  obtain ⟨ao6, nn6, cc6, rfl⟩ := Rn.sl bx33
  refine ⟨_, rfl, hg0, ?_⟩
  replace hg0 := Gr.trans hw hg0; clear hw
  have HG0 := Lib.hid hg0; clear hg0
  replace BX21 := rG BX21 HG0
  replace BX22 := rG BX22 HG0
  replace BX23 := rG BX23 HG0
  replace BX24 := rG BX24 HG0
  replace BX25 := bG BX25 HG0
  replace BX26 := bG BX26 HG0
  replace BX27 := bG BX27 HG0
  replace BX28 := rG BX28 HG0
  replace BX29 := rG BX29 HG0
  replace BX30 := rG BX30 HG0
  replace BX31 := rG BX31 HG0
  replace BX32 := rG BX32 HG0
  replace HB := Lib.hid (HB.out.trans (HG0.out.mono HB.out.size))
  have BX33 := Lib.hid bx33; clear bx33
  clear HG0
  clear lx25; have lx25 := BX25.out.cells
  clear lx26; have lx26 := BX26.out.cells
  simp only [Act.put, rA, rB, rC]
  refine wpPlan_callE rfl (by rfl) Tryz.call66 (by rfl) (fun w' hw => (qDen_any (b) (u7) _ _ _ HZ7.out (by omega) (BX23.out.gr hw) (BX24.out.gr hw)).mono ?_)
  rintro e vv7 ⟨⟨rv7, rfl, bx34⟩, hg0⟩
  obtain ⟨ao7, nn7, cc7, rfl⟩ := Rn.sl bx34
  refine ⟨_, rfl, hg0, ?_⟩
  replace hg0 := Gr.trans hw hg0; clear hw
  have HG0 := Lib.hid hg0; clear hg0
  replace BX21 := rG BX21 HG0
  replace BX22 := rG BX22 HG0
  replace BX23 := rG BX23 HG0
  replace BX24 := rG BX24 HG0
  replace BX25 := bG BX25 HG0
  replace BX26 := bG BX26 HG0
  replace BX27 := bG BX27 HG0
  replace BX28 := rG BX28 HG0
  replace BX29 := rG BX29 HG0
  replace BX30 := rG BX30 HG0
  replace BX31 := rG BX31 HG0
  replace BX32 := rG BX32 HG0
  replace BX33 := rG BX33 HG0
  replace HB := Lib.hid (HB.out.trans (HG0.out.mono HB.out.size))
  have BX34 := Lib.hid bx34; clear bx34
  clear HG0
  clear lx25; have lx25 := BX25.out.cells
  clear lx26; have lx26 := BX26.out.cells
  simp only [Act.put, rA, rB, rC]
  refine wpPlan_callE rfl (by rfl) Tryz.call65 (by rfl) (fun w' hw => (zrmul _ _ (u6) (u7) (u8) _ HZ8.out (BX33.out.gr hw) (BX34.out.gr hw) (by omega) (by omega)).mono ?_)
  rintro e vv8 ⟨⟨rv8, rfl, bx35⟩, hg0⟩
  obtain ⟨ao8, nn8, cc8, rfl⟩ := Rn.sl bx35
  refine ⟨_, rfl, hg0, ?_⟩
  replace hg0 := Gr.trans hw hg0; clear hw
  have HG0 := Lib.hid hg0; clear hg0
  replace BX21 := rG BX21 HG0
  replace BX22 := rG BX22 HG0
  replace BX23 := rG BX23 HG0
  replace BX24 := rG BX24 HG0
  replace BX25 := bG BX25 HG0
  replace BX26 := bG BX26 HG0
  replace BX27 := bG BX27 HG0
  replace BX28 := rG BX28 HG0
  replace BX29 := rG BX29 HG0
  replace BX30 := rG BX30 HG0
  replace BX31 := rG BX31 HG0
  replace BX32 := rG BX32 HG0
  replace BX33 := rG BX33 HG0
  replace BX34 := rG BX34 HG0
  replace HB := Lib.hid (HB.out.trans (HG0.out.mono HB.out.size))
  have BX35 := Lib.hid bx35; clear bx35
  clear HG0
  clear lx25; have lx25 := BX25.out.cells
  clear lx26; have lx26 := BX26.out.cells
  simp only [Act.put, rA, rB, rC]
  refine wpPlan_callE rfl (by rfl) Tryz.call63 (by rfl) (fun w' hw => (qfrom_any (u5) (u8) (z) _ _ _ HZ9.out (by simp only [← HZ8.out, ← HZ7.out, ← HZ6.out, ← HZ5.out, ← HZ4.out, ← HZ3.out, ← HZ2.out, ← HZ1.out]; exact Nat.mul_pos hp_a hp_b) (by omega) (by omega) (BX32.out.gr hw) (BX35.out.gr hw)).mono ?_)
  rintro e vv9 ⟨⟨rv9, rv10, rfl, bx36, bx37⟩, hg0⟩
  obtain ⟨ao9, nn9, cc9, rfl⟩ := Rn.sl bx36
  obtain ⟨ao10, nn10, cc10, rfl⟩ := Rn.sl bx37
  refine ⟨_, rfl, hg0, ?_⟩
  replace hg0 := Gr.trans hw hg0; clear hw
  have HG0 := Lib.hid hg0; clear hg0
  replace BX21 := rG BX21 HG0
  replace BX22 := rG BX22 HG0
  replace BX23 := rG BX23 HG0
  replace BX24 := rG BX24 HG0
  replace BX25 := bG BX25 HG0
  replace BX26 := bG BX26 HG0
  replace BX27 := bG BX27 HG0
  replace BX28 := rG BX28 HG0
  replace BX29 := rG BX29 HG0
  replace BX30 := rG BX30 HG0
  replace BX31 := rG BX31 HG0
  replace BX32 := rG BX32 HG0
  replace BX33 := rG BX33 HG0
  replace BX34 := rG BX34 HG0
  replace BX35 := rG BX35 HG0
  replace HB := Lib.hid (HB.out.trans (HG0.out.mono HB.out.size))
  have BX36 := Lib.hid bx36; clear bx36
  have BX37 := Lib.hid bx37; clear bx37
  clear HG0
  clear lx25; have lx25 := BX25.out.cells
  clear lx26; have lx26 := BX26.out.cells
  simp only [Act.put, rA, rB, rC]
  refine wpPlan_nil (hT.out _ _ ?_); clear hT T
  intro G vw1 hg hf
  simp only [puts, Act.put, rA, rB, rC, rD, rE, ↓reduceIte, Nat.reduceEqDiff]
  clear lx25 lx26
  have HG := Lib.hid (hg)
  clear hg
  replace BX21 := rG BX21 HG
  replace BX22 := rG BX22 HG
  replace BX23 := rG BX23 HG
  replace BX24 := rG BX24 HG
  replace BX25 := bG BX25 HG
  replace BX26 := bG BX26 HG
  replace BX27 := bG BX27 HG
  replace BX28 := rG BX28 HG
  replace BX29 := rG BX29 HG
  replace BX30 := rG BX30 HG
  replace BX31 := rG BX31 HG
  replace BX32 := rG BX32 HG
  replace BX33 := rG BX33 HG
  replace BX34 := rG BX34 HG
  replace BX35 := rG BX35 HG
  replace BX36 := rG BX36 HG
  replace BX37 := rG BX37 HG
  have lx27 := BX27.out.cells; have fx27 := BX27.out.free
  have r0 := Gr.refl vw1
  go_wp2
  refine hK.out _ _ ?_; clear hK K
  show Code.wp _ _ _ _ _
  clear lx27 fx27
  clear r0
  refine forgetW (fun w2 => Bx w2 (w.heap.size + 1 + 1) 45 #[.bool (decide (z.num < 0)), (.slice ao9 nn9 cc9), (.slice ao10 nn10 cc10)] ∧ Rn w2 (.slice ao9 nn9 cc9) (z.num.natAbs) ∧ Rn w2 (.slice ao10 nn10 cc10) (z.den - 1) ∧ Below w.heap.size w w2) ⟨((((BX27.out).set 0 _).set 1 _).set 2 _).eq (by simp only [rA, rB, rC]), ro3 (BX36.out) (Rn.ne BX36.out BX27.out (by decide)), ro3 (BX37.out) (Rn.ne BX37.out BX27.out (by decide)), sc3 (HB.out.trans (HG.out.mono HB.out.size)) (by show w.heap.size ≤ w.heap.size + 1 + 1; omega)⟩ ?_
  clear HB HG BX21 BX22 BX23 BX24 BX25 BX26 BX27 BX28 BX29 BX30 BX31 BX32 BX33 BX34 BX35 BX36 BX37
  rintro Wx1 ⟨bx27, bx36, bx37, HB⟩
  replace HB := Lib.hid HB
  refine wp_ret ?_
  try simp only [Exit.then, Exit.inBlock]
  have lx27 := bx27.cells
  have r0 := Gr.refl Wx1
  exact bodyPost_ret (v := .agg #[.bool (decide (z.num < 0)), (.slice ao9 nn9 cc9), (.slice ao10 nn10 cc10)]) (by simp [results, Tryz.results42, go_sem, lx27 _ r0]) rfl ⟨⟨(.slice ao9 nn9 cc9), (.slice ao10 nn10 cc10), rfl, bx36, bx37⟩, HB.out⟩

set_option maxRecDepth 20000 in
set_option maxHeartbeats 2000000 in
theorem qmul_any (a b z : Rat) (va1 va2 vb1 vb2 : Value) (w : World) (hz : a * b = z) (hs_a : rz a ≤ 100000000) (hs_b : rz b ≤ 100000000) (bx21 : Rn w va1 (a.num.natAbs)) (bx22 : Rn w va2 (a.den - 1)) (bx23 : Rn w vb1 (b.num.natAbs)) (bx24 : Rn w vb2 (b.den - 1)) :
    Calls Tryz.prog 40 #[(Value.agg #[.bool (decide (a.num < 0)), va1, va2]), (Value.agg #[.bool (decide (b.num < 0)), vb1, vb2])] w fun e w' => (∃ r1 r2 : Value, e = .returned (.agg #[.bool (decide (z.num < 0)), r1, r2]) ∧ Rn w' r1 (z.num.natAbs) ∧ Rn w' r2 (z.den - 1)) ∧ Below w.heap.size w w' := by
  replace hz := Lib.hid hz
  have hn_a := Nat.le_trans (rz_num a) hs_a
  have hd_a := Nat.le_trans (rz_den a) hs_a
  have he_a := Nat.le_trans (tw_mono (Nat.sub_le a.den 1)) hd_a
  have hp_a : 0 < a.den := a.den_pos
  have hn_b := Nat.le_trans (rz_num b) hs_b
  have hd_b := Nat.le_trans (rz_den b) hs_b
  have he_b := Nat.le_trans (tw_mono (Nat.sub_le b.den 1)) hd_b
  have hp_b : 0 < b.den := b.den_pos
  obtain ⟨ao_va1, n_va1, c_va1, rfl⟩ := Rn.sl bx21
  obtain ⟨ao_va2, n_va2, c_va2, rfl⟩ := Rn.sl bx22
  obtain ⟨ao_vb1, n_vb1, c_vb1, rfl⟩ := Rn.sl bx23
  obtain ⟨ao_vb2, n_vb2, c_vb2, rfl⟩ := Rn.sl bx24
  go_enter Tryz.func40, Tryz.ntmps40
  -- region 0
  refine wp_seq_k fun K hK => ?_
  replace hK := Lib.hid hK
  refine wp_region_lit ?_
  go_wp2
  refine hK.out _ _ ?_; clear hK K
  show Code.wp _ _ _ _ _
  refine forgetW (fun w2 => Rn w2 (.slice ao_va1 n_va1 c_va1) (a.num.natAbs) ∧ Rn w2 (.slice ao_va2 n_va2 c_va2) (a.den - 1) ∧ Rn w2 (.slice ao_vb1 n_vb1 c_vb1) (b.num.natAbs) ∧ Rn w2 (.slice ao_vb2 n_vb2 c_vb2) (b.den - 1) ∧ Bx w2 (w.heap.size) 45 #[.bool (decide (a.num < 0)), (.slice ao_va1 n_va1 c_va1), (.slice ao_va2 n_va2 c_va2)] ∧ Bx w2 (w.heap.size + 1) 45 #[.bool (decide (b.num < 0)), (.slice ao_vb1 n_vb1 c_vb1), (.slice ao_vb2 n_vb2 c_vb2)] ∧ Bx w2 (w.heap.size + 1 + 1) 45 #[.bool false, .slice none 0 0, .slice none 0 0] ∧ Below w.heap.size w w2) ⟨(((bx21).alloc _).alloc _).alloc _, (((bx22).alloc _).alloc _).alloc _, (((bx23).alloc _).alloc _).alloc _, (((bx24).alloc _).alloc _).alloc _, ((Bx.at rfl).alloc _).alloc _, (Bx.at (by simp)).alloc _, Bx.at (by simp), (((Below.refl _ _).alloc (Nat.le_refl _) _).alloc (by simp) _).alloc (by simp; omega) _⟩ ?_
  clear bx21 bx22 bx23 bx24
  rintro Wx ⟨bx21, bx22, bx23, bx24, bx25, bx26, bx27, HB⟩
  replace HB := Lib.hid HB
  -- region 1
  obtain ⟨u1, HZ1⟩ : ∃ z, Hid ((a.num) * (b.num) = z) := ⟨_, Lib.hid rfl⟩
  have su1 : tw (Int.natAbs u1) ≤ 200000000 := by rw [← HZ1.out]; have := tw_imul (a.num) (b.num); omega
  obtain ⟨u2, HZ2⟩ : ∃ z, Hid (a.den = z) := ⟨_, Lib.hid rfl⟩
  have su2 : tw u2 ≤ 100000000 := by rw [← HZ2.out]; have := rz_den (a); omega
  obtain ⟨u3, HZ3⟩ : ∃ z, Hid (b.den = z) := ⟨_, Lib.hid rfl⟩
  have su3 : tw u3 ≤ 100000000 := by rw [← HZ3.out]; have := rz_den (b); omega
  obtain ⟨u4, HZ4⟩ : ∃ z, Hid ((u2) * (u3) = z) := ⟨_, Lib.hid rfl⟩
  have su4 : tw u4 ≤ 200000000 := by rw [← HZ4.out]; have := tw_mul (u2) (u3); omega
  have HZ5 : Hid (mkRat (u1) (u4) = z) := Lib.hid (by simp only [← HZ4.out, ← HZ3.out, ← HZ2.out, ← HZ1.out]; rw [← hz.out]; exact (Rat.mul_def' a b).symm)
  have lx25 := bx25.cells
  have lx26 := bx26.cells
  have BX21 := Lib.hid bx21
  have BX22 := Lib.hid bx22
  have BX23 := Lib.hid bx23
  have BX24 := Lib.hid bx24
  have BX25 := Lib.hid bx25
  have BX26 := Lib.hid bx26
  have BX27 := Lib.hid bx27
  clear bx21 bx22 bx23 bx24 bx25 bx26 bx27
  refine wp_seq_k fun K hK => ?_
  replace hK := Lib.hid hK
  have HS0 := Lib.hid (HB.out.size)
  have MX25 : w.heap.size < Wx.heap.size := BX25.out.lt
  have MX26 : w.heap.size + 1 < Wx.heap.size := BX26.out.lt
  have MX27 : w.heap.size + 1 + 1 < Wx.heap.size := BX27.out.lt
  refine wp_region_plan 11 [] [] (fun _ => 0) (fun _ => .cells #[] 0) [(true, 0), (true, 1), (true, 2), (true, 3), (true, 5), (true, 7), (false, 4), (false, 6), (false, 8), (false, 9), (false, 10)] (by kernel_rfl) (by kernel_rfl) (fun i hi => by cases hi) (fun i hi => by cases hi) (fun _ _ _ _ _ h => h) (fun T hT => ?_)
  iterate 6
    refine wpPlan_takeL (v := ?_) rfl (by rfl) (fun w' hw => ?_) ?_
    rotate_left
    · go_simp
      with_reducible rfl
    simp only [Act.put, rA, rB, rC]
  refine wpPlan_callE rfl (by rfl) Tryz.call64 (by rfl) (fun w' hw => (zmul_any (a.num) (b.num) (u1) _ _ _ HZ1.out (by omega) (by omega) (BX21.out.gr hw) (BX23.out.gr hw)).mono ?_)
  rintro e vv1 ⟨⟨rv1, rfl, bx28⟩, hg0⟩
  obtain ⟨ao1, nn1, cc1, rfl⟩ := Rn.sl bx28
  refine ⟨_, rfl, hg0, ?_⟩
  replace hg0 := Gr.trans hw hg0; clear hw
  have HG0 := Lib.hid hg0; clear hg0
  replace BX21 := rG BX21 HG0
  replace BX22 := rG BX22 HG0
  replace BX23 := rG BX23 HG0
  replace BX24 := rG BX24 HG0
  replace BX25 := bG BX25 HG0
  replace BX26 := bG BX26 HG0
  replace BX27 := bG BX27 HG0
  replace HB := Lib.hid (HB.out.trans (HG0.out.mono HB.out.size))
  have BX28 := Lib.hid bx28; clear bx28
  clear HG0
  clear lx25; have lx25 := BX25.out.cells
  clear lx26; have lx26 := BX26.out.cells
  simp only [Act.put, rA, rB, rC]
  refine wpPlan_callE rfl (by rfl) Tryz.call66 (by rfl) (fun w' hw => (qDen_any (a) (u2) _ _ _ HZ2.out (by omega) (BX21.out.gr hw) (BX22.out.gr hw)).mono ?_)
  rintro e vv2 ⟨⟨rv2, rfl, bx29⟩, hg0⟩
  obtain ⟨ao2, nn2, cc2, rfl⟩ := Rn.sl bx29
  refine ⟨_, rfl, hg0, ?_⟩
  replace hg0 := Gr.trans hw hg0; clear hw
  have HG0 := Lib.hid hg0; clear hg0
  replace BX21 := rG BX21 HG0
  replace BX22 := rG BX22 HG0
  replace BX23 := rG BX23 HG0
  replace BX24 := rG BX24 HG0
  replace BX25 := bG BX25 HG0
  replace BX26 := bG BX26 HG0
  replace BX27 := bG BX27 HG0
  replace BX28 := rG BX28 HG0
  replace HB := Lib.hid (HB.out.trans (HG0.out.mono HB.out.size))
  have BX29 := Lib.hid bx29; clear bx29
  clear HG0
  clear lx25; have lx25 := BX25.out.cells
  clear lx26; have lx26 := BX26.out.cells
  simp only [Act.put, rA, rB, rC]
  refine wpPlan_callE rfl (by rfl) Tryz.call66 (by rfl) (fun w' hw => (qDen_any (b) (u3) _ _ _ HZ3.out (by omega) (BX23.out.gr hw) (BX24.out.gr hw)).mono ?_)
  rintro e vv3 ⟨⟨rv3, rfl, bx30⟩, hg0⟩
  obtain ⟨ao3, nn3, cc3, rfl⟩ := Rn.sl bx30
  refine ⟨_, rfl, hg0, ?_⟩
  replace hg0 := Gr.trans hw hg0; clear hw
  have HG0 := Lib.hid hg0; clear hg0
  replace BX21 := rG BX21 HG0
  replace BX22 := rG BX22 HG0
  replace BX23 := rG BX23 HG0
  replace BX24 := rG BX24 HG0
  replace BX25 := bG BX25 HG0
  replace BX26 := bG BX26 HG0
  replace BX27 := bG BX27 HG0
  replace BX28 := rG BX28 HG0
  replace BX29 := rG BX29 HG0
  replace HB := Lib.hid (HB.out.trans (HG0.out.mono HB.out.size))
  have BX30 := Lib.hid bx30; clear bx30
  clear HG0
  clear lx25; have lx25 := BX25.out.cells
  clear lx26; have lx26 := BX26.out.cells
  simp only [Act.put, rA, rB, rC]
  refine wpPlan_callE rfl (by rfl) Tryz.call65 (by rfl) (fun w' hw => (zrmul _ _ (u2) (u3) (u4) _ HZ4.out (BX29.out.gr hw) (BX30.out.gr hw) (by omega) (by omega)).mono ?_)
  rintro e vv4 ⟨⟨rv4, rfl, bx31⟩, hg0⟩
  obtain ⟨ao4, nn4, cc4, rfl⟩ := Rn.sl bx31
  refine ⟨_, rfl, hg0, ?_⟩
  replace hg0 := Gr.trans hw hg0; clear hw
  have HG0 := Lib.hid hg0; clear hg0
  replace BX21 := rG BX21 HG0
  replace BX22 := rG BX22 HG0
  replace BX23 := rG BX23 HG0
  replace BX24 := rG BX24 HG0
  replace BX25 := bG BX25 HG0
  replace BX26 := bG BX26 HG0
  replace BX27 := bG BX27 HG0
  replace BX28 := rG BX28 HG0
  replace BX29 := rG BX29 HG0
  replace BX30 := rG BX30 HG0
  replace HB := Lib.hid (HB.out.trans (HG0.out.mono HB.out.size))
  have BX31 := Lib.hid bx31; clear bx31
  clear HG0
  clear lx25; have lx25 := BX25.out.cells
  clear lx26; have lx26 := BX26.out.cells
  simp only [Act.put, rA, rB, rC]
  refine wpPlan_callE rfl (by rfl) Tryz.call63 (by rfl) (fun w' hw => (qfrom_any (u1) (u4) (z) _ _ _ HZ5.out (by simp only [← HZ4.out, ← HZ3.out, ← HZ2.out, ← HZ1.out]; exact Nat.mul_pos hp_a hp_b) (by omega) (by omega) (BX28.out.gr hw) (BX31.out.gr hw)).mono ?_)
  rintro e vv5 ⟨⟨rv5, rv6, rfl, bx32, bx33⟩, hg0⟩
  obtain ⟨ao5, nn5, cc5, rfl⟩ := Rn.sl bx32
  obtain ⟨ao6, nn6, cc6, rfl⟩ := Rn.sl bx33
  refine ⟨_, rfl, hg0, ?_⟩
  replace hg0 := Gr.trans hw hg0; clear hw
  have HG0 := Lib.hid hg0; clear hg0
  replace BX21 := rG BX21 HG0
  replace BX22 := rG BX22 HG0
  replace BX23 := rG BX23 HG0
  replace BX24 := rG BX24 HG0
  replace BX25 := bG BX25 HG0
  replace BX26 := bG BX26 HG0
  replace BX27 := bG BX27 HG0
  replace BX28 := rG BX28 HG0
  replace BX29 := rG BX29 HG0
  replace BX30 := rG BX30 HG0
  replace BX31 := rG BX31 HG0
  replace HB := Lib.hid (HB.out.trans (HG0.out.mono HB.out.size))
  have BX32 := Lib.hid bx32; clear bx32
  have BX33 := Lib.hid bx33; clear bx33
  clear HG0
  clear lx25; have lx25 := BX25.out.cells
  clear lx26; have lx26 := BX26.out.cells
  simp only [Act.put, rA, rB, rC]
  refine wpPlan_nil (hT.out _ _ ?_); clear hT T
  intro G vw1 hg hf
  simp only [puts, Act.put, rA, rB, rC, rD, rE, ↓reduceIte, Nat.reduceEqDiff]
  clear lx25 lx26
  have HG := Lib.hid (hg)
  clear hg
  replace BX21 := rG BX21 HG
  replace BX22 := rG BX22 HG
  replace BX23 := rG BX23 HG
  replace BX24 := rG BX24 HG
  replace BX25 := bG BX25 HG
  replace BX26 := bG BX26 HG
  replace BX27 := bG BX27 HG
  replace BX28 := rG BX28 HG
  replace BX29 := rG BX29 HG
  replace BX30 := rG BX30 HG
  replace BX31 := rG BX31 HG
  replace BX32 := rG BX32 HG
  replace BX33 := rG BX33 HG
  have lx27 := BX27.out.cells; have fx27 := BX27.out.free
  have r0 := Gr.refl vw1
  go_wp2
  refine hK.out _ _ ?_; clear hK K
  show Code.wp _ _ _ _ _
  clear lx27 fx27
  clear r0
  refine forgetW (fun w2 => Bx w2 (w.heap.size + 1 + 1) 45 #[.bool (decide (z.num < 0)), (.slice ao5 nn5 cc5), (.slice ao6 nn6 cc6)] ∧ Rn w2 (.slice ao5 nn5 cc5) (z.num.natAbs) ∧ Rn w2 (.slice ao6 nn6 cc6) (z.den - 1) ∧ Below w.heap.size w w2) ⟨((((BX27.out).set 0 _).set 1 _).set 2 _).eq (by simp only [rA, rB, rC]), ro3 (BX32.out) (Rn.ne BX32.out BX27.out (by decide)), ro3 (BX33.out) (Rn.ne BX33.out BX27.out (by decide)), sc3 (HB.out.trans (HG.out.mono HB.out.size)) (by show w.heap.size ≤ w.heap.size + 1 + 1; omega)⟩ ?_
  clear HB HG BX21 BX22 BX23 BX24 BX25 BX26 BX27 BX28 BX29 BX30 BX31 BX32 BX33
  rintro Wx1 ⟨bx27, bx32, bx33, HB⟩
  replace HB := Lib.hid HB
  refine wp_ret ?_
  try simp only [Exit.then, Exit.inBlock]
  have lx27 := bx27.cells
  have r0 := Gr.refl Wx1
  exact bodyPost_ret (v := .agg #[.bool (decide (z.num < 0)), (.slice ao5 nn5 cc5), (.slice ao6 nn6 cc6)]) (by simp [results, Tryz.results40, go_sem, lx27 _ r0]) rfl ⟨⟨(.slice ao5 nn5 cc5), (.slice ao6 nn6 cc6), rfl, bx32, bx33⟩, HB.out⟩

set_option maxRecDepth 20000 in
set_option maxHeartbeats 2000000 in
theorem qsub_any (a b z : Rat) (va1 va2 vb1 vb2 : Value) (w : World) (hz : a - b = z) (hs_a : rz a ≤ 40000000) (hs_b : rz b ≤ 40000000) (bx21 : Rn w va1 (a.num.natAbs)) (bx22 : Rn w va2 (a.den - 1)) (bx23 : Rn w vb1 (b.num.natAbs)) (bx24 : Rn w vb2 (b.den - 1)) :
    Calls Tryz.prog 39 #[(Value.agg #[.bool (decide (a.num < 0)), va1, va2]), (Value.agg #[.bool (decide (b.num < 0)), vb1, vb2])] w fun e w' => (∃ r1 r2 : Value, e = .returned (.agg #[.bool (decide (z.num < 0)), r1, r2]) ∧ Rn w' r1 (z.num.natAbs) ∧ Rn w' r2 (z.den - 1)) ∧ Below w.heap.size w w' := by
  replace hz := Lib.hid hz
  have hn_a := Nat.le_trans (rz_num a) hs_a
  have hd_a := Nat.le_trans (rz_den a) hs_a
  have he_a := Nat.le_trans (tw_mono (Nat.sub_le a.den 1)) hd_a
  have hp_a : 0 < a.den := a.den_pos
  have hn_b := Nat.le_trans (rz_num b) hs_b
  have hd_b := Nat.le_trans (rz_den b) hs_b
  have he_b := Nat.le_trans (tw_mono (Nat.sub_le b.den 1)) hd_b
  have hp_b : 0 < b.den := b.den_pos
  obtain ⟨ao_va1, n_va1, c_va1, rfl⟩ := Rn.sl bx21
  obtain ⟨ao_va2, n_va2, c_va2, rfl⟩ := Rn.sl bx22
  obtain ⟨ao_vb1, n_vb1, c_vb1, rfl⟩ := Rn.sl bx23
  obtain ⟨ao_vb2, n_vb2, c_vb2, rfl⟩ := Rn.sl bx24
  go_enter Tryz.func39, Tryz.ntmps39
  -- region 0
  refine wp_seq_k fun K hK => ?_
  replace hK := Lib.hid hK
  refine wp_region_lit ?_
  go_wp2
  refine hK.out _ _ ?_; clear hK K
  show Code.wp _ _ _ _ _
  refine forgetW (fun w2 => Rn w2 (.slice ao_va1 n_va1 c_va1) (a.num.natAbs) ∧ Rn w2 (.slice ao_va2 n_va2 c_va2) (a.den - 1) ∧ Rn w2 (.slice ao_vb1 n_vb1 c_vb1) (b.num.natAbs) ∧ Rn w2 (.slice ao_vb2 n_vb2 c_vb2) (b.den - 1) ∧ Bx w2 (w.heap.size) 45 #[.bool (decide (a.num < 0)), (.slice ao_va1 n_va1 c_va1), (.slice ao_va2 n_va2 c_va2)] ∧ Bx w2 (w.heap.size + 1) 45 #[.bool (decide (b.num < 0)), (.slice ao_vb1 n_vb1 c_vb1), (.slice ao_vb2 n_vb2 c_vb2)] ∧ Bx w2 (w.heap.size + 1 + 1) 45 #[.bool false, .slice none 0 0, .slice none 0 0] ∧ Below w.heap.size w w2) ⟨(((bx21).alloc _).alloc _).alloc _, (((bx22).alloc _).alloc _).alloc _, (((bx23).alloc _).alloc _).alloc _, (((bx24).alloc _).alloc _).alloc _, ((Bx.at rfl).alloc _).alloc _, (Bx.at (by simp)).alloc _, Bx.at (by simp), (((Below.refl _ _).alloc (Nat.le_refl _) _).alloc (by simp) _).alloc (by simp; omega) _⟩ ?_
  clear bx21 bx22 bx23 bx24
  rintro Wx ⟨bx21, bx22, bx23, bx24, bx25, bx26, bx27, HB⟩
  replace HB := Lib.hid HB
  -- region 1
  obtain ⟨u1, HZ1⟩ : ∃ z, Hid (-(b) = z) := ⟨_, Lib.hid rfl⟩
  have su1 : rz u1 ≤ 40000000 := by rw [← HZ1.out]; rw [rz_neg]; omega
  have HZ2 : Hid ((a) + (u1) = z) := Lib.hid (by rw [← HZ1.out, ← hz.out, Rat.sub_eq_add_neg])
  have lx25 := bx25.cells
  have lx26 := bx26.cells
  have BX21 := Lib.hid bx21
  have BX22 := Lib.hid bx22
  have BX23 := Lib.hid bx23
  have BX24 := Lib.hid bx24
  have BX25 := Lib.hid bx25
  have BX26 := Lib.hid bx26
  have BX27 := Lib.hid bx27
  clear bx21 bx22 bx23 bx24 bx25 bx26 bx27
  refine wp_seq_k fun K hK => ?_
  replace hK := Lib.hid hK
  have HS0 := Lib.hid (HB.out.size)
  have MX25 : w.heap.size < Wx.heap.size := BX25.out.lt
  have MX26 : w.heap.size + 1 < Wx.heap.size := BX26.out.lt
  have MX27 : w.heap.size + 1 + 1 < Wx.heap.size := BX27.out.lt
  refine wp_region_plan 4 [] [] (fun _ => 0) (fun _ => .cells #[] 0) [(true, 0), (true, 1), (false, 2), (false, 3)] (by kernel_rfl) (by kernel_rfl) (fun i hi => by cases hi) (fun i hi => by cases hi) (fun _ _ _ _ _ h => h) (fun T hT => ?_)
  iterate 2
    refine wpPlan_takeL (v := ?_) rfl (by rfl) (fun w' hw => ?_) ?_
    rotate_left
    · go_simp
      with_reducible rfl
    simp only [Act.put, rA, rB, rC]
  refine wpPlan_callE rfl (by rfl) Tryz.call62 (by rfl) (fun w' hw => (qneg_any (b) (u1) _ _ _ HZ1.out (BX23.out.gr hw) (BX24.out.gr hw)).mono ?_)
  rintro e vv1 ⟨⟨rv1, rv2, rfl, bx28, bx29⟩, hg0⟩
  obtain ⟨ao1, nn1, cc1, rfl⟩ := Rn.sl bx28
  obtain ⟨ao2, nn2, cc2, rfl⟩ := Rn.sl bx29
  refine ⟨_, rfl, hg0, ?_⟩
  replace hg0 := Gr.trans hw hg0; clear hw
  have HG0 := Lib.hid hg0; clear hg0
  replace BX21 := rG BX21 HG0
  replace BX22 := rG BX22 HG0
  replace BX23 := rG BX23 HG0
  replace BX24 := rG BX24 HG0
  replace BX25 := bG BX25 HG0
  replace BX26 := bG BX26 HG0
  replace BX27 := bG BX27 HG0
  replace HB := Lib.hid (HB.out.trans (HG0.out.mono HB.out.size))
  have BX28 := Lib.hid bx28; clear bx28
  have BX29 := Lib.hid bx29; clear bx29
  clear HG0
  clear lx25; have lx25 := BX25.out.cells
  clear lx26; have lx26 := BX26.out.cells
  simp only [Act.put, rA, rB, rC]
  refine wpPlan_callE rfl (by rfl) Tryz.call42 (by rfl) (fun w' hw => (qadd_any (a) (u1) (z) _ _ _ _ _ HZ2.out (by omega) (by omega) (BX21.out.gr hw) (BX22.out.gr hw) (BX28.out.gr hw) (BX29.out.gr hw)).mono ?_)
  rintro e vv2 ⟨⟨rv3, rv4, rfl, bx30, bx31⟩, hg0⟩
  obtain ⟨ao3, nn3, cc3, rfl⟩ := Rn.sl bx30
  obtain ⟨ao4, nn4, cc4, rfl⟩ := Rn.sl bx31
  refine ⟨_, rfl, hg0, ?_⟩
  replace hg0 := Gr.trans hw hg0; clear hw
  have HG0 := Lib.hid hg0; clear hg0
  replace BX21 := rG BX21 HG0
  replace BX22 := rG BX22 HG0
  replace BX23 := rG BX23 HG0
  replace BX24 := rG BX24 HG0
  replace BX25 := bG BX25 HG0
  replace BX26 := bG BX26 HG0
  replace BX27 := bG BX27 HG0
  replace BX28 := rG BX28 HG0
  replace BX29 := rG BX29 HG0
  replace HB := Lib.hid (HB.out.trans (HG0.out.mono HB.out.size))
  have BX30 := Lib.hid bx30; clear bx30
  have BX31 := Lib.hid bx31; clear bx31
  clear HG0
  clear lx25; have lx25 := BX25.out.cells
  clear lx26; have lx26 := BX26.out.cells
  simp only [Act.put, rA, rB, rC]
  refine wpPlan_nil (hT.out _ _ ?_); clear hT T
  intro G vw1 hg hf
  simp only [puts, Act.put, rA, rB, rC, rD, rE, ↓reduceIte, Nat.reduceEqDiff]
  clear lx25 lx26
  have HG := Lib.hid (hg)
  clear hg
  replace BX21 := rG BX21 HG
  replace BX22 := rG BX22 HG
  replace BX23 := rG BX23 HG
  replace BX24 := rG BX24 HG
  replace BX25 := bG BX25 HG
  replace BX26 := bG BX26 HG
  replace BX27 := bG BX27 HG
  replace BX28 := rG BX28 HG
  replace BX29 := rG BX29 HG
  replace BX30 := rG BX30 HG
  replace BX31 := rG BX31 HG
  have lx27 := BX27.out.cells; have fx27 := BX27.out.free
  have r0 := Gr.refl vw1
  go_wp2
  refine hK.out _ _ ?_; clear hK K
  show Code.wp _ _ _ _ _
  clear lx27 fx27
  clear r0
  refine forgetW (fun w2 => Bx w2 (w.heap.size + 1 + 1) 45 #[.bool (decide (z.num < 0)), (.slice ao3 nn3 cc3), (.slice ao4 nn4 cc4)] ∧ Rn w2 (.slice ao3 nn3 cc3) (z.num.natAbs) ∧ Rn w2 (.slice ao4 nn4 cc4) (z.den - 1) ∧ Below w.heap.size w w2) ⟨((((BX27.out).set 0 _).set 1 _).set 2 _).eq (by simp only [rA, rB, rC]), ro3 (BX30.out) (Rn.ne BX30.out BX27.out (by decide)), ro3 (BX31.out) (Rn.ne BX31.out BX27.out (by decide)), sc3 (HB.out.trans (HG.out.mono HB.out.size)) (by show w.heap.size ≤ w.heap.size + 1 + 1; omega)⟩ ?_
  clear HB HG BX21 BX22 BX23 BX24 BX25 BX26 BX27 BX28 BX29 BX30 BX31
  rintro Wx1 ⟨bx27, bx30, bx31, HB⟩
  replace HB := Lib.hid HB
  refine wp_ret ?_
  try simp only [Exit.then, Exit.inBlock]
  have lx27 := bx27.cells
  have r0 := Gr.refl Wx1
  exact bodyPost_ret (v := .agg #[.bool (decide (z.num < 0)), (.slice ao3 nn3 cc3), (.slice ao4 nn4 cc4)]) (by simp [results, Tryz.results39, go_sem, lx27 _ r0]) rfl ⟨⟨(.slice ao3 nn3 cc3), (.slice ao4 nn4 cc4), rfl, bx30, bx31⟩, HB.out⟩

end Go.Proofs.YtenpbnmmadbkdaaGreat


/- gussetref03: Div, Cmp, Of. -/
namespace Go.Proofs.YtenpbnmmadbkdaaGreat
open Go.RowKit
set_option linter.unusedSimpArgs false
set_option linter.unusedVariables false
attribute [local go_sem ↓] Go.wp_at_zero Go.wp_at_succ
theorem inv_mk' (b : Rat) (h : b.num ≠ 0) : mkRat (if decide (b.num < 0) then -((b.den : Nat) : Int) else ((b.den : Nat) : Int)) b.num.natAbs = b⁻¹ := by
  rw [Rat.inv_def]
  by_cases h2 : b.num < 0
  · rw [if_pos (by simpa using h2), ← Rat.divInt_ofNat, show ((b.num.natAbs : Nat) : Int) = -b.num by omega, Rat.neg_divInt_neg]
  · rw [if_neg (by simpa using h2), ← Rat.divInt_ofNat, show ((b.num.natAbs : Nat) : Int) = b.num by omega]
theorem rz_inv' (b : Rat) {M : Nat} (h : rz b ≤ M) : rz b⁻¹ ≤ M := Nat.le_trans (rz_inv b) h

set_option maxRecDepth 20000 in
set_option maxHeartbeats 2000000 in
theorem qdiv_zero (a b : Rat) (t : Int) (va1 va2 vb1 vb2 : Value) (w : World) (ht : Hid (sgQ b = t)) (h0 : (t == 0) = true) (bx21 : Rn w va1 (a.num.natAbs)) (bx22 : Rn w va2 (a.den - 1)) (bx23 : Rn w vb1 (b.num.natAbs)) (bx24 : Rn w vb2 (b.den - 1)) :
    Calls Tryz.prog 54 #[(Value.agg #[.bool (decide (a.num < 0)), va1, va2]), (Value.agg #[.bool (decide (b.num < 0)), vb1, vb2])] w fun e w' => e = .returned (.agg #[.bool false, .slice none 0 0, .slice none 0 0]) ∧ Below w.heap.size w w' := by
  obtain ⟨ao_va1, n_va1, c_va1, rfl⟩ := Rn.sl bx21
  obtain ⟨ao_va2, n_va2, c_va2, rfl⟩ := Rn.sl bx22
  obtain ⟨ao_vb1, n_vb1, c_vb1, rfl⟩ := Rn.sl bx23
  obtain ⟨ao_vb2, n_vb2, c_vb2, rfl⟩ := Rn.sl bx24
  go_enter Tryz.func54, Tryz.ntmps54
  -- region 0
  refine wp_seq_k fun K hK => ?_
  replace hK := Lib.hid hK
  refine wp_region_lit ?_
  go_wp2
  refine hK.out _ _ ?_; clear hK K
  show Code.wp _ _ _ _ _
  refine forgetW (fun w2 => Rn w2 (.slice ao_va1 n_va1 c_va1) (a.num.natAbs) ∧ Rn w2 (.slice ao_va2 n_va2 c_va2) (a.den - 1) ∧ Rn w2 (.slice ao_vb1 n_vb1 c_vb1) (b.num.natAbs) ∧ Rn w2 (.slice ao_vb2 n_vb2 c_vb2) (b.den - 1) ∧ Bx w2 (w.heap.size) 45 #[.bool (decide (a.num < 0)), (.slice ao_va1 n_va1 c_va1), (.slice ao_va2 n_va2 c_va2)] ∧ Bx w2 (w.heap.size + 1) 45 #[.bool (decide (b.num < 0)), (.slice ao_vb1 n_vb1 c_vb1), (.slice ao_vb2 n_vb2 c_vb2)] ∧ Bx w2 (w.heap.size + 1 + 1) 45 #[.bool false, .slice none 0 0, .slice none 0 0] ∧ Below w.heap.size w w2) ⟨(((bx21).alloc _).alloc _).alloc _, (((bx22).alloc _).alloc _).alloc _, (((bx23).alloc _).alloc _).alloc _, (((bx24).alloc _).alloc _).alloc _, ((Bx.at rfl).alloc _).alloc _, (Bx.at (by simp)).alloc _, Bx.at (by simp), (((Below.refl _ _).alloc (Nat.le_refl _) _).alloc (by simp) _).alloc (by simp; omega) _⟩ ?_
  clear bx21 bx22 bx23 bx24
  rintro Wx ⟨bx21, bx22, bx23, bx24, bx25, bx26, bx27, HB⟩
  replace HB := Lib.hid HB
  refine wp_seq ?_
  -- region 1
  have lx26 := bx26.cells
  have BX21 := Lib.hid bx21
  have BX22 := Lib.hid bx22
  have BX23 := Lib.hid bx23
  have BX24 := Lib.hid bx24
  have BX25 := Lib.hid bx25
  have BX26 := Lib.hid bx26
  have BX27 := Lib.hid bx27
  clear bx21 bx22 bx23 bx24 bx25 bx26 bx27
  refine wp_seq_k fun K hK => ?_
  replace hK := Lib.hid hK
  refine wp_region_seqplan 3 [(true, 0), (true, 1), (true, 2)] (by rfl) (by simp) (fun T hT => ?_)
  iterate 1
    refine wpPlan_takeL (v := ?_) rfl (by rfl) (fun w' hw => ?_) ?_
    rotate_left
    · go_simp
      with_reducible rfl
    simp only [Act.put, rA, rB, rC]
  refine wpPlan_callL rfl (by rfl) Tryz.call18 (fun w' hw => qsign_any (b) (t) _ _ _ (ht.out) (BX23.out.gr hw) (BX24.out.gr hw)) (by rfl) ?_
  simp only [Act.put, rA, rB, rC]
  iterate 1
    refine wpPlan_takeL (v := ?_) rfl (by rfl) (fun w' hw => ?_) ?_
    rotate_left
    · go_simp
      with_reducible rfl
    simp only [Act.put, rA, rB, rC]
  refine wpPlan_nil (hT.out _ _ ?_); clear hT T
  intro vw1 hg
  simp only [puts, Act.put, rA, rB, rC, rD, rE, ↓reduceIte, Nat.reduceEqDiff]
  clear lx26
  have HG := Lib.hid (hg)
  clear hg
  replace BX21 := rG BX21 HG
  replace BX22 := rG BX22 HG
  replace BX23 := rG BX23 HG
  replace BX24 := rG BX24 HG
  replace BX25 := bG BX25 HG
  replace BX26 := bG BX26 HG
  replace BX27 := bG BX27 HG
  have r0 := Gr.refl vw1
  go_wp2
  refine hK.out _ _ ?_; clear hK K
  show Code.wp _ _ _ _ _
  clear r0
  refine forgetW (fun w2 => Rn w2 (.slice ao_va1 n_va1 c_va1) (a.num.natAbs) ∧ Rn w2 (.slice ao_va2 n_va2 c_va2) (a.den - 1) ∧ Rn w2 (.slice ao_vb1 n_vb1 c_vb1) (b.num.natAbs) ∧ Rn w2 (.slice ao_vb2 n_vb2 c_vb2) (b.den - 1) ∧ Bx w2 (w.heap.size) 45 #[.bool (decide (a.num < 0)), (.slice ao_va1 n_va1 c_va1), (.slice ao_va2 n_va2 c_va2)] ∧ Bx w2 (w.heap.size + 1) 45 #[.bool (decide (b.num < 0)), (.slice ao_vb1 n_vb1 c_vb1), (.slice ao_vb2 n_vb2 c_vb2)] ∧ Bx w2 (w.heap.size + 1 + 1) 45 #[.bool false, .slice none 0 0, .slice none 0 0] ∧ Below w.heap.size w w2) ⟨BX21.out, BX22.out, BX23.out, BX24.out, BX25.out, BX26.out, BX27.out, HB.out.trans (HG.out.mono HB.out.size)⟩ ?_
  clear HB HG BX21 BX22 BX23 BX24 BX25 BX26 BX27
  rintro Wx1 ⟨bx21, bx22, bx23, bx24, bx25, bx26, bx27, HB⟩
  replace HB := Lib.hid HB
  refine wp_cond_true (by rfl) ?_
  -- region 2
  have BX21 := Lib.hid bx21
  have BX22 := Lib.hid bx22
  have BX23 := Lib.hid bx23
  have BX24 := Lib.hid bx24
  have BX25 := Lib.hid bx25
  have BX26 := Lib.hid bx26
  have BX27 := Lib.hid bx27
  clear bx21 bx22 bx23 bx24 bx25 bx26 bx27
  refine wp_seq_k fun K hK => ?_
  replace hK := Lib.hid hK
  refine wp_region_seqplan 1 [(true, 0)] (by rfl) (by simp) (fun T hT => ?_)
  iterate 1
    refine wpPlan_takeL (v := ?_) rfl (by rfl) (fun w' hw => ?_) ?_
    rotate_left
    · go_simp
      with_reducible rfl
    simp only [Act.put, rA, rB, rC]
  refine wpPlan_nil (hT.out _ _ ?_); clear hT T
  intro vw2 hg
  simp only [puts, Act.put, rA, rB, rC, rD, rE, ↓reduceIte, Nat.reduceEqDiff]
  have HG := Lib.hid (hg)
  clear hg
  replace BX21 := rG BX21 HG
  replace BX22 := rG BX22 HG
  replace BX23 := rG BX23 HG
  replace BX24 := rG BX24 HG
  replace BX25 := bG BX25 HG
  replace BX26 := bG BX26 HG
  replace BX27 := bG BX27 HG
  have lx27 := BX27.out.cells; have fx27 := BX27.out.free
  have r0 := Gr.refl vw2
  go_wp2
  refine hK.out _ _ ?_; clear hK K
  show Code.wp _ _ _ _ _
  clear lx27 fx27
  clear r0
  refine forgetW (fun w2 => Rn w2 (.slice ao_va1 n_va1 c_va1) (a.num.natAbs) ∧ Rn w2 (.slice ao_va2 n_va2 c_va2) (a.den - 1) ∧ Rn w2 (.slice ao_vb1 n_vb1 c_vb1) (b.num.natAbs) ∧ Rn w2 (.slice ao_vb2 n_vb2 c_vb2) (b.den - 1) ∧ Bx w2 (w.heap.size) 45 #[.bool (decide (a.num < 0)), (.slice ao_va1 n_va1 c_va1), (.slice ao_va2 n_va2 c_va2)] ∧ Bx w2 (w.heap.size + 1) 45 #[.bool (decide (b.num < 0)), (.slice ao_vb1 n_vb1 c_vb1), (.slice ao_vb2 n_vb2 c_vb2)] ∧ Bx w2 (w.heap.size + 1 + 1) 45 #[.bool false, .slice none 0 0, .slice none 0 0] ∧ Below w.heap.size w w2) ⟨ro3 (BX21.out) (Rn.ne BX21.out BX27.out (by decide)), ro3 (BX22.out) (Rn.ne BX22.out BX27.out (by decide)), ro3 (BX23.out) (Rn.ne BX23.out BX27.out (by decide)), ro3 (BX24.out) (Rn.ne BX24.out BX27.out (by decide)), so3 (BX25.out) (by show w.heap.size ≠ w.heap.size + 1 + 1; omega), so3 (BX26.out) (by show w.heap.size + 1 ≠ w.heap.size + 1 + 1; omega), ((((BX27.out).set 0 _).set 1 _).set 2 _).eq (by simp only [rA, rB, rC]), sc3 (HB.out.trans (HG.out.mono HB.out.size)) (by show w.heap.size ≤ w.heap.size + 1 + 1; omega)⟩ ?_
  clear HB HG BX21 BX22 BX23 BX24 BX25 BX26 BX27
  rintro Wx2 ⟨bx21, bx22, bx23, bx24, bx25, bx26, bx27, HB⟩
  replace HB := Lib.hid HB
  refine wp_ret ?_
  try simp only [Exit.then, Exit.inBlock]
  have lx27 := bx27.cells
  have r0 := Gr.refl Wx2
  exact bodyPost_ret (v := .agg #[.bool false, .slice none 0 0, .slice none 0 0]) (by simp [results, Tryz.results54, go_sem, lx27 _ r0]) rfl ⟨rfl, HB.out⟩

set_option maxRecDepth 20000 in
set_option maxHeartbeats 2000000 in
theorem qdiv_ne (a b z : Rat) (t : Int) (va1 va2 vb1 vb2 : Value) (w : World) (hz : a / b = z) (ht : Hid (sgQ b = t)) (h0 : (t == 0) = false) (hb : Hid (b.num ≠ 0)) (hs_a : rz a ≤ 40000000) (hs_b : rz b ≤ 40000000) (bx21 : Rn w va1 (a.num.natAbs)) (bx22 : Rn w va2 (a.den - 1)) (bx23 : Rn w vb1 (b.num.natAbs)) (bx24 : Rn w vb2 (b.den - 1)) :
    Calls Tryz.prog 54 #[(Value.agg #[.bool (decide (a.num < 0)), va1, va2]), (Value.agg #[.bool (decide (b.num < 0)), vb1, vb2])] w fun e w' => (∃ r1 r2 : Value, e = .returned (.agg #[.bool (decide (z.num < 0)), r1, r2]) ∧ Rn w' r1 (z.num.natAbs) ∧ Rn w' r2 (z.den - 1)) ∧ Below w.heap.size w w' := by
  replace hz := Lib.hid hz
  have hn_a := Nat.le_trans (rz_num a) hs_a
  have hd_a := Nat.le_trans (rz_den a) hs_a
  have he_a := Nat.le_trans (tw_mono (Nat.sub_le a.den 1)) hd_a
  have hp_a : 0 < a.den := a.den_pos
  have hn_b := Nat.le_trans (rz_num b) hs_b
  have hd_b := Nat.le_trans (rz_den b) hs_b
  have he_b := Nat.le_trans (tw_mono (Nat.sub_le b.den 1)) hd_b
  have hp_b : 0 < b.den := b.den_pos
  have hiv := Nat.le_trans (rz_inv b) hs_b
  obtain ⟨ao_va1, n_va1, c_va1, rfl⟩ := Rn.sl bx21
  obtain ⟨ao_va2, n_va2, c_va2, rfl⟩ := Rn.sl bx22
  obtain ⟨ao_vb1, n_vb1, c_vb1, rfl⟩ := Rn.sl bx23
  obtain ⟨ao_vb2, n_vb2, c_vb2, rfl⟩ := Rn.sl bx24
  go_enter Tryz.func54, Tryz.ntmps54
  -- region 0
  refine wp_seq_k fun K hK => ?_
  replace hK := Lib.hid hK
  refine wp_region_lit ?_
  go_wp2
  refine hK.out _ _ ?_; clear hK K
  show Code.wp _ _ _ _ _
  refine forgetW (fun w2 => Rn w2 (.slice ao_va1 n_va1 c_va1) (a.num.natAbs) ∧ Rn w2 (.slice ao_va2 n_va2 c_va2) (a.den - 1) ∧ Rn w2 (.slice ao_vb1 n_vb1 c_vb1) (b.num.natAbs) ∧ Rn w2 (.slice ao_vb2 n_vb2 c_vb2) (b.den - 1) ∧ Bx w2 (w.heap.size) 45 #[.bool (decide (a.num < 0)), (.slice ao_va1 n_va1 c_va1), (.slice ao_va2 n_va2 c_va2)] ∧ Bx w2 (w.heap.size + 1) 45 #[.bool (decide (b.num < 0)), (.slice ao_vb1 n_vb1 c_vb1), (.slice ao_vb2 n_vb2 c_vb2)] ∧ Bx w2 (w.heap.size + 1 + 1) 45 #[.bool false, .slice none 0 0, .slice none 0 0] ∧ Below w.heap.size w w2) ⟨(((bx21).alloc _).alloc _).alloc _, (((bx22).alloc _).alloc _).alloc _, (((bx23).alloc _).alloc _).alloc _, (((bx24).alloc _).alloc _).alloc _, ((Bx.at rfl).alloc _).alloc _, (Bx.at (by simp)).alloc _, Bx.at (by simp), (((Below.refl _ _).alloc (Nat.le_refl _) _).alloc (by simp) _).alloc (by simp; omega) _⟩ ?_
  clear bx21 bx22 bx23 bx24
  rintro Wx ⟨bx21, bx22, bx23, bx24, bx25, bx26, bx27, HB⟩
  replace HB := Lib.hid HB
  refine wp_seq ?_
  -- region 1
  have lx26 := bx26.cells
  have BX21 := Lib.hid bx21
  have BX22 := Lib.hid bx22
  have BX23 := Lib.hid bx23
  have BX24 := Lib.hid bx24
  have BX25 := Lib.hid bx25
  have BX26 := Lib.hid bx26
  have BX27 := Lib.hid bx27
  clear bx21 bx22 bx23 bx24 bx25 bx26 bx27
  refine wp_seq_k fun K hK => ?_
  replace hK := Lib.hid hK
  refine wp_region_seqplan 3 [(true, 0), (true, 1), (true, 2)] (by rfl) (by simp) (fun T hT => ?_)
  iterate 1
    refine wpPlan_takeL (v := ?_) rfl (by rfl) (fun w' hw => ?_) ?_
    rotate_left
    · go_simp
      with_reducible rfl
    simp only [Act.put, rA, rB, rC]
  refine wpPlan_callL rfl (by rfl) Tryz.call18 (fun w' hw => qsign_any (b) (t) _ _ _ (ht.out) (BX23.out.gr hw) (BX24.out.gr hw)) (by rfl) ?_
  simp only [Act.put, rA, rB, rC]
  iterate 1
    refine wpPlan_takeL (v := ?_) rfl (by rfl) (fun w' hw => ?_) ?_
    rotate_left
    · go_simp
      with_reducible rfl
    simp only [Act.put, rA, rB, rC]
  refine wpPlan_nil (hT.out _ _ ?_); clear hT T
  intro vw1 hg
  simp only [puts, Act.put, rA, rB, rC, rD, rE, ↓reduceIte, Nat.reduceEqDiff]
  clear lx26
  have HG := Lib.hid (hg)
  clear hg
  replace BX21 := rG BX21 HG
  replace BX22 := rG BX22 HG
  replace BX23 := rG BX23 HG
  replace BX24 := rG BX24 HG
  replace BX25 := bG BX25 HG
  replace BX26 := bG BX26 HG
  replace BX27 := bG BX27 HG
  have r0 := Gr.refl vw1
  go_wp2
  refine hK.out _ _ ?_; clear hK K
  show Code.wp _ _ _ _ _
  clear r0
  refine forgetW (fun w2 => Rn w2 (.slice ao_va1 n_va1 c_va1) (a.num.natAbs) ∧ Rn w2 (.slice ao_va2 n_va2 c_va2) (a.den - 1) ∧ Rn w2 (.slice ao_vb1 n_vb1 c_vb1) (b.num.natAbs) ∧ Rn w2 (.slice ao_vb2 n_vb2 c_vb2) (b.den - 1) ∧ Bx w2 (w.heap.size) 45 #[.bool (decide (a.num < 0)), (.slice ao_va1 n_va1 c_va1), (.slice ao_va2 n_va2 c_va2)] ∧ Bx w2 (w.heap.size + 1) 45 #[.bool (decide (b.num < 0)), (.slice ao_vb1 n_vb1 c_vb1), (.slice ao_vb2 n_vb2 c_vb2)] ∧ Bx w2 (w.heap.size + 1 + 1) 45 #[.bool false, .slice none 0 0, .slice none 0 0] ∧ Below w.heap.size w w2) ⟨BX21.out, BX22.out, BX23.out, BX24.out, BX25.out, BX26.out, BX27.out, HB.out.trans (HG.out.mono HB.out.size)⟩ ?_
  clear HB HG BX21 BX22 BX23 BX24 BX25 BX26 BX27
  rintro Wx1 ⟨bx21, bx22, bx23, bx24, bx25, bx26, bx27, HB⟩
  replace HB := Lib.hid HB
  refine wp_cond_false (by rfl) ?_
  refine wp_skip ?_
  show Code.wp _ _ _ _ _
  -- region 3
  obtain ⟨u1, HZ1⟩ : ∃ z, Hid (b.den = z) := ⟨_, Lib.hid rfl⟩
  have su1 : tw u1 ≤ 40000000 := by rw [← HZ1.out]; have := rz_den (b); omega
  obtain ⟨u2, HZ2⟩ : ∃ z, Hid ((if decide (b.num < 0) then -((u1 : Nat) : Int) else ((u1 : Nat) : Int)) = z) := ⟨_, Lib.hid rfl⟩
  have su2 : tw (Int.natAbs u2) ≤ 40000000 := by rw [← HZ2.out]; split <;> simp <;> omega
  have HZ3 : Hid (mkRat (u2) (b.num.natAbs) = b⁻¹) := Lib.hid (by simp only [← HZ2.out, ← HZ1.out]; exact inv_mk' b hb.out)
  have HZ4 : Hid ((a) * (b⁻¹) = z) := Lib.hid (by rw [← hz.out, Rat.div_def])
  have lx25 := bx25.cells
  have lx26 := bx26.cells
  have BX21 := Lib.hid bx21
  have BX22 := Lib.hid bx22
  have BX23 := Lib.hid bx23
  have BX24 := Lib.hid bx24
  have BX25 := Lib.hid bx25
  have BX26 := Lib.hid bx26
  have BX27 := Lib.hid bx27
  clear bx21 bx22 bx23 bx24 bx25 bx26 bx27
  refine wp_seq_k fun K hK => ?_
  replace hK := Lib.hid hK
  have HS0 := Lib.hid (HB.out.size)
  have MX25 : w.heap.size < Wx1.heap.size := BX25.out.lt
  have MX26 : w.heap.size + 1 < Wx1.heap.size := BX26.out.lt
  have MX27 : w.heap.size + 1 + 1 < Wx1.heap.size := BX27.out.lt
  refine wp_region_plan 12 [] [] (fun _ => 0) (fun _ => .cells #[] 0) [(true, 0), (true, 1), (true, 2), (true, 3), (true, 4), (true, 7), (true, 8), (true, 9), (false, 5), (false, 6), (false, 10), (false, 11)] (by kernel_rfl) (by kernel_rfl) (fun i hi => by cases hi) (fun i hi => by cases hi) (fun _ _ _ _ _ h => h) (fun T hT => ?_)
  iterate 8
    refine wpPlan_takeL (v := ?_) rfl (by rfl) (fun w' hw => ?_) ?_
    rotate_left
    · go_simp
      with_reducible rfl
    simp only [Act.put, rA, rB, rC]
  refine wpPlan_callE rfl (by rfl) Tryz.call66 (by rfl) (fun w' hw => (qDen_any (b) (u1) _ _ _ HZ1.out (by omega) (BX23.out.gr hw) (BX24.out.gr hw)).mono ?_)
  rintro e vv1 ⟨⟨rv1, rfl, bx28⟩, hg0⟩
  obtain ⟨ao1, nn1, cc1, rfl⟩ := Rn.sl bx28
  refine ⟨_, rfl, hg0, ?_⟩
  replace hg0 := Gr.trans hw hg0; clear hw
  have HG0 := Lib.hid hg0; clear hg0
  replace BX21 := rG BX21 HG0
  replace BX22 := rG BX22 HG0
  replace BX23 := rG BX23 HG0
  replace BX24 := rG BX24 HG0
  replace BX25 := bG BX25 HG0
  replace BX26 := bG BX26 HG0
  replace BX27 := bG BX27 HG0
  replace HB := Lib.hid (HB.out.trans (HG0.out.mono HB.out.size))
  have BX28 := Lib.hid bx28; clear bx28
  clear HG0
  clear lx25; have lx25 := BX25.out.cells
  clear lx26; have lx26 := BX26.out.cells
  simp only [Act.put, rA, rB, rC]
  refine wpPlan_callE rfl (by rfl) Tryz.call85 (by rfl) (fun w' hw => (zfrom_any (decide (b.num < 0)) (u1) (u2) _ _ HZ2.out (BX28.out.gr hw)).mono ?_)
  rintro e vv2 ⟨⟨rv2, rfl, bx29⟩, hg0⟩
  obtain ⟨ao2, nn2, cc2, rfl⟩ := Rn.sl bx29
  refine ⟨_, rfl, hg0, ?_⟩
  replace hg0 := Gr.trans hw hg0; clear hw
  have HG0 := Lib.hid hg0; clear hg0
  replace BX21 := rG BX21 HG0
  replace BX22 := rG BX22 HG0
  replace BX23 := rG BX23 HG0
  replace BX24 := rG BX24 HG0
  replace BX25 := bG BX25 HG0
  replace BX26 := bG BX26 HG0
  replace BX27 := bG BX27 HG0
  replace BX28 := rG BX28 HG0
  replace HB := Lib.hid (HB.out.trans (HG0.out.mono HB.out.size))
  have BX29 := Lib.hid bx29; clear bx29
  clear HG0
  clear lx25; have lx25 := BX25.out.cells
  clear lx26; have lx26 := BX26.out.cells
  simp only [Act.put, rA, rB, rC]
  refine wpPlan_callE rfl (by rfl) Tryz.call63 (by rfl) (fun w' hw => (qfrom_any (u2) (b.num.natAbs) (b⁻¹) _ _ _ HZ3.out (by have := hb.out; omega) (by omega) (by omega) (BX29.out.gr hw) (BX23.out.gr hw)).mono ?_)
  rintro e vv3 ⟨⟨rv3, rv4, rfl, bx30, bx31⟩, hg0⟩
  obtain ⟨ao3, nn3, cc3, rfl⟩ := Rn.sl bx30
  obtain ⟨ao4, nn4, cc4, rfl⟩ := Rn.sl bx31
  refine ⟨_, rfl, hg0, ?_⟩
  replace hg0 := Gr.trans hw hg0; clear hw
  have HG0 := Lib.hid hg0; clear hg0
  replace BX21 := rG BX21 HG0
  replace BX22 := rG BX22 HG0
  replace BX23 := rG BX23 HG0
  replace BX24 := rG BX24 HG0
  replace BX25 := bG BX25 HG0
  replace BX26 := bG BX26 HG0
  replace BX27 := bG BX27 HG0
  replace BX28 := rG BX28 HG0
  replace BX29 := rG BX29 HG0
  replace HB := Lib.hid (HB.out.trans (HG0.out.mono HB.out.size))
  have BX30 := Lib.hid bx30; clear bx30
  have BX31 := Lib.hid bx31; clear bx31
  clear HG0
  clear lx25; have lx25 := BX25.out.cells
  clear lx26; have lx26 := BX26.out.cells
  simp only [Act.put, rA, rB, rC]
  refine wpPlan_callE rfl (by rfl) Tryz.call40 (by rfl) (fun w' hw => (qmul_any (a) (b⁻¹) (z) _ _ _ _ _ HZ4.out (by omega) (by omega) (BX21.out.gr hw) (BX22.out.gr hw) (BX30.out.gr hw) (BX31.out.gr hw)).mono ?_)
  rintro e vv4 ⟨⟨rv5, rv6, rfl, bx32, bx33⟩, hg0⟩
  obtain ⟨ao5, nn5, cc5, rfl⟩ := Rn.sl bx32
  obtain ⟨ao6, nn6, cc6, rfl⟩ := Rn.sl bx33
  refine ⟨_, rfl, hg0, ?_⟩
  replace hg0 := Gr.trans hw hg0; clear hw
  have HG0 := Lib.hid hg0; clear hg0
  replace BX21 := rG BX21 HG0
  replace BX22 := rG BX22 HG0
  replace BX23 := rG BX23 HG0
  replace BX24 := rG BX24 HG0
  replace BX25 := bG BX25 HG0
  replace BX26 := bG BX26 HG0
  replace BX27 := bG BX27 HG0
  replace BX28 := rG BX28 HG0
  replace BX29 := rG BX29 HG0
  replace BX30 := rG BX30 HG0
  replace BX31 := rG BX31 HG0
  replace HB := Lib.hid (HB.out.trans (HG0.out.mono HB.out.size))
  have BX32 := Lib.hid bx32; clear bx32
  have BX33 := Lib.hid bx33; clear bx33
  clear HG0
  clear lx25; have lx25 := BX25.out.cells
  clear lx26; have lx26 := BX26.out.cells
  simp only [Act.put, rA, rB, rC]
  refine wpPlan_nil (hT.out _ _ ?_); clear hT T
  intro G vw2 hg hf
  simp only [puts, Act.put, rA, rB, rC, rD, rE, ↓reduceIte, Nat.reduceEqDiff]
  clear lx25 lx26
  have HG := Lib.hid (hg)
  clear hg
  replace BX21 := rG BX21 HG
  replace BX22 := rG BX22 HG
  replace BX23 := rG BX23 HG
  replace BX24 := rG BX24 HG
  replace BX25 := bG BX25 HG
  replace BX26 := bG BX26 HG
  replace BX27 := bG BX27 HG
  replace BX28 := rG BX28 HG
  replace BX29 := rG BX29 HG
  replace BX30 := rG BX30 HG
  replace BX31 := rG BX31 HG
  replace BX32 := rG BX32 HG
  replace BX33 := rG BX33 HG
  have lx27 := BX27.out.cells; have fx27 := BX27.out.free
  have r0 := Gr.refl vw2
  go_wp2
  refine hK.out _ _ ?_; clear hK K
  show Code.wp _ _ _ _ _
  clear lx27 fx27
  clear r0
  refine forgetW (fun w2 => Bx w2 (w.heap.size + 1 + 1) 45 #[.bool (decide (z.num < 0)), (.slice ao5 nn5 cc5), (.slice ao6 nn6 cc6)] ∧ Rn w2 (.slice ao5 nn5 cc5) (z.num.natAbs) ∧ Rn w2 (.slice ao6 nn6 cc6) (z.den - 1) ∧ Below w.heap.size w w2) ⟨((((BX27.out).set 0 _).set 1 _).set 2 _).eq (by simp only [rA, rB, rC]), ro3 (BX32.out) (Rn.ne BX32.out BX27.out (by decide)), ro3 (BX33.out) (Rn.ne BX33.out BX27.out (by decide)), sc3 (HB.out.trans (HG.out.mono HB.out.size)) (by show w.heap.size ≤ w.heap.size + 1 + 1; omega)⟩ ?_
  clear HB HG BX21 BX22 BX23 BX24 BX25 BX26 BX27 BX28 BX29 BX30 BX31 BX32 BX33
  rintro Wx3 ⟨bx27, bx32, bx33, HB⟩
  replace HB := Lib.hid HB
  refine wp_ret ?_
  try simp only [Exit.then, Exit.inBlock]
  have lx27 := bx27.cells
  have r0 := Gr.refl Wx3
  exact bodyPost_ret (v := .agg #[.bool (decide (z.num < 0)), (.slice ao5 nn5 cc5), (.slice ao6 nn6 cc6)]) (by simp [results, Tryz.results54, go_sem, lx27 _ r0]) rfl ⟨⟨(.slice ao5 nn5 cc5), (.slice ao6 nn6 cc6), rfl, bx32, bx33⟩, HB.out⟩

theorem qdiv_any (a b z : Rat) (va1 va2 vb1 vb2 : Value) (w : World) (hz : a / b = z) (hs_a : rz a ≤ 40000000) (hs_b : rz b ≤ 40000000) (bx21 : Rn w va1 (a.num.natAbs)) (bx22 : Rn w va2 (a.den - 1)) (bx23 : Rn w vb1 (b.num.natAbs)) (bx24 : Rn w vb2 (b.den - 1)) :
    Calls Tryz.prog 54 #[(Value.agg #[.bool (decide (a.num < 0)), va1, va2]), (Value.agg #[.bool (decide (b.num < 0)), vb1, vb2])] w fun e w' => (∃ r1 r2 : Value, e = .returned (.agg #[.bool (decide (z.num < 0)), r1, r2]) ∧ Rn w' r1 (z.num.natAbs) ∧ Rn w' r2 (z.den - 1)) ∧ Below w.heap.size w w' := by
  cases h : (sgQ b == 0)
  · have hb : b.num ≠ 0 := fun e => by
      have : sgQ b = 0 := by rw [sgQ_num, if_pos e]
      rw [this] at h
      exact absurd h (by decide)
    exact qdiv_ne a b z _ va1 va2 vb1 vb2 w hz (Lib.hid rfl) h (Lib.hid hb) hs_a hs_b bx21 bx22 bx23 bx24
  · have hb : b = 0 := by
      have h2 : sgQ b = 0 := beq_iff_eq.1 h
      rw [sgQ_num] at h2
      split at h2
      · exact num_zero.1 (by assumption)
      · split at h2 <;> simp at h2
    have hz0 : z = 0 := by rw [← hz, hb, Rat.div_def, Rat.inv_zero, Rat.mul_zero]
    subst hz0
    refine (qdiv_zero a b _ va1 va2 vb1 vb2 w (Lib.hid rfl) h bx21 bx22 bx23 bx24).mono ?_
    rintro e w' ⟨rfl, hb'⟩
    exact ⟨⟨_, _, rfl, Rn.zero _, Rn.zero _⟩, hb'⟩

set_option maxRecDepth 20000 in
set_option maxHeartbeats 2000000 in
theorem qcmp_any (a b : Rat) (t : Int) (va1 va2 vb1 vb2 : Value) (w : World) (ht : sgQ (a - b) = t) (hs_a : rz a ≤ 10000000) (hs_b : rz b ≤ 10000000) (bx21 : Rn w va1 (a.num.natAbs)) (bx22 : Rn w va2 (a.den - 1)) (bx23 : Rn w vb1 (b.num.natAbs)) (bx24 : Rn w vb2 (b.den - 1)) :
    Calls Tryz.prog 29 #[(Value.agg #[.bool (decide (a.num < 0)), va1, va2]), (Value.agg #[.bool (decide (b.num < 0)), vb1, vb2])] w fun e w' => e = .returned (.int .i64 (t)) ∧ Below w.heap.size w w' := by
  replace ht := Lib.hid ht
  obtain ⟨ao_va1, n_va1, c_va1, rfl⟩ := Rn.sl bx21
  obtain ⟨ao_va2, n_va2, c_va2, rfl⟩ := Rn.sl bx22
  obtain ⟨ao_vb1, n_vb1, c_vb1, rfl⟩ := Rn.sl bx23
  obtain ⟨ao_vb2, n_vb2, c_vb2, rfl⟩ := Rn.sl bx24
  go_enter Tryz.func29, Tryz.ntmps29
  -- region 0
  refine wp_seq_k fun K hK => ?_
  replace hK := Lib.hid hK
  refine wp_region_lit ?_
  go_wp2
  refine hK.out _ _ ?_; clear hK K
  show Code.wp _ _ _ _ _
  refine forgetW (fun w2 => Rn w2 (.slice ao_va1 n_va1 c_va1) (a.num.natAbs) ∧ Rn w2 (.slice ao_va2 n_va2 c_va2) (a.den - 1) ∧ Rn w2 (.slice ao_vb1 n_vb1 c_vb1) (b.num.natAbs) ∧ Rn w2 (.slice ao_vb2 n_vb2 c_vb2) (b.den - 1) ∧ Bx w2 (w.heap.size) 45 #[.bool (decide (a.num < 0)), (.slice ao_va1 n_va1 c_va1), (.slice ao_va2 n_va2 c_va2)] ∧ Bx w2 (w.heap.size + 1) 45 #[.bool (decide (b.num < 0)), (.slice ao_vb1 n_vb1 c_vb1), (.slice ao_vb2 n_vb2 c_vb2)] ∧ Below w.heap.size w w2) ⟨((bx21).alloc _).alloc _, ((bx22).alloc _).alloc _, ((bx23).alloc _).alloc _, ((bx24).alloc _).alloc _, (Bx.at rfl).alloc _, Bx.at (by simp), ((Below.refl _ _).alloc (Nat.le_refl _) _).alloc (by simp) _⟩ ?_
  clear bx21 bx22 bx23 bx24
  rintro Wx ⟨bx21, bx22, bx23, bx24, bx25, bx26, HB⟩
  replace HB := Lib.hid HB
  -- region 1
  obtain ⟨u1, HZ1⟩ : ∃ z, Hid ((a) - (b) = z) := ⟨_, Lib.hid rfl⟩
  have su1 : rz u1 ≤ 20000001 := by rw [← HZ1.out]; have := rz_sub (a) (b); omega
  have lx25 := bx25.cells
  have lx26 := bx26.cells
  have BX21 := Lib.hid bx21
  have BX22 := Lib.hid bx22
  have BX23 := Lib.hid bx23
  have BX24 := Lib.hid bx24
  have BX25 := Lib.hid bx25
  have BX26 := Lib.hid bx26
  clear bx21 bx22 bx23 bx24 bx25 bx26
  refine wp_seq_k fun K hK => ?_
  replace hK := Lib.hid hK
  have HS0 := Lib.hid (HB.out.size)
  have MX25 : w.heap.size < Wx.heap.size := BX25.out.lt
  have MX26 : w.heap.size + 1 < Wx.heap.size := BX26.out.lt
  refine wp_region_seqplan 5 [(true, 0), (true, 1), (false, 2), (true, 3), (true, 4)] (by rfl) (by simp) (fun T hT => ?_)
  iterate 2
    refine wpPlan_takeL (v := ?_) rfl (by rfl) (fun w' hw => ?_) ?_
    rotate_left
    · go_simp
      with_reducible rfl
    simp only [Act.put, rA, rB, rC]
  refine wpPlan_callE rfl (by rfl) Tryz.call39 (by rfl) (fun w' hw => (qsub_any (a) (b) (u1) _ _ _ _ _ HZ1.out (by omega) (by omega) (BX21.out.gr hw) (BX22.out.gr hw) (BX23.out.gr hw) (BX24.out.gr hw)).mono ?_)
  rintro e vv1 ⟨⟨rv1, rv2, rfl, bx27, bx28⟩, hg0⟩
  obtain ⟨ao1, nn1, cc1, rfl⟩ := Rn.sl bx27
  obtain ⟨ao2, nn2, cc2, rfl⟩ := Rn.sl bx28
  refine ⟨_, rfl, hg0, ?_⟩
  replace hg0 := Gr.trans hw hg0; clear hw
  have HG0 := Lib.hid hg0; clear hg0
  replace BX21 := rG BX21 HG0
  replace BX22 := rG BX22 HG0
  replace BX23 := rG BX23 HG0
  replace BX24 := rG BX24 HG0
  replace BX25 := bG BX25 HG0
  replace BX26 := bG BX26 HG0
  replace HB := Lib.hid (HB.out.trans (HG0.out.mono HB.out.size))
  have BX27 := Lib.hid bx27; clear bx27
  have BX28 := Lib.hid bx28; clear bx28
  clear HG0
  clear lx25; have lx25 := BX25.out.cells
  clear lx26; have lx26 := BX26.out.cells
  simp only [Act.put, rA, rB, rC]
  refine wpPlan_callL rfl (by rfl) Tryz.call18 (fun w' hw => qsign_any (u1) (t) _ _ _ (by rw [← HZ1.out]; exact ht.out) (BX27.out.gr hw) (BX28.out.gr hw)) (by rfl) ?_
  simp only [Act.put, rA, rB, rC]
  iterate 1
    refine wpPlan_takeL (v := ?_) rfl (by rfl) (fun w' hw => ?_) ?_
    rotate_left
    · go_simp
      with_reducible rfl
    simp only [Act.put, rA, rB, rC]
  refine wpPlan_nil (hT.out _ _ ?_); clear hT T
  intro vw1 hg
  simp only [puts, Act.put, rA, rB, rC, rD, rE, ↓reduceIte, Nat.reduceEqDiff]
  clear lx25 lx26
  have HG := Lib.hid (hg)
  clear hg
  replace BX21 := rG BX21 HG
  replace BX22 := rG BX22 HG
  replace BX23 := rG BX23 HG
  replace BX24 := rG BX24 HG
  replace BX25 := bG BX25 HG
  replace BX26 := bG BX26 HG
  replace BX27 := rG BX27 HG
  replace BX28 := rG BX28 HG
  have r0 := Gr.refl vw1
  go_wp2
  refine hK.out _ _ ?_; clear hK K
  show Code.wp _ _ _ _ _
  clear r0
  refine forgetW (fun w2 => Below w.heap.size w w2) (HB.out.trans (HG.out.mono HB.out.size)) ?_
  clear HB HG BX21 BX22 BX23 BX24 BX25 BX26 BX27 BX28
  rintro Wx1 HB
  replace HB := Lib.hid HB
  refine wp_ret ?_
  try simp only [Exit.then, Exit.inBlock]
  have r0 := Gr.refl Wx1
  exact bodyPost_ret (v := .int .i64 (t)) (by simp [results, Tryz.results29, go_sem]) rfl ⟨rfl, HB.out⟩

set_option maxRecDepth 20000 in
set_option maxHeartbeats 2000000 in
theorem qof_ref (n d : Int) (z : Rat) (w : World) (hz : (n : Rat) / (d : Rat) = z) (h1 : -9223372036854775808 ≤ n) (h2 : n ≤ 9223372036854775807) (h3 : -9223372036854775808 ≤ d) (h4 : d ≤ 9223372036854775807)  :
    Calls Tryz.prog 34 #[.int .i64 (n), .int .i64 (d)] w fun e w' => (∃ r1 r2 : Value, e = .returned (.agg #[.bool (decide (z.num < 0)), r1, r2]) ∧ Rn w' r1 (z.num.natAbs) ∧ Rn w' r2 (z.den - 1)) ∧ Below w.heap.size w w' := by
  replace hz := Lib.hid hz
  go_enter Tryz.func34, Tryz.ntmps34
  -- region 0
  refine wp_seq_k fun K hK => ?_
  replace hK := Lib.hid hK
  refine wp_region_lit ?_
  go_wp2
  refine hK.out _ _ ?_; clear hK K
  show Code.wp _ _ _ _ _
  refine forgetW (fun w2 => Bx w2 (w.heap.size) 45 #[.bool false, .slice none 0 0, .slice none 0 0] ∧ Below w.heap.size w w2) ⟨Bx.at rfl, (Below.refl _ _).alloc (Nat.le_refl _) _⟩ ?_
  rintro Wx ⟨bx0, HB⟩
  replace HB := Lib.hid HB
  -- region 1
  obtain ⟨u1, HZ1⟩ : ∃ z, Hid (((n : Int) : Rat) = z) := ⟨_, Lib.hid rfl⟩
  have su1 : rz u1 ≤ 5 := by rw [← HZ1.out]; exact rz_i64 (by omega) (by omega)
  obtain ⟨u2, HZ2⟩ : ∃ z, Hid (((d : Int) : Rat) = z) := ⟨_, Lib.hid rfl⟩
  have su2 : rz u2 ≤ 5 := by rw [← HZ2.out]; exact rz_i64 (by omega) (by omega)
  have HZ3 : Hid ((u1) / (u2) = z) := Lib.hid (by rw [← HZ1.out, ← HZ2.out]; exact hz.out)
  have BX0 := Lib.hid bx0
  clear bx0
  refine wp_seq_k fun K hK => ?_
  replace hK := Lib.hid hK
  have HS0 := Lib.hid (HB.out.size)
  have MX0 : w.heap.size < Wx.heap.size := BX0.out.lt
  refine wp_region_seqplan 5 [(true, 0), (false, 1), (true, 2), (false, 3), (false, 4)] (by rfl) (by simp) (fun T hT => ?_)
  iterate 1
    refine wpPlan_takeL (v := ?_) rfl (by rfl) (fun w' hw => ?_) ?_
    rotate_left
    · go_simp
      with_reducible rfl
    simp only [Act.put, rA, rB, rC]
  refine wpPlan_callE rfl (by rfl) Tryz.call52 (by rfl) (fun w' hw => (qint_any (n) (u1) _ HZ1.out (by omega) (by omega)).mono ?_)
  rintro e vv1 ⟨⟨rv1, rv2, rfl, bx1, bx2⟩, hg0⟩
  obtain ⟨ao1, nn1, cc1, rfl⟩ := Rn.sl bx1
  obtain ⟨ao2, nn2, cc2, rfl⟩ := Rn.sl bx2
  refine ⟨_, rfl, hg0, ?_⟩
  replace hg0 := Gr.trans hw hg0; clear hw
  have HG0 := Lib.hid hg0; clear hg0
  replace BX0 := bG BX0 HG0
  replace HB := Lib.hid (HB.out.trans (HG0.out.mono HB.out.size))
  have BX1 := Lib.hid bx1; clear bx1
  have BX2 := Lib.hid bx2; clear bx2
  clear HG0
  simp only [Act.put, rA, rB, rC]
  iterate 1
    refine wpPlan_takeL (v := ?_) rfl (by rfl) (fun w' hw => ?_) ?_
    rotate_left
    · go_simp
      with_reducible rfl
    simp only [Act.put, rA, rB, rC]
  refine wpPlan_callE rfl (by rfl) Tryz.call52 (by rfl) (fun w' hw => (qint_any (d) (u2) _ HZ2.out (by omega) (by omega)).mono ?_)
  rintro e vv2 ⟨⟨rv3, rv4, rfl, bx3, bx4⟩, hg0⟩
  obtain ⟨ao3, nn3, cc3, rfl⟩ := Rn.sl bx3
  obtain ⟨ao4, nn4, cc4, rfl⟩ := Rn.sl bx4
  refine ⟨_, rfl, hg0, ?_⟩
  replace hg0 := Gr.trans hw hg0; clear hw
  have HG0 := Lib.hid hg0; clear hg0
  replace BX0 := bG BX0 HG0
  replace BX1 := rG BX1 HG0
  replace BX2 := rG BX2 HG0
  replace HB := Lib.hid (HB.out.trans (HG0.out.mono HB.out.size))
  have BX3 := Lib.hid bx3; clear bx3
  have BX4 := Lib.hid bx4; clear bx4
  clear HG0
  simp only [Act.put, rA, rB, rC]
  refine wpPlan_callE rfl (by rfl) Tryz.call54 (by rfl) (fun w' hw => (qdiv_any (u1) (u2) (z) _ _ _ _ _ HZ3.out (by omega) (by omega) (BX1.out.gr hw) (BX2.out.gr hw) (BX3.out.gr hw) (BX4.out.gr hw)).mono ?_)
  rintro e vv3 ⟨⟨rv5, rv6, rfl, bx5, bx6⟩, hg0⟩
  obtain ⟨ao5, nn5, cc5, rfl⟩ := Rn.sl bx5
  obtain ⟨ao6, nn6, cc6, rfl⟩ := Rn.sl bx6
  refine ⟨_, rfl, hg0, ?_⟩
  replace hg0 := Gr.trans hw hg0; clear hw
  have HG0 := Lib.hid hg0; clear hg0
  replace BX0 := bG BX0 HG0
  replace BX1 := rG BX1 HG0
  replace BX2 := rG BX2 HG0
  replace BX3 := rG BX3 HG0
  replace BX4 := rG BX4 HG0
  replace HB := Lib.hid (HB.out.trans (HG0.out.mono HB.out.size))
  have BX5 := Lib.hid bx5; clear bx5
  have BX6 := Lib.hid bx6; clear bx6
  clear HG0
  simp only [Act.put, rA, rB, rC]
  refine wpPlan_nil (hT.out _ _ ?_); clear hT T
  intro vw1 hg
  simp only [puts, Act.put, rA, rB, rC, rD, rE, ↓reduceIte, Nat.reduceEqDiff]
  have HG := Lib.hid (hg)
  clear hg
  replace BX0 := bG BX0 HG
  replace BX1 := rG BX1 HG
  replace BX2 := rG BX2 HG
  replace BX3 := rG BX3 HG
  replace BX4 := rG BX4 HG
  replace BX5 := rG BX5 HG
  replace BX6 := rG BX6 HG
  have lx0 := BX0.out.cells; have fx0 := BX0.out.free
  have r0 := Gr.refl vw1
  go_wp2
  refine hK.out _ _ ?_; clear hK K
  show Code.wp _ _ _ _ _
  clear lx0 fx0
  clear r0
  refine forgetW (fun w2 => Bx w2 (w.heap.size) 45 #[.bool (decide (z.num < 0)), (.slice ao5 nn5 cc5), (.slice ao6 nn6 cc6)] ∧ Rn w2 (.slice ao5 nn5 cc5) (z.num.natAbs) ∧ Rn w2 (.slice ao6 nn6 cc6) (z.den - 1) ∧ Below w.heap.size w w2) ⟨((((BX0.out).set 0 _).set 1 _).set 2 _).eq (by simp only [rA, rB, rC]), ro3 (BX5.out) (Rn.ne BX5.out BX0.out (by decide)), ro3 (BX6.out) (Rn.ne BX6.out BX0.out (by decide)), sc3 (HB.out.trans (HG.out.mono HB.out.size)) (by show w.heap.size ≤ w.heap.size; omega)⟩ ?_
  clear HB HG BX0 BX1 BX2 BX3 BX4 BX5 BX6
  rintro Wx1 ⟨bx0, bx5, bx6, HB⟩
  replace HB := Lib.hid HB
  refine wp_ret ?_
  try simp only [Exit.then, Exit.inBlock]
  have lx0 := bx0.cells
  have r0 := Gr.refl Wx1
  exact bodyPost_ret (v := .agg #[.bool (decide (z.num < 0)), (.slice ao5 nn5 cc5), (.slice ao6 nn6 cc6)]) (by simp [results, Tryz.results34, go_sem, lx0 _ r0]) rfl ⟨⟨(.slice ao5 nn5 cc5), (.slice ao6 nn6 cc6), rfl, bx5, bx6⟩, HB.out⟩

end Go.Proofs.YtenpbnmmadbkdaaGreat


/- gussetref23: Add, Sub, Cross, Dot, Square. -/
namespace Go.Proofs.YtenpbnmmadbkdaaGreat
open Go.RowKit
set_option linter.unusedSimpArgs false
set_option linter.unusedVariables false
attribute [local go_sem ↓] Go.wp_at_zero Go.wp_at_succ
theorem rz_cross (a b c d : Rat) : rz (a * d - b * c) ≤ rz a + rz b + rz c + rz d + 1 := by
  have h1 := rz_mul a d; have h2 := rz_mul b c; have h3 := rz_sub (a * d) (b * c); omega
theorem rz_dot (a b c d : Rat) : rz (a * c + b * d) ≤ rz a + rz b + rz c + rz d + 1 := by
  have h1 := rz_mul a c; have h2 := rz_mul b d; have h3 := rz_add (a * c) (b * d); omega
theorem rz_square (a b c d : Rat) : rz ((a - c) * (a - c) + (b - d) * (b - d)) ≤ 2 * (rz a + rz b + rz c + rz d) + 5 := by
  have h1 := rz_sub a c; have h2 := rz_sub b d; have h3 := rz_dot (a - c) (b - d) (a - c) (b - d); omega

set_option maxRecDepth 20000 in
set_option maxHeartbeats 2000000 in
theorem rpadd (a1 a2 b1 b2 z1 z2 : Rat) (va11 va12 va21 va22 vb11 vb12 vb21 vb22 : Value) (w : World) (hz1 : a1 + b1 = z1) (hz2 : a2 + b2 = z2) (hs_a1 : rz a1 ≤ 40000000) (hs_a2 : rz a2 ≤ 40000000) (hs_b1 : rz b1 ≤ 40000000) (hs_b2 : rz b2 ≤ 40000000) (bx21 : Rn w va11 (a1.num.natAbs)) (bx22 : Rn w va12 (a1.den - 1)) (bx23 : Rn w va21 (a2.num.natAbs)) (bx24 : Rn w va22 (a2.den - 1)) (bx25 : Rn w vb11 (b1.num.natAbs)) (bx26 : Rn w vb12 (b1.den - 1)) (bx27 : Rn w vb21 (b2.num.natAbs)) (bx28 : Rn w vb22 (b2.den - 1)) :
    Calls Tryz.prog 53 #[(Value.agg #[.bool (decide (a1.num < 0)), va11, va12, .bool (decide (a2.num < 0)), va21, va22]), (Value.agg #[.bool (decide (b1.num < 0)), vb11, vb12, .bool (decide (b2.num < 0)), vb21, vb22])] w fun e w' => (∃ r1 r2 r3 r4 : Value, e = .returned (.agg #[.bool (decide (z1.num < 0)), r1, r2, .bool (decide (z2.num < 0)), r3, r4]) ∧ Rn w' r1 (z1.num.natAbs) ∧ Rn w' r2 (z1.den - 1) ∧ Rn w' r3 (z2.num.natAbs) ∧ Rn w' r4 (z2.den - 1)) ∧ Below w.heap.size w w' := by
  replace hz1 := Lib.hid hz1
  replace hz2 := Lib.hid hz2
  obtain ⟨ao_va11, n_va11, c_va11, rfl⟩ := Rn.sl bx21
  obtain ⟨ao_va12, n_va12, c_va12, rfl⟩ := Rn.sl bx22
  obtain ⟨ao_va21, n_va21, c_va21, rfl⟩ := Rn.sl bx23
  obtain ⟨ao_va22, n_va22, c_va22, rfl⟩ := Rn.sl bx24
  obtain ⟨ao_vb11, n_vb11, c_vb11, rfl⟩ := Rn.sl bx25
  obtain ⟨ao_vb12, n_vb12, c_vb12, rfl⟩ := Rn.sl bx26
  obtain ⟨ao_vb21, n_vb21, c_vb21, rfl⟩ := Rn.sl bx27
  obtain ⟨ao_vb22, n_vb22, c_vb22, rfl⟩ := Rn.sl bx28
  go_enter Tryz.func53, Tryz.ntmps53
  -- region 0
  refine wp_seq_k fun K hK => ?_
  replace hK := Lib.hid hK
  refine wp_region_lit ?_
  go_wp2
  refine hK.out _ _ ?_; clear hK K
  show Code.wp _ _ _ _ _
  refine forgetW (fun w2 => Rn w2 (.slice ao_va11 n_va11 c_va11) (a1.num.natAbs) ∧ Rn w2 (.slice ao_va12 n_va12 c_va12) (a1.den - 1) ∧ Rn w2 (.slice ao_va21 n_va21 c_va21) (a2.num.natAbs) ∧ Rn w2 (.slice ao_va22 n_va22 c_va22) (a2.den - 1) ∧ Rn w2 (.slice ao_vb11 n_vb11 c_vb11) (b1.num.natAbs) ∧ Rn w2 (.slice ao_vb12 n_vb12 c_vb12) (b1.den - 1) ∧ Rn w2 (.slice ao_vb21 n_vb21 c_vb21) (b2.num.natAbs) ∧ Rn w2 (.slice ao_vb22 n_vb22 c_vb22) (b2.den - 1) ∧ Bx w2 (w.heap.size) 47 #[.bool (decide (a1.num < 0)), (.slice ao_va11 n_va11 c_va11), (.slice ao_va12 n_va12 c_va12), .bool (decide (a2.num < 0)), (.slice ao_va21 n_va21 c_va21), (.slice ao_va22 n_va22 c_va22)] ∧ Bx w2 (w.heap.size + 1) 47 #[.bool (decide (b1.num < 0)), (.slice ao_vb11 n_vb11 c_vb11), (.slice ao_vb12 n_vb12 c_vb12), .bool (decide (b2.num < 0)), (.slice ao_vb21 n_vb21 c_vb21), (.slice ao_vb22 n_vb22 c_vb22)] ∧ Bx w2 (w.heap.size + 1 + 1) 47 #[.bool false, .slice none 0 0, .slice none 0 0, .bool false, .slice none 0 0, .slice none 0 0] ∧ Below w.heap.size w w2) ⟨(((bx21).alloc _).alloc _).alloc _, (((bx22).alloc _).alloc _).alloc _, (((bx23).alloc _).alloc _).alloc _, (((bx24).alloc _).alloc _).alloc _, (((bx25).alloc _).alloc _).alloc _, (((bx26).alloc _).alloc _).alloc _, (((bx27).alloc _).alloc _).alloc _, (((bx28).alloc _).alloc _).alloc _, ((Bx.at rfl).alloc _).alloc _, (Bx.at (by simp)).alloc _, Bx.at (by simp), (((Below.refl _ _).alloc (Nat.le_refl _) _).alloc (by simp) _).alloc (by simp; omega) _⟩ ?_
  clear bx21 bx22 bx23 bx24 bx25 bx26 bx27 bx28
  rintro Wx ⟨bx21, bx22, bx23, bx24, bx25, bx26, bx27, bx28, bx29, bx30, bx31, HB⟩
  replace HB := Lib.hid HB
  -- region 1
  have HZ1 : Hid ((a1) + (b1) = z1) := Lib.hid (hz1.out)
  have HZ2 : Hid ((a2) + (b2) = z2) := Lib.hid (hz2.out)
  have lx29 := bx29.cells
  have lx30 := bx30.cells
  have BX21 := Lib.hid bx21
  have BX22 := Lib.hid bx22
  have BX23 := Lib.hid bx23
  have BX24 := Lib.hid bx24
  have BX25 := Lib.hid bx25
  have BX26 := Lib.hid bx26
  have BX27 := Lib.hid bx27
  have BX28 := Lib.hid bx28
  have BX29 := Lib.hid bx29
  have BX30 := Lib.hid bx30
  have BX31 := Lib.hid bx31
  clear bx21 bx22 bx23 bx24 bx25 bx26 bx27 bx28 bx29 bx30 bx31
  refine wp_seq_k fun K hK => ?_
  replace hK := Lib.hid hK
  have HS0 := Lib.hid (HB.out.size)
  have MX29 : w.heap.size < Wx.heap.size := BX29.out.lt
  have MX30 : w.heap.size + 1 < Wx.heap.size := BX30.out.lt
  have MX31 : w.heap.size + 1 + 1 < Wx.heap.size := BX31.out.lt
  refine wp_region_plan 11 [] [] (fun _ => 0) (fun _ => .cells #[] 0) [(true, 0), (true, 1), (true, 2), (true, 3), (true, 5), (true, 6), (true, 7), (true, 8), (false, 4), (false, 9), (true, 10)] (by kernel_rfl) (by kernel_rfl) (fun i hi => by cases hi) (fun i hi => by cases hi) (fun _ _ _ _ _ h => h) (fun T hT => ?_)
  iterate 8
    refine wpPlan_takeL (v := ?_) rfl (by rfl) (fun w' hw => ?_) ?_
    rotate_left
    · go_simp
      with_reducible rfl
    simp only [Act.put, rA, rB, rC]
  refine wpPlan_callE rfl (by rfl) Tryz.call42 (by rfl) (fun w' hw => (qadd_any (a1) (b1) (z1) _ _ _ _ _ HZ1.out (by omega) (by omega) (BX21.out.gr hw) (BX22.out.gr hw) (BX25.out.gr hw) (BX26.out.gr hw)).mono ?_)
  rintro e vv1 ⟨⟨rv1, rv2, rfl, bx32, bx33⟩, hg0⟩
  obtain ⟨ao1, nn1, cc1, rfl⟩ := Rn.sl bx32
  obtain ⟨ao2, nn2, cc2, rfl⟩ := Rn.sl bx33
  refine ⟨_, rfl, hg0, ?_⟩
  replace hg0 := Gr.trans hw hg0; clear hw
  have HG0 := Lib.hid hg0; clear hg0
  replace BX21 := rG BX21 HG0
  replace BX22 := rG BX22 HG0
  replace BX23 := rG BX23 HG0
  replace BX24 := rG BX24 HG0
  replace BX25 := rG BX25 HG0
  replace BX26 := rG BX26 HG0
  replace BX27 := rG BX27 HG0
  replace BX28 := rG BX28 HG0
  replace BX29 := bG BX29 HG0
  replace BX30 := bG BX30 HG0
  replace BX31 := bG BX31 HG0
  replace HB := Lib.hid (HB.out.trans (HG0.out.mono HB.out.size))
  have BX32 := Lib.hid bx32; clear bx32
  have BX33 := Lib.hid bx33; clear bx33
  clear HG0
  clear lx29; have lx29 := BX29.out.cells
  clear lx30; have lx30 := BX30.out.cells
  simp only [Act.put, rA, rB, rC]
  refine wpPlan_callE rfl (by rfl) Tryz.call42 (by rfl) (fun w' hw => (qadd_any (a2) (b2) (z2) _ _ _ _ _ HZ2.out (by omega) (by omega) (BX23.out.gr hw) (BX24.out.gr hw) (BX27.out.gr hw) (BX28.out.gr hw)).mono ?_)
  rintro e vv2 ⟨⟨rv3, rv4, rfl, bx34, bx35⟩, hg0⟩
  obtain ⟨ao3, nn3, cc3, rfl⟩ := Rn.sl bx34
  obtain ⟨ao4, nn4, cc4, rfl⟩ := Rn.sl bx35
  refine ⟨_, rfl, hg0, ?_⟩
  replace hg0 := Gr.trans hw hg0; clear hw
  have HG0 := Lib.hid hg0; clear hg0
  replace BX21 := rG BX21 HG0
  replace BX22 := rG BX22 HG0
  replace BX23 := rG BX23 HG0
  replace BX24 := rG BX24 HG0
  replace BX25 := rG BX25 HG0
  replace BX26 := rG BX26 HG0
  replace BX27 := rG BX27 HG0
  replace BX28 := rG BX28 HG0
  replace BX29 := bG BX29 HG0
  replace BX30 := bG BX30 HG0
  replace BX31 := bG BX31 HG0
  replace BX32 := rG BX32 HG0
  replace BX33 := rG BX33 HG0
  replace HB := Lib.hid (HB.out.trans (HG0.out.mono HB.out.size))
  have BX34 := Lib.hid bx34; clear bx34
  have BX35 := Lib.hid bx35; clear bx35
  clear HG0
  clear lx29; have lx29 := BX29.out.cells
  clear lx30; have lx30 := BX30.out.cells
  simp only [Act.put, rA, rB, rC]
  iterate 1
    refine wpPlan_takeL (v := ?_) rfl (by rfl) (fun w' hw => ?_) ?_
    rotate_left
    · go_simp
      with_reducible rfl
    simp only [Act.put, rA, rB, rC]
  refine wpPlan_nil (hT.out _ _ ?_); clear hT T
  intro G vw1 hg hf
  simp only [puts, Act.put, rA, rB, rC, rD, rE, ↓reduceIte, Nat.reduceEqDiff]
  clear lx29 lx30
  have HG := Lib.hid (hg)
  clear hg
  replace BX21 := rG BX21 HG
  replace BX22 := rG BX22 HG
  replace BX23 := rG BX23 HG
  replace BX24 := rG BX24 HG
  replace BX25 := rG BX25 HG
  replace BX26 := rG BX26 HG
  replace BX27 := rG BX27 HG
  replace BX28 := rG BX28 HG
  replace BX29 := bG BX29 HG
  replace BX30 := bG BX30 HG
  replace BX31 := bG BX31 HG
  replace BX32 := rG BX32 HG
  replace BX33 := rG BX33 HG
  replace BX34 := rG BX34 HG
  replace BX35 := rG BX35 HG
  have lx31 := BX31.out.cells; have fx31 := BX31.out.free
  have r0 := Gr.refl vw1
  go_wp2
  refine hK.out _ _ ?_; clear hK K
  show Code.wp _ _ _ _ _
  clear lx31 fx31
  clear r0
  refine forgetW (fun w2 => Bx w2 (w.heap.size + 1 + 1) 47 #[.bool (decide (z1.num < 0)), (.slice ao1 nn1 cc1), (.slice ao2 nn2 cc2), .bool (decide (z2.num < 0)), (.slice ao3 nn3 cc3), (.slice ao4 nn4 cc4)] ∧ Rn w2 (.slice ao1 nn1 cc1) (z1.num.natAbs) ∧ Rn w2 (.slice ao2 nn2 cc2) (z1.den - 1) ∧ Rn w2 (.slice ao3 nn3 cc3) (z2.num.natAbs) ∧ Rn w2 (.slice ao4 nn4 cc4) (z2.den - 1) ∧ Below w.heap.size w w2) ⟨(((((((BX31.out).set 0 _).set 1 _).set 2 _).set 3 _).set 4 _).set 5 _).eq (by simp only [rA, rB, rC]), ro6 (BX32.out) (Rn.ne BX32.out BX31.out (by decide)), ro6 (BX33.out) (Rn.ne BX33.out BX31.out (by decide)), ro6 (BX34.out) (Rn.ne BX34.out BX31.out (by decide)), ro6 (BX35.out) (Rn.ne BX35.out BX31.out (by decide)), sc6 (HB.out.trans (HG.out.mono HB.out.size)) (by show w.heap.size ≤ w.heap.size + 1 + 1; omega)⟩ ?_
  clear HB HG BX21 BX22 BX23 BX24 BX25 BX26 BX27 BX28 BX29 BX30 BX31 BX32 BX33 BX34 BX35
  rintro Wx1 ⟨bx31, bx32, bx33, bx34, bx35, HB⟩
  replace HB := Lib.hid HB
  refine wp_ret ?_
  try simp only [Exit.then, Exit.inBlock]
  have lx31 := bx31.cells
  have r0 := Gr.refl Wx1
  exact bodyPost_ret (v := .agg #[.bool (decide (z1.num < 0)), (.slice ao1 nn1 cc1), (.slice ao2 nn2 cc2), .bool (decide (z2.num < 0)), (.slice ao3 nn3 cc3), (.slice ao4 nn4 cc4)]) (by simp [results, Tryz.results53, go_sem, lx31 _ r0]) rfl ⟨⟨(.slice ao1 nn1 cc1), (.slice ao2 nn2 cc2), (.slice ao3 nn3 cc3), (.slice ao4 nn4 cc4), rfl, bx32, bx33, bx34, bx35⟩, HB.out⟩

set_option maxRecDepth 20000 in
set_option maxHeartbeats 2000000 in
theorem rpsub (a1 a2 b1 b2 z1 z2 : Rat) (va11 va12 va21 va22 vb11 vb12 vb21 vb22 : Value) (w : World) (hz1 : a1 - b1 = z1) (hz2 : a2 - b2 = z2) (hs_a1 : rz a1 ≤ 40000000) (hs_a2 : rz a2 ≤ 40000000) (hs_b1 : rz b1 ≤ 40000000) (hs_b2 : rz b2 ≤ 40000000) (bx21 : Rn w va11 (a1.num.natAbs)) (bx22 : Rn w va12 (a1.den - 1)) (bx23 : Rn w va21 (a2.num.natAbs)) (bx24 : Rn w va22 (a2.den - 1)) (bx25 : Rn w vb11 (b1.num.natAbs)) (bx26 : Rn w vb12 (b1.den - 1)) (bx27 : Rn w vb21 (b2.num.natAbs)) (bx28 : Rn w vb22 (b2.den - 1)) :
    Calls Tryz.prog 20 #[(Value.agg #[.bool (decide (a1.num < 0)), va11, va12, .bool (decide (a2.num < 0)), va21, va22]), (Value.agg #[.bool (decide (b1.num < 0)), vb11, vb12, .bool (decide (b2.num < 0)), vb21, vb22])] w fun e w' => (∃ r1 r2 r3 r4 : Value, e = .returned (.agg #[.bool (decide (z1.num < 0)), r1, r2, .bool (decide (z2.num < 0)), r3, r4]) ∧ Rn w' r1 (z1.num.natAbs) ∧ Rn w' r2 (z1.den - 1) ∧ Rn w' r3 (z2.num.natAbs) ∧ Rn w' r4 (z2.den - 1)) ∧ Below w.heap.size w w' := by
  replace hz1 := Lib.hid hz1
  replace hz2 := Lib.hid hz2
  obtain ⟨ao_va11, n_va11, c_va11, rfl⟩ := Rn.sl bx21
  obtain ⟨ao_va12, n_va12, c_va12, rfl⟩ := Rn.sl bx22
  obtain ⟨ao_va21, n_va21, c_va21, rfl⟩ := Rn.sl bx23
  obtain ⟨ao_va22, n_va22, c_va22, rfl⟩ := Rn.sl bx24
  obtain ⟨ao_vb11, n_vb11, c_vb11, rfl⟩ := Rn.sl bx25
  obtain ⟨ao_vb12, n_vb12, c_vb12, rfl⟩ := Rn.sl bx26
  obtain ⟨ao_vb21, n_vb21, c_vb21, rfl⟩ := Rn.sl bx27
  obtain ⟨ao_vb22, n_vb22, c_vb22, rfl⟩ := Rn.sl bx28
  go_enter Tryz.func20, Tryz.ntmps20
  -- region 0
  refine wp_seq_k fun K hK => ?_
  replace hK := Lib.hid hK
  refine wp_region_lit ?_
  go_wp2
  refine hK.out _ _ ?_; clear hK K
  show Code.wp _ _ _ _ _
  refine forgetW (fun w2 => Rn w2 (.slice ao_va11 n_va11 c_va11) (a1.num.natAbs) ∧ Rn w2 (.slice ao_va12 n_va12 c_va12) (a1.den - 1) ∧ Rn w2 (.slice ao_va21 n_va21 c_va21) (a2.num.natAbs) ∧ Rn w2 (.slice ao_va22 n_va22 c_va22) (a2.den - 1) ∧ Rn w2 (.slice ao_vb11 n_vb11 c_vb11) (b1.num.natAbs) ∧ Rn w2 (.slice ao_vb12 n_vb12 c_vb12) (b1.den - 1) ∧ Rn w2 (.slice ao_vb21 n_vb21 c_vb21) (b2.num.natAbs) ∧ Rn w2 (.slice ao_vb22 n_vb22 c_vb22) (b2.den - 1) ∧ Bx w2 (w.heap.size) 47 #[.bool (decide (a1.num < 0)), (.slice ao_va11 n_va11 c_va11), (.slice ao_va12 n_va12 c_va12), .bool (decide (a2.num < 0)), (.slice ao_va21 n_va21 c_va21), (.slice ao_va22 n_va22 c_va22)] ∧ Bx w2 (w.heap.size + 1) 47 #[.bool (decide (b1.num < 0)), (.slice ao_vb11 n_vb11 c_vb11), (.slice ao_vb12 n_vb12 c_vb12), .bool (decide (b2.num < 0)), (.slice ao_vb21 n_vb21 c_vb21), (.slice ao_vb22 n_vb22 c_vb22)] ∧ Bx w2 (w.heap.size + 1 + 1) 47 #[.bool false, .slice none 0 0, .slice none 0 0, .bool false, .slice none 0 0, .slice none 0 0] ∧ Below w.heap.size w w2) ⟨(((bx21).alloc _).alloc _).alloc _, (((bx22).alloc _).alloc _).alloc _, (((bx23).alloc _).alloc _).alloc _, (((bx24).alloc _).alloc _).alloc _, (((bx25).alloc _).alloc _).alloc _, (((bx26).alloc _).alloc _).alloc _, (((bx27).alloc _).alloc _).alloc _, (((bx28).alloc _).alloc _).alloc _, ((Bx.at rfl).alloc _).alloc _, (Bx.at (by simp)).alloc _, Bx.at (by simp), (((Below.refl _ _).alloc (Nat.le_refl _) _).alloc (by simp) _).alloc (by simp; omega) _⟩ ?_
  clear bx21 bx22 bx23 bx24 bx25 bx26 bx27 bx28
  rintro Wx ⟨bx21, bx22, bx23, bx24, bx25, bx26, bx27, bx28, bx29, bx30, bx31, HB⟩
  replace HB := Lib.hid HB
  -- region 1
  have HZ1 : Hid ((a1) - (b1) = z1) := Lib.hid (hz1.out)
  have HZ2 : Hid ((a2) - (b2) = z2) := Lib.hid (hz2.out)
  have lx29 := bx29.cells
  have lx30 := bx30.cells
  have BX21 := Lib.hid bx21
  have BX22 := Lib.hid bx22
  have BX23 := Lib.hid bx23
  have BX24 := Lib.hid bx24
  have BX25 := Lib.hid bx25
  have BX26 := Lib.hid bx26
  have BX27 := Lib.hid bx27
  have BX28 := Lib.hid bx28
  have BX29 := Lib.hid bx29
  have BX30 := Lib.hid bx30
  have BX31 := Lib.hid bx31
  clear bx21 bx22 bx23 bx24 bx25 bx26 bx27 bx28 bx29 bx30 bx31
  refine wp_seq_k fun K hK => ?_
  replace hK := Lib.hid hK
  have HS0 := Lib.hid (HB.out.size)
  have MX29 : w.heap.size < Wx.heap.size := BX29.out.lt
  have MX30 : w.heap.size + 1 < Wx.heap.size := BX30.out.lt
  have MX31 : w.heap.size + 1 + 1 < Wx.heap.size := BX31.out.lt
  refine wp_region_plan 11 [] [] (fun _ => 0) (fun _ => .cells #[] 0) [(true, 0), (true, 1), (true, 2), (true, 3), (true, 5), (true, 6), (true, 7), (true, 8), (false, 4), (false, 9), (true, 10)] (by kernel_rfl) (by kernel_rfl) (fun i hi => by cases hi) (fun i hi => by cases hi) (fun _ _ _ _ _ h => h) (fun T hT => ?_)
  iterate 8
    refine wpPlan_takeL (v := ?_) rfl (by rfl) (fun w' hw => ?_) ?_
    rotate_left
    · go_simp
      with_reducible rfl
    simp only [Act.put, rA, rB, rC]
  refine wpPlan_callE rfl (by rfl) Tryz.call39 (by rfl) (fun w' hw => (qsub_any (a1) (b1) (z1) _ _ _ _ _ HZ1.out (by omega) (by omega) (BX21.out.gr hw) (BX22.out.gr hw) (BX25.out.gr hw) (BX26.out.gr hw)).mono ?_)
  rintro e vv1 ⟨⟨rv1, rv2, rfl, bx32, bx33⟩, hg0⟩
  obtain ⟨ao1, nn1, cc1, rfl⟩ := Rn.sl bx32
  obtain ⟨ao2, nn2, cc2, rfl⟩ := Rn.sl bx33
  refine ⟨_, rfl, hg0, ?_⟩
  replace hg0 := Gr.trans hw hg0; clear hw
  have HG0 := Lib.hid hg0; clear hg0
  replace BX21 := rG BX21 HG0
  replace BX22 := rG BX22 HG0
  replace BX23 := rG BX23 HG0
  replace BX24 := rG BX24 HG0
  replace BX25 := rG BX25 HG0
  replace BX26 := rG BX26 HG0
  replace BX27 := rG BX27 HG0
  replace BX28 := rG BX28 HG0
  replace BX29 := bG BX29 HG0
  replace BX30 := bG BX30 HG0
  replace BX31 := bG BX31 HG0
  replace HB := Lib.hid (HB.out.trans (HG0.out.mono HB.out.size))
  have BX32 := Lib.hid bx32; clear bx32
  have BX33 := Lib.hid bx33; clear bx33
  clear HG0
  clear lx29; have lx29 := BX29.out.cells
  clear lx30; have lx30 := BX30.out.cells
  simp only [Act.put, rA, rB, rC]
  refine wpPlan_callE rfl (by rfl) Tryz.call39 (by rfl) (fun w' hw => (qsub_any (a2) (b2) (z2) _ _ _ _ _ HZ2.out (by omega) (by omega) (BX23.out.gr hw) (BX24.out.gr hw) (BX27.out.gr hw) (BX28.out.gr hw)).mono ?_)
  rintro e vv2 ⟨⟨rv3, rv4, rfl, bx34, bx35⟩, hg0⟩
  obtain ⟨ao3, nn3, cc3, rfl⟩ := Rn.sl bx34
  obtain ⟨ao4, nn4, cc4, rfl⟩ := Rn.sl bx35
  refine ⟨_, rfl, hg0, ?_⟩
  replace hg0 := Gr.trans hw hg0; clear hw
  have HG0 := Lib.hid hg0; clear hg0
  replace BX21 := rG BX21 HG0
  replace BX22 := rG BX22 HG0
  replace BX23 := rG BX23 HG0
  replace BX24 := rG BX24 HG0
  replace BX25 := rG BX25 HG0
  replace BX26 := rG BX26 HG0
  replace BX27 := rG BX27 HG0
  replace BX28 := rG BX28 HG0
  replace BX29 := bG BX29 HG0
  replace BX30 := bG BX30 HG0
  replace BX31 := bG BX31 HG0
  replace BX32 := rG BX32 HG0
  replace BX33 := rG BX33 HG0
  replace HB := Lib.hid (HB.out.trans (HG0.out.mono HB.out.size))
  have BX34 := Lib.hid bx34; clear bx34
  have BX35 := Lib.hid bx35; clear bx35
  clear HG0
  clear lx29; have lx29 := BX29.out.cells
  clear lx30; have lx30 := BX30.out.cells
  simp only [Act.put, rA, rB, rC]
  iterate 1
    refine wpPlan_takeL (v := ?_) rfl (by rfl) (fun w' hw => ?_) ?_
    rotate_left
    · go_simp
      with_reducible rfl
    simp only [Act.put, rA, rB, rC]
  refine wpPlan_nil (hT.out _ _ ?_); clear hT T
  intro G vw1 hg hf
  simp only [puts, Act.put, rA, rB, rC, rD, rE, ↓reduceIte, Nat.reduceEqDiff]
  clear lx29 lx30
  have HG := Lib.hid (hg)
  clear hg
  replace BX21 := rG BX21 HG
  replace BX22 := rG BX22 HG
  replace BX23 := rG BX23 HG
  replace BX24 := rG BX24 HG
  replace BX25 := rG BX25 HG
  replace BX26 := rG BX26 HG
  replace BX27 := rG BX27 HG
  replace BX28 := rG BX28 HG
  replace BX29 := bG BX29 HG
  replace BX30 := bG BX30 HG
  replace BX31 := bG BX31 HG
  replace BX32 := rG BX32 HG
  replace BX33 := rG BX33 HG
  replace BX34 := rG BX34 HG
  replace BX35 := rG BX35 HG
  have lx31 := BX31.out.cells; have fx31 := BX31.out.free
  have r0 := Gr.refl vw1
  go_wp2
  refine hK.out _ _ ?_; clear hK K
  show Code.wp _ _ _ _ _
  clear lx31 fx31
  clear r0
  refine forgetW (fun w2 => Bx w2 (w.heap.size + 1 + 1) 47 #[.bool (decide (z1.num < 0)), (.slice ao1 nn1 cc1), (.slice ao2 nn2 cc2), .bool (decide (z2.num < 0)), (.slice ao3 nn3 cc3), (.slice ao4 nn4 cc4)] ∧ Rn w2 (.slice ao1 nn1 cc1) (z1.num.natAbs) ∧ Rn w2 (.slice ao2 nn2 cc2) (z1.den - 1) ∧ Rn w2 (.slice ao3 nn3 cc3) (z2.num.natAbs) ∧ Rn w2 (.slice ao4 nn4 cc4) (z2.den - 1) ∧ Below w.heap.size w w2) ⟨(((((((BX31.out).set 0 _).set 1 _).set 2 _).set 3 _).set 4 _).set 5 _).eq (by simp only [rA, rB, rC]), ro6 (BX32.out) (Rn.ne BX32.out BX31.out (by decide)), ro6 (BX33.out) (Rn.ne BX33.out BX31.out (by decide)), ro6 (BX34.out) (Rn.ne BX34.out BX31.out (by decide)), ro6 (BX35.out) (Rn.ne BX35.out BX31.out (by decide)), sc6 (HB.out.trans (HG.out.mono HB.out.size)) (by show w.heap.size ≤ w.heap.size + 1 + 1; omega)⟩ ?_
  clear HB HG BX21 BX22 BX23 BX24 BX25 BX26 BX27 BX28 BX29 BX30 BX31 BX32 BX33 BX34 BX35
  rintro Wx1 ⟨bx31, bx32, bx33, bx34, bx35, HB⟩
  replace HB := Lib.hid HB
  refine wp_ret ?_
  try simp only [Exit.then, Exit.inBlock]
  have lx31 := bx31.cells
  have r0 := Gr.refl Wx1
  exact bodyPost_ret (v := .agg #[.bool (decide (z1.num < 0)), (.slice ao1 nn1 cc1), (.slice ao2 nn2 cc2), .bool (decide (z2.num < 0)), (.slice ao3 nn3 cc3), (.slice ao4 nn4 cc4)]) (by simp [results, Tryz.results20, go_sem, lx31 _ r0]) rfl ⟨⟨(.slice ao1 nn1 cc1), (.slice ao2 nn2 cc2), (.slice ao3 nn3 cc3), (.slice ao4 nn4 cc4), rfl, bx32, bx33, bx34, bx35⟩, HB.out⟩

set_option maxRecDepth 20000 in
set_option maxHeartbeats 2000000 in
theorem rpcross (a1 a2 b1 b2 z : Rat) (va11 va12 va21 va22 vb11 vb12 vb21 vb22 : Value) (w : World) (hz : a1 * b2 - a2 * b1 = z) (hs_a1 : rz a1 ≤ 10000000) (hs_a2 : rz a2 ≤ 10000000) (hs_b1 : rz b1 ≤ 10000000) (hs_b2 : rz b2 ≤ 10000000) (bx21 : Rn w va11 (a1.num.natAbs)) (bx22 : Rn w va12 (a1.den - 1)) (bx23 : Rn w va21 (a2.num.natAbs)) (bx24 : Rn w va22 (a2.den - 1)) (bx25 : Rn w vb11 (b1.num.natAbs)) (bx26 : Rn w vb12 (b1.den - 1)) (bx27 : Rn w vb21 (b2.num.natAbs)) (bx28 : Rn w vb22 (b2.den - 1)) :
    Calls Tryz.prog 19 #[(Value.agg #[.bool (decide (a1.num < 0)), va11, va12, .bool (decide (a2.num < 0)), va21, va22]), (Value.agg #[.bool (decide (b1.num < 0)), vb11, vb12, .bool (decide (b2.num < 0)), vb21, vb22])] w fun e w' => (∃ r1 r2 : Value, e = .returned (.agg #[.bool (decide (z.num < 0)), r1, r2]) ∧ Rn w' r1 (z.num.natAbs) ∧ Rn w' r2 (z.den - 1)) ∧ Below w.heap.size w w' := by
  replace hz := Lib.hid hz
  obtain ⟨ao_va11, n_va11, c_va11, rfl⟩ := Rn.sl bx21
  obtain ⟨ao_va12, n_va12, c_va12, rfl⟩ := Rn.sl bx22
  obtain ⟨ao_va21, n_va21, c_va21, rfl⟩ := Rn.sl bx23
  obtain ⟨ao_va22, n_va22, c_va22, rfl⟩ := Rn.sl bx24
  obtain ⟨ao_vb11, n_vb11, c_vb11, rfl⟩ := Rn.sl bx25
  obtain ⟨ao_vb12, n_vb12, c_vb12, rfl⟩ := Rn.sl bx26
  obtain ⟨ao_vb21, n_vb21, c_vb21, rfl⟩ := Rn.sl bx27
  obtain ⟨ao_vb22, n_vb22, c_vb22, rfl⟩ := Rn.sl bx28
  go_enter Tryz.func19, Tryz.ntmps19
  -- region 0
  refine wp_seq_k fun K hK => ?_
  replace hK := Lib.hid hK
  refine wp_region_lit ?_
  go_wp2
  refine hK.out _ _ ?_; clear hK K
  show Code.wp _ _ _ _ _
  refine forgetW (fun w2 => Rn w2 (.slice ao_va11 n_va11 c_va11) (a1.num.natAbs) ∧ Rn w2 (.slice ao_va12 n_va12 c_va12) (a1.den - 1) ∧ Rn w2 (.slice ao_va21 n_va21 c_va21) (a2.num.natAbs) ∧ Rn w2 (.slice ao_va22 n_va22 c_va22) (a2.den - 1) ∧ Rn w2 (.slice ao_vb11 n_vb11 c_vb11) (b1.num.natAbs) ∧ Rn w2 (.slice ao_vb12 n_vb12 c_vb12) (b1.den - 1) ∧ Rn w2 (.slice ao_vb21 n_vb21 c_vb21) (b2.num.natAbs) ∧ Rn w2 (.slice ao_vb22 n_vb22 c_vb22) (b2.den - 1) ∧ Bx w2 (w.heap.size) 47 #[.bool (decide (a1.num < 0)), (.slice ao_va11 n_va11 c_va11), (.slice ao_va12 n_va12 c_va12), .bool (decide (a2.num < 0)), (.slice ao_va21 n_va21 c_va21), (.slice ao_va22 n_va22 c_va22)] ∧ Bx w2 (w.heap.size + 1) 47 #[.bool (decide (b1.num < 0)), (.slice ao_vb11 n_vb11 c_vb11), (.slice ao_vb12 n_vb12 c_vb12), .bool (decide (b2.num < 0)), (.slice ao_vb21 n_vb21 c_vb21), (.slice ao_vb22 n_vb22 c_vb22)] ∧ Bx w2 (w.heap.size + 1 + 1) 45 #[.bool false, .slice none 0 0, .slice none 0 0] ∧ Below w.heap.size w w2) ⟨(((bx21).alloc _).alloc _).alloc _, (((bx22).alloc _).alloc _).alloc _, (((bx23).alloc _).alloc _).alloc _, (((bx24).alloc _).alloc _).alloc _, (((bx25).alloc _).alloc _).alloc _, (((bx26).alloc _).alloc _).alloc _, (((bx27).alloc _).alloc _).alloc _, (((bx28).alloc _).alloc _).alloc _, ((Bx.at rfl).alloc _).alloc _, (Bx.at (by simp)).alloc _, Bx.at (by simp), (((Below.refl _ _).alloc (Nat.le_refl _) _).alloc (by simp) _).alloc (by simp; omega) _⟩ ?_
  clear bx21 bx22 bx23 bx24 bx25 bx26 bx27 bx28
  rintro Wx ⟨bx21, bx22, bx23, bx24, bx25, bx26, bx27, bx28, bx29, bx30, bx31, HB⟩
  replace HB := Lib.hid HB
  -- region 1
  obtain ⟨u1, HZ1⟩ : ∃ z, Hid ((a1) * (b2) = z) := ⟨_, Lib.hid rfl⟩
  have su1 : rz u1 ≤ 20000000 := by rw [← HZ1.out]; have := rz_mul (a1) (b2); omega
  obtain ⟨u2, HZ2⟩ : ∃ z, Hid ((a2) * (b1) = z) := ⟨_, Lib.hid rfl⟩
  have su2 : rz u2 ≤ 20000000 := by rw [← HZ2.out]; have := rz_mul (a2) (b1); omega
  have HZ3 : Hid ((u1) - (u2) = z) := Lib.hid (by rw [← HZ1.out, ← HZ2.out, ← hz.out])
  have lx29 := bx29.cells
  have lx30 := bx30.cells
  have BX21 := Lib.hid bx21
  have BX22 := Lib.hid bx22
  have BX23 := Lib.hid bx23
  have BX24 := Lib.hid bx24
  have BX25 := Lib.hid bx25
  have BX26 := Lib.hid bx26
  have BX27 := Lib.hid bx27
  have BX28 := Lib.hid bx28
  have BX29 := Lib.hid bx29
  have BX30 := Lib.hid bx30
  have BX31 := Lib.hid bx31
  clear bx21 bx22 bx23 bx24 bx25 bx26 bx27 bx28 bx29 bx30 bx31
  refine wp_seq_k fun K hK => ?_
  replace hK := Lib.hid hK
  have HS0 := Lib.hid (HB.out.size)
  have MX29 : w.heap.size < Wx.heap.size := BX29.out.lt
  have MX30 : w.heap.size + 1 < Wx.heap.size := BX30.out.lt
  have MX31 : w.heap.size + 1 + 1 < Wx.heap.size := BX31.out.lt
  refine wp_region_plan 11 [] [] (fun _ => 0) (fun _ => .cells #[] 0) [(true, 0), (true, 1), (true, 2), (true, 3), (true, 5), (true, 6), (true, 7), (true, 8), (false, 4), (false, 9), (false, 10)] (by kernel_rfl) (by kernel_rfl) (fun i hi => by cases hi) (fun i hi => by cases hi) (fun _ _ _ _ _ h => h) (fun T hT => ?_)
  iterate 8
    refine wpPlan_takeL (v := ?_) rfl (by rfl) (fun w' hw => ?_) ?_
    rotate_left
    · go_simp
      with_reducible rfl
    simp only [Act.put, rA, rB, rC]
  refine wpPlan_callE rfl (by rfl) Tryz.call40 (by rfl) (fun w' hw => (qmul_any (a1) (b2) (u1) _ _ _ _ _ HZ1.out (by omega) (by omega) (BX21.out.gr hw) (BX22.out.gr hw) (BX27.out.gr hw) (BX28.out.gr hw)).mono ?_)
  rintro e vv1 ⟨⟨rv1, rv2, rfl, bx32, bx33⟩, hg0⟩
  obtain ⟨ao1, nn1, cc1, rfl⟩ := Rn.sl bx32
  obtain ⟨ao2, nn2, cc2, rfl⟩ := Rn.sl bx33
  refine ⟨_, rfl, hg0, ?_⟩
  replace hg0 := Gr.trans hw hg0; clear hw
  have HG0 := Lib.hid hg0; clear hg0
  replace BX21 := rG BX21 HG0
  replace BX22 := rG BX22 HG0
  replace BX23 := rG BX23 HG0
  replace BX24 := rG BX24 HG0
  replace BX25 := rG BX25 HG0
  replace BX26 := rG BX26 HG0
  replace BX27 := rG BX27 HG0
  replace BX28 := rG BX28 HG0
  replace BX29 := bG BX29 HG0
  replace BX30 := bG BX30 HG0
  replace BX31 := bG BX31 HG0
  replace HB := Lib.hid (HB.out.trans (HG0.out.mono HB.out.size))
  have BX32 := Lib.hid bx32; clear bx32
  have BX33 := Lib.hid bx33; clear bx33
  clear HG0
  clear lx29; have lx29 := BX29.out.cells
  clear lx30; have lx30 := BX30.out.cells
  simp only [Act.put, rA, rB, rC]
  refine wpPlan_callE rfl (by rfl) Tryz.call40 (by rfl) (fun w' hw => (qmul_any (a2) (b1) (u2) _ _ _ _ _ HZ2.out (by omega) (by omega) (BX23.out.gr hw) (BX24.out.gr hw) (BX25.out.gr hw) (BX26.out.gr hw)).mono ?_)
  rintro e vv2 ⟨⟨rv3, rv4, rfl, bx34, bx35⟩, hg0⟩
  obtain ⟨ao3, nn3, cc3, rfl⟩ := Rn.sl bx34
  obtain ⟨ao4, nn4, cc4, rfl⟩ := Rn.sl bx35
  refine ⟨_, rfl, hg0, ?_⟩
  replace hg0 := Gr.trans hw hg0; clear hw
  have HG0 := Lib.hid hg0; clear hg0
  replace BX21 := rG BX21 HG0
  replace BX22 := rG BX22 HG0
  replace BX23 := rG BX23 HG0
  replace BX24 := rG BX24 HG0
  replace BX25 := rG BX25 HG0
  replace BX26 := rG BX26 HG0
  replace BX27 := rG BX27 HG0
  replace BX28 := rG BX28 HG0
  replace BX29 := bG BX29 HG0
  replace BX30 := bG BX30 HG0
  replace BX31 := bG BX31 HG0
  replace BX32 := rG BX32 HG0
  replace BX33 := rG BX33 HG0
  replace HB := Lib.hid (HB.out.trans (HG0.out.mono HB.out.size))
  have BX34 := Lib.hid bx34; clear bx34
  have BX35 := Lib.hid bx35; clear bx35
  clear HG0
  clear lx29; have lx29 := BX29.out.cells
  clear lx30; have lx30 := BX30.out.cells
  simp only [Act.put, rA, rB, rC]
  refine wpPlan_callE rfl (by rfl) Tryz.call39 (by rfl) (fun w' hw => (qsub_any (u1) (u2) (z) _ _ _ _ _ HZ3.out (by omega) (by omega) (BX32.out.gr hw) (BX33.out.gr hw) (BX34.out.gr hw) (BX35.out.gr hw)).mono ?_)
  rintro e vv3 ⟨⟨rv5, rv6, rfl, bx36, bx37⟩, hg0⟩
  obtain ⟨ao5, nn5, cc5, rfl⟩ := Rn.sl bx36
  obtain ⟨ao6, nn6, cc6, rfl⟩ := Rn.sl bx37
  refine ⟨_, rfl, hg0, ?_⟩
  replace hg0 := Gr.trans hw hg0; clear hw
  have HG0 := Lib.hid hg0; clear hg0
  replace BX21 := rG BX21 HG0
  replace BX22 := rG BX22 HG0
  replace BX23 := rG BX23 HG0
  replace BX24 := rG BX24 HG0
  replace BX25 := rG BX25 HG0
  replace BX26 := rG BX26 HG0
  replace BX27 := rG BX27 HG0
  replace BX28 := rG BX28 HG0
  replace BX29 := bG BX29 HG0
  replace BX30 := bG BX30 HG0
  replace BX31 := bG BX31 HG0
  replace BX32 := rG BX32 HG0
  replace BX33 := rG BX33 HG0
  replace BX34 := rG BX34 HG0
  replace BX35 := rG BX35 HG0
  replace HB := Lib.hid (HB.out.trans (HG0.out.mono HB.out.size))
  have BX36 := Lib.hid bx36; clear bx36
  have BX37 := Lib.hid bx37; clear bx37
  clear HG0
  clear lx29; have lx29 := BX29.out.cells
  clear lx30; have lx30 := BX30.out.cells
  simp only [Act.put, rA, rB, rC]
  refine wpPlan_nil (hT.out _ _ ?_); clear hT T
  intro G vw1 hg hf
  simp only [puts, Act.put, rA, rB, rC, rD, rE, ↓reduceIte, Nat.reduceEqDiff]
  clear lx29 lx30
  have HG := Lib.hid (hg)
  clear hg
  replace BX21 := rG BX21 HG
  replace BX22 := rG BX22 HG
  replace BX23 := rG BX23 HG
  replace BX24 := rG BX24 HG
  replace BX25 := rG BX25 HG
  replace BX26 := rG BX26 HG
  replace BX27 := rG BX27 HG
  replace BX28 := rG BX28 HG
  replace BX29 := bG BX29 HG
  replace BX30 := bG BX30 HG
  replace BX31 := bG BX31 HG
  replace BX32 := rG BX32 HG
  replace BX33 := rG BX33 HG
  replace BX34 := rG BX34 HG
  replace BX35 := rG BX35 HG
  replace BX36 := rG BX36 HG
  replace BX37 := rG BX37 HG
  have lx31 := BX31.out.cells; have fx31 := BX31.out.free
  have r0 := Gr.refl vw1
  go_wp2
  refine hK.out _ _ ?_; clear hK K
  show Code.wp _ _ _ _ _
  clear lx31 fx31
  clear r0
  refine forgetW (fun w2 => Bx w2 (w.heap.size + 1 + 1) 45 #[.bool (decide (z.num < 0)), (.slice ao5 nn5 cc5), (.slice ao6 nn6 cc6)] ∧ Rn w2 (.slice ao5 nn5 cc5) (z.num.natAbs) ∧ Rn w2 (.slice ao6 nn6 cc6) (z.den - 1) ∧ Below w.heap.size w w2) ⟨((((BX31.out).set 0 _).set 1 _).set 2 _).eq (by simp only [rA, rB, rC]), ro3 (BX36.out) (Rn.ne BX36.out BX31.out (by decide)), ro3 (BX37.out) (Rn.ne BX37.out BX31.out (by decide)), sc3 (HB.out.trans (HG.out.mono HB.out.size)) (by show w.heap.size ≤ w.heap.size + 1 + 1; omega)⟩ ?_
  clear HB HG BX21 BX22 BX23 BX24 BX25 BX26 BX27 BX28 BX29 BX30 BX31 BX32 BX33 BX34 BX35 BX36 BX37
  rintro Wx1 ⟨bx31, bx36, bx37, HB⟩
  replace HB := Lib.hid HB
  refine wp_ret ?_
  try simp only [Exit.then, Exit.inBlock]
  have lx31 := bx31.cells
  have r0 := Gr.refl Wx1
  exact bodyPost_ret (v := .agg #[.bool (decide (z.num < 0)), (.slice ao5 nn5 cc5), (.slice ao6 nn6 cc6)]) (by simp [results, Tryz.results19, go_sem, lx31 _ r0]) rfl ⟨⟨(.slice ao5 nn5 cc5), (.slice ao6 nn6 cc6), rfl, bx36, bx37⟩, HB.out⟩

set_option maxRecDepth 20000 in
set_option maxHeartbeats 2000000 in
theorem rpdot (a1 a2 b1 b2 z : Rat) (va11 va12 va21 va22 vb11 vb12 vb21 vb22 : Value) (w : World) (hz : a1 * b1 + a2 * b2 = z) (hs_a1 : rz a1 ≤ 10000000) (hs_a2 : rz a2 ≤ 10000000) (hs_b1 : rz b1 ≤ 10000000) (hs_b2 : rz b2 ≤ 10000000) (bx21 : Rn w va11 (a1.num.natAbs)) (bx22 : Rn w va12 (a1.den - 1)) (bx23 : Rn w va21 (a2.num.natAbs)) (bx24 : Rn w va22 (a2.den - 1)) (bx25 : Rn w vb11 (b1.num.natAbs)) (bx26 : Rn w vb12 (b1.den - 1)) (bx27 : Rn w vb21 (b2.num.natAbs)) (bx28 : Rn w vb22 (b2.den - 1)) :
    Calls Tryz.prog 24 #[(Value.agg #[.bool (decide (a1.num < 0)), va11, va12, .bool (decide (a2.num < 0)), va21, va22]), (Value.agg #[.bool (decide (b1.num < 0)), vb11, vb12, .bool (decide (b2.num < 0)), vb21, vb22])] w fun e w' => (∃ r1 r2 : Value, e = .returned (.agg #[.bool (decide (z.num < 0)), r1, r2]) ∧ Rn w' r1 (z.num.natAbs) ∧ Rn w' r2 (z.den - 1)) ∧ Below w.heap.size w w' := by
  replace hz := Lib.hid hz
  obtain ⟨ao_va11, n_va11, c_va11, rfl⟩ := Rn.sl bx21
  obtain ⟨ao_va12, n_va12, c_va12, rfl⟩ := Rn.sl bx22
  obtain ⟨ao_va21, n_va21, c_va21, rfl⟩ := Rn.sl bx23
  obtain ⟨ao_va22, n_va22, c_va22, rfl⟩ := Rn.sl bx24
  obtain ⟨ao_vb11, n_vb11, c_vb11, rfl⟩ := Rn.sl bx25
  obtain ⟨ao_vb12, n_vb12, c_vb12, rfl⟩ := Rn.sl bx26
  obtain ⟨ao_vb21, n_vb21, c_vb21, rfl⟩ := Rn.sl bx27
  obtain ⟨ao_vb22, n_vb22, c_vb22, rfl⟩ := Rn.sl bx28
  go_enter Tryz.func24, Tryz.ntmps24
  -- region 0
  refine wp_seq_k fun K hK => ?_
  replace hK := Lib.hid hK
  refine wp_region_lit ?_
  go_wp2
  refine hK.out _ _ ?_; clear hK K
  show Code.wp _ _ _ _ _
  refine forgetW (fun w2 => Rn w2 (.slice ao_va11 n_va11 c_va11) (a1.num.natAbs) ∧ Rn w2 (.slice ao_va12 n_va12 c_va12) (a1.den - 1) ∧ Rn w2 (.slice ao_va21 n_va21 c_va21) (a2.num.natAbs) ∧ Rn w2 (.slice ao_va22 n_va22 c_va22) (a2.den - 1) ∧ Rn w2 (.slice ao_vb11 n_vb11 c_vb11) (b1.num.natAbs) ∧ Rn w2 (.slice ao_vb12 n_vb12 c_vb12) (b1.den - 1) ∧ Rn w2 (.slice ao_vb21 n_vb21 c_vb21) (b2.num.natAbs) ∧ Rn w2 (.slice ao_vb22 n_vb22 c_vb22) (b2.den - 1) ∧ Bx w2 (w.heap.size) 47 #[.bool (decide (a1.num < 0)), (.slice ao_va11 n_va11 c_va11), (.slice ao_va12 n_va12 c_va12), .bool (decide (a2.num < 0)), (.slice ao_va21 n_va21 c_va21), (.slice ao_va22 n_va22 c_va22)] ∧ Bx w2 (w.heap.size + 1) 47 #[.bool (decide (b1.num < 0)), (.slice ao_vb11 n_vb11 c_vb11), (.slice ao_vb12 n_vb12 c_vb12), .bool (decide (b2.num < 0)), (.slice ao_vb21 n_vb21 c_vb21), (.slice ao_vb22 n_vb22 c_vb22)] ∧ Bx w2 (w.heap.size + 1 + 1) 45 #[.bool false, .slice none 0 0, .slice none 0 0] ∧ Below w.heap.size w w2) ⟨(((bx21).alloc _).alloc _).alloc _, (((bx22).alloc _).alloc _).alloc _, (((bx23).alloc _).alloc _).alloc _, (((bx24).alloc _).alloc _).alloc _, (((bx25).alloc _).alloc _).alloc _, (((bx26).alloc _).alloc _).alloc _, (((bx27).alloc _).alloc _).alloc _, (((bx28).alloc _).alloc _).alloc _, ((Bx.at rfl).alloc _).alloc _, (Bx.at (by simp)).alloc _, Bx.at (by simp), (((Below.refl _ _).alloc (Nat.le_refl _) _).alloc (by simp) _).alloc (by simp; omega) _⟩ ?_
  clear bx21 bx22 bx23 bx24 bx25 bx26 bx27 bx28
  rintro Wx ⟨bx21, bx22, bx23, bx24, bx25, bx26, bx27, bx28, bx29, bx30, bx31, HB⟩
  replace HB := Lib.hid HB
  -- region 1
  obtain ⟨u1, HZ1⟩ : ∃ z, Hid ((a1) * (b1) = z) := ⟨_, Lib.hid rfl⟩
  have su1 : rz u1 ≤ 20000000 := by rw [← HZ1.out]; have := rz_mul (a1) (b1); omega
  obtain ⟨u2, HZ2⟩ : ∃ z, Hid ((a2) * (b2) = z) := ⟨_, Lib.hid rfl⟩
  have su2 : rz u2 ≤ 20000000 := by rw [← HZ2.out]; have := rz_mul (a2) (b2); omega
  have HZ3 : Hid ((u1) + (u2) = z) := Lib.hid (by rw [← HZ1.out, ← HZ2.out, ← hz.out])
  have lx29 := bx29.cells
  have lx30 := bx30.cells
  have BX21 := Lib.hid bx21
  have BX22 := Lib.hid bx22
  have BX23 := Lib.hid bx23
  have BX24 := Lib.hid bx24
  have BX25 := Lib.hid bx25
  have BX26 := Lib.hid bx26
  have BX27 := Lib.hid bx27
  have BX28 := Lib.hid bx28
  have BX29 := Lib.hid bx29
  have BX30 := Lib.hid bx30
  have BX31 := Lib.hid bx31
  clear bx21 bx22 bx23 bx24 bx25 bx26 bx27 bx28 bx29 bx30 bx31
  refine wp_seq_k fun K hK => ?_
  replace hK := Lib.hid hK
  have HS0 := Lib.hid (HB.out.size)
  have MX29 : w.heap.size < Wx.heap.size := BX29.out.lt
  have MX30 : w.heap.size + 1 < Wx.heap.size := BX30.out.lt
  have MX31 : w.heap.size + 1 + 1 < Wx.heap.size := BX31.out.lt
  refine wp_region_plan 11 [] [] (fun _ => 0) (fun _ => .cells #[] 0) [(true, 0), (true, 1), (true, 2), (true, 3), (true, 5), (true, 6), (true, 7), (true, 8), (false, 4), (false, 9), (false, 10)] (by kernel_rfl) (by kernel_rfl) (fun i hi => by cases hi) (fun i hi => by cases hi) (fun _ _ _ _ _ h => h) (fun T hT => ?_)
  iterate 8
    refine wpPlan_takeL (v := ?_) rfl (by rfl) (fun w' hw => ?_) ?_
    rotate_left
    · go_simp
      with_reducible rfl
    simp only [Act.put, rA, rB, rC]
  refine wpPlan_callE rfl (by rfl) Tryz.call40 (by rfl) (fun w' hw => (qmul_any (a1) (b1) (u1) _ _ _ _ _ HZ1.out (by omega) (by omega) (BX21.out.gr hw) (BX22.out.gr hw) (BX25.out.gr hw) (BX26.out.gr hw)).mono ?_)
  rintro e vv1 ⟨⟨rv1, rv2, rfl, bx32, bx33⟩, hg0⟩
  obtain ⟨ao1, nn1, cc1, rfl⟩ := Rn.sl bx32
  obtain ⟨ao2, nn2, cc2, rfl⟩ := Rn.sl bx33
  refine ⟨_, rfl, hg0, ?_⟩
  replace hg0 := Gr.trans hw hg0; clear hw
  have HG0 := Lib.hid hg0; clear hg0
  replace BX21 := rG BX21 HG0
  replace BX22 := rG BX22 HG0
  replace BX23 := rG BX23 HG0
  replace BX24 := rG BX24 HG0
  replace BX25 := rG BX25 HG0
  replace BX26 := rG BX26 HG0
  replace BX27 := rG BX27 HG0
  replace BX28 := rG BX28 HG0
  replace BX29 := bG BX29 HG0
  replace BX30 := bG BX30 HG0
  replace BX31 := bG BX31 HG0
  replace HB := Lib.hid (HB.out.trans (HG0.out.mono HB.out.size))
  have BX32 := Lib.hid bx32; clear bx32
  have BX33 := Lib.hid bx33; clear bx33
  clear HG0
  clear lx29; have lx29 := BX29.out.cells
  clear lx30; have lx30 := BX30.out.cells
  simp only [Act.put, rA, rB, rC]
  refine wpPlan_callE rfl (by rfl) Tryz.call40 (by rfl) (fun w' hw => (qmul_any (a2) (b2) (u2) _ _ _ _ _ HZ2.out (by omega) (by omega) (BX23.out.gr hw) (BX24.out.gr hw) (BX27.out.gr hw) (BX28.out.gr hw)).mono ?_)
  rintro e vv2 ⟨⟨rv3, rv4, rfl, bx34, bx35⟩, hg0⟩
  obtain ⟨ao3, nn3, cc3, rfl⟩ := Rn.sl bx34
  obtain ⟨ao4, nn4, cc4, rfl⟩ := Rn.sl bx35
  refine ⟨_, rfl, hg0, ?_⟩
  replace hg0 := Gr.trans hw hg0; clear hw
  have HG0 := Lib.hid hg0; clear hg0
  replace BX21 := rG BX21 HG0
  replace BX22 := rG BX22 HG0
  replace BX23 := rG BX23 HG0
  replace BX24 := rG BX24 HG0
  replace BX25 := rG BX25 HG0
  replace BX26 := rG BX26 HG0
  replace BX27 := rG BX27 HG0
  replace BX28 := rG BX28 HG0
  replace BX29 := bG BX29 HG0
  replace BX30 := bG BX30 HG0
  replace BX31 := bG BX31 HG0
  replace BX32 := rG BX32 HG0
  replace BX33 := rG BX33 HG0
  replace HB := Lib.hid (HB.out.trans (HG0.out.mono HB.out.size))
  have BX34 := Lib.hid bx34; clear bx34
  have BX35 := Lib.hid bx35; clear bx35
  clear HG0
  clear lx29; have lx29 := BX29.out.cells
  clear lx30; have lx30 := BX30.out.cells
  simp only [Act.put, rA, rB, rC]
  refine wpPlan_callE rfl (by rfl) Tryz.call42 (by rfl) (fun w' hw => (qadd_any (u1) (u2) (z) _ _ _ _ _ HZ3.out (by omega) (by omega) (BX32.out.gr hw) (BX33.out.gr hw) (BX34.out.gr hw) (BX35.out.gr hw)).mono ?_)
  rintro e vv3 ⟨⟨rv5, rv6, rfl, bx36, bx37⟩, hg0⟩
  obtain ⟨ao5, nn5, cc5, rfl⟩ := Rn.sl bx36
  obtain ⟨ao6, nn6, cc6, rfl⟩ := Rn.sl bx37
  refine ⟨_, rfl, hg0, ?_⟩
  replace hg0 := Gr.trans hw hg0; clear hw
  have HG0 := Lib.hid hg0; clear hg0
  replace BX21 := rG BX21 HG0
  replace BX22 := rG BX22 HG0
  replace BX23 := rG BX23 HG0
  replace BX24 := rG BX24 HG0
  replace BX25 := rG BX25 HG0
  replace BX26 := rG BX26 HG0
  replace BX27 := rG BX27 HG0
  replace BX28 := rG BX28 HG0
  replace BX29 := bG BX29 HG0
  replace BX30 := bG BX30 HG0
  replace BX31 := bG BX31 HG0
  replace BX32 := rG BX32 HG0
  replace BX33 := rG BX33 HG0
  replace BX34 := rG BX34 HG0
  replace BX35 := rG BX35 HG0
  replace HB := Lib.hid (HB.out.trans (HG0.out.mono HB.out.size))
  have BX36 := Lib.hid bx36; clear bx36
  have BX37 := Lib.hid bx37; clear bx37
  clear HG0
  clear lx29; have lx29 := BX29.out.cells
  clear lx30; have lx30 := BX30.out.cells
  simp only [Act.put, rA, rB, rC]
  refine wpPlan_nil (hT.out _ _ ?_); clear hT T
  intro G vw1 hg hf
  simp only [puts, Act.put, rA, rB, rC, rD, rE, ↓reduceIte, Nat.reduceEqDiff]
  clear lx29 lx30
  have HG := Lib.hid (hg)
  clear hg
  replace BX21 := rG BX21 HG
  replace BX22 := rG BX22 HG
  replace BX23 := rG BX23 HG
  replace BX24 := rG BX24 HG
  replace BX25 := rG BX25 HG
  replace BX26 := rG BX26 HG
  replace BX27 := rG BX27 HG
  replace BX28 := rG BX28 HG
  replace BX29 := bG BX29 HG
  replace BX30 := bG BX30 HG
  replace BX31 := bG BX31 HG
  replace BX32 := rG BX32 HG
  replace BX33 := rG BX33 HG
  replace BX34 := rG BX34 HG
  replace BX35 := rG BX35 HG
  replace BX36 := rG BX36 HG
  replace BX37 := rG BX37 HG
  have lx31 := BX31.out.cells; have fx31 := BX31.out.free
  have r0 := Gr.refl vw1
  go_wp2
  refine hK.out _ _ ?_; clear hK K
  show Code.wp _ _ _ _ _
  clear lx31 fx31
  clear r0
  refine forgetW (fun w2 => Bx w2 (w.heap.size + 1 + 1) 45 #[.bool (decide (z.num < 0)), (.slice ao5 nn5 cc5), (.slice ao6 nn6 cc6)] ∧ Rn w2 (.slice ao5 nn5 cc5) (z.num.natAbs) ∧ Rn w2 (.slice ao6 nn6 cc6) (z.den - 1) ∧ Below w.heap.size w w2) ⟨((((BX31.out).set 0 _).set 1 _).set 2 _).eq (by simp only [rA, rB, rC]), ro3 (BX36.out) (Rn.ne BX36.out BX31.out (by decide)), ro3 (BX37.out) (Rn.ne BX37.out BX31.out (by decide)), sc3 (HB.out.trans (HG.out.mono HB.out.size)) (by show w.heap.size ≤ w.heap.size + 1 + 1; omega)⟩ ?_
  clear HB HG BX21 BX22 BX23 BX24 BX25 BX26 BX27 BX28 BX29 BX30 BX31 BX32 BX33 BX34 BX35 BX36 BX37
  rintro Wx1 ⟨bx31, bx36, bx37, HB⟩
  replace HB := Lib.hid HB
  refine wp_ret ?_
  try simp only [Exit.then, Exit.inBlock]
  have lx31 := bx31.cells
  have r0 := Gr.refl Wx1
  exact bodyPost_ret (v := .agg #[.bool (decide (z.num < 0)), (.slice ao5 nn5 cc5), (.slice ao6 nn6 cc6)]) (by simp [results, Tryz.results24, go_sem, lx31 _ r0]) rfl ⟨⟨(.slice ao5 nn5 cc5), (.slice ao6 nn6 cc6), rfl, bx36, bx37⟩, HB.out⟩

set_option maxRecDepth 20000 in
set_option maxHeartbeats 2000000 in
theorem rpsquare (a1 a2 b1 b2 z : Rat) (va11 va12 va21 va22 vb11 vb12 vb21 vb22 : Value) (w : World) (hz : (a1 - b1) * (a1 - b1) + (a2 - b2) * (a2 - b2) = z) (hs_a1 : rz a1 ≤ 1000000) (hs_a2 : rz a2 ≤ 1000000) (hs_b1 : rz b1 ≤ 1000000) (hs_b2 : rz b2 ≤ 1000000) (bx21 : Rn w va11 (a1.num.natAbs)) (bx22 : Rn w va12 (a1.den - 1)) (bx23 : Rn w va21 (a2.num.natAbs)) (bx24 : Rn w va22 (a2.den - 1)) (bx25 : Rn w vb11 (b1.num.natAbs)) (bx26 : Rn w vb12 (b1.den - 1)) (bx27 : Rn w vb21 (b2.num.natAbs)) (bx28 : Rn w vb22 (b2.den - 1)) :
    Calls Tryz.prog 30 #[(Value.agg #[.bool (decide (a1.num < 0)), va11, va12, .bool (decide (a2.num < 0)), va21, va22]), (Value.agg #[.bool (decide (b1.num < 0)), vb11, vb12, .bool (decide (b2.num < 0)), vb21, vb22])] w fun e w' => (∃ r1 r2 : Value, e = .returned (.agg #[.bool (decide (z.num < 0)), r1, r2]) ∧ Rn w' r1 (z.num.natAbs) ∧ Rn w' r2 (z.den - 1)) ∧ Below w.heap.size w w' := by
  replace hz := Lib.hid hz
  obtain ⟨ao_va11, n_va11, c_va11, rfl⟩ := Rn.sl bx21
  obtain ⟨ao_va12, n_va12, c_va12, rfl⟩ := Rn.sl bx22
  obtain ⟨ao_va21, n_va21, c_va21, rfl⟩ := Rn.sl bx23
  obtain ⟨ao_va22, n_va22, c_va22, rfl⟩ := Rn.sl bx24
  obtain ⟨ao_vb11, n_vb11, c_vb11, rfl⟩ := Rn.sl bx25
  obtain ⟨ao_vb12, n_vb12, c_vb12, rfl⟩ := Rn.sl bx26
  obtain ⟨ao_vb21, n_vb21, c_vb21, rfl⟩ := Rn.sl bx27
  obtain ⟨ao_vb22, n_vb22, c_vb22, rfl⟩ := Rn.sl bx28
  go_enter Tryz.func30, Tryz.ntmps30
  -- region 0
  refine wp_seq_k fun K hK => ?_
  replace hK := Lib.hid hK
  refine wp_region_lit ?_
  go_wp2
  refine hK.out _ _ ?_; clear hK K
  show Code.wp _ _ _ _ _
  refine forgetW (fun w2 => Rn w2 (.slice ao_va11 n_va11 c_va11) (a1.num.natAbs) ∧ Rn w2 (.slice ao_va12 n_va12 c_va12) (a1.den - 1) ∧ Rn w2 (.slice ao_va21 n_va21 c_va21) (a2.num.natAbs) ∧ Rn w2 (.slice ao_va22 n_va22 c_va22) (a2.den - 1) ∧ Rn w2 (.slice ao_vb11 n_vb11 c_vb11) (b1.num.natAbs) ∧ Rn w2 (.slice ao_vb12 n_vb12 c_vb12) (b1.den - 1) ∧ Rn w2 (.slice ao_vb21 n_vb21 c_vb21) (b2.num.natAbs) ∧ Rn w2 (.slice ao_vb22 n_vb22 c_vb22) (b2.den - 1) ∧ Bx w2 (w.heap.size) 47 #[.bool (decide (a1.num < 0)), (.slice ao_va11 n_va11 c_va11), (.slice ao_va12 n_va12 c_va12), .bool (decide (a2.num < 0)), (.slice ao_va21 n_va21 c_va21), (.slice ao_va22 n_va22 c_va22)] ∧ Bx w2 (w.heap.size + 1) 47 #[.bool (decide (b1.num < 0)), (.slice ao_vb11 n_vb11 c_vb11), (.slice ao_vb12 n_vb12 c_vb12), .bool (decide (b2.num < 0)), (.slice ao_vb21 n_vb21 c_vb21), (.slice ao_vb22 n_vb22 c_vb22)] ∧ Bx w2 (w.heap.size + 1 + 1) 45 #[.bool false, .slice none 0 0, .slice none 0 0] ∧ Below w.heap.size w w2) ⟨(((bx21).alloc _).alloc _).alloc _, (((bx22).alloc _).alloc _).alloc _, (((bx23).alloc _).alloc _).alloc _, (((bx24).alloc _).alloc _).alloc _, (((bx25).alloc _).alloc _).alloc _, (((bx26).alloc _).alloc _).alloc _, (((bx27).alloc _).alloc _).alloc _, (((bx28).alloc _).alloc _).alloc _, ((Bx.at rfl).alloc _).alloc _, (Bx.at (by simp)).alloc _, Bx.at (by simp), (((Below.refl _ _).alloc (Nat.le_refl _) _).alloc (by simp) _).alloc (by simp; omega) _⟩ ?_
  clear bx21 bx22 bx23 bx24 bx25 bx26 bx27 bx28
  rintro Wx ⟨bx21, bx22, bx23, bx24, bx25, bx26, bx27, bx28, bx29, bx30, bx31, HB⟩
  replace HB := Lib.hid HB
  -- region 1
  obtain ⟨u1, HZ1⟩ : ∃ z, Hid ((a1) - (b1) = z) := ⟨_, Lib.hid rfl⟩
  have su1 : rz u1 ≤ 2000001 := by rw [← HZ1.out]; have := rz_sub (a1) (b1); omega
  obtain ⟨u2, HZ2⟩ : ∃ z, Hid ((a2) - (b2) = z) := ⟨_, Lib.hid rfl⟩
  have su2 : rz u2 ≤ 2000001 := by rw [← HZ2.out]; have := rz_sub (a2) (b2); omega
  obtain ⟨u3, HZ3⟩ : ∃ z, Hid ((a1) - (b1) = z) := ⟨_, Lib.hid rfl⟩
  have su3 : rz u3 ≤ 2000001 := by rw [← HZ3.out]; have := rz_sub (a1) (b1); omega
  obtain ⟨u4, HZ4⟩ : ∃ z, Hid ((a2) - (b2) = z) := ⟨_, Lib.hid rfl⟩
  have su4 : rz u4 ≤ 2000001 := by rw [← HZ4.out]; have := rz_sub (a2) (b2); omega
  have HZ5 : Hid ((u1) * (u3) + (u2) * (u4) = z) := Lib.hid (by simp only [← HZ4.out, ← HZ3.out, ← HZ2.out, ← HZ1.out]; exact hz.out)
  have lx29 := bx29.cells
  have lx30 := bx30.cells
  have BX21 := Lib.hid bx21
  have BX22 := Lib.hid bx22
  have BX23 := Lib.hid bx23
  have BX24 := Lib.hid bx24
  have BX25 := Lib.hid bx25
  have BX26 := Lib.hid bx26
  have BX27 := Lib.hid bx27
  have BX28 := Lib.hid bx28
  have BX29 := Lib.hid bx29
  have BX30 := Lib.hid bx30
  have BX31 := Lib.hid bx31
  clear bx21 bx22 bx23 bx24 bx25 bx26 bx27 bx28 bx29 bx30 bx31
  refine wp_seq_k fun K hK => ?_
  replace hK := Lib.hid hK
  have HS0 := Lib.hid (HB.out.size)
  have MX29 : w.heap.size < Wx.heap.size := BX29.out.lt
  have MX30 : w.heap.size + 1 < Wx.heap.size := BX30.out.lt
  have MX31 : w.heap.size + 1 + 1 < Wx.heap.size := BX31.out.lt
  refine wp_region_plan 7 [] [] (fun _ => 0) (fun _ => .cells #[] 0) [(true, 0), (true, 1), (true, 3), (true, 4), (false, 2), (false, 5), (false, 6)] (by kernel_rfl) (by kernel_rfl) (fun i hi => by cases hi) (fun i hi => by cases hi) (fun _ _ _ _ _ h => h) (fun T hT => ?_)
  iterate 4
    refine wpPlan_takeL (v := ?_) rfl (by rfl) (fun w' hw => ?_) ?_
    rotate_left
    · go_simp
      with_reducible rfl
    simp only [Act.put, rA, rB, rC]
  refine wpPlan_callE rfl (by rfl) Tryz.call20 (by rfl) (fun w' hw => (rpsub (a1) (a2) (b1) (b2) (u1) (u2) _ _ _ _ _ _ _ _ _ HZ1.out HZ2.out (by omega) (by omega) (by omega) (by omega) (BX21.out.gr hw) (BX22.out.gr hw) (BX23.out.gr hw) (BX24.out.gr hw) (BX25.out.gr hw) (BX26.out.gr hw) (BX27.out.gr hw) (BX28.out.gr hw)).mono ?_)
  rintro e vv1 ⟨⟨rv1, rv2, rv3, rv4, rfl, bx32, bx33, bx34, bx35⟩, hg0⟩
  obtain ⟨ao1, nn1, cc1, rfl⟩ := Rn.sl bx32
  obtain ⟨ao2, nn2, cc2, rfl⟩ := Rn.sl bx33
  obtain ⟨ao3, nn3, cc3, rfl⟩ := Rn.sl bx34
  obtain ⟨ao4, nn4, cc4, rfl⟩ := Rn.sl bx35
  refine ⟨_, rfl, hg0, ?_⟩
  replace hg0 := Gr.trans hw hg0; clear hw
  have HG0 := Lib.hid hg0; clear hg0
  replace BX21 := rG BX21 HG0
  replace BX22 := rG BX22 HG0
  replace BX23 := rG BX23 HG0
  replace BX24 := rG BX24 HG0
  replace BX25 := rG BX25 HG0
  replace BX26 := rG BX26 HG0
  replace BX27 := rG BX27 HG0
  replace BX28 := rG BX28 HG0
  replace BX29 := bG BX29 HG0
  replace BX30 := bG BX30 HG0
  replace BX31 := bG BX31 HG0
  replace HB := Lib.hid (HB.out.trans (HG0.out.mono HB.out.size))
  have BX32 := Lib.hid bx32; clear bx32
  have BX33 := Lib.hid bx33; clear bx33
  have BX34 := Lib.hid bx34; clear bx34
  have BX35 := Lib.hid bx35; clear bx35
  clear HG0
  clear lx29; have lx29 := BX29.out.cells
  clear lx30; have lx30 := BX30.out.cells
  simp only [Act.put, rA, rB, rC]
  refine wpPlan_callE rfl (by rfl) Tryz.call20 (by rfl) (fun w' hw => (rpsub (a1) (a2) (b1) (b2) (u3) (u4) _ _ _ _ _ _ _ _ _ HZ3.out HZ4.out (by omega) (by omega) (by omega) (by omega) (BX21.out.gr hw) (BX22.out.gr hw) (BX23.out.gr hw) (BX24.out.gr hw) (BX25.out.gr hw) (BX26.out.gr hw) (BX27.out.gr hw) (BX28.out.gr hw)).mono ?_)
  rintro e vv2 ⟨⟨rv5, rv6, rv7, rv8, rfl, bx36, bx37, bx38, bx39⟩, hg0⟩
  obtain ⟨ao5, nn5, cc5, rfl⟩ := Rn.sl bx36
  obtain ⟨ao6, nn6, cc6, rfl⟩ := Rn.sl bx37
  obtain ⟨ao7, nn7, cc7, rfl⟩ := Rn.sl bx38
  obtain ⟨ao8, nn8, cc8, rfl⟩ := Rn.sl bx39
  refine ⟨_, rfl, hg0, ?_⟩
  replace hg0 := Gr.trans hw hg0; clear hw
  have HG0 := Lib.hid hg0; clear hg0
  replace BX21 := rG BX21 HG0
  replace BX22 := rG BX22 HG0
  replace BX23 := rG BX23 HG0
  replace BX24 := rG BX24 HG0
  replace BX25 := rG BX25 HG0
  replace BX26 := rG BX26 HG0
  replace BX27 := rG BX27 HG0
  replace BX28 := rG BX28 HG0
  replace BX29 := bG BX29 HG0
  replace BX30 := bG BX30 HG0
  replace BX31 := bG BX31 HG0
  replace BX32 := rG BX32 HG0
  replace BX33 := rG BX33 HG0
  replace BX34 := rG BX34 HG0
  replace BX35 := rG BX35 HG0
  replace HB := Lib.hid (HB.out.trans (HG0.out.mono HB.out.size))
  have BX36 := Lib.hid bx36; clear bx36
  have BX37 := Lib.hid bx37; clear bx37
  have BX38 := Lib.hid bx38; clear bx38
  have BX39 := Lib.hid bx39; clear bx39
  clear HG0
  clear lx29; have lx29 := BX29.out.cells
  clear lx30; have lx30 := BX30.out.cells
  simp only [Act.put, rA, rB, rC]
  refine wpPlan_callE rfl (by rfl) Tryz.call24 (by rfl) (fun w' hw => (rpdot (u1) (u2) (u3) (u4) (z) _ _ _ _ _ _ _ _ _ HZ5.out (by omega) (by omega) (by omega) (by omega) (BX32.out.gr hw) (BX33.out.gr hw) (BX34.out.gr hw) (BX35.out.gr hw) (BX36.out.gr hw) (BX37.out.gr hw) (BX38.out.gr hw) (BX39.out.gr hw)).mono ?_)
  rintro e vv3 ⟨⟨rv9, rv10, rfl, bx40, bx41⟩, hg0⟩
  obtain ⟨ao9, nn9, cc9, rfl⟩ := Rn.sl bx40
  obtain ⟨ao10, nn10, cc10, rfl⟩ := Rn.sl bx41
  refine ⟨_, rfl, hg0, ?_⟩
  replace hg0 := Gr.trans hw hg0; clear hw
  have HG0 := Lib.hid hg0; clear hg0
  replace BX21 := rG BX21 HG0
  replace BX22 := rG BX22 HG0
  replace BX23 := rG BX23 HG0
  replace BX24 := rG BX24 HG0
  replace BX25 := rG BX25 HG0
  replace BX26 := rG BX26 HG0
  replace BX27 := rG BX27 HG0
  replace BX28 := rG BX28 HG0
  replace BX29 := bG BX29 HG0
  replace BX30 := bG BX30 HG0
  replace BX31 := bG BX31 HG0
  replace BX32 := rG BX32 HG0
  replace BX33 := rG BX33 HG0
  replace BX34 := rG BX34 HG0
  replace BX35 := rG BX35 HG0
  replace BX36 := rG BX36 HG0
  replace BX37 := rG BX37 HG0
  replace BX38 := rG BX38 HG0
  replace BX39 := rG BX39 HG0
  replace HB := Lib.hid (HB.out.trans (HG0.out.mono HB.out.size))
  have BX40 := Lib.hid bx40; clear bx40
  have BX41 := Lib.hid bx41; clear bx41
  clear HG0
  clear lx29; have lx29 := BX29.out.cells
  clear lx30; have lx30 := BX30.out.cells
  simp only [Act.put, rA, rB, rC]
  refine wpPlan_nil (hT.out _ _ ?_); clear hT T
  intro G vw1 hg hf
  simp only [puts, Act.put, rA, rB, rC, rD, rE, ↓reduceIte, Nat.reduceEqDiff]
  clear lx29 lx30
  have HG := Lib.hid (hg)
  clear hg
  replace BX21 := rG BX21 HG
  replace BX22 := rG BX22 HG
  replace BX23 := rG BX23 HG
  replace BX24 := rG BX24 HG
  replace BX25 := rG BX25 HG
  replace BX26 := rG BX26 HG
  replace BX27 := rG BX27 HG
  replace BX28 := rG BX28 HG
  replace BX29 := bG BX29 HG
  replace BX30 := bG BX30 HG
  replace BX31 := bG BX31 HG
  replace BX32 := rG BX32 HG
  replace BX33 := rG BX33 HG
  replace BX34 := rG BX34 HG
  replace BX35 := rG BX35 HG
  replace BX36 := rG BX36 HG
  replace BX37 := rG BX37 HG
  replace BX38 := rG BX38 HG
  replace BX39 := rG BX39 HG
  replace BX40 := rG BX40 HG
  replace BX41 := rG BX41 HG
  have lx31 := BX31.out.cells; have fx31 := BX31.out.free
  have r0 := Gr.refl vw1
  go_wp2
  refine hK.out _ _ ?_; clear hK K
  show Code.wp _ _ _ _ _
  clear lx31 fx31
  clear r0
  refine forgetW (fun w2 => Bx w2 (w.heap.size + 1 + 1) 45 #[.bool (decide (z.num < 0)), (.slice ao9 nn9 cc9), (.slice ao10 nn10 cc10)] ∧ Rn w2 (.slice ao9 nn9 cc9) (z.num.natAbs) ∧ Rn w2 (.slice ao10 nn10 cc10) (z.den - 1) ∧ Below w.heap.size w w2) ⟨((((BX31.out).set 0 _).set 1 _).set 2 _).eq (by simp only [rA, rB, rC]), ro3 (BX40.out) (Rn.ne BX40.out BX31.out (by decide)), ro3 (BX41.out) (Rn.ne BX41.out BX31.out (by decide)), sc3 (HB.out.trans (HG.out.mono HB.out.size)) (by show w.heap.size ≤ w.heap.size + 1 + 1; omega)⟩ ?_
  clear HB HG BX21 BX22 BX23 BX24 BX25 BX26 BX27 BX28 BX29 BX30 BX31 BX32 BX33 BX34 BX35 BX36 BX37 BX38 BX39 BX40 BX41
  rintro Wx1 ⟨bx31, bx40, bx41, HB⟩
  replace HB := Lib.hid HB
  refine wp_ret ?_
  try simp only [Exit.then, Exit.inBlock]
  have lx31 := bx31.cells
  have r0 := Gr.refl Wx1
  exact bodyPost_ret (v := .agg #[.bool (decide (z.num < 0)), (.slice ao9 nn9 cc9), (.slice ao10 nn10 cc10)]) (by simp [results, Tryz.results30, go_sem, lx31 _ r0]) rfl ⟨⟨(.slice ao9 nn9 cc9), (.slice ao10 nn10 cc10), rfl, bx40, bx41⟩, HB.out⟩

end Go.Proofs.YtenpbnmmadbkdaaGreat


/- math/bits: Add32, Sub32, Div32, LeadingZeros32, Len32, Mul64, Add64: what they return. -/
namespace Go.Proofs.YtenpbnmmadbkdaaGreat
open Go.RowKit

/-- math/bits.Add32 -/
theorem add32_any (a b c : Int) (w : World) (ha0 : 0 ≤ a) (ha : a < 4294967296) (hb0 : 0 ≤ b) (hb : b < 4294967296) (hc0 : 0 ≤ c) (hc : c ≤ 1) :
    Calls Tryz.prog 106 #[.int .u32 a, .int .u32 b, .int .u32 c] w fun e w' => e = .returned (.tuple #[.int .u32 ((a + b + c) % 4294967296), .int .u32 ((a + b + c) / 4294967296)]) ∧ w = w' := by
  go_enter Tryz.func106, Tryz.ntmps106
  go_wp2
  go_ret2
  have h1 : (a + b + c) / 4294967296 % 4294967296 = (a + b + c) / 4294967296 := by omega
  first
    | exact ⟨rfl, rfl⟩
    | (rw [h1]; exact ⟨rfl, rfl⟩)

theorem top_bit (t : Nat) (h : t < 4294967296) : t / 2147483648 = (t.testBit 31).toNat := by
  rw [Nat.testBit_eq_decide_div_mod_eq]
  have : (2:Nat)^31 = 2147483648 := by decide
  rw [this]
  by_cases e : t / 2147483648 % 2 = 1
  · rw [decide_eq_true e]; simp; omega
  · rw [decide_eq_false e]; simp; omega
def bor (a b c : Nat) : Nat := if a < b + c then 1 else 0
def sb (a b c : Nat) : Nat := (a + 4294967296 - b - c) % 4294967296
theorem tb (t : Nat) (h : t < 4294967296) : t.testBit 31 = decide (2147483648 ≤ t) := by
  rw [Nat.testBit_eq_decide_div_mod_eq]
  have : (2:Nat)^31 = 2147483648 := by decide
  rw [this]
  rw [decide_eq_decide]
  omega
theorem borrow_nat (a b c : Nat) (ha : a < 4294967296) (hb : b < 4294967296) (hc : c ≤ 1) :
    (((4294967295 ^^^ a) &&& b) ||| ((4294967295 ^^^ (a ^^^ b)) &&& sb a b c)) / 2147483648 = bor a b c := by
  have hd : sb a b c < 4294967296 := Nat.mod_lt _ (by decide)
  have p : (4294967296 : Nat) = 2 ^ 32 := by decide
  have h1 : 4294967295 ^^^ a < 4294967296 := by rw [p]; exact Nat.xor_lt_two_pow (by decide) (by omega)
  have h2 : a ^^^ b < 4294967296 := by rw [p]; exact Nat.xor_lt_two_pow (by omega) (by omega)
  have h3 : 4294967295 ^^^ (a ^^^ b) < 4294967296 := by rw [p]; exact Nat.xor_lt_two_pow (by decide) (by omega)
  have h4 : (4294967295 ^^^ a) &&& b < 4294967296 := Nat.lt_of_le_of_lt Nat.and_le_right hb
  have h5 : (4294967295 ^^^ (a ^^^ b)) &&& sb a b c < 4294967296 := Nat.lt_of_le_of_lt Nat.and_le_right hd
  have h6 : (((4294967295 ^^^ a) &&& b) ||| ((4294967295 ^^^ (a ^^^ b)) &&& sb a b c)) < 4294967296 := by rw [p]; exact Nat.or_lt_two_pow (by omega) (by omega)
  rw [top_bit _ h6]
  have hm : (4294967295 : Nat).testBit 31 = true := by decide
  simp only [Nat.testBit_or, Nat.testBit_and, Nat.testBit_xor, hm, tb a ha, tb b hb, tb _ hd]
  unfold bor
  have e : sb a b c = (a + 4294967296 - b - c) % 4294967296 := rfl
  by_cases x : 2147483648 ≤ a <;> by_cases y : 2147483648 ≤ b <;> by_cases z : 2147483648 ≤ sb a b c <;> simp [x, y, z] <;> omega

theorem borrow_int (a b c : Nat) (ha : a < 4294967296) (hb : b < 4294967296) (hc : c ≤ 1) :
    bits .or .u32 (bits .and .u32 (bits .xor .u32 IntKind.u32.max (a : Int)) (b : Int)) (bits .and .u32 (bits .xor .u32 IntKind.u32.max (bits .xor .u32 (a : Int) (b : Int))) (((a : Int) - (b : Int) - (c : Int)) % 4294967296)) / 2147483648 = ((bor a b c : Nat) : Int) := by
  have hd : sb a b c < 4294967296 := Nat.mod_lt _ (by decide)
  have p : (4294967296 : Nat) = 2 ^ 32 := by decide
  have h1 : 4294967295 ^^^ a < 4294967296 := by rw [p]; exact Nat.xor_lt_two_pow (by decide) (by omega)
  have h2 : a ^^^ b < 4294967296 := by rw [p]; exact Nat.xor_lt_two_pow (by omega) (by omega)
  have h3 : 4294967295 ^^^ (a ^^^ b) < 4294967296 := by rw [p]; exact Nat.xor_lt_two_pow (by decide) (by omega)
  have h4 : (4294967295 ^^^ a) &&& b < 4294967296 := Nat.lt_of_le_of_lt Nat.and_le_right hb
  have h5 : (4294967295 ^^^ (a ^^^ b)) &&& sb a b c < 4294967296 := Nat.lt_of_le_of_lt Nat.and_le_right hd
  have e : ((a : Int) - (b : Int) - (c : Int)) % 4294967296 = ((sb a b c : Nat) : Int) := by unfold sb; omega
  have m : IntKind.u32.max = ((4294967295 : Nat) : Int) := rfl
  rw [e, m, u32_xor_nat 4294967295 a (by decide) ha, u32_and_nat _ b h1 hb, u32_xor_nat a b ha hb, u32_xor_nat 4294967295 _ (by decide) h2, u32_and_nat _ _ h3 hd, u32_or_nat _ _ h4 h5]
  rw [← borrow_nat a b c ha hb hc]
  omega

/-- math/bits.Sub32 -/
theorem sub32_any (a b c : Nat) (w : World) (ha : a < 4294967296) (hb : b < 4294967296) (hc : c ≤ 1) :
    Calls Tryz.prog 103 #[.int .u32 a, .int .u32 b, .int .u32 c] w fun e w' => e = .returned (.tuple #[.int .u32 ((sb a b c : Nat) : Int), .int .u32 ((bor a b c : Nat) : Int)]) ∧ w = w' := by
  have HB := Lib.hid (borrow_int a b c ha hb hc)
  have e : ((a : Int) - (b : Int) - (c : Int)) % 4294967296 = ((sb a b c : Nat) : Int) := by unfold sb; omega
  have HE := Lib.hid e
  clear e
  go_enter Tryz.func103, Tryz.ntmps103
  go_wp2
  go_ret2
  refine ⟨?_, rfl⟩
  rw [← HB.out, ← HE.out]
  rfl

/-- math/bits.Div32 -/
theorem div32_any (h l y : Nat) (w : World) (hh : h < y) (hl : l < 4294967296) (hy : y < 4294967296) :
    Calls Tryz.prog 111 #[.int .u32 h, .int .u32 l, .int .u32 y] w fun e w' => e = .returned (.tuple #[.int .u32 (((h * 4294967296 + l) / y : Nat) : Int), .int .u32 (((h * 4294967296 + l) % y : Nat) : Int)]) ∧ ∃ n, w' = w.drewN n := by
  have h1 : (((y : Nat) : Int) != 0) = true := by rw [bne_iff_ne]; omega
  have h2 : decide (((y : Nat) : Int) ≤ ((h : Nat) : Int)) = false := decide_eq_false (by omega)
  have h3 : (((y : Nat) : Int) == 0) = false := beq_eq_false_iff_ne.2 (by omega)
  have hor : bits .or .u64 ((h : Int) * 4294967296) (l : Int) = ((h * 4294967296 + l : Nat) : Int) := by
    have e : (h : Int) * 4294967296 = ((h * 4294967296 : Nat) : Int) := by omega
    rw [e, u64_or_nat _ _ (by omega) (by omega)]
    congr 1
    have := Nat.two_pow_add_eq_or_of_lt (i := 32) (b := l) (by simpa using hl) h
    rw [Nat.mul_comm h]
    exact this.symm
  obtain ⟨t, HT⟩ : ∃ t, Hid (h * 4294967296 + l = t) := ⟨_, Lib.hid rfl⟩
  have ht : t < 18446744073709551616 := by rw [← HT.out]; omega
  have hq : t / y < 4294967296 := by
    rw [← HT.out]
    refine Nat.div_lt_of_lt_mul ?_
    have : (h + 1) * 4294967296 ≤ y * 4294967296 := Nat.mul_le_mul_right _ hh
    omega
  have hr : t % y < 4294967296 := Nat.lt_trans (Nat.mod_lt _ (by omega)) hy
  have hy1 : (1 : Int) ≤ (y : Int) := by omega
  rw [HT.out] at hor ⊢
  have hq1 : (t : Int) / (y : Int) % 4294967296 = ((t / y : Nat) : Int) := by
    rw [← Int.natCast_ediv]; generalize t / y = q at *; omega
  have hr1 : (t : Int) % (y : Int) % 4294967296 = ((t % y : Nat) : Int) := by
    rw [← Int.natCast_emod]; generalize t % y = q at *; omega
  have HQ := Lib.hid hq1
  have HR := Lib.hid hr1
  have H4 := Lib.hid hq
  have H5 := Lib.hid hr
  clear hq1 hr1 hq hr
  go_enter Tryz.func111, Tryz.ntmps111
  go_wp2_with fail
  go_quiet (fail)
  go_wp2
  go_ret2
  refine ⟨?_, nq, rfl⟩
  have e1 : IntKind.u64.wrap ((t : Int) / (y : Int)) % 4294967296 = ((t / y : Nat) : Int) := by
    rw [IntKind.wrap_u64, ← Int.natCast_ediv]
    have := H4.out
    generalize t / y = q at *
    omega
  rw [← HR.out, ← e1]
  rfl

set_option maxRecDepth 100000 in
/-- math/bits.Len32 -/
theorem len32_any (x : Int) (w : World) (h0 : 0 ≤ x) (h1 : x ≤ 4294967295) :
    Calls Tryz.prog 117 #[.int .u32 x] w fun e w' => e = .returned (.int .i64 (Lib.bitLen x.toNat)) ∧ w = w' := by
  have HP : ∀ y : Int, 0 ≤ y → y ≤ 255 → Lib.bitLen y.toNat ≤ 8 ∧ Lib.len8 y = (Lib.bitLen y.toNat : Int) := fun y a b => ⟨Lib.bitLen_le8' y a b, Lib.len8_of y a b⟩
  rcases (show x ≤ 255 ∨ (256 ≤ x ∧ x ≤ 65535) ∨ (65536 ≤ x ∧ x ≤ 16777215) ∨ 16777216 ≤ x from by omega) with h | ⟨h, h'⟩ | ⟨h, h'⟩ | h
  · obtain ⟨a, b⟩ := HP x h0 h
    obtain ⟨c, HC⟩ : ∃ c, Hid (Lib.bitLen x.toNat = c) := ⟨_, Lib.hid rfl⟩
    rw [HC.out] at a b ⊢
    clear HP
    go_enter Tryz.func117, Tryz.ntmps117
    go_wp2
    go_ret
    exact ⟨congrArg (fun z : Int => Ending.returned (.int .i64 z)) (by omega), rfl⟩
  · have e : Lib.bitLen x.toNat = 8 + Lib.bitLen (x / 256).toNat := by
      rw [Lib.bitLen_shift8 x.toNat (by omega) (by omega)]
      congr 2
      omega
    have k0 : 0 ≤ x / 256 := by omega
    have k1 : x / 256 ≤ 255 := by omega
    obtain ⟨a, b⟩ := HP (x / 256) k0 k1
    rw [e]
    obtain ⟨c, HC⟩ : ∃ c, Hid (Lib.bitLen (x / 256).toNat = c) := ⟨_, Lib.hid rfl⟩
    rw [HC.out] at a b ⊢
    clear HP e
    go_enter Tryz.func117, Tryz.ntmps117
    go_wp2
    go_ret
    exact ⟨congrArg (fun z : Int => Ending.returned (.int .i64 z)) (by omega), rfl⟩
  · have e : Lib.bitLen x.toNat = 16 + Lib.bitLen (x / 65536).toNat := by
      rw [Lib.bitLen_shift16 x.toNat (by omega) (by omega)]
      congr 2
      omega
    have k0 : 0 ≤ x / 65536 := by omega
    have k1 : x / 65536 ≤ 255 := by omega
    obtain ⟨a, b⟩ := HP (x / 65536) k0 k1
    rw [e]
    obtain ⟨c, HC⟩ : ∃ c, Hid (Lib.bitLen (x / 65536).toNat = c) := ⟨_, Lib.hid rfl⟩
    rw [HC.out] at a b ⊢
    clear HP e
    go_enter Tryz.func117, Tryz.ntmps117
    go_wp2
    go_ret
    exact ⟨congrArg (fun z : Int => Ending.returned (.int .i64 z)) (by omega), rfl⟩
  · have e : Lib.bitLen x.toNat = 24 + Lib.bitLen (x / 16777216).toNat := by
      rw [Lib.bitLen_shift24 x.toNat (by omega) (by omega)]
      congr 2
      omega
    have k0 : 0 ≤ x / 16777216 := by omega
    have k1 : x / 16777216 ≤ 255 := by omega
    obtain ⟨a, b⟩ := HP (x / 16777216) k0 k1
    have k2 : x / 65536 / 256 = x / 16777216 := by omega
    rw [e]
    obtain ⟨c, HC⟩ : ∃ c, Hid (Lib.bitLen (x / 16777216).toNat = c) := ⟨_, Lib.hid rfl⟩
    rw [HC.out] at a b ⊢
    clear HP e
    go_enter Tryz.func117, Tryz.ntmps117
    go_wp2
    go_ret
    exact ⟨congrArg (fun z : Int => Ending.returned (.int .i64 z)) (by omega), rfl⟩

/-- math/bits.LeadingZeros32 -/
theorem lz32_any (x : Int) (w : World) (h0 : 0 ≤ x) (h1 : x ≤ 4294967295) :
    Calls Tryz.prog 112 #[.int .u32 x] w fun e w' => e = .returned (.int .i64 (32 - (Lib.bitLen x.toNat : Int))) ∧ w = w' := by
  have hl : Lib.bitLen x.toNat ≤ 32 := Lib.bitLen_le _ 32 (by decide) (by omega)
  go_enter Tryz.func112, Tryz.ntmps112
  go_wp2_with (go_at_call 117; refine (len32_any x _ h0 h1).mono ?_; rintro e w' ⟨rfl, rfl⟩)
  go_ret
  exact ⟨rfl, rfl⟩

/-- math/bits.Add64, as the walk meets it -/
theorem add64_call (x y : Nat) (w : World) :
    (callFunc 105 #[.int .u64 (x : Int), .int .u64 (y : Int), .int .u64 0]).run Tryz.prog w =
      .ok (.value (.tuple #[.int .u64 (((x + y) % 18446744073709551616 : Nat) : Int), .int .u64 (((x + y) / 18446744073709551616 : Nat) : Int)])) w := by
  rw [run_callFunc_extern Tryz.func105 (by kernel_rfl) (by kernel_rfl) (by kernel_rfl) (e := add64Entry) (by kernel_rfl), run_add64 x y 0 (by omega) (by omega) (by omega) (by omega)]
  simp only [Result.andThen]
  congr 5 <;> omega

theorem maskN (a : Nat) (ha : a < 18446744073709551616) : bits .and .u64 (a : Int) 4294967295 = ((a % 4294967296 : Nat) : Int) := by
  have h := bits_and_u64_nat a 4294967295 ha (by omega)
  have e : a &&& 4294967295 = a % 4294967296 := Nat.and_two_pow_sub_one_eq_mod a 32
  rw [e] at h
  exact h
theorem divN (a : Nat) : (a : Int) / 4294967296 = ((a / 4294967296 : Nat) : Int) := by omega
theorem mulN (a b : Nat) : (a : Int) * (b : Int) = ((a * b : Nat) : Int) := (Int.natCast_mul a b).symm
theorem addN (a b : Nat) : (a : Int) + (b : Int) = ((a + b : Nat) : Int) := (Int.natCast_add a b).symm
theorem wrapN (a : Nat) (ha : a < 18446744073709551616) : IntKind.u64.wrap (a : Int) = (a : Int) := by rw [IntKind.wrap_u64]; omega
theorem wrapM (a : Nat) : IntKind.u64.wrap (a : Int) = ((a % 18446744073709551616 : Nat) : Int) := by rw [IntKind.wrap_u64]; omega

set_option maxHeartbeats 1000000 in
/-- math/bits.Mul64 -/
theorem mul64_any (x y : Nat) (hx : x < 18446744073709551616) (hy : y < 18446744073709551616) (w : World) :
    Calls Tryz.prog 79 #[.int .u64 x, .int .u64 y] w fun e w' => e = .returned (.tuple #[.int .u64 ((x * y / 18446744073709551616 : Nat) : Int), .int .u64 ((x * y % 18446744073709551616 : Nat) : Int)]) ∧ w = w' := by
  obtain ⟨bd, bt, bw, hhi⟩ := Lib.mul64_hi x y hx hy
  have ba := Lib.half_mul_le (a := x / 4294967296) (b := y / 4294967296) (by omega) (by omega)
  have bb := Lib.half_mul_le (a := x / 4294967296) (b := y % 4294967296) (by omega) (by omega)
  have bc := Lib.half_mul_le (a := x % 4294967296) (b := y / 4294967296) (by omega) (by omega)
  have ba' : x / 4294967296 * (y / 4294967296) < 18446744073709551616 := by omega
  have bb' : x / 4294967296 * (y % 4294967296) < 18446744073709551616 := by omega
  have bc' : x % 4294967296 * (y / 4294967296) < 18446744073709551616 := by omega
  have bh1 : x / 4294967296 * (y / 4294967296) + (x / 4294967296 * (y % 4294967296) + x % 4294967296 * (y % 4294967296) / 4294967296) / 4294967296 < 18446744073709551616 := by omega
  have bh : x / 4294967296 * (y / 4294967296) + (x / 4294967296 * (y % 4294967296) + x % 4294967296 * (y % 4294967296) / 4294967296) / 4294967296 + ((x / 4294967296 * (y % 4294967296) + x % 4294967296 * (y % 4294967296) / 4294967296) % 4294967296 + x % 4294967296 * (y / 4294967296)) / 4294967296 < 18446744073709551616 := by omega
  go_enter Tryz.func79, Tryz.ntmps79
  go_wp2
  simp only [maskN x hx, maskN y hy, divN, mulN, addN, wrapN _ bd, wrapN _ bb', wrapN _ bt, maskN _ bt, wrapN _ bc', wrapN _ bw, wrapN _ ba', wrapN _ bh1, wrapN _ bh, wrapM (x * y)]
  rw [hhi]
  go_ret2
  exact ⟨rfl, rfl⟩
end Go.Proofs.YtenpbnmmadbkdaaGreat


/- nats.Add: the sum. -/
namespace Go.Proofs.YtenpbnmmadbkdaaGreat
open Go.RowKit
attribute [local go_sem ↓] Go.wp_at_zero Go.wp_at_succ

/-- one step of the addition with carry -/
theorem add_step {A X Y c P d e : Nat} (h : A + c * P = X + Y) : A + (d + e + c) % 4294967296 * P + (d + e + c) / 4294967296 * (4294967296 * P) = X + d * P + (Y + e * P) := by
  have h1 : (d + e + c) % 4294967296 * P + (d + e + c) / 4294967296 * (4294967296 * P) = (d + e + c) * P := by
    rw [← Nat.mul_assoc, ← Nat.add_mul]
    congr 1
    omega
  have h2 : (d + e + c) * P = d * P + e * P + c * P := by rw [Nat.add_mul, Nat.add_mul]
  omega

/-- the row after j words: the sum's words below j, then p's -/
def AddRow (p q j cr : Nat) (g : Nat) (wr : World) : Prop :=
  ∃ F : Nat → Nat, Ws wr g (wl p + 1) F ∧ (∀ t, t < wl p + 1 → F t < 4294967296) ∧ (∀ t, j ≤ t → t < wl p + 1 → F t = dg p t) ∧ vl F j + cr * bp j = vl (dg p) j + vl (dg q) j

theorem AddRow.step {p q j cr g : Nat} {wr : World} (h : AddRow p q j cr g wr) :
    AddRow p q (j + 1) ((dg p j + dg q j + cr) / 4294967296) g (wr.setCell ⟨g, j, none⟩ (.int .u32 (((dg p j + dg q j + cr) % 4294967296 : Nat) : Int))) := by
  obtain ⟨F, h1, h2, h3, h4⟩ := h
  refine ⟨_, h1.set j _, fun t ht => ?_, fun t h5 h6 => ?_, ?_⟩
  · by_cases e : t = j
    · simp only [e, if_true]; exact Nat.mod_lt _ (by decide)
    · simp only [e, if_false]; exact h2 t ht
  · simp only [show ¬ t = j by omega, if_false]; exact h3 t (by omega) h6
  · rw [vl_succ, vl_succ, vl_succ, bp_succ, if_pos rfl, vl_congr (g := F) (fun i hi => by simp [show ¬ i = j by omega])]
    exact add_step h4

theorem AddRow.done {p q cr g : Nat} {wr : World} (h : AddRow p q (wl p + 1) cr g wr) (hq : wl q ≤ wl p) : ∃ F : Nat → Nat, Ws wr g (wl p + 1) F ∧ (∀ t, t < wl p + 1 → F t < 4294967296) ∧ vl F (wl p + 1) = p + q := by
  obtain ⟨F, h1, h2, _, h4⟩ := h
  refine ⟨F, h1, h2, ?_⟩
  have a := lt_bp_wl p
  have b := Nat.lt_of_lt_of_le (lt_bp_wl q) (bp_le hq)
  have c := bp_succ (wl p)
  rw [vl_dg_of_lt (by omega), vl_dg_of_lt (by omega)] at h4
  rcases Nat.eq_zero_or_pos cr with e | e
  · rw [e] at h4; omega
  · have : 1 * bp (wl p + 1) ≤ cr * bp (wl p + 1) := Nat.mul_le_mul_right _ e
    omega

/-- what holds when the words of both numbers lie there, the longer first -/
def AddCut (x y : Nat) (W0 : World) (s7 s8 : Value) (wx : World) : Prop :=
  ∃ p q b1 c1 b2 c2 : Nat, s7 = .slice (some ⟨b1, 0, none⟩) (wl p) c1 ∧ s8 = .slice (some ⟨b2, 0, none⟩) (wl q) c2 ∧ p + q = x + y ∧ wl q ≤ wl p ∧ wl p ≤ max (wl x) (wl y) ∧ wl p ≤ c1 ∧ wl q ≤ c2 ∧
    Ws wx b1 c1 (dg p) ∧ Ws wx b2 c2 (dg q) ∧ Below W0.heap.size W0 wx

theorem isEmpty_bg (n : Nat) : (bg n).toList.isEmpty = decide (n < 18446744073709551616) := by
  by_cases h : n < 18446744073709551616
  · rw [toList_bg_small h, decide_eq_true h]; rfl
  · have := toList_bg_ne h
    rw [decide_eq_false h]
    simpa using this

/-- the sum of two numbers below 2^64 that stays there -/
theorem add_small (x y : Nat) (w : World) (h : x + y < 18446744073709551616) :
    Calls Tryz.prog 82 #[(Value.agg #[.int .u64 (lo (x)), .string (bg (x))]), (Value.agg #[.int .u64 (lo (y)), .string (bg (y))])] w fun e w' => e = .returned (Value.agg #[.int .u64 (lo (x + y)), .string (bg (x + y))]) ∧ Below w.heap.size w w' := by
  rw [lo_small (show x < 18446744073709551616 by omega), lo_small (show y < 18446744073709551616 by omega), lo_small h, bg_small (show x < 18446744073709551616 by omega), bg_small (show y < 18446744073709551616 by omega), bg_small h]
  have ha := add64_call x y
  have e1 : (x + y) / 18446744073709551616 = 0 := Nat.div_eq_of_lt h
  have e2 : (x + y) % 18446744073709551616 = x + y := Nat.mod_eq_of_lt h
  rw [e1, e2] at ha
  clear e1 e2
  go_enter Tryz.func82, Tryz.ntmps82
  go_wp2
  exact bodyPost_ret (v := .agg #[.int .u64 ((x + y : Nat) : Int), .string ⟨#[]⟩]) (by simp [results, Tryz.results82, go_sem]) rfl ⟨rfl, (((Below.refl _ _).alloc (Nat.le_refl _) _).alloc (by simp) _).alloc (by simp; omega) _⟩

set_option maxHeartbeats 1600000 in
set_option maxRecDepth 100000 in
theorem add_slow (x y : Nat) (w : World) (hx : wl x ≤ 549755813888) (hy : wl y ≤ 549755813888) (h : ¬ x + y < 18446744073709551616) :
    Calls Tryz.prog 82 #[(Value.agg #[.int .u64 (lo (x)), .string (bg (x))]), (Value.agg #[.int .u64 (lo (y)), .string (bg (y))])] w fun e w' => e = .returned (Value.agg #[.int .u64 (lo (x + y)), .string (bg (x + y))]) ∧ Below w.heap.size w w' := by
  obtain ⟨W0, HW⟩ : ∃ W0, Hid (((w.alloc (.cells #[.int .u64 ((lo x : Nat) : Int), .string (bg x)] 30)).alloc (.cells #[.int .u64 ((lo y : Nat) : Int), .string (bg y)] 30)).alloc (.cells #[.int .u64 0, .string ⟨#[]⟩] 30) = W0) := ⟨_, Lib.hid rfl⟩
  have HS := Lib.hid (show w.heap.size + 3 = W0.heap.size by rw [← HW.out]; simp)
  have hza : w.heap.size < W0.heap.size := by rw [← HS.out]; omega
  have hzb : w.heap.size + 1 < W0.heap.size := by rw [← HS.out]; omega
  have hzc : w.heap.size + 2 < W0.heap.size := by rw [← HS.out]; omega
  have hka : W0.cell? ⟨w.heap.size, 0, none⟩ = some (.int .u64 ((lo x : Nat) : Int)) := by rw [← HW.out]; simp [go_sem]
  have hkb : W0.cell? ⟨w.heap.size, 1, none⟩ = some (.string (bg x)) := by rw [← HW.out]; simp [go_sem]
  have hkc : W0.cell? ⟨w.heap.size + 1, 0, none⟩ = some (.int .u64 ((lo y : Nat) : Int)) := by rw [← HW.out]; simp [go_sem]
  have hkd : W0.cell? ⟨w.heap.size + 1, 1, none⟩ = some (.string (bg y)) := by rw [← HW.out]; simp [go_sem]
  have hke : W0.cell? ⟨w.heap.size + 1 + 1, 0, none⟩ = some (.int .u64 0) := by rw [← HW.out]; simp [go_sem]
  have hkf : W0.cell? ⟨w.heap.size + 1 + 1, 1, none⟩ = some (.string ⟨#[]⟩) := by rw [← HW.out]; simp [go_sem]
  have hkg : W0.frozen? ⟨w.heap.size + 1 + 1, 0, none⟩ = false := by rw [← HW.out]; simp [go_sem]
  have hkh : W0.frozen? ⟨w.heap.size + 1 + 1, 1, none⟩ = false := by rw [← HW.out]; simp [go_sem]
  have h0 := Lib.hid (show Below w.heap.size w W0 by rw [← HW.out]; exact (((Below.refl _ _).alloc (Nat.le_refl _) _).alloc (by simp) _).alloc (by simp; omega) _)
  have hlaw := held W0
  have ha := add64_call (lo x) (lo y)
  rcases (show (x < 18446744073709551616 ∧ y < 18446744073709551616) ∨ ¬ x < 18446744073709551616 ∨ (x < 18446744073709551616 ∧ ¬ y < 18446744073709551616) by omega) with ⟨h1, h2⟩ | h1 | ⟨h1, h2⟩
  case' inl =>
    have e1 : (lo x + lo y) / 18446744073709551616 = 1 := by rw [lo_small h1, lo_small h2]; omega
    have p1 : (bg x).toList.isEmpty = true := by rw [isEmpty_bg, decide_eq_true h1]
    have p2 : (bg y).toList.isEmpty = true := by rw [isEmpty_bg, decide_eq_true h2]
    rw [e1] at ha
    clear e1 h1 h2
    go_enter Tryz.func82, Tryz.ntmps82
    go_wp2_with fail
  case' inr.inl =>
    have p1 : (bg x).toList.isEmpty = false := by rw [isEmpty_bg, decide_eq_false h1]
    clear h1 ha
    go_enter Tryz.func82, Tryz.ntmps82
    go_wp2_with fail
  case' inr.inr =>
    have p1 : (bg x).toList.isEmpty = true := by rw [isEmpty_bg, decide_eq_true h1]
    have p2 : (bg y).toList.isEmpty = false := by rw [isEmpty_bg, decide_eq_false h2]
    clear h1 h2 ha
    go_enter Tryz.func82, Tryz.ntmps82
    go_wp2_with fail
  all_goals
    rw [HW.out]
    go_region_held3 (fun w' => Below W0.heap.size W0 w') (first | exact (Below.refl _ _).drew | assumption | exact grow (by assumption) (by assumption))
      (first
        | (go_at_call_of 81 (Value.agg #[.int .u64 (lo (x)), .string (bg (x))]); refine (words_any x _ (by omega)).mono ?_; rintro e w1 ⟨b1, c1, rfl, hb1, hc1, hd1, hws1, hbl1⟩)
        | (go_at_call_of 81 (Value.agg #[.int .u64 (lo (y)), .string (bg (y))]); refine (words_any y _ (by omega)).mono ?_; rintro e w2 ⟨b2, c2, rfl, hb2, hc2, hd2, hws2, hbl2⟩))
    have HB : Hid (Below W0.heap.size W0 w2) := by assumption
    have H1 := Lib.hid (hws1.below hbl2 hws1.lt)
    have H2 := Lib.hid hws2
    have H3 := Lib.hid hb1
    have H4 := Lib.hid hb2
    clear hws1 hws2 hbl1 hbl2 hb1 hb2 hlaw hd1 hd2
    go_upto_if 41 with fail
    go_cut [7, 8] (fun s7 s8 wx => AddCut x y W0 s7 s8 wx)
    case first =>
      by_cases hlt : wl x < wl y
      · go_wp2_with fail
        go_meet
        exact ⟨y, x, b2, c2, b1, c1, rfl, rfl, Nat.add_comm _ _, Nat.le_of_lt hlt, Nat.le_max_right _ _, hc2, hc1, H2.out, H1.out, HB.out⟩
      · go_wp2_with fail
        go_meet
        exact ⟨x, y, b1, c1, b2, c2, rfl, rfl, rfl, by omega, Nat.le_max_left _ _, hc1, hc2, H1.out, H2.out, HB.out⟩
    case rest =>
      clear hc1 hc2 H1 H2 H3 H4 HB
      obtain ⟨p, q, b1, c1, b2, c2, rfl, rfl, hpq, hqp, hpm, hc1, hc2, H1, H2, H3⟩ := hcut
      have HPQ := Lib.hid hpq
      have hp40 : wl p ≤ 549755813888 := by omega
      clear hpq hpm
      have hmk := make_ws ((wl p : Int) + 1) (wl p + 1) (by omega) (by omega)
      have HF : Hid (Ws (wc.alloc (.cells (madeCells #[.int .u32 0] (wl p + 1)) 22)) wc.heap.size (wl p + 1) fun _ => 0) := Ws.made wc _
      have HB : Hid (Below wc.heap.size wc (wc.alloc (.cells (madeCells #[.int .u32 0] (wl p + 1)) 22))) := (Below.refl _ _).alloc (Nat.le_refl _) _
      have HX : Hid (∀ i, i < wl p → (wc.alloc (.cells (madeCells #[.int .u32 0] (wl p + 1)) 22)).cell? ⟨b1, i, none⟩ = some (.int .u32 ((dg p i : Nat) : Int))) := fun i hi => (H1.alloc _).cell (by omega)
      have HY := Lib.hid H2
      have HZ := Lib.hid H3
      have hb2 := H2.lt
      clear H1 H2 H3
      go_wp2_with (with_reducible refine copy_ws rfl (.tmp 48) (.tmp 49) rfl wc.heap.size (wl p + 1) (wl p + 1) b1 (wl p) c1 rfl rfl (Nat.le_succ _) (fun _ => 0) (dg p) HF.out HX.out wc.heap.size wc HB.out (Nat.le_refl _) ?_; intro w3 H4 H5 hs3; have H4 := Lib.hid H4; have H5 := Lib.hid H5; have HS3 := Lib.hid hs3; clear hs3)
      have HR0 : Hid (AddRow p q 0 0 wc.heap.size w3) := ⟨_, H4.out, fun t ht => by
        by_cases e : t < wl p
        · simp only [e, if_true]; exact dg_lt _ _
        · simp only [e, if_false]; decide, fun t _ ht => by
        by_cases e : t < wl p
        · simp only [e, if_true]
        · simp only [e, if_false]; exact (dg_high (lt_bp_wl p) (by omega)).symm, rfl⟩
      clear H4 HF HB HX
      go_loopw [10, 53] (fun c i wr => ∃ j cr : Nat, j ≤ wl p + 1 ∧ cr ≤ 1 ∧ i = .int .i64 j ∧ c = .int .u32 cr ∧ AddRow p q j cr wc.heap.size wr ∧ Below wc.heap.size wc wr) (fun _ i _ => wl p + 1 - (intOf i).toNat)
      case atStart => exact ⟨0, 0, by omega, by omega, rfl, rfl, HR0.out, H5.out⟩
      case round =>
        obtain ⟨j, cr, hj, hcr, rfl, rfl, hrow, hbel⟩ := hrel
        clear HR0 H5 HS3
        by_cases hjp : j < wl p + 1
        · have HH := Lib.hid hrow
          obtain ⟨F, hF, hF2, hF3, _⟩ := hrow
          have hcell := hF.cell hjp
          rw [hF3 j (Nat.le_refl _) hjp] at hcell
          have hfr := hF.frozen j
          have hdp := dg_lt p j
          have hdq := dg_lt q j
          have HBE := Lib.hid hbel
          have hcy : j < wl q → wr.cell? ⟨b2, j, none⟩ = some (.int .u32 ((dg q j : Nat) : Int)) := fun h => by
            rw [hbel.cell (p := ⟨b2, j, none⟩) hb2]
            exact HY.out.cell (by omega)
          have HCY := Lib.hid hcy
          have e1 : ((dg p j : Int) + (dg q j : Int) + (cr : Int)) % 4294967296 = (((dg p j + dg q j + cr) % 4294967296 : Nat) : Int) := by omega
          have e2 : ((dg p j : Int) + (dg q j : Int) + (cr : Int)) / 4294967296 = (((dg p j + dg q j + cr) / 4294967296 : Nat) : Int) := by omega
          have E1 := Lib.hid e1
          have E2 := Lib.hid e2
          clear hcy hbel hF hF2 hF3 e1 e2
          by_cases hjq : j < wl q
          · have hc2 := HCY.out hjq
            go_wp2_with (go_at_call 106; refine (add32_any _ _ _ _ (by omega) (by omega) (by omega) (by omega) (by omega) (by omega)).mono ?_; rintro e w' ⟨rfl, rfl⟩)
            go_roundw
            case rel =>
              refine ⟨j + 1, (dg p j + dg q j + cr) / 4294967296, by omega, by omega, by go_num, by rw [E2.out], ?_, ?_⟩
              · rw [E1.out]
                exact HH.out.step
              · exact HBE.out.setCell (Nat.le_refl _) _
            case measure => simp [intOf]; omega
          · have hz : dg q j = 0 := dg_high (lt_bp_wl q) (by omega)
            have HZ2 := Lib.hid hz
            clear hz
            go_wp2_with (go_at_call 106; refine (add32_any _ _ _ _ (by omega) (by omega) (by omega) (by omega) (by omega) (by omega)).mono ?_; rintro e w' ⟨rfl, rfl⟩)
            go_roundw
            case rel =>
              have e4 : ((dg p j : Int) + (cr : Int)) / 4294967296 = (((dg p j + dg q j + cr) / 4294967296 : Nat) : Int) := by rw [HZ2.out]; omega
              have e5 : ((dg p j : Int) + (cr : Int)) % 4294967296 = (((dg p j + dg q j + cr) % 4294967296 : Nat) : Int) := by rw [HZ2.out]; omega
              refine ⟨j + 1, (dg p j + dg q j + cr) / 4294967296, by omega, by omega, by go_num, by rw [e4], ?_, ?_⟩
              · rw [e5]
                exact HH.out.step
              · exact HBE.out.setCell (Nat.le_refl _) _
            case measure => simp [intOf]; omega
        · obtain rfl : j = wl p + 1 := by omega
          obtain ⟨F, hF, hF2, hF3⟩ := hrow.done hqp
          have HF := Lib.hid hF
          have HF2 := Lib.hid hF2
          have HF3 := Lib.hid hF3
          have HBE := Lib.hid hbel
          clear hF hF2 hF3 hrow hbel
          go_wp2_with fail
          refine (of_any wc.heap.size (wl p + 1) (wl p + 1) F _ (Nat.le_refl _) (by omega) (by omega) (fun i hi => HF.out.cell hi) HF.out.lt HF2.out).mono ?_
          rintro e w5 ⟨rfl, hb5⟩
          rw [HF3.out, HPQ.out]
          have hall : Below W0.heap.size W0 w5 := grow (grow HZ.out HBE.out) hb5
          have hr0 := (hall.cell (p := ⟨w.heap.size + 1 + 1, 0, none⟩) hzc).trans hke
          have hr1 := (hall.cell (p := ⟨w.heap.size + 1 + 1, 1, none⟩) hzc).trans hkf
          have hf0 := (hall.frozen (p := ⟨w.heap.size + 1 + 1, 0, none⟩) hzc).trans hkg
          have hf1 := (hall.frozen (p := ⟨w.heap.size + 1 + 1, 1, none⟩) hzc).trans hkh
          have HA := Lib.hid hall
          clear hall hb5
          go_wp2
          exact bodyPost_ret (v := (Value.agg #[.int .u64 (lo (x + y)), .string (bg (x + y))])) (by simp [results, Tryz.results82, go_sem, hr0, hr1]) rfl
            ⟨rfl, sc2 (grow h0.out HA.out) (by show w.heap.size ≤ w.heap.size + 1 + 1; omega)⟩

/-- nats.Add -/
theorem add_any (x y : Nat) (w : World) (hx : wl x ≤ 549755813888) (hy : wl y ≤ 549755813888) :
    Calls Tryz.prog 82 #[(Value.agg #[.int .u64 (lo (x)), .string (bg (x))]), (Value.agg #[.int .u64 (lo (y)), .string (bg (y))])] w fun e w' => e = .returned (Value.agg #[.int .u64 (lo (x + y)), .string (bg (x + y))]) ∧ Below w.heap.size w w' := by
  by_cases h : x + y < 18446744073709551616
  · exact add_small x y w h
  · exact add_slow x y w hx hy h
end Go.Proofs.YtenpbnmmadbkdaaGreat
