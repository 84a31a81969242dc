
/- plain facts for ReconsJoins; cells of rows of congruences. No condition but those stated. -/
import Derived.Test.YtobojnodohjiaaaGreatDoorModP
import Derived.Test.YtobojnodohjiaaaGreatDoorIntE
namespace Go.Proofs.YtobojnodohjiaaaGreatDoor
open Go.RowKit
set_option linter.unusedSimpArgs false
set_option linter.unusedVariables false
theorem eq_rest_self (d : Nat) (a : Int) (m : Nat) (w : World) : (Op.equalIn (d + 5) 71 (.agg #[.int .u64 ((lo (Int.natAbs (a)) : Nat) : Int), .string (bg (Int.natAbs (a))), .bool (decide ((a) < 0)), .int .u64 ((lo (m) : Nat) : Int), .string (bg (m))]) (.agg #[.int .u64 ((lo (Int.natAbs (a)) : Nat) : Int), .string (bg (Int.natAbs (a))), .bool (decide ((a) < 0)), .int .u64 ((lo (m) : Nat) : Int), .string (bg (m))])).run Tryz.prog w = .ok true w := by
  simp [go_sem, eq_int, eq_nat]
theorem rrow_cell {W : World} {g E n j i : Nat} {cur : Array Value} {v : Value} {f : Nat → Int × Nat} (h : RowV g cur 5 v n (rcs f n)) (hB : Bx W g E cur) (hj : j < n) (hi : i < 5) : W.cell? ⟨g, j * 5 + i, none⟩ = (rcl (f j))[i]? := by
  obtain ⟨cap, rfl, h1, h2, h3, h4, h5⟩ := h
  have hx := rcs_at f n j i hj hi
  have hlt : j * 5 + i < n * 5 := by omega
  rw [← h4, List.getElem?_take_of_lt hlt, Array.getElem?_toList] at hx
  rw [hB.cells W (Gr.refl _)]
  exact hx
section
variable {W : World} {g E n j : Nat} {cur : Array Value} {v : Value} {f : Nat → Int × Nat} {r : Int} {m : Nat}
theorem rrow_c0 (h : RowV g cur 5 v n (rcs f n)) (hB : Bx W g E cur) (hj : j < n) (hq : f j = (r, m)) : W.cell? ⟨g, j * 5, none⟩ = some (.int .u64 ((lo (Int.natAbs r) : Nat) : Int)) := (rrow_cell h hB hj (i := 0) (by decide)).trans (by rw [hq]; rfl)
theorem rrow_c1 (h : RowV g cur 5 v n (rcs f n)) (hB : Bx W g E cur) (hj : j < n) (hq : f j = (r, m)) : W.cell? ⟨g, j * 5 + 1, none⟩ = some (.string (bg (Int.natAbs r))) := (rrow_cell h hB hj (i := 1) (by decide)).trans (by rw [hq]; rfl)
theorem rrow_c2 (h : RowV g cur 5 v n (rcs f n)) (hB : Bx W g E cur) (hj : j < n) (hq : f j = (r, m)) : W.cell? ⟨g, j * 5 + 2, none⟩ = some (.bool (decide (r < 0))) := (rrow_cell h hB hj (i := 2) (by decide)).trans (by rw [hq]; rfl)
theorem rrow_c3 (h : RowV g cur 5 v n (rcs f n)) (hB : Bx W g E cur) (hj : j < n) (hq : f j = (r, m)) : W.cell? ⟨g, j * 5 + 3, none⟩ = some (.int .u64 ((lo m : Nat) : Int)) := (rrow_cell h hB hj (i := 3) (by decide)).trans (by rw [hq]; rfl)
theorem rrow_c4 (h : RowV g cur 5 v n (rcs f n)) (hB : Bx W g E cur) (hj : j < n) (hq : f j = (r, m)) : W.cell? ⟨g, j * 5 + 4, none⟩ = some (.string (bg m)) := (rrow_cell h hB hj (i := 4) (by decide)).trans (by rw [hq]; rfl)
end
theorem rs2 {W : World} {g T : Nat} {r1 r2 : Int} {m1 m2 : Nat} (h : Bx W g T #[.int .u64 ((lo (Int.natAbs (r1)) : Nat) : Int), .string (bg (Int.natAbs (r1))), .bool (decide ((r1) < 0)), .int .u64 ((lo (m1) : Nat) : Int), .string (bg (m1)), .int .u64 ((lo (Int.natAbs (r2)) : Nat) : Int), .string (bg (Int.natAbs (r2))), .bool (decide ((r2) < 0)), .int .u64 ((lo (m2) : Nat) : Int), .string (bg (m2))]) : Rs W (.slice (some ⟨g, 0, none⟩) 2 2) 2 (f2r r1 m1 r2 m2) := by
  refine .inr ⟨g, 0, 2, rfl, h.lt, fun i hi j hj => ?_⟩
  rw [h.cells W (Gr.refl _)]
  rcases (show i = 0 ∨ i = 1 by omega) with rfl | rfl <;> rcases (show j = 0 ∨ j = 1 ∨ j = 2 ∨ j = 3 ∨ j = 4 by omega) with rfl | rfl | rfl | rfl | rfl <;> rfl
/-- a row that is turned -/
def rrot (f : Nat → Int × Nat) (k n i : Nat) : Int × Nat := if i < n - k then f (k + i) else f (i - (n - k))
theorem rrot_in (f : Nat → Int × Nat) (k n i : Nat) (hk : k < n) (hi : i < n) : ∃ j, j < n ∧ rrot f k n i = f j := by
  unfold rrot
  split
  · exact ⟨k + i, by omega, rfl⟩
  · exact ⟨i - (n - k), by omega, rfl⟩
theorem rrot_out (f : Nat → Int × Nat) (k n j : Nat) (hk : k < n) (hj : j < n) : ∃ i, i < n ∧ rrot f k n i = f j := by
  unfold rrot
  rcases Nat.lt_or_ge j k with h | h
  · exact ⟨j + (n - k), by omega, by rw [if_neg (by omega), Nat.add_sub_cancel]⟩
  · exact ⟨j - k, by omega, by rw [if_pos (by omega), Nat.add_sub_cancel' h]⟩
theorem rrot_cells (f : Nat → Int × Nat) (k n : Nat) (hk : k < n) : rcs (fun i => f (k + i)) (n - k) ++ rcs f k = rcs (rrot f k n) n := by
  have h1 : rcs (rrot f k n) ((n - k) + k) = _ := rcs_add _ _ _
  rw [show n - k + k = n by omega] at h1
  rw [h1, rcs_eq (rrot f k n) (fun i => f (k + i)) (n - k) (fun i hi => by unfold rrot; rw [if_pos hi]), rcs_eq (fun i => rrot f k n (n - k + i)) f k (fun i hi => by
    show rrot f k n (n - k + i) = _
    unfold rrot
    rw [if_neg (by omega), Nat.add_sub_cancel_left])]
/-- the congruences of ReconsJoins -/
def jf (a : Int) (fw : Nat → Nat) (i : Nat) : Int × Nat := (a + (if i % 2 = 0 then -((max (fw i) 1 : Nat) : Int) else ((max (fw i) 1 : Nat) : Int)), max (fw i) 1)
theorem jf_pos (a : Int) (fw : Nat → Nat) (i : Nat) : 0 < (jf a fw i).2 := by show 0 < max (fw i) 1; omega
theorem jf_dvd (a : Int) (fw : Nat → Nat) (i : Nat) : ((jf a fw i).2 : Int) ∣ a - (jf a fw i).1 := by
  unfold jf
  generalize max (fw i) 1 = m
  show (m : Int) ∣ a - (a + _)
  split
  · exact ⟨1, by omega⟩
  · exact ⟨-1, by omega⟩
theorem jf_wl {a : Int} {fw : Nat → Nat} {i : Nat} (ha : wl a.natAbs ≤ 8) (h : fw i < 4294967296) : wl (jf a fw i).1.natAbs ≤ 9 ∧ wl (jf a fw i).2 ≤ 1 := by
  have h1 : wl (max (fw i) 1) ≤ 1 := wl_small (by omega)
  refine ⟨?_, h1⟩
  have h2 := wl_iadd a (if i % 2 = 0 then -((max (fw i) 1 : Nat) : Int) else ((max (fw i) 1 : Nat) : Int))
  have h3 : wl (Int.natAbs (if i % 2 = 0 then -((max (fw i) 1 : Nat) : Int) else ((max (fw i) 1 : Nat) : Int))) ≤ 1 := by
    split
    · rw [Int.natAbs_neg, Int.natAbs_natCast]; exact h1
    · rw [Int.natAbs_natCast]; exact h1
  show wl (Int.natAbs (a + _)) ≤ 9
  omega
/-- the first k congruences of ReconsJoins in one -/
theorem jf_chn (a : Int) (fw : Nat → Nat) (k : Nat) : ∃ M, chn (jf a fw) k = some (a % ((M : Nat) : Int), M) ∧ 0 < M := chn_of (fun i _ => jf_pos a fw i) (fun i _ => jf_dvd a fw i)
theorem emod_bd {a : Int} {M : Nat} (h : 0 < M) : 0 ≤ a % ((M : Nat) : Int) ∧ a % ((M : Nat) : Int) < ((M : Nat) : Int) := ⟨Int.emod_nonneg a (by omega), Int.emod_lt_of_pos a (by omega)⟩
theorem emod_dv (a : Int) (M : Nat) : ((M : Nat) : Int) ∣ a % ((M : Nat) : Int) - a := by
  have := Int.mul_ediv_add_emod a ((M : Nat) : Int)
  exact ⟨-(a / ((M : Nat) : Int)), by rw [Int.mul_neg]; omega⟩
theorem dv_add {x y z p : Int} (h1 : p ∣ x - y) (h2 : p ∣ y - z) : p ∣ x - z := by
  have := Int.dvd_add h1 h2
  rwa [show x - y + (y - z) = x - z by omega] at this
theorem jf_rot {a : Int} {fw : Nat → Nat} {n k M : Nat} (hk : k < n) (h : chn (jf a fw) n = some (a % ((M : Nat) : Int), M)) (hM : 0 < M) : chn (rrot (jf a fw) k n) n = some (a % ((M : Nat) : Int), M) := by
  have e := (chn_some (fun i _ => jf_pos a fw i) h).2.2.2
  refine chn_eq (fun i hi => ?_) (fun i hi => ?_) (fun i hi => ?_) (fun z hz => ?_) (emod_bd hM).1 (emod_bd hM).2
  · obtain ⟨j, hj, ej⟩ := rrot_in (jf a fw) k n i hk hi; rw [ej]; exact jf_pos a fw j
  · obtain ⟨j, hj, ej⟩ := rrot_in (jf a fw) k n i hk hi; rw [ej]; exact (e j hj).1
  · obtain ⟨j, hj, ej⟩ := rrot_in (jf a fw) k n i hk hi; rw [ej]; exact (e j hj).2
  · refine Int.ofNat_dvd.1 (chn_min h _ fun i hi => ?_)
    obtain ⟨j, hj, ej⟩ := rrot_out (jf a fw) k n i hk hi
    rw [← ej]
    exact Int.ofNat_dvd.2 (hz j hj)
theorem jf_pair {a : Int} {fw : Nat → Nat} {k M : Nat} {r : Int} {m : Nat} (h : chn (jf a fw) k = some (a % ((M : Nat) : Int), M)) (hM : 0 < M) (hf : jf a fw k = (r, m)) : ∃ M2, chn (jf a fw) (k + 1) = some (a % ((M2 : Nat) : Int), M2) ∧ 0 < M2 ∧ chn (f2r (a % ((M : Nat) : Int)) M r m) 2 = some (a % ((M2 : Nat) : Int), M2) := by
  obtain ⟨M2, h2, hM2⟩ := jf_chn a fw (k + 1)
  have hm : 0 < m := by have := jf_pos a fw k; rw [hf] at this; exact this
  have hd : (m : Int) ∣ a - r := by have := jf_dvd a fw k; rw [hf] at this; exact this
  have e2 := (chn_some (fun i _ => jf_pos a fw i) h2).2.2.2
  have hl : crm M m = M2 := by
    rw [chn, h] at h2
    have h2 : (if ((jf a fw k).1 - a % ((M : Nat) : Int)) % (egcd (M : Int) ((jf a fw k).2 : Int)).1 = 0 then some (crt (a % ((M : Nat) : Int)) M (jf a fw k).1 (jf a fw k).2, crm M (jf a fw k).2) else none) = some (a % ((M2 : Nat) : Int), M2) := h2
    split at h2
    · injection h2 with h2; injection h2 with h3 h4; rw [← h4, hf]
    · cases h2
  have d1 : ((M : Nat) : Int) ∣ ((M2 : Nat) : Int) := by rw [← hl]; exact crm_d1 M m
  have d2 : ((m : Nat) : Int) ∣ ((M2 : Nat) : Int) := by rw [← hl]; exact crm_d2 M m
  refine ⟨M2, h2, hM2, chn_eq (lt_two hM hm) (lt_two (P := fun i => ((f2r (a % ((M : Nat) : Int)) M r m i).2 : Int) ∣ a % ((M2 : Nat) : Int) - (f2r (a % ((M : Nat) : Int)) M r m i).1) ?_ ?_) (lt_two (P := fun i => (f2r (a % ((M : Nat) : Int)) M r m i).2 ∣ M2) (Int.ofNat_dvd.1 d1) (Int.ofNat_dvd.1 d2)) (fun z hz => ?_) (emod_bd hM2).1 (emod_bd hM2).2⟩
  · show ((M : Nat) : Int) ∣ a % ((M2 : Nat) : Int) - a % ((M : Nat) : Int)
    have h3 := emod_dv a M
    have h4 := Int.dvd_trans d1 (emod_dv a M2)
    refine dv_add h4 ?_
    obtain ⟨x, hx⟩ := h3
    exact ⟨-x, by rw [Int.mul_neg]; omega⟩
  · show ((m : Nat) : Int) ∣ a % ((M2 : Nat) : Int) - r
    exact dv_add (Int.dvd_trans d2 (emod_dv a M2)) hd
  · rw [← hl]
    exact Int.ofNat_dvd.1 (crm_dvd (Int.ofNat_dvd.2 (hz 0 (by decide))) (Int.ofNat_dvd.2 (hz 1 (by decide))))
theorem jf_div {a : Int} {fw : Nat → Nat} {n i M : Nat} {r : Int} {m : Nat} (h : chn (jf a fw) n = some (a % ((M : Nat) : Int), M)) (hi : i < n) (hf : jf a fw i = (r, m)) : M % m = 0 := by
  have e := ((chn_some (fun i _ => jf_pos a fw i) h).2.2.2 i hi).2
  rw [hf] at e
  exact Nat.mod_eq_zero_of_dvd e
/-- a contradictory congruence -/
theorem jf_bad {a : Int} {fw : Nat → Nat} {n i M : Nat} {r : Int} {m : Nat} (h : chn (jf a fw) n = some (a % ((M : Nat) : Int), M)) (hM : 0 < M) (hi : i < n) (hf : jf a fw i = (r, m)) (h1 : m ≠ 1) : chn (f2r (a % ((M : Nat) : Int)) M (r + 1) m) 2 = none := by
  have e := (chn_some (fun i _ => jf_pos a fw i) h).2.2.2 i hi
  rw [hf] at e
  have hm : 0 < m := by have := jf_pos a fw i; rw [hf] at this; exact this
  refine chn_two_no hM hm fun h0 => h1 ?_
  have hg : Nat.gcd M m = m := Nat.gcd_eq_right e.2
  rw [hg] at h0
  have h2 := Int.dvd_add (Int.dvd_of_emod_eq_zero h0) e.1
  rw [show r + 1 - a % ((M : Nat) : Int) + (a % ((M : Nat) : Int) - r) = 1 by omega] at h2
  exact Nat.dvd_one.1 (Int.ofNat_dvd.1 (show ((m : Nat) : Int) ∣ ((1 : Nat) : Int) from h2))
theorem jf_one {R : Int} {M : Nat} {r : Int} (hM : 0 < M) : ∃ R2 M2, chn (f2r R M r 1) 2 = some (R2, M2) ∧ wl M2 ≤ 3 + 2 * wl M := by
  obtain ⟨M2, h, _⟩ := chn_of (f := f2r R M r 1) (k := 2) (A := R) (lt_two hM (show 0 < 1 by decide)) (lt_two (P := fun i => ((f2r R M r 1 i).2 : Int) ∣ R - (f2r R M r 1 i).1) ⟨0, by show R - R = _; omega⟩ (Int.one_dvd _))
  have h1 : wl 1 ≤ 1 := wl_small (by decide)
  have e := chn_wl (c := 1 + wl M) (lt_two (P := fun i => wl (f2r R M r 1 i).2 ≤ 1 + wl M) (by show wl M ≤ _; omega) (by show wl 1 ≤ _; omega)) h
  exact ⟨_, M2, h, by omega⟩
theorem f2r_pos {r1 r2 : Int} {m1 m2 : Nat} (h1 : 0 < m1) (h2 : 0 < m2) : ∀ i, i < 2 → 0 < (f2r r1 m1 r2 m2 i).2 := lt_two h1 h2
theorem f2r_sz {r1 r2 : Int} {m1 m2 : Nat} (h1 : wl r1.natAbs ≤ 100) (h2 : wl m1 ≤ 10) (h3 : wl r2.natAbs ≤ 100) (h4 : wl m2 ≤ 10) : ∀ i, i < 2 → wl (f2r r1 m1 r2 m2 i).1.natAbs ≤ 100 ∧ wl (f2r r1 m1 r2 m2 i).2 ≤ 10 := lt_two (P := fun i => wl (f2r r1 m1 r2 m2 i).1.natAbs ≤ 100 ∧ wl (f2r r1 m1 r2 m2 i).2 ≤ 10) ⟨h1, h2⟩ ⟨h3, h4⟩
theorem wl_emod {a : Int} {M k : Nat} (h : 0 < M) (hk : wl M ≤ k) : wl (Int.natAbs (a % ((M : Nat) : Int))) ≤ k := by
  have := emod_bd (a := a) h
  exact Nat.le_trans (wl_mono (by omega)) hk
end Go.Proofs.YtobojnodohjiaaaGreatDoor
