
/- plain facts for the reference's Chinese. No condition but those stated. -/
import Derived.Test.YtobojnodohjiaaaGreatDoorJoiP
import Derived.Test.YtobojnodohjiaaaGreatDoorRr7
namespace Go.Proofs.YtobojnodohjiaaaGreatDoor
open Go.RowKit
set_option linter.unusedSimpArgs false
set_option linter.unusedVariables false
/-- a slice of integers -/
def Isl (w : World) (v : Value) (n : Nat) (g : Nat → Int) : Prop :=
  (∃ ao c, v = .slice ao n c ∧ n = 0) ∨ ∃ b o c, v = .slice (some ⟨b, o, none⟩) n c ∧ b < w.heap.size ∧ ∀ i, i < n → w.cell? ⟨b, o + i, none⟩ = some (.int .i64 (g i))
theorem Isl.slice {w : World} {v : Value} {n : Nat} {g : Nat → Int} (h : Isl w v n g) : ∃ ao c, v = .slice ao n c := by
  rcases h with ⟨ao, c, rfl, _⟩ | ⟨b, o, c, rfl, _⟩
  · exact ⟨_, _, rfl⟩
  · exact ⟨_, _, rfl⟩
/-- the least common multiple of the first k moduli -/
def lcms (f : Nat → Int × Nat) : Nat → Nat
  | 0 => 1
  | k + 1 => Nat.lcm (lcms f k) (f k).2
/-- x is congruent to the first n residues -/
def sat7 (f : Nat → Int × Nat) (n : Nat) (x : Nat) : Prop := ∀ i, i < n → ((f i).2 : Int) ∣ (x : Int) - (f i).1
theorem lcms_dvd (f : Nat → Int × Nat) : ∀ {k i : Nat}, i < k → (f i).2 ∣ lcms f k
  | k + 1, i, h => by
    rcases Nat.lt_succ_iff_lt_or_eq.1 h with h | rfl
    · exact Nat.dvd_trans (lcms_dvd f h) (Nat.dvd_lcm_left _ _)
    · exact Nat.dvd_lcm_right _ _
theorem lcms_min (f : Nat → Int × Nat) {z : Nat} : ∀ {k : Nat}, (∀ i, i < k → (f i).2 ∣ z) → lcms f k ∣ z
  | 0, _ => Nat.one_dvd z
  | k + 1, h => Nat.lcm_dvd (lcms_min f fun i hi => h i (Nat.lt_succ_of_lt hi)) (h k (Nat.lt_succ_self k))
theorem lcms_pos (f : Nat → Int × Nat) : ∀ {k : Nat}, (∀ i, i < k → 0 < (f i).2) → 0 < lcms f k
  | 0, _ => Nat.one_pos
  | k + 1, h => Nat.lcm_pos (lcms_pos f fun i hi => h i (Nat.lt_succ_of_lt hi)) (h k (Nat.lt_succ_self k))
theorem chn_found {f : Nat → Int × Nat} {n x L : Nat} (hp : ∀ i, i < n → 0 < (f i).2) (hl : lcms f n = L) (hs : sat7 f n x) (hx : x < L) : chn f n = some (((x : Nat) : Int), L) := by
  subst hl
  exact chn_eq hp hs (fun i hi => lcms_dvd f hi) (fun z hz => lcms_min f hz) (by omega) (by omega)
theorem chn_lost {f : Nat → Int × Nat} {n L : Nat} (hp : ∀ i, i < n → 0 < (f i).2) (hl : lcms f n = L) (hn : ∀ y, y < L → ¬ sat7 f n y) : chn f n = none := by
  refine chn_no hp fun A hA => ?_
  have hL : 0 < L := by rw [← hl]; exact lcms_pos f hp
  have hb := emod_bd (a := A) hL
  obtain ⟨y, hy⟩ : ∃ y : Nat, A % ((L : Nat) : Int) = (y : Int) := ⟨(A % ((L : Nat) : Int)).toNat, by omega⟩
  refine hn y (by omega) fun i hi => ?_
  rw [← hy]
  exact dv_add (Int.dvd_trans (Int.ofNat_dvd.2 (by rw [← hl]; exact lcms_dvd f hi)) (emod_dv A L)) (hA i hi)
theorem lcm_least {L m j : Nat} (hL : 0 < L) (hm : 0 < m) (hj : 1 ≤ j) (h : m ∣ L * j) (hmin : ∀ j', 1 ≤ j' → j' < j → ¬ m ∣ L * j') : Nat.lcm L m = L * j := by
  obtain ⟨t, ht⟩ := Nat.dvd_lcm_left L m
  have h0 := Nat.lcm_pos hL hm
  have ht0 : 1 ≤ t := by
    rcases Nat.eq_zero_or_pos t with h | h
    · rw [h, Nat.mul_zero] at ht; omega
    · exact h
  have h1 : Nat.lcm L m ∣ L * j := Nat.lcm_dvd (Nat.dvd_mul_right _ _) h
  have h2 : m ∣ L * t := by rw [← ht]; exact Nat.dvd_lcm_right L m
  have h3 : ¬ t < j := fun h => hmin t ht0 h h2
  have h4 := Nat.le_of_dvd (Nat.mul_pos hL hj) h1
  rw [ht] at h4
  have h5 : t ≤ j := Nat.le_of_mul_le_mul_left h4 hL
  rw [ht, show t = j by omega]
theorem sat_step {f : Nat → Int × Nat} {i x : Nat} : sat7 f (i + 1) x ↔ sat7 f i x ∧ ((f i).2 : Int) ∣ (x : Int) - (f i).1 :=
  ⟨fun h => ⟨fun j hj => h j (by omega), h i (by omega)⟩, fun h j hj => by
    rcases Nat.lt_succ_iff_lt_or_eq.1 hj with hj | rfl
    · exact h.1 j hj
    · exact h.2⟩
theorem r7modz (a m z : Int) (w : World) (hz : a % m = z) (ha : -1000000000000 ≤ a) (ha2 : a ≤ 1000000000000) (hm : 0 < m) (hm2 : m ≤ 1000000000000) :
    Calls Tryz.prog 108 #[.int .i64 a, .int .i64 m] w fun e w' => e = .returned (.int .i64 z) ∧ Below w.heap.size w w' := hz ▸ r7mod a m w ha ha2 hm hm2
theorem pow12 {i : Nat} (h : i ≤ 4) : 12 ^ i ≤ 20736 := Nat.pow_le_pow_right (by decide) h
end Go.Proofs.YtobojnodohjiaaaGreatDoor
