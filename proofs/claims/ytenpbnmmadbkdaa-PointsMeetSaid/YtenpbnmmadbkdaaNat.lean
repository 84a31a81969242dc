/- How a number lies in the program's two fields: below 2^64 in the first, else as the bytes of its words in the second; the reading back. No condition. -/
import Derived.Test.YtenpbnmmadbkdaaNum
import Derived.Laws.Strings
namespace Go.Proofs.Ytenpbnmmadbkdaa

/-- the first field -/
def lo (n : Nat) : Nat := if n < 18446744073709551616 then n else 0
/-- four bytes of a word -/
def by4 (d : Nat) : List UInt8 := [UInt8.ofNat d, UInt8.ofNat (d / 256), UInt8.ofNat (d / 65536), UInt8.ofNat (d / 16777216)]
/-- the bytes of k words -/
def bys (f : Nat → Nat) : Nat → List UInt8
  | 0 => []
  | k + 1 => bys f k ++ by4 (f k)
/-- the second field -/
def bg (n : Nat) : ByteArray := if n < 18446744073709551616 then ⟨#[]⟩ else ⟨(bys (dg n) (wl n)).toArray⟩

theorem lo_lt (n : Nat) : lo n < 18446744073709551616 := by unfold lo; split <;> omega
theorem lo_small {n : Nat} (h : n < 18446744073709551616) : lo n = n := if_pos h
theorem lo_big {n : Nat} (h : ¬ n < 18446744073709551616) : lo n = 0 := if_neg h
theorem bg_small {n : Nat} (h : n < 18446744073709551616) : bg n = ⟨#[]⟩ := if_pos h
theorem bg_big {n : Nat} (h : ¬ n < 18446744073709551616) : bg n = ⟨(bys (dg n) (wl n)).toArray⟩ := if_neg h

theorem length_bys (f : Nat → Nat) (k : Nat) : (bys f k).length = 4 * k := by
  induction k with
  | zero => rfl
  | succ k ih => rw [bys, List.length_append, ih]; rfl
theorem bys_congr {f g : Nat → Nat} {k : Nat} (h : ∀ i, i < k → f i = g i) : bys f k = bys g k := by
  induction k with
  | zero => rfl
  | succ k ih => rw [bys, bys, ih (fun i hi => h i (by omega)), h k (by omega)]

theorem bys_at (f : Nat → Nat) {k i j : Nat} (hi : i < k) (hj : j < 4) : (bys f k)[4 * i + j]? = (by4 (f i))[j]? := by
  induction k with
  | zero => omega
  | succ k ih =>
    rw [bys]
    by_cases h : i < k
    · rw [List.getElem?_append_left (by rw [length_bys]; omega)]
      exact ih h
    · obtain rfl : i = k := by omega
      rw [List.getElem?_append_right (by rw [length_bys]; omega), length_bys]
      congr 1
      omega

theorem by4_at (d : Nat) {j : Nat} (hj : j < 4) : ((by4 d)[j]?).map UInt8.toNat = some (d / 256 ^ j % 256) := by
  match j, hj with
  | 0, _ => simp [by4]
  | 1, _ => simp [by4]
  | 2, _ => simp [by4]
  | 3, _ => simp [by4]

theorem big_wl {n : Nat} (h : ¬ n < 18446744073709551616) : 3 ≤ wl n := by
  have := @wl_le_two n
  omega
theorem small_wl {n : Nat} (h : n < 18446744073709551616) : wl n ≤ 2 := wl_le_two.2 h

theorem size_bg_small {n : Nat} (h : n < 18446744073709551616) : (bg n).size = 0 := by rw [bg_small h]; rfl
theorem size_bg_big {n : Nat} (h : ¬ n < 18446744073709551616) : (bg n).size = 4 * wl n := by
  rw [bg_big h]
  show ((bys (dg n) (wl n)).toArray).size = _
  rw [List.size_toArray, length_bys]
theorem size_bg (n : Nat) : (bg n).size ≤ 4 * wl n := by
  by_cases h : n < 18446744073709551616
  · rw [size_bg_small h]; omega
  · rw [size_bg_big h]; exact Nat.le_refl _

theorem toList_bg_small {n : Nat} (h : n < 18446744073709551616) : (bg n).toList = [] := by rw [bg_small h, ByteArray.toList_eq]
theorem toList_bg_big {n : Nat} (h : ¬ n < 18446744073709551616) : (bg n).toList = bys (dg n) (wl n) := by rw [bg_big h, ByteArray.toList_mk]
theorem toList_bg_ne {n : Nat} (h : ¬ n < 18446744073709551616) : (bg n).toList ≠ [] := by
  rw [toList_bg_big h]
  intro e
  have := length_bys (dg n) (wl n)
  rw [e] at this
  have := big_wl h
  simp at *
  omega

/-- a byte of the second field -/
theorem bg_at {n i j : Nat} (h : ¬ n < 18446744073709551616) (hi : i < wl n) (hj : j < 4) (hb : 4 * i + j < (bg n).size) : ((bg n)[4 * i + j]'hb).toNat = dg n i / 256 ^ j % 256 := by
  have h1 := bys_at (dg n) hi hj
  have h2 := by4_at (dg n i) hj
  have h3 : (bys (dg n) (wl n))[4 * i + j]? = some ((bg n)[4 * i + j]'hb) := by
    have e : (bg n).data.toList = bys (dg n) (wl n) := by rw [← ByteArray.toList_eq, toList_bg_big h]
    rw [← e]
    have hb' : 4 * i + j < (bg n).data.toList.length := by simpa using hb
    rw [List.getElem?_eq_getElem hb']
    rfl
  rw [h3] at h1
  rw [← h1] at h2
  simpa using h2

theorem bys_inj {f g : Nat → Nat} {k : Nat} (hf : ∀ i, i < k → f i < 4294967296) (hg : ∀ i, i < k → g i < 4294967296) (h : bys f k = bys g k) : ∀ i, i < k → f i = g i := by
  intro i hi
  have e : ∀ j, j < 4 → f i / 256 ^ j % 256 = g i / 256 ^ j % 256 := fun j hj => by
    have h1 := by4_at (f i) hj
    have h2 := by4_at (g i) hj
    rw [← bys_at f hi hj, h, bys_at g hi hj, h2] at h1
    simpa using h1.symm
  have e0 := e 0 (by decide)
  have e1 := e 1 (by decide)
  have e2 := e 2 (by decide)
  have e3 := e 3 (by decide)
  have := hf i hi
  have := hg i hi
  simp at e0 e1 e2 e3
  omega

/-- two numbers with the same fields are the same -/
theorem fields_inj {m n : Nat} (h1 : lo m = lo n) (h2 : (bg m).toList = (bg n).toList) : m = n := by
  by_cases hm : m < 18446744073709551616 <;> by_cases hn : n < 18446744073709551616
  · rwa [lo_small hm, lo_small hn] at h1
  · rw [toList_bg_small hm] at h2
    exact absurd h2.symm (toList_bg_ne hn)
  · rw [toList_bg_small hn] at h2
    exact absurd h2 (toList_bg_ne hm)
  · rw [toList_bg_big hm, toList_bg_big hn] at h2
    have hl := congrArg List.length h2
    rw [length_bys, length_bys] at hl
    have hk : wl m = wl n := by omega
    rw [hk] at h2
    have := bys_inj (fun i _ => dg_lt m i) (fun i _ => dg_lt n i) h2
    rw [← vl_dg_of_lt (lt_bp_wl m), ← vl_dg_of_lt (lt_bp_wl n), hk]
    exact vl_congr this

theorem fields_beq (m n : Nat) : (((lo m : Nat) : Int) == ((lo n : Nat) : Int) && (bg m).toList == (bg n).toList) = decide (m = n) := by
  by_cases h : m = n
  · subst h; simp
  · rw [decide_eq_false h]
    by_cases h1 : lo m = lo n
    · have : ¬ (bg m).toList = (bg n).toList := fun h2 => h (fields_inj h1 h2)
      simp [this]
    · have : ((lo m : Nat) : Int) ≠ ((lo n : Nat) : Int) := by omega
      simp [this]

end Go.Proofs.Ytenpbnmmadbkdaa
