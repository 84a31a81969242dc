/- nats.short, nats.shifted, nats.half, nats.less: the parts of the long division. -/
import Derived.Test.YtenpbnmmadbkdaaMul
namespace Go.Proofs.Ytenpbnmmadbkdaa
open Go.RowKit

theorem short_digit (n y i : Nat) (hy : 0 < y) : ((n / bp (i + 1)) % y * 4294967296 + dg n i) / y = dg (n / y) i ∧ ((n / bp (i + 1)) % y * 4294967296 + dg n i) % y = (n / bp i) % y := by
  have h1 : n / bp i = n / bp (i + 1) * 4294967296 + dg n i := by
    rw [dg, bp_succ, Nat.mul_comm 4294967296, ← Nat.div_div_eq_div_mul]
    omega
  have h2 : n / y / bp i = n / bp i / y := by rw [Nat.div_div_eq_div_mul, Nat.div_div_eq_div_mul, Nat.mul_comm]
  obtain ⟨a, ha⟩ : ∃ a, n / bp (i + 1) = a := ⟨_, rfl⟩
  obtain ⟨d, hd⟩ : ∃ d, dg n i = d := ⟨_, rfl⟩
  have hdl : d < 4294967296 := by rw [← hd]; exact dg_lt _ _
  rw [ha, hd] at h1
  have h3 : a * 4294967296 + d = y * (a / y * 4294967296) + (a % y * 4294967296 + d) := by
    have := Nat.div_add_mod a y
    have e : a * 4294967296 = (y * (a / y) + a % y) * 4294967296 := by rw [this]
    rw [e]; grind
  have h4 : (a % y * 4294967296 + d) / y < 4294967296 := by
    refine Nat.div_lt_of_lt_mul ?_
    have : (a % y + 1) * 4294967296 ≤ y * 4294967296 := Nat.mul_le_mul_right _ (Nat.mod_lt _ hy)
    omega
  rw [ha, hd, dg, h2, h1, h3]
  constructor
  · rw [Nat.mul_add_div hy]
    generalize (a % y * 4294967296 + d) / y = r at *
    omega
  · rw [Nat.mul_add_mod]

theorem half_digit (u i : Nat) : dg (u / 2) i = dg u i / 2 + dg u (i + 1) % 2 * 2147483648 := by
  have h1 : u / 2 / bp i = u / bp i / 2 := by rw [Nat.div_div_eq_div_mul, Nat.div_div_eq_div_mul, Nat.mul_comm]
  have h2 : u / bp (i + 1) = u / bp i / 4294967296 := by rw [bp_succ, Nat.mul_comm, Nat.div_div_eq_div_mul]
  unfold dg
  rw [h1, h2]
  omega

theorem shift_step {A X c P d M : Nat} (h : A + c * P = X * M) : A + (d * M % 4294967296 + c) * P + d * M / 4294967296 * (4294967296 * P) = (X + d * P) * M := by
  have h1 : d * M % 4294967296 * P + d * M / 4294967296 * (4294967296 * P) = d * M * P := by
    rw [← Nat.mul_assoc, ← Nat.add_mul]
    congr 1
    omega
  have h2 : (X + d * P) * M = X * M + d * M * P := by grind
  rw [Nat.add_mul]
  omega

theorem shift_small {d n c : Nat} (hn : n < 32) (hc : c < 2 ^ n) : d * 2 ^ n % 4294967296 + c < 4294967296 ∧ (d * 2 ^ n % 4294967296) ||| c = d * 2 ^ n % 4294967296 + c := by
  have e : (4294967296 : Nat) = 2 ^ (32 - n) * 2 ^ n := by rw [← Nat.pow_add, show 32 - n + n = 32 by omega]
  have h : d * 2 ^ n % 4294967296 = 2 ^ n * (d % 2 ^ (32 - n)) := by
    rw [e, Nat.mul_mod_mul_right, Nat.mul_comm]
  have hl : d % 2 ^ (32 - n) < 2 ^ (32 - n) := Nat.mod_lt _ (Nat.pow_pos (by decide))
  rw [h]
  constructor
  · rw [e]
    have : (d % 2 ^ (32 - n) + 1) * 2 ^ n ≤ 2 ^ (32 - n) * 2 ^ n := Nat.mul_le_mul_right _ hl
    have h2 : (d % 2 ^ (32 - n) + 1) * 2 ^ n = 2 ^ n * (d % 2 ^ (32 - n)) + 2 ^ n := by grind
    omega
  · exact (Nat.two_pow_add_eq_or_of_lt hc _).symm
theorem shift_carry {d n : Nat} (hd : d < 4294967296) : d * 2 ^ n / 4294967296 < 2 ^ n := by
  refine Nat.div_lt_of_lt_mul ?_
  exact Nat.mul_lt_mul_of_pos_right hd (Nat.pow_pos (by decide))

/-- short division by one word: the quotient's words in a new row, the remainder -/
def ShortPost (n k y : Nat) (w : World) (e : Ending) (w' : World) : Prop :=
  ∃ g : Nat, e = .returned (.tuple #[.slice (some ⟨g, 0, none⟩) k k, .int .u32 ((n % y : Nat) : Int)]) ∧ w.heap.size ≤ g ∧ Ws w' g k (dg (n / y)) ∧ Below w.heap.size w w'

set_option maxRecDepth 100000 in
theorem short_any (n y b c k : Nat) (w : World) (hk : k ≤ 1099511627776) (hcell : ∀ i, i < k → w.cell? ⟨b, i, none⟩ = some (.int .u32 ((dg n i : Nat) : Int))) (hb : b < w.heap.size)
    (hn : n < bp k) (hy : 0 < y) (hy2 : y < 4294967296) :
    Calls Try.prog 69 #[.slice (some ⟨b, 0, none⟩) k c, .int .u32 y] w (ShortPost n k y w) := by
  have HC := Lib.hid hcell
  clear hcell
  have hmk := make_ws (k : Int) k rfl (by omega)
  have HW0 : Hid (Ws (w.alloc (.cells (madeCells #[.int .u32 0] k) 22)) w.heap.size k fun _ => 0) := Ws.made w k
  have HB0 : Hid (Below w.heap.size w (w.alloc (.cells (madeCells #[.int .u32 0] k) 22))) := (Below.refl _ _).alloc (Nat.le_refl _) _
  have hr0 : Hid (n / bp k % y = 0) := by
    show n / bp k % y = 0
    rw [Nat.div_eq_of_lt hn, Nat.zero_mod]
  have HN := Lib.hid hn
  clear hn
  go_enter Try.func69, Try.ntmps69
  go_wp2_with fail
  have HMK := Lib.hid hmk
  clear hmk
  go_loopw [5, 6] (fun r i wr => ∃ j : Nat, j ≤ k ∧ i = .int .i64 ((j : Int) - 1) ∧ r = .int .u32 ((n / bp j % y : Nat) : Int) ∧ Ws wr w.heap.size k (fun t => if j ≤ t then dg (n / y) t else 0) ∧ Below w.heap.size w wr) (fun _ i _ => (intOf i + 1).toNat)
  case atStart =>
    refine ⟨k, Nat.le_refl _, rfl, by rw [hr0.out]; rfl, HW0.out.congr fun i hi => ?_, HB0.out⟩
    rw [if_neg (by omega)]
  case round =>
    obtain ⟨j, hj, rfl, rfl, hws, hbel⟩ := hrel
    clear HW0 HB0
    rcases j with _ | j
    · have H1 := Lib.hid (hws.congr (g := dg (n / y)) fun i _ => by rw [if_pos (Nat.zero_le _)])
      have H2 := Lib.hid hbel
      clear hws hbel
      rw [show (((0 : Nat) : Int) - 1) = -1 from rfl, show n / bp 0 % y = n % y from by rw [bp_zero, Nat.div_one]]
      go_wp2
      go_ret2
      exact ⟨w.heap.size, rfl, Nat.le_refl _, H1.out, H2.out⟩
    · rw [show (((j + 1 : Nat) : Int) - 1) = (j : Int) from by omega]
      obtain ⟨d1, d2⟩ := short_digit n y j hy
      have hcell : wr.cell? ⟨b, j, none⟩ = some (.int .u32 ((dg n j : Nat) : Int)) := by
        rw [hbel.cell (p := ⟨b, j, none⟩) hb]
        exact HC.out j (by omega)
      have hrl : n / bp (j + 1) % y < y := Nat.mod_lt _ hy
      obtain ⟨r, HR⟩ : ∃ r, Hid (n / bp (j + 1) % y = r) := ⟨_, Lib.hid rfl⟩
      rw [HR.out] at d1 d2 hrl
      rw [HR.out]
      have hdl := dg_lt n j
      have hc2 := hws.cell (show j < k by omega)
      have hfr := hws.frozen j
      have H1 := Lib.hid hws
      have H2 := Lib.hid hbel
      have D1 := Lib.hid d1
      have D2 := Lib.hid d2
      clear hws hbel d1 d2
      go_wp2_with (go_at_call 77; refine (div32_any _ _ _ _ (by omega) (by omega) (by omega)).mono ?_; rintro e w' ⟨rfl, q, rfl⟩)
      go_roundw
      case rel =>
        have e1 : ((r : Int) * 4294967296 + (dg n j : Int)) / (y : Int) = ((dg (n / y) j : Nat) : Int) := by rw [← D1.out]; simp
        have e2 : ((r : Int) * 4294967296 + (dg n j : Int)) % (y : Int) = ((n / bp j % y : Nat) : Int) := by rw [← D2.out]; simp
        rw [e1, e2]
        refine ⟨j, by omega, rfl, rfl, ?_, (below_drewN H2.out _).setCell (Nat.le_refl _) _⟩
        refine ((H1.out.drewN q).set j _).congr fun t ht => ?_
        by_cases e : t = j
        · simp [e]
        · have e2 : (j + 1 ≤ t) ↔ (j ≤ t) := by omega
          simp [e, e2]
      case measure => simp [intOf]

theorem int_shl (d s : Nat) : (d : Int) * 2 ^ s = ((d * 2 ^ s : Nat) : Int) := by simp
theorem sh_or {d s c : Nat} (hs : s < 32) (hc : c < 2 ^ s) : bits .or .u32 ((d : Int) * 2 ^ s % 4294967296) (c : Int) = ((d * 2 ^ s % 4294967296 + c : Nat) : Int) := by
  have hp : (2 : Nat) ^ s ≤ 2 ^ 31 := Nat.pow_le_pow_right (by decide) (by omega)
  obtain ⟨_, h2⟩ := shift_small (d := d) hs hc
  have e : (d : Int) * 2 ^ s % 4294967296 = ((d * 2 ^ s % 4294967296 : Nat) : Int) := by rw [int_shl]; omega
  rw [e, u32_or_nat _ _ (Nat.mod_lt _ (by decide)) (by omega), h2]
theorem sh_carry {d s : Nat} (hs : s < 32) (hd : d < 4294967296) : IntKind.u64.wrap ((d : Int) * 2 ^ s) / 4294967296 % 4294967296 = ((d * 2 ^ s / 4294967296 : Nat) : Int) := by
  have hp : (2 : Nat) ^ s ≤ 2 ^ 31 := Nat.pow_le_pow_right (by decide) (by omega)
  have h1 : d * 2 ^ s ≤ 4294967295 * 2 ^ 31 := Nat.mul_le_mul (by omega) hp
  rw [IntKind.wrap_u64, int_shl]
  generalize d * 2 ^ s = z at *
  omega

/-- a row times 2^s, s below 32, one word longer -/
def ShiftedPost (n k s : Nat) (w : World) (e : Ending) (w' : World) : Prop :=
  ∃ g : Nat, e = .returned (.slice (some ⟨g, 0, none⟩) (k + 1) (k + 1)) ∧ w.heap.size ≤ g ∧ Ws w' g (k + 1) (dg (n * 2 ^ s)) ∧ Below w.heap.size w w'

def ShiftRow (n k s i c g : Nat) (wr : World) : Prop :=
  ∃ F : Nat → Nat, Ws wr g (k + 1) F ∧ (∀ t, t < k + 1 → F t < 4294967296) ∧ c < 2 ^ s ∧ vl F i + c * bp i = vl (dg n) i * 2 ^ s

theorem ShiftRow.step {n k s i c g : Nat} {wr : World} (h : ShiftRow n k s i c g wr) (hs : s < 32) :
    ShiftRow n k s (i + 1) (dg n i * 2 ^ s / 4294967296) g (wr.setCell ⟨g, i, none⟩ (.int .u32 ((dg n i * 2 ^ s % 4294967296 + c : Nat) : Int))) := by
  obtain ⟨F, h1, h2, h3, h4⟩ := h
  refine ⟨_, h1.set i _, fun t ht => ?_, shift_carry (dg_lt _ _), ?_⟩
  · by_cases e : t = i
    · simp only [e, if_true]; exact (shift_small hs h3).1
    · simp only [e, if_false]; exact h2 t ht
  · rw [vl_succ, vl_succ, bp_succ, if_pos rfl, vl_congr (g := F) (fun t ht => by simp [show ¬ t = i by omega])]
    exact shift_step h4

theorem ShiftRow.done {n k s c g : Nat} {wr : World} (h : ShiftRow n k s k c g wr) (hs : s < 32) (hn : n < bp k) :
    Ws (wr.setCell ⟨g, k, none⟩ (.int .u32 ((c : Nat) : Int))) g (k + 1) (dg (n * 2 ^ s)) := by
  obtain ⟨F, h1, h2, h3, h4⟩ := h
  have hp : (2 : Nat) ^ s ≤ 2 ^ 31 := Nat.pow_le_pow_right (by decide) (by omega)
  have hc : c < 4294967296 := by omega
  have hF : ∀ t, t < k + 1 → (if t = k then c else F t) < 4294967296 := fun t ht => by
    split
    · exact hc
    · exact h2 t ht
  have hv : vl (fun t => if t = k then c else F t) (k + 1) = n * 2 ^ s := by
    rw [vl_succ, if_pos rfl, vl_congr (g := F) (fun i hi => by simp [show ¬ i = k by omega]), h4, vl_dg_of_lt hn]
  refine (h1.set k c).congr fun i hi => ?_
  rw [← hv]
  exact (dg_vl (f := fun t => if t = k then c else F t) hF hi).symm

set_option maxRecDepth 100000 in
theorem shifted_any (n b c k s : Nat) (w : World) (hk : k ≤ 1099511627776) (hcell : ∀ i, i < k → w.cell? ⟨b, i, none⟩ = some (.int .u32 ((dg n i : Nat) : Int))) (hb : b < w.heap.size)
    (hn : n < bp k) (hs : s < 32) :
    Calls Try.prog 79 #[.slice (some ⟨b, 0, none⟩) k c, .int .i64 s] w (ShiftedPost n k s w) := by
  have HC := Lib.hid hcell
  clear hcell
  have hmk := make_ws ((k : Int) + 1) (k + 1) (by omega) (by omega)
  have HW0 : Hid (ShiftRow n k s 0 0 w.heap.size (w.alloc (.cells (madeCells #[.int .u32 0] (k + 1)) 22))) := ⟨_, Ws.made w (k + 1), fun _ _ => (by decide : 0 < 4294967296), Nat.pow_pos (by decide), by simp [vl]⟩
  have HB0 : Hid (Below w.heap.size w (w.alloc (.cells (madeCells #[.int .u32 0] (k + 1)) 22))) := (Below.refl _ _).alloc (Nat.le_refl _) _
  have HN := Lib.hid hn
  have hs1 : (s : Int) ≤ 31 := by omega
  have hs0 : (0 : Int) ≤ (s : Int) := by omega
  clear hn
  go_enter Try.func79, Try.ntmps79
  go_wp2_with fail
  have HMK := Lib.hid hmk
  clear hmk
  go_loopw [6, 15] (fun c i wr => ∃ i' c' : Nat, i' ≤ k ∧ i = .int .i64 i' ∧ c = .int .u32 c' ∧ ShiftRow n k s i' c' w.heap.size wr ∧ Below w.heap.size w wr) (fun _ i _ => k - (intOf i).toNat)
  case atStart => exact ⟨0, 0, by omega, rfl, rfl, HW0.out, HB0.out⟩
  case round =>
    obtain ⟨i, c', hi, rfl, rfl, hrow, hbel⟩ := hrel
    clear HW0 HB0
    by_cases hik : i < k
    · have hcell : wr.cell? ⟨b, i, none⟩ = some (.int .u32 ((dg n i : Nat) : Int)) := by
        rw [hbel.cell (p := ⟨b, i, none⟩) hb]
        exact HC.out i hik
      have HST := Lib.hid (hrow.step hs)
      have H2 := Lib.hid hbel
      obtain ⟨F, hF, _, hc, _⟩ := hrow
      have hc2 := hF.cell (show i < k + 1 by omega)
      have hfr := hF.frozen i
      have hdl := dg_lt n i
      have HCC := Lib.hid hc
      clear hbel hF hc
      go_wp2_with fail
      go_roundw
      case rel =>
        rw [sh_or hs HCC.out, sh_carry hs hdl]
        exact ⟨i + 1, _, by omega, by go_num, rfl, HST.out, H2.out.setCell (Nat.le_refl _) _⟩
      case measure => simp [intOf]; omega
    · obtain rfl : i = k := by omega
      have HST := Lib.hid (hrow.done hs HN.out)
      have H2 := Lib.hid hbel
      obtain ⟨F, hF, _, _, _⟩ := hrow
      have hc2 := hF.cell (show i < i + 1 by omega)
      have hfr := hF.frozen i
      clear hbel hF
      go_wp2
      go_ret
      exact ⟨w.heap.size, rfl, Nat.le_refl _, HST.out, H2.out.setCell (Nat.le_refl _) _⟩
/-! ### only one block has turned -/
theorem only_refl (w : World) (row : Option Nat) : w.grownBy w row := World.grownBy.refl w row
theorem only_drewN {a w : World} {row : Option Nat} (h : a.grownBy w row) (n : Nat) : a.grownBy (w.drewN n) row := ⟨h.os, h.tape, h.output, h.size, h.block⟩
theorem only_drew {a w : World} {row : Option Nat} (h : a.grownBy w row) : a.grownBy w.drew row := ⟨h.os, h.tape, h.output, h.size, h.block⟩
theorem only_setCell {a w : World} {g : Nat} (h : a.grownBy w (some g)) (i : Nat) (u : Value) : a.grownBy (w.setCell ⟨g, i, none⟩ u) (some g) :=
  ⟨h.os, h.tape, h.output, by simpa [World.setCell] using h.size, fun k hk hne => (Below.heap_setCell _ _ _ _ (by
    intro e
    exact hne (by rw [e]))).trans (h.block k hk hne)⟩
theorem only_trans {a b c : World} {row : Option Nat} (h : a.grownBy b row) (k : b.grownBy c row) : a.grownBy c row :=
  ⟨k.os.trans h.os, k.tape.trans h.tape, k.output.trans h.output, Nat.le_trans h.size k.size, fun i hi hne => (k.block i (Nat.lt_of_lt_of_le hi h.size) hne).trans (h.block i hi hne)⟩
theorem Ws.only {w w' : World} {b n g : Nat} {f : Nat → Nat} (h : Ws w b n f) (hg : w.grownBy w' (some g)) (hne : b ≠ g) : Ws w' b n f :=
  World.rowIs.of_block h (hg.block b h.lt (fun e => hne (by injection e)))

theorem half_or {a b : Nat} (ha : a < 4294967296) : bits .or .u32 ((a : Int) / 2) ((b : Int) * 2147483648 % 4294967296) = ((a / 2 + b % 2 * 2147483648 : Nat) : Int) := by
  have e1 : (a : Int) / 2 = ((a / 2 : Nat) : Int) := by omega
  have e2 : (b : Int) * 2147483648 % 4294967296 = ((b % 2 * 2147483648 : Nat) : Int) := by omega
  rw [e1, e2, u32_or_nat _ _ (by omega) (by omega)]
  congr 1
  have := Nat.two_pow_add_eq_or_of_lt (i := 31) (b := a / 2) (by omega) (b % 2)
  rw [Nat.or_comm, Nat.mul_comm, ← this]
  omega

/-- a row halved in place -/
def HalfPost (n b k : Nat) (w : World) (e : Ending) (w' : World) : Prop := e = .returned (.tuple #[]) ∧ Ws w' b k (dg (n / 2)) ∧ w.grownBy w' (some b)

set_option maxRecDepth 100000 in
theorem half_any (n b c k : Nat) (w : World) (hk : k ≤ 1099511627776) (hws : Ws w b k (dg n)) (hn : n < bp k) :
    Calls Try.prog 81 #[.slice (some ⟨b, 0, none⟩) k c] w (HalfPost n b k w) := by
  have HW := Lib.hid hws
  have HN := Lib.hid hn
  clear hws hn
  go_enter Try.func81, Try.ntmps81
  go_wp2_with fail
  go_loopw [5] (fun i wr => ∃ i' : Nat, i' ≤ k ∧ i = .int .i64 i' ∧ Ws wr b k (fun t => if t < i' then dg (n / 2) t else dg n t) ∧ w.grownBy wr (some b)) (fun i _ => k - (intOf i).toNat)
  case atStart => exact ⟨0, by omega, rfl, HW.out, only_refl _ _⟩
  case round =>
    obtain ⟨i, hi, rfl, hws, hon⟩ := hrel
    by_cases hik : i < k
    · have hcell := hws.cell hik
      simp only [Nat.lt_irrefl, if_false] at hcell
      have hfr := hws.frozen i
      have ha := dg_lt n i
      have HH := Lib.hid (half_digit n i)
      have H1 := Lib.hid hws
      have H2 := Lib.hid hon
      by_cases hl : i + 1 < k
      · have hcell2 := hws.cell hl
        simp only [show ¬ i + 1 < i by omega, if_false] at hcell2
        have hb := dg_lt n (i + 1)
        have hor := half_or (b := dg n (i + 1)) ha
        rw [← half_digit] at hor
        have HOR := Lib.hid hor
        have hl0 : (0 : Int) ≤ (i : Int) + 1 := by omega
        have hl1 : (i : Int) + 1 < (k : Int) := by omega
        clear hws hon hor
        go_wp2_with fail
        go_region
        all_goals
          go_wp2
          go_roundw
          case rel =>
            rw [HOR.out, show ((dg n i : Nat) : Int) / 2 = ((dg n i / 2 : Nat) : Int) from by omega]
            refine ⟨i + 1, by omega, by go_num, ?_, only_drew (only_setCell (only_setCell H2.out i _) i _)⟩
            refine (((H1.out.set i _).set i _).drew).congr fun t ht => ?_
            by_cases e : t = i
            · simp [e]
            · have e2 : (t < i) ↔ (t < i + 1) := by omega
              simp [e, e2]
          case measure => simp [intOf]; omega
      · clear hws hon
        go_wp2_with fail
        go_roundw
        case rel =>
          have hz : dg n (i + 1) = 0 := dg_high HN.out (by omega)
          have hh := HH.out
          rw [hz] at hh
          rw [show ((dg n i : Nat) : Int) / 2 = ((dg (n / 2) i : Nat) : Int) from by omega]
          refine ⟨i + 1, by omega, by go_num, ?_, only_setCell H2.out i _⟩
          refine (H1.out.set i _).congr fun t ht => ?_
          by_cases e : t = i
          · simp [e]
          · have e2 : (t < i) ↔ (t < i + 1) := by omega
            simp [e, e2]
        case measure => simp [intOf]; omega
    · obtain rfl : i = k := by omega
      have H1 := Lib.hid (hws.congr (g := dg (n / 2)) fun t ht => by rw [if_pos ht])
      have H2 := Lib.hid hon
      clear hws hon
      go_wp2
      go_end0
      exact ⟨rfl, H1.out, H2.out⟩
/-- digit times v is taken from the words of u from place o on -/
def LessPost (F : Nat → Nat) (o m N b V D : Nat) (w : World) (e : Ending) (w' : World) : Prop :=
  ∃ (G : Nat → Nat) (ln : Nat), e = .returned (.bool (decide (0 < ln))) ∧ ln ≤ 1 ∧ Ws w' b N G ∧ (∀ t, t < N → G t < 4294967296) ∧ (∀ t, t < o ∨ o + m < t → G t = F t) ∧
    vl (fun t => G (o + t)) (m + 1) + D * V = vl (fun t => F (o + t)) (m + 1) + ln * bp (m + 1) ∧ w.grownBy w' (some b)

theorem less_step {A X Y c l P u d D : Nat} {t s l' : Nat} (ht : t = c + D * d) (hs : s + t % 4294967296 + l = u + 4294967296 * l') (h : A + D * Y = X + (l + c) * P) :
    A + s * P + D * (Y + d * P) = X + u * P + (l' + t / 4294967296) * (4294967296 * P) := by
  have h1 : (s + t % 4294967296 + l) * P = (u + 4294967296 * l') * P := by rw [hs]
  have h2 : t * P = t % 4294967296 * P + t / 4294967296 * (4294967296 * P) := by
    rw [← Nat.mul_assoc, ← Nat.add_mul]
    congr 1
    omega
  have h3 : t * P = c * P + D * (d * P) := by rw [ht]; grind
  have h4 : D * (Y + d * P) = D * Y + D * (d * P) := by grind
  have h5 : (s + t % 4294967296 + l) * P = s * P + t % 4294967296 * P + l * P := by grind
  have h6 : (u + 4294967296 * l') * P = u * P + l' * (4294967296 * P) := by grind
  have h7 : (l + c) * P = l * P + c * P := by grind
  have h8 : (l' + t / 4294967296) * (4294967296 * P) = l' * (4294967296 * P) + t / 4294967296 * (4294967296 * P) := by grind
  omega

def LessRow (F : Nat → Nat) (o m N b v D i c l : Nat) (wr : World) (G : Nat → Nat) : Prop :=
  Ws wr b N G ∧ (∀ t, t < N → G t < 4294967296) ∧ (∀ t, t < o ∨ o + i ≤ t → G t = F t) ∧ l ≤ 1 ∧ c < 4294967296 ∧ o + m < N ∧
    vl (fun t => G (o + t)) i + D * vl (dg v) i = vl (fun t => F (o + t)) i + (l + c) * bp i

theorem LessRow.step {F : Nat → Nat} {o m N b v D i c l : Nat} {wr : World} {G : Nat → Nat} (h : LessRow F o m N b v D i c l wr G) (hi : i < m) (hD : D < 4294967296) :
    LessRow F o m N b v D (i + 1) ((c + D * dg v i) / 4294967296) (bor (F (o + i)) ((c + D * dg v i) % 4294967296) l)
      (wr.setCell ⟨b, o + i, none⟩ (.int .u32 ((sb (F (o + i)) ((c + D * dg v i) % 4294967296) l : Nat) : Int)))
      (fun t => if t = o + i then sb (F (o + i)) ((c + D * dg v i) % 4294967296) l else G t) := by
  obtain ⟨h1, h2, h3, h4, h5, h6, h7⟩ := h
  have hG : G (o + i) = F (o + i) := h3 _ (.inr (Nat.le_refl _))
  have hF : F (o + i) < 4294967296 := by rw [← hG]; exact h2 _ (by omega)
  have hd := dg_lt v i
  have hp : D * dg v i ≤ 4294967295 * 4294967295 := Nat.mul_le_mul (by omega) (by omega)
  refine ⟨h1.set _ _, fun t ht => ?_, fun t ht => ?_, bor_le _ _ _, by omega, h6, ?_⟩
  · dsimp only
    split
    · exact sb_lt _ _ _
    · exact h2 t ht
  · dsimp only
    rw [if_neg (by omega)]; exact h3 t (by omega)
  · have e : vl (fun t => (fun t => if t = o + i then sb (F (o + i)) ((c + D * dg v i) % 4294967296) l else G t) (o + t)) i = vl (fun t => G (o + t)) i :=
      vl_congr fun t ht => by simp only [show ¬ o + t = o + i by omega, if_false]
    rw [vl_succ, vl_succ, vl_succ, bp_succ, e]
    simp only [if_true]
    exact less_step rfl (sb_bor hF (Nat.mod_lt _ (by decide)) h4) h7

theorem LessRow.last {F : Nat → Nat} {o m N b v D c l : Nat} {wr : World} {G : Nat → Nat} (h : LessRow F o m N b v D m c l wr G) (hv : v < bp m) :
    Ws (wr.setCell ⟨b, o + m, none⟩ (.int .u32 ((sb (F (o + m)) c l : Nat) : Int))) b N (fun t => if t = o + m then sb (F (o + m)) c l else G t) ∧
    (∀ t, t < N → (if t = o + m then sb (F (o + m)) c l else G t) < 4294967296) ∧ (∀ t, t < o ∨ o + m < t → (if t = o + m then sb (F (o + m)) c l else G t) = F t) ∧
    vl (fun t => if o + t = o + m then sb (F (o + m)) c l else G (o + t)) (m + 1) + D * v = vl (fun t => F (o + t)) (m + 1) + bor (F (o + m)) c l * bp (m + 1) := by
  obtain ⟨h1, h2, h3, h4, h5, h6, h7⟩ := h
  have hG : G (o + m) = F (o + m) := h3 _ (.inr (Nat.le_refl _))
  have hF : F (o + m) < 4294967296 := by rw [← hG]; exact h2 _ (by omega)
  refine ⟨h1.set _ _, fun t ht => ?_, fun t ht => ?_, ?_⟩
  · split
    · exact sb_lt _ _ _
    · exact h2 t ht
  · rw [if_neg (by omega)]; exact h3 t (by omega)
  · have e : vl (fun t => if o + t = o + m then sb (F (o + m)) c l else G (o + t)) m = vl (fun t => G (o + t)) m :=
      vl_congr fun t ht => by simp only [show ¬ o + t = o + m by omega, if_false]
    rw [vl_succ, vl_succ, bp_succ, e]
    simp only [if_true]
    rw [vl_dg_of_lt hv] at h7
    have h8 := less_step (d := 0) (t := c) (D := D) (u := F (o + m)) (s := sb (F (o + m)) c l) (l' := bor (F (o + m)) c l) (by simp) (by rw [Nat.mod_eq_of_lt h5]; exact sb_bor hF h5 h4) h7
    rw [Nat.zero_mul, Nat.add_zero, Nat.div_eq_of_lt h5, Nat.add_zero] at h8
    exact h8

set_option maxRecDepth 100000 in
theorem less_any (F : Nat → Nat) (o m N b bv cu cv v D : Nat) (w : World) (hm : m ≤ 1099511627776) (hN : N ≤ 1099511627776) (ho : o + m < N) (hu : Ws w b N F) (hF : ∀ t, t < N → F t < 4294967296)
    (hv : ∀ i, i < m → w.cell? ⟨bv, i, none⟩ = some (.int .u32 ((dg v i : Nat) : Int))) (hbv : bv < w.heap.size) (hne : bv ≠ b) (hvm : v < bp m) (hD : D < 4294967296) :
    Calls Try.prog 80 #[.slice (some ⟨b, o, none⟩) (m + 1) cu, .slice (some ⟨bv, 0, none⟩) m cv, .int .u64 D] w (LessPost F o m N b v D w) := by
  have HV := Lib.hid hv
  have HU : Hid (LessRow F o m N b v D 0 0 0 w F) := ⟨hu, hF, fun _ _ => rfl, by omega, by omega, ho, rfl⟩
  have HF := Lib.hid hF
  have HVM := Lib.hid hvm
  clear hv hu hF hvm
  go_enter Try.func80, Try.ntmps80
  go_wp2_with fail
  go_loopw [7, 8, 14] (fun c l i wr => ∃ (i' c' l' : Nat) (G : Nat → Nat), i' ≤ m ∧ i = .int .i64 i' ∧ c = .int .u64 c' ∧ l = .int .u32 l' ∧ LessRow F o m N b v D i' c' l' wr G ∧ w.grownBy wr (some b)) (fun _ _ i _ => m - (intOf i).toNat)
  case atStart => exact ⟨0, 0, 0, F, by omega, rfl, rfl, rfl, HU.out, only_refl _ _⟩
  case round =>
    obtain ⟨i, c, l, G, hi, rfl, rfl, rfl, hrow, hon⟩ := hrel
    have hc := hrow.2.2.2.2.1
    have hl := hrow.2.2.2.1
    by_cases him : i < m
    · have hcv : w.grownBy wr (some b) → wr.cell? ⟨bv, i, none⟩ = some (.int .u32 ((dg v i : Nat) : Int)) := fun h => by
        rw [World.cell?_of_block (w := w) (h.block bv hbv (fun e => hne (by injection e)))]
        exact HV.out i him
      have hcell2 := hcv hon
      have hcell := hrow.1.cell (show o + i < N by omega)
      rw [hrow.2.2.1 _ (.inr (Nat.le_refl _))] at hcell
      have hfr := hrow.1.frozen (o + i)
      have HST := Lib.hid (hrow.step him hD)
      have hd := dg_lt v i
      have hFi := HF.out (o + i) (by omega)
      obtain ⟨P, hP, HP⟩ : ∃ P : Nat, ((D : Nat) : Int) * ((dg v i : Nat) : Int) = (P : Int) ∧ Hid (D * dg v i = P) := ⟨D * dg v i, (Int.natCast_mul _ _).symm, Lib.hid rfl⟩
      have hPb : P ≤ 18446744065119617025 := by
        rw [← HP.out]
        exact Nat.mul_le_mul (show D ≤ 4294967295 by omega) (show dg v i ≤ 4294967295 by omega)
      rw [HP.out] at HST
      have hm1 : ((c : Int) + (P : Int)) % 4294967296 = (((c + P) % 4294967296 : Nat) : Int) := by omega
      have hm2 : ((c : Int) + (P : Int)) / 4294967296 = (((c + P) / 4294967296 : Nat) : Int) := by omega
      obtain ⟨q, hq⟩ : ∃ q, (c + P) % 4294967296 = q := ⟨_, rfl⟩
      have hql : q < 4294967296 := by omega
      rw [hq] at hm1 HST
      have HM1 := Lib.hid hm1
      have HM2 := Lib.hid hm2
      have HON := Lib.hid hon
      have hm3 := hm1
      clear hrow hon hcv hq hm1 hm2
      go_wp2_with (go_at_call 71; refine (sub32_any _ _ _ _ (by omega) (by omega) (by omega)).mono ?_; rintro e w' ⟨rfl, rfl⟩)
      go_roundw
      case rel =>
        rw [HM2.out]
        exact ⟨i + 1, _, _, _, by omega, by go_num, rfl, rfl, HST.out, only_setCell HON.out _ _⟩
      case measure => simp [intOf]; omega
    · obtain rfl : i = m := by omega
      have hcell := hrow.1.cell (show o + i < N by omega)
      rw [hrow.2.2.1 _ (.inr (Nat.le_refl _))] at hcell
      have hfr := hrow.1.frozen (o + i)
      have HST := Lib.hid (hrow.last HVM.out)
      have hFi := HF.out (o + i) (by omega)
      have HON := Lib.hid hon
      clear hrow hon
      go_wp2_with (go_at_call 71; refine (sub32_any _ _ _ _ (by omega) (by omega) (by omega)).mono ?_; rintro e w' ⟨rfl, rfl⟩)
      go_ret
      obtain ⟨s1, s2, s3, s4⟩ := HST.out
      exact ⟨_, bor (F (o + i)) c l, rfl, bor_le _ _ _, s1, s2, s3, s4, only_setCell HON.out _ _⟩
end Go.Proofs.Ytenpbnmmadbkdaa
