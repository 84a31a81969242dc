/- Parts of the row's proof: 24 texts in one. No condition but those stated. -/
import Derived.Test.YtenpbnmmadbkdaaGreatRows
import Derived.ProofKit
import Derived.Below
import Derived.ChangeSame
import Derived.WideKeyArgs
import Derived.Deep.QuietTactic
import Derived.StillTail
import Derived.BigCall
import Derived.WalkKit
import Derived.Laws.Strings
import Derived.Deep.OwnRows
import Derived.Deep.Draws
import Derived.Lib.Hide
import Derived.Laws.CopyOwn
import Derived.BigQuiet
import Derived.BigRegion
import Derived.Maps.AppendAt
import Derived.Deep.RegionHeld3
import Derived.Deep.DeepCutAuto
import Derived.Deep.DrawnRows
import Derived.Laws.AppendOwnNone
import Derived.Deep.LoopGhost
namespace Go.Proofs.YtenpbnmmadbkdaaGreat
theorem rA {α : Type} {l : List α} {i : Nat} {a : α} : l.toArray.setIfInBounds i a = (l.set i a).toArray := List.setIfInBounds_toArray _ _ _
theorem rB {α : Type} {x : α} {l : List α} {a : α} : (x :: l).set 0 a = a :: l := rfl
theorem rC {α : Type} {x : α} {l : List α} {n : Nat} {a : α} : (x :: l).set (n + 1) a = x :: l.set n a := rfl
theorem rD {α : Type} {x : α} {l : List α} {n : Nat} : (x :: l).drop (n + 1) = l.drop n := rfl
theorem rE {α : Type} {l : List α} : l.drop 0 = l := rfl
end Go.Proofs.YtenpbnmmadbkdaaGreat

/- From a law's walk to its row: what the arguments are, and that they read as before. No condition. -/
namespace Go.Proofs.YtenpbnmmadbkdaaGreat
open Go.ChangeShapes Go.WideShapes Go.ChangeAt Go.RowKit
theorem Tryz.own : ownKnob Tryz.prog.godebug = none := by kernel_rfl
theorem Tryz.laidOut : laidOutB Tryz.prog = true := by kernel_rfl
section
variable {H : Type} {enc : TypeId × Value → H} {P : Program}
theorem post_of_below {f : Func} {s : ChangeSpec} {apart fresh handsOn again : Bool} {W W' : World} {args : Array Value} {v : Value} {ds gs : List (DataW H)} {before pa pv : List MemPlace}
    (hW : DataW.Whole enc P f.params.toList s.vars apart W args.toList ds gs before)
    (hres : ∀ (b : Nat) (sp : Nat → Bool) (hd : Bool), DataW.TrodAll enc P W' b sp hd f.resultTypes.toList (v.resultList f.resultTypes.size) (s.fn H (ds ++ gs)).results [])
    (hargs : ∀ sp : Nat → Bool, (∀ p ∈ before, sp p.block = true) → DataW.TrodAll enc P W' 0 sp true f.params.toList args.toList (s.fn H (ds ++ gs)).args pa)
    (hvars : ∀ sp : Nat → Bool, (∀ p ∈ before, sp p.block = true) → DataW.TrodVars enc P W' sp s.vars (s.fn H (ds ++ gs)).vars pv)
    (hps : before = pa ++ pv) (hb : Below W.heap.size W W')
    (hok : ∀ (j : Nat) (t : TypeId) (r : Value), f.resultTypes[j]? = some t → (v.resultList f.resultTypes.size)[j]? = some r → Value.okWide P W' .any 0 t r) :
    s.post enc P f apart fresh handsOn again W args v W' := by
  have hlt : ∀ p ∈ before, p.block < W.heap.size := fun p hp => hW.lt p hp
  have hold : ∀ p ∈ before, (fun b => decide (b < W.heap.size)) p.block = true := fun p hp => by simpa using hlt p hp
  refine ⟨ds, gs, before, [], pa, pv, hW, hres _ _ _, hargs _ hold, hvars _ hold, World.keptBut_mono (fun p hp => ⟨hp, ?_⟩) (hb.frame (· ∈ before)), fun _ => ?_⟩
  · rw [hps, List.mem_append] at hp
    exact Or.inr hp
  · obtain ⟨_, _, _, _, _, hz, hn⟩ := hW
    refine ⟨hok, _, _, ([] ++ pa) ++ pv, ⟨[] ++ pa, pv, trodAll_append (hargs _ (fun _ _ => rfl)) (hres _ _ _), hvars _ (fun _ _ => rfl), rfl, ?_, ?_⟩, ?_⟩
    · intro b off hp
      have hin : MemPlace.cell b off ∈ before := by rw [hps]; simpa using hp
      rw [hb.frozen (hlt _ hin)]
      exact hz b off hin
    · intro ha
      have := hn ha
      rw [hps] at this
      simpa using this
    · intro p hp _
      rw [hps]
      simpa using hp
end
/-- an integer cell -/
theorem cell_int {P : Program} {w : World} {r : Reach} {base : Nat} {u : TypeId} {v : Value} {k : IntKind} (hu : P.underlying u = some (.int k)) (h : Cell.okWide P w r base u v) : ∃ n, v = .int k n ∧ k.has n := by
  unfold Cell.okWide at h
  rw [hu] at h
  cases v <;> simp [Cell.ok, hu] at h
  rename_i k' n
  exact ⟨n, by rw [h.1], h.2⟩
/-- an argument that is a struct or an array: its cells -/
theorem row_open {P : Program} {w : World} {r : Reach} {base : Nat} {t : TypeId} {v : Value} {ts : List TypeId} (ht : (∃ fs, P.underlying t = some (.struct fs)) ∨ ∃ n e, P.underlying t = some (.array n e)) (hts : P.cellTypes P.depth t = some ts) (hn : P.cellsOf t = ts.length)
    (h : Value.okWide P w r base t v) : ∃ l : List Value, v = .agg l.toArray ∧ l.length = ts.length ∧ ∀ (i : Nat) c u, l[i]? = some c → ts[i]? = some u → Cell.okWide P w r base u c := by
  have h' : ∃ cs, v = .agg cs ∧ cs.size = P.cellsOf t ∧ Row.okWide P w r base t cs := by
    unfold Value.okWide at h
    rcases ht with ⟨fs, ht⟩ | ⟨n, e, ht⟩ <;> rw [ht] at h <;> exact h
  obtain ⟨cs, rfl, hsz, ts', hts', _, hc⟩ := h'
  obtain rfl : ts = ts' := Option.some.inj (hts.symm.trans hts')
  refine ⟨cs.toList, by simp, by simp [hsz, hn], fun i c u hi hu => ?_⟩
  obtain ⟨u', hu', hok⟩ := hc i c (by simpa using hi)
  have hlt : i < ts.length := (List.getElem?_eq_some_iff.1 hu).1
  rw [Nat.mod_eq_of_lt hlt, hu] at hu'
  cases hu'
  exact hok
/-- what was read reads as it did -/
theorem stays {H : Type} {enc : TypeId × Value → H} {t : TypeId} {W W' : World} {v : Value} {d : DataW H} {ps : List MemPlace} (hr : Tryz.prog.readableRec t = true) (hrow : t < Tryz.prog.types.size)
    (h : DataW.Trod enc Tryz.prog W 0 (fun _ => true) true t v d ps) (hb : Below W.heap.size W W') (hlt : ∀ x ∈ ps, x.block < W.heap.size) (sp : Nat → Bool) (hs : ∀ x ∈ ps, sp x.block = true) : DataW.Trod enc Tryz.prog W' 0 sp true t v d ps :=
  WideElems.Trod_stays Tryz.laidOut hr hrow h (fun x hx => hb.same (hlt x hx)) hs
end Go.Proofs.YtenpbnmmadbkdaaGreat


/- Numbers in words of 32 bits: values of rows of words, the words of a number, how many words a number has. No condition; nothing here speaks of the program. -/
namespace Go.Proofs.YtenpbnmmadbkdaaGreat

/-- 2^32 to the n -/
def bp (n : Nat) : Nat := 4294967296 ^ n
theorem bp_zero : bp 0 = 1 := rfl
theorem bp_succ (n : Nat) : bp (n + 1) = 4294967296 * bp n := by unfold bp; rw [Nat.pow_succ, Nat.mul_comm]
theorem bp_add (m n : Nat) : bp (m + n) = bp m * bp n := by unfold bp; rw [Nat.pow_add]
theorem bp_pos (n : Nat) : 0 < bp n := by unfold bp; exact Nat.pow_pos (by decide)
theorem bp_le {m n : Nat} (h : m ≤ n) : bp m ≤ bp n := by unfold bp; exact Nat.pow_le_pow_right (by decide) h
theorem bp_lt {m n : Nat} (h : m < n) : bp m < bp n := by unfold bp; exact Nat.pow_lt_pow_right (by decide) h
theorem bp_one : bp 1 = 4294967296 := rfl
theorem bp_two : bp 2 = 18446744073709551616 := by decide
theorem bp_eq (n : Nat) : bp n = 2 ^ (32 * n) := by unfold bp; rw [show (4294967296 : Nat) = 2 ^ 32 from rfl, ← Nat.pow_mul]

/-- the value of the first n words of f, least significant first -/
def vl (f : Nat → Nat) : Nat → Nat
  | 0 => 0
  | n + 1 => vl f n + f n * bp n

theorem vl_zero (f : Nat → Nat) : vl f 0 = 0 := rfl
theorem vl_succ (f : Nat → Nat) (n : Nat) : vl f (n + 1) = vl f n + f n * bp n := rfl

theorem vl_congr {f g : Nat → Nat} {n : Nat} (h : ∀ i, i < n → f i = g i) : vl f n = vl g n := by
  induction n with
  | zero => rfl
  | succ n ih => rw [vl_succ, vl_succ, ih (fun i hi => h i (by omega)), h n (by omega)]

theorem vl_lt {f : Nat → Nat} {n : Nat} (h : ∀ i, i < n → f i < 4294967296) : vl f n < bp n := by
  induction n with
  | zero => simp [vl, bp]
  | succ n ih =>
    have h1 := ih (fun i hi => h i (by omega))
    have h2 := h n (by omega)
    have h3 : f n * bp n ≤ 4294967295 * bp n := Nat.mul_le_mul_right _ (by omega)
    rw [vl_succ, bp_succ]
    omega

theorem vl_split (f : Nat → Nat) (m n : Nat) : vl f (m + n) = vl f m + bp m * vl (fun i => f (m + i)) n := by
  induction n with
  | zero => simp [vl]
  | succ n ih =>
    rw [← Nat.add_assoc, vl_succ, ih, vl_succ, Nat.mul_add, bp_add, Nat.add_assoc]
    congr 2
    rw [← Nat.mul_assoc, ← Nat.mul_assoc, Nat.mul_comm (f (m + n))]

theorem vl_cons (f : Nat → Nat) (n : Nat) : vl f (n + 1) = f 0 + 4294967296 * vl (fun i => f (i + 1)) n := by
  rw [Nat.add_comm n 1, vl_split]
  simp [vl, bp_one, bp_zero, Nat.add_comm]

theorem vl_tail {f : Nat → Nat} {m n : Nat} (hmn : m ≤ n) (h : ∀ i, m ≤ i → i < n → f i = 0) : vl f n = vl f m := by
  induction n with
  | zero => obtain rfl : m = 0 := by omega
            rfl
  | succ n ih =>
    by_cases hm : m = n + 1
    · rw [hm]
    · rw [vl_succ, ih (by omega) (fun i h1 h2 => h i h1 (by omega)), h n (by omega) (by omega)]; simp

theorem vl_mono {f : Nat → Nat} {m n : Nat} (h : m ≤ n) : vl f m ≤ vl f n := by
  induction n with
  | zero => obtain rfl : m = 0 := by omega
            exact Nat.le_refl _
  | succ n ih =>
    by_cases hm : m = n + 1
    · rw [hm]; exact Nat.le_refl _
    · have := ih (by omega); rw [vl_succ]; omega

theorem vl_top {f : Nat → Nat} {n : Nat} (h : f n ≠ 0) : bp n ≤ vl f (n + 1) := by
  rw [vl_succ]
  have : 1 * bp n ≤ f n * bp n := Nat.mul_le_mul_right _ (by omega)
  omega

/-- the first words agree above i, and differ at i -/
theorem vl_less {f g : Nat → Nat} {n i : Nat} (hi : i < n) (hf : ∀ j, j < n → f j < 4294967296) (he : ∀ j, i < j → j < n → f j = g j) (hl : f i < g i) : vl f n < vl g n := by
  have h1 : vl f n = vl f (i + 1) + bp (i + 1) * vl (fun j => f (i + 1 + j)) (n - (i + 1)) := by
    rw [← vl_split]; congr 1; omega
  have h2 : vl g n = vl g (i + 1) + bp (i + 1) * vl (fun j => g (i + 1 + j)) (n - (i + 1)) := by
    rw [← vl_split]; congr 1; omega
  have h3 : vl (fun j => f (i + 1 + j)) (n - (i + 1)) = vl (fun j => g (i + 1 + j)) (n - (i + 1)) := vl_congr (fun j hj => he _ (by omega) (by omega))
  have h4 : vl f (i + 1) < vl g (i + 1) := by
    rw [vl_succ, vl_succ]
    have h5 := vl_lt (f := f) (n := i) (fun j hj => hf j (by omega))
    have h6 : (f i + 1) * bp i ≤ g i * bp i := Nat.mul_le_mul_right _ (by omega)
    rw [Nat.add_mul] at h6
    omega
  rw [h1, h2, h3]; omega

/-- word i of n -/
def dg (n i : Nat) : Nat := n / bp i % 4294967296
theorem dg_lt (n i : Nat) : dg n i < 4294967296 := Nat.mod_lt _ (by decide)
theorem dg_zero (i : Nat) : dg 0 i = 0 := by simp [dg]

theorem vl_dg (n k : Nat) : vl (dg n) k = n % bp k := by
  induction k with
  | zero => simp [vl, bp, Nat.mod_one]
  | succ k ih =>
    rw [vl_succ, ih, dg, bp_succ, Nat.mul_comm 4294967296, Nat.mod_mul, Nat.mul_comm (bp k)]

theorem vl_dg_of_lt {n k : Nat} (h : n < bp k) : vl (dg n) k = n := by rw [vl_dg, Nat.mod_eq_of_lt h]

theorem dg_vl {f : Nat → Nat} {n : Nat} (hf : ∀ j, j < n → f j < 4294967296) {i : Nat} (hi : i < n) : dg (vl f n) i = f i := by
  have h1 : vl f n = vl f i + bp i * vl (fun j => f (i + j)) (n - i) := by
    rw [← vl_split]; congr 1; omega
  have h2 : vl f i < bp i := vl_lt (fun j hj => hf j (by omega))
  rw [dg, h1, Nat.add_mul_div_left _ _ (bp_pos i), Nat.div_eq_of_lt h2, Nat.zero_add, show n - i = (n - i - 1) + 1 by omega, vl_cons]
  rw [Nat.add_mul_mod_self_left]
  exact Nat.mod_eq_of_lt (hf _ hi)

theorem vl_inj {f g : Nat → Nat} {n : Nat} (hf : ∀ j, j < n → f j < 4294967296) (hg : ∀ j, j < n → g j < 4294967296) (h : vl f n = vl g n) {i : Nat} (hi : i < n) : f i = g i := by
  rw [← dg_vl hf hi, ← dg_vl hg hi, h]

/-- how many words n has -/
def wl (n : Nat) : Nat := if n = 0 then 0 else Nat.log2 n / 32 + 1

theorem wl_le {n k : Nat} : wl n ≤ k ↔ n < bp k := by
  unfold wl
  split
  · next h => subst h; simp [bp_pos]
  · next h =>
    rw [bp_eq, ← Nat.log2_lt h]
    omega
theorem lt_wl {n k : Nat} : k < wl n ↔ bp k ≤ n := by
  have := @wl_le n k
  omega
theorem lt_bp_wl (n : Nat) : n < bp (wl n) := wl_le.1 (Nat.le_refl _)
theorem wl_zero : wl 0 = 0 := rfl
theorem wl_pos {n : Nat} (h : 0 < n) : 0 < wl n := lt_wl.2 (by rw [bp_zero]; exact h)
theorem wl_eq_zero {n : Nat} : wl n = 0 ↔ n = 0 := by
  have := @wl_le n 0
  rw [bp_zero] at this
  omega
theorem wl_mono {m n : Nat} (h : m ≤ n) : wl m ≤ wl n := wl_le.2 (Nat.lt_of_le_of_lt h (lt_bp_wl n))
theorem wl_of {n k : Nat} (h1 : bp k ≤ n) (h2 : n < bp (k + 1)) : wl n = k + 1 := by
  have a := wl_le.2 h2
  have b := lt_wl.2 h1
  omega
theorem wl_add (a b : Nat) : wl (a + b) ≤ max (wl a) (wl b) + 1 := by
  apply wl_le.2
  rw [bp_succ]
  have h1 := Nat.lt_of_lt_of_le (lt_bp_wl a) (bp_le (Nat.le_max_left (wl a) (wl b)))
  have h2 := Nat.lt_of_lt_of_le (lt_bp_wl b) (bp_le (Nat.le_max_right (wl a) (wl b)))
  omega
theorem wl_mul (a b : Nat) : wl (a * b) ≤ wl a + wl b := by
  apply wl_le.2
  rw [bp_add]
  exact Nat.mul_lt_mul_of_lt_of_le (lt_bp_wl a) (Nat.le_of_lt (lt_bp_wl b)) (bp_pos _)
theorem wl_sub (a b : Nat) : wl (a - b) ≤ wl a := wl_mono (Nat.sub_le _ _)
theorem wl_div (a b : Nat) : wl (a / b) ≤ wl a := wl_mono (Nat.div_le_self _ _)
theorem wl_mod (a b : Nat) : wl (a % b) ≤ wl a := wl_mono (Nat.mod_le _ _)
theorem wl_mod_lt (a : Nat) {b : Nat} (h : 0 < b) : wl (a % b) ≤ wl b := wl_mono (Nat.le_of_lt (Nat.mod_lt _ h))
theorem wl_gcd_left (a b : Nat) (h : 0 < a) : wl (Nat.gcd a b) ≤ wl a := wl_mono (Nat.le_of_dvd h (Nat.gcd_dvd_left _ _))
theorem wl_gcd_right (a b : Nat) (h : 0 < b) : wl (Nat.gcd a b) ≤ wl b := wl_mono (Nat.le_of_dvd h (Nat.gcd_dvd_right _ _))
theorem wl_gcd (a b : Nat) : wl (Nat.gcd a b) ≤ max (wl a) (wl b) := by
  by_cases h : a = 0
  · subst h; rw [Nat.gcd_zero_left]; omega
  · have := wl_gcd_left a b (by omega); omega
theorem wl_small {n : Nat} (h : n < 4294967296) : wl n ≤ 1 := wl_le.2 (by rw [bp_one]; exact h)
theorem wl_le_two {n : Nat} : wl n ≤ 2 ↔ n < 18446744073709551616 := by rw [wl_le, bp_two]
theorem wl_succ (a : Nat) : wl (a + 1) ≤ wl a + 1 := by
  have := wl_add a 1
  have h1 : wl 1 ≤ 1 := wl_small (by decide)
  by_cases h : a = 0
  · subst h; have : wl (0 + 1) ≤ 1 := wl_small (by decide); omega
  · have := wl_pos (n := a) (by omega); omega

/-- the top word of a row is not 0: the row's value has as many words as the row -/
theorem wl_vl {f : Nat → Nat} {n : Nat} (hf : ∀ j, j < n → f j < 4294967296) (ht : 0 < n → f (n - 1) ≠ 0) : wl (vl f n) = n := by
  cases n with
  | zero => rfl
  | succ n => exact wl_of (vl_top (ht (by omega))) (vl_lt hf)

theorem dg_top {n : Nat} (h : 0 < n) : dg n (wl n - 1) ≠ 0 := by
  have hp := wl_pos h
  have h1 : bp (wl n - 1) ≤ n := lt_wl.1 (by omega)
  have h2 := lt_bp_wl n
  rw [show wl n = (wl n - 1) + 1 by omega, bp_succ, Nat.mul_comm] at h2
  have h3 : n / bp (wl n - 1) < 4294967296 := Nat.div_lt_of_lt_mul (by simpa using h2)
  have h4 : 0 < n / bp (wl n - 1) := Nat.div_pos h1 (bp_pos _)
  rw [dg, Nat.mod_eq_of_lt h3]
  omega

/-- words beyond the number's are 0 -/
theorem dg_high {n k i : Nat} (h : n < bp k) (hi : k ≤ i) : dg n i = 0 := by
  rw [dg, Nat.div_eq_of_lt (Nat.lt_of_lt_of_le h (bp_le hi))]

end Go.Proofs.YtenpbnmmadbkdaaGreat


/- Numbers in digits to the base 10000: values of rows of digits, the digits of a number, how many digits a number has. No condition; nothing here speaks of the program. -/
namespace Go.Proofs.YtenpbnmmadbkdaaGreat

/-- 10000 to the n -/
def tp (n : Nat) : Nat := 10000 ^ n
theorem tp_zero : tp 0 = 1 := rfl
theorem tp_succ (n : Nat) : tp (n + 1) = 10000 * tp n := by unfold tp; rw [Nat.pow_succ, Nat.mul_comm]
theorem tp_add (m n : Nat) : tp (m + n) = tp m * tp n := by unfold tp; rw [Nat.pow_add]
theorem tp_pos (n : Nat) : 0 < tp n := by unfold tp; exact Nat.pow_pos (by decide)
theorem tp_le {m n : Nat} (h : m ≤ n) : tp m ≤ tp n := by unfold tp; exact Nat.pow_le_pow_right (by decide) h
theorem tp_lt {m n : Nat} (h : m < n) : tp m < tp n := by unfold tp; exact Nat.pow_lt_pow_right (by decide) h
theorem tp_one : tp 1 = 10000 := rfl
theorem tp_two : tp 2 = 100000000 := by decide

/-- the value of the first n digits of f, least significant first -/
def tv (f : Nat → Nat) : Nat → Nat
  | 0 => 0
  | n + 1 => tv f n + f n * tp n

theorem tv_zero (f : Nat → Nat) : tv f 0 = 0 := rfl
theorem tv_succ (f : Nat → Nat) (n : Nat) : tv f (n + 1) = tv f n + f n * tp n := rfl

theorem tv_congr {f g : Nat → Nat} {n : Nat} (h : ∀ i, i < n → f i = g i) : tv f n = tv g n := by
  induction n with
  | zero => rfl
  | succ n ih => rw [tv_succ, tv_succ, ih (fun i hi => h i (by omega)), h n (by omega)]

theorem tv_lt {f : Nat → Nat} {n : Nat} (h : ∀ i, i < n → f i < 10000) : tv f n < tp n := by
  induction n with
  | zero => simp [tv, tp]
  | succ n ih =>
    have h1 := ih (fun i hi => h i (by omega))
    have h2 := h n (by omega)
    have h3 : f n * tp n ≤ 9999 * tp n := Nat.mul_le_mul_right _ (by omega)
    rw [tv_succ, tp_succ]
    omega

theorem tv_split (f : Nat → Nat) (m n : Nat) : tv f (m + n) = tv f m + tp m * tv (fun i => f (m + i)) n := by
  induction n with
  | zero => simp [tv]
  | succ n ih =>
    rw [← Nat.add_assoc, tv_succ, ih, tv_succ, Nat.mul_add, tp_add, Nat.add_assoc]
    congr 2
    rw [← Nat.mul_assoc, ← Nat.mul_assoc, Nat.mul_comm (f (m + n))]

theorem tv_cons (f : Nat → Nat) (n : Nat) : tv f (n + 1) = f 0 + 10000 * tv (fun i => f (i + 1)) n := by
  rw [Nat.add_comm n 1, tv_split]
  simp [tv, tp_one, tp_zero, Nat.add_comm]

theorem tv_tail {f : Nat → Nat} {m n : Nat} (hmn : m ≤ n) (h : ∀ i, m ≤ i → i < n → f i = 0) : tv f n = tv f m := by
  induction n with
  | zero => obtain rfl : m = 0 := by omega
            rfl
  | succ n ih =>
    by_cases hm : m = n + 1
    · rw [hm]
    · rw [tv_succ, ih (by omega) (fun i h1 h2 => h i h1 (by omega)), h n (by omega) (by omega)]; simp

theorem tv_mono {f : Nat → Nat} {m n : Nat} (h : m ≤ n) : tv f m ≤ tv f n := by
  induction n with
  | zero => obtain rfl : m = 0 := by omega
            exact Nat.le_refl _
  | succ n ih =>
    by_cases hm : m = n + 1
    · rw [hm]; exact Nat.le_refl _
    · have := ih (by omega); rw [tv_succ]; omega

theorem tv_top {f : Nat → Nat} {n : Nat} (h : f n ≠ 0) : tp n ≤ tv f (n + 1) := by
  rw [tv_succ]
  have : 1 * tp n ≤ f n * tp n := Nat.mul_le_mul_right _ (by omega)
  omega

/-- the first digits agree above i, and differ at i -/
theorem tv_less {f g : Nat → Nat} {n i : Nat} (hi : i < n) (hf : ∀ j, j < n → f j < 10000) (he : ∀ j, i < j → j < n → f j = g j) (hl : f i < g i) : tv f n < tv g n := by
  have h1 : tv f n = tv f (i + 1) + tp (i + 1) * tv (fun j => f (i + 1 + j)) (n - (i + 1)) := by
    rw [← tv_split]; congr 1; omega
  have h2 : tv g n = tv g (i + 1) + tp (i + 1) * tv (fun j => g (i + 1 + j)) (n - (i + 1)) := by
    rw [← tv_split]; congr 1; omega
  have h3 : tv (fun j => f (i + 1 + j)) (n - (i + 1)) = tv (fun j => g (i + 1 + j)) (n - (i + 1)) := tv_congr (fun j hj => he _ (by omega) (by omega))
  have h4 : tv f (i + 1) < tv g (i + 1) := by
    rw [tv_succ, tv_succ]
    have h5 := tv_lt (f := f) (n := i) (fun j hj => hf j (by omega))
    have h6 : (f i + 1) * tp i ≤ g i * tp i := Nat.mul_le_mul_right _ (by omega)
    rw [Nat.add_mul] at h6
    omega
  rw [h1, h2, h3]; omega

/-- digit i of n -/
def tg (n i : Nat) : Nat := n / tp i % 10000
theorem tg_lt (n i : Nat) : tg n i < 10000 := Nat.mod_lt _ (by decide)
theorem tg_zero (i : Nat) : tg 0 i = 0 := by simp [tg]

theorem tv_tg (n k : Nat) : tv (tg n) k = n % tp k := by
  induction k with
  | zero => simp [tv, tp, Nat.mod_one]
  | succ k ih =>
    rw [tv_succ, ih, tg, tp_succ, Nat.mul_comm 10000, Nat.mod_mul, Nat.mul_comm (tp k)]

theorem tv_tg_of_lt {n k : Nat} (h : n < tp k) : tv (tg n) k = n := by rw [tv_tg, Nat.mod_eq_of_lt h]

theorem tg_tv {f : Nat → Nat} {n : Nat} (hf : ∀ j, j < n → f j < 10000) {i : Nat} (hi : i < n) : tg (tv f n) i = f i := by
  have h1 : tv f n = tv f i + tp i * tv (fun j => f (i + j)) (n - i) := by
    rw [← tv_split]; congr 1; omega
  have h2 : tv f i < tp i := tv_lt (fun j hj => hf j (by omega))
  rw [tg, h1, Nat.add_mul_div_left _ _ (tp_pos i), Nat.div_eq_of_lt h2, Nat.zero_add, show n - i = (n - i - 1) + 1 by omega, tv_cons]
  rw [Nat.add_mul_mod_self_left]
  exact Nat.mod_eq_of_lt (hf _ hi)

theorem tv_inj {f g : Nat → Nat} {n : Nat} (hf : ∀ j, j < n → f j < 10000) (hg : ∀ j, j < n → g j < 10000) (h : tv f n = tv g n) {i : Nat} (hi : i < n) : f i = g i := by
  rw [← tg_tv hf hi, ← tg_tv hg hi, h]

/-- how many digits n has -/
def tw (n : Nat) : Nat := if n = 0 then 0 else tw (n / 10000) + 1
decreasing_by omega
theorem tw_le {n k : Nat} : tw n ≤ k ↔ n < tp k := by
  induction n using Nat.strongRecOn generalizing k with
  | ind n ih =>
    rw [tw]
    split
    · next h => subst h; simp [tp_pos]
    · next h =>
      cases k with
      | zero => rw [tp_zero]; omega
      | succ k =>
        rw [Nat.add_le_add_iff_right, ih (n / 10000) (by omega), tp_succ]
        omega
theorem lt_tw {n k : Nat} : k < tw n ↔ tp k ≤ n := by
  have := @tw_le n k
  omega
theorem lt_tp_tw (n : Nat) : n < tp (tw n) := tw_le.1 (Nat.le_refl _)
theorem tw_zero : tw 0 = 0 := by rw [tw]; rfl
theorem tw_pos {n : Nat} (h : 0 < n) : 0 < tw n := lt_tw.2 (by rw [tp_zero]; exact h)
theorem tw_eq_zero {n : Nat} : tw n = 0 ↔ n = 0 := by
  have := @tw_le n 0
  rw [tp_zero] at this
  omega
theorem tw_mono {m n : Nat} (h : m ≤ n) : tw m ≤ tw n := tw_le.2 (Nat.lt_of_le_of_lt h (lt_tp_tw n))
theorem tw_of {n k : Nat} (h1 : tp k ≤ n) (h2 : n < tp (k + 1)) : tw n = k + 1 := by
  have a := tw_le.2 h2
  have b := lt_tw.2 h1
  omega
theorem tw_add (a b : Nat) : tw (a + b) ≤ max (tw a) (tw b) + 1 := by
  apply tw_le.2
  rw [tp_succ]
  have h1 := Nat.lt_of_lt_of_le (lt_tp_tw a) (tp_le (Nat.le_max_left (tw a) (tw b)))
  have h2 := Nat.lt_of_lt_of_le (lt_tp_tw b) (tp_le (Nat.le_max_right (tw a) (tw b)))
  omega
theorem tw_mul (a b : Nat) : tw (a * b) ≤ tw a + tw b := by
  apply tw_le.2
  rw [tp_add]
  exact Nat.mul_lt_mul_of_lt_of_le (lt_tp_tw a) (Nat.le_of_lt (lt_tp_tw b)) (tp_pos _)
theorem tw_sub (a b : Nat) : tw (a - b) ≤ tw a := tw_mono (Nat.sub_le _ _)
theorem tw_div (a b : Nat) : tw (a / b) ≤ tw a := tw_mono (Nat.div_le_self _ _)
theorem tw_mod (a b : Nat) : tw (a % b) ≤ tw a := tw_mono (Nat.mod_le _ _)
theorem tw_mod_lt (a : Nat) {b : Nat} (h : 0 < b) : tw (a % b) ≤ tw b := tw_mono (Nat.le_of_lt (Nat.mod_lt _ h))
theorem tw_gcd_left (a b : Nat) (h : 0 < a) : tw (Nat.gcd a b) ≤ tw a := tw_mono (Nat.le_of_dvd h (Nat.gcd_dvd_left _ _))
theorem tw_gcd_right (a b : Nat) (h : 0 < b) : tw (Nat.gcd a b) ≤ tw b := tw_mono (Nat.le_of_dvd h (Nat.gcd_dvd_right _ _))
theorem tw_gcd (a b : Nat) : tw (Nat.gcd a b) ≤ max (tw a) (tw b) := by
  by_cases h : a = 0
  · subst h; rw [Nat.gcd_zero_left]; omega
  · have := tw_gcd_left a b (by omega); omega
theorem tw_small {n : Nat} (h : n < 10000) : tw n ≤ 1 := tw_le.2 (by rw [tp_one]; exact h)
theorem tw_le_two {n : Nat} : tw n ≤ 2 ↔ n < 100000000 := by rw [tw_le, tp_two]
theorem tw_succ (a : Nat) : tw (a + 1) ≤ tw a + 1 := by
  have := tw_add a 1
  have h1 : tw 1 ≤ 1 := tw_small (by decide)
  by_cases h : a = 0
  · subst h; have : tw (0 + 1) ≤ 1 := tw_small (by decide); omega
  · have := tw_pos (n := a) (by omega); omega

/-- the top digit of a row is not 0: the row's value has as many digits as the row -/
theorem tw_tv {f : Nat → Nat} {n : Nat} (hf : ∀ j, j < n → f j < 10000) (ht : 0 < n → f (n - 1) ≠ 0) : tw (tv f n) = n := by
  cases n with
  | zero => exact tw_zero
  | succ n => exact tw_of (tv_top (ht (by omega))) (tv_lt hf)

theorem tg_top {n : Nat} (h : 0 < n) : tg n (tw n - 1) ≠ 0 := by
  have hp := tw_pos h
  have h1 : tp (tw n - 1) ≤ n := lt_tw.1 (by omega)
  have h2 := lt_tp_tw n
  rw [show tw n = (tw n - 1) + 1 by omega, tp_succ, Nat.mul_comm] at h2
  have h3 : n / tp (tw n - 1) < 10000 := Nat.div_lt_of_lt_mul (by simpa using h2)
  have h4 : 0 < n / tp (tw n - 1) := Nat.div_pos h1 (tp_pos _)
  rw [tg, Nat.mod_eq_of_lt h3]
  omega

/-- digits beyond the number's are 0 -/
theorem tg_high {n k i : Nat} (h : n < tp k) (hi : k ≤ i) : tg n i = 0 := by
  rw [tg, Nat.div_eq_of_lt (Nat.lt_of_lt_of_le h (tp_le hi))]

end Go.Proofs.YtenpbnmmadbkdaaGreat


/- Regions that draw their order and whose operations only let the world grow, up to a chain of stores at the end: one walk in the order of the text serves every order. Condition: the Bool 'growB' of the region's own edges. -/
namespace Go.Proofs.YtenpbnmmadbkdaaGreat
open Go.RowKit

/-- w' has grown out of w -/
def Gr (w w' : World) : Prop := Below w.heap.size w w'
theorem Gr.refl (w : World) : Gr w w := Below.refl _ _
theorem Gr.trans {a b c : World} (h : Gr a b) (k : Gr b c) : Gr a c := Below.trans h (Below.mono k h.size)
theorem Gr.drew (w : World) : Gr w w.drew := Below.drew (Below.refl _ _)
theorem Gr.alloc (w : World) (o : Obj) : Gr w (w.alloc o) := (Below.refl _ w).alloc (Nat.le_refl _) o
theorem Gr.block {w w' : World} (h : Gr w w') {k : Nat} {o : Obj} (hk : w.heap[k]? = some o) : w'.heap[k]? = some o := by
  rw [Below.block h k (Array.getElem?_eq_some_iff.1 hk).1]; exact hk

section
variable {P : Program} {ops : Array Oper} {md : Region.Mode} {W : World}

/-- In every world that has grown out of W the operation hands back v, and the world grows. -/
def Yg (P : Program) (ops : Array Oper) (W : World) (o : Oper) (v : Value) (a : Act) : Prop :=
  (Region.wanted o (yielded ops a.tmps) = true ∧ ∀ w, Gr W w → o.quietAt P a (Gr w) w v) ∨ (Region.wanted o (yielded ops a.tmps) = false ∧ v = undef)

/-- What an operation of the region's head may do. -/
def hUpon (P : Program) (o : Oper) (a : Act) (w : World) (K : Act → World → Prop) : Result Next → Prop
  | .ok (.value v) w' => Gr w w' ∧ K (a.put o.dst v) w'
  | .ok .skip w' => Gr w w' ∧ K (a.put o.dst undef) w'
  | .ok (.enter f args) w' => w' = w ∧ Calls P f args w fun e w'' => ∃ v, e = .returned v ∧ Gr w w'' ∧ K (a.put o.dst v) w''
  | _ => False
def hOp (P : Program) (ops : Array Oper) (i : Nat) (K : Act → World → Prop) (a : Act) (w : World) : Prop :=
  ∃ o, ops[i]? = some o ∧ if Region.wanted o (yielded ops a.tmps) then hUpon P o a w K ((execOp a.eval o).run P w) else K (a.put o.dst undef) w

theorem hOp_mono {i : Nat} {K K' : Act → World → Prop} {a : Act} {w : World} (h : ∀ a' w', Gr w w' → K a' w' → K' a' w') (hh : hOp P ops i K a w) : hOp P ops i K' a w := by
  obtain ⟨o, ho, hh⟩ := hh
  refine ⟨o, ho, ?_⟩
  split
  · rename_i hw
    rw [if_pos hw] at hh
    generalize (execOp a.eval o).run P w = r at *
    cases r with
    | ok n w' =>
      cases n <;> simp only [hUpon] at hh ⊢
      case value u => exact ⟨hh.1, h _ _ hh.1 hh.2⟩
      case skip => exact ⟨hh.1, h _ _ hh.1 hh.2⟩
      case enter f args =>
        obtain ⟨e, hc⟩ := hh
        exact ⟨e, hc.mono fun e w'' ⟨v, h1, h2, h3⟩ => ⟨v, h1, h2, h _ _ h2 h3⟩⟩
    | halt x w' => exact hh.elim
  · rename_i hw
    rw [if_neg hw] at hh
    exact h _ _ (Gr.refl _) hh

theorem wpOp_of_hOp {i : Nat} {K K' : Act → World → Prop} {Q : Exit → Act → World → Prop} {a : Act} {w : World} (h : ∀ a' w', K a' w' → K' a' w') (hh : hOp P ops i K a w) : wpOp P ops Q i K' a w := by
  obtain ⟨o, ho, hh⟩ := hh
  unfold wpOp
  simp only [ho]
  split
  · rename_i hw
    rw [if_pos hw] at hh
    refine .inl ?_
    unfold Oper.wp
    generalize (execOp a.eval o).run P w = r at *
    cases r with
    | ok n w' =>
      cases n <;> simp only [hUpon] at hh <;> simp only [Oper.upon]
      case value u => exact h _ _ hh.2
      case skip => exact h _ _ hh.2
      case enter f args =>
        obtain ⟨e, hc⟩ := hh
        rw [e]
        exact hc.mono fun e w'' ⟨v, h1, h2, h3⟩ => by subst h1; exact h _ _ h3
    | halt x w' => exact hh.elim
  · rename_i hw
    rw [if_neg hw] at hh
    exact h _ _ hh

theorem Yg.hOp {i : Nat} {o : Oper} {v : Value} {a : Act} {w : World} (hi : ops[i]? = some o) (hy : Yg P ops W o v a) (hw : Gr W w) {K : Act → World → Prop} (h : ∀ w', Gr w w' → K (a.put o.dst v) w') : hOp P ops i K a w := by
  refine ⟨o, hi, ?_⟩
  rcases hy with ⟨h1, h2⟩ | ⟨h1, rfl⟩
  · rw [if_pos h1]
    have h3 := h2 w hw
    unfold Oper.quietAt at h3
    generalize (execOp a.eval o).run P w = r at *
    cases r with
    | ok n w' =>
      cases n <;> simp only [Oper.quietUpon] at h3 <;> simp only [hUpon]
      case value u => obtain ⟨e1, e2⟩ := h3; rw [e1, e2]; exact ⟨Gr.refl _, h _ (Gr.refl _)⟩
      case skip => obtain ⟨e1, e2⟩ := h3; rw [e1, ← e2]; exact ⟨Gr.refl _, h _ (Gr.refl _)⟩
      case enter f args => obtain ⟨e1, hc⟩ := h3; exact ⟨e1, hc.mono fun e w'' ⟨he, hg⟩ => ⟨v, he, hg, h _ hg⟩⟩
    | halt x w' => simp only [Oper.quietUpon] at h3
  · rw [if_neg (by rw [h1]; decide)]
    exact h _ (Gr.refl _)

theorem Yg.of_same {o : Oper} {v : Value} {a a' : Act} (hy : Yg P ops W o v a) (he : execOp a'.eval o = execOp a.eval o) (hw : Region.wanted o (yielded ops a'.tmps) = Region.wanted o (yielded ops a.tmps)) : Yg P ops W o v a' := by
  unfold Yg Oper.quietAt at *
  rw [he, hw]
  exact hy

/-- An operation apart from a taken one. -/
theorem hOp_put {j : Nat} {oi oj : Oper} {v : Value} (hj : ops[j]? = some oj) (hap : oi.apart ops oj = true) (hsi : ∀ cs b, oi.op ≠ .select cs b) (hsj : ∀ cs b, oj.op ≠ .select cs b)
    {K : Act → World → Prop} {a : Act} {w : World} (hy : Yg P ops W oi v a) (h : hOp P ops j K (a.put oi.dst v) w) : hOp P ops j (fun a' w' => Yg P ops W oi v a' ∧ K (a'.put oi.dst v) w') a w := by
  obtain ⟨h1, h2, h3⟩ := Oper.apart_spec hap
  have keep : ∀ u, Yg P ops W oi v (a.put oj.dst u) := fun u => hy.of_same (execOp_put oi hsi a oj.dst u h3) (wanted_put oi a oj.dst u h3)
  obtain ⟨o, ho, h⟩ := h
  obtain rfl : oj = o := Option.some.inj (hj.symm.trans ho)
  refine ⟨oj, hj, ?_⟩
  rw [wanted_put oj a oi.dst v h1, execOp_put oj hsj a oi.dst v h1] at h
  split
  · rename_i hw
    rw [if_pos hw] at h
    generalize (execOp a.eval oj).run P w = r at *
    cases r with
    | ok n w' =>
      cases n <;> simp only [hUpon] at h ⊢
      case value u => exact ⟨h.1, keep u, by rw [← Act.put_comm a v u h2]; exact h.2⟩
      case skip => exact ⟨h.1, keep _, by rw [← Act.put_comm a v undef h2]; exact h.2⟩
      case enter f args =>
        obtain ⟨e, hc⟩ := h
        exact ⟨e, hc.mono fun e w'' ⟨u, g1, g2, g3⟩ => ⟨u, g1, g2, keep u, by rw [← Act.put_comm a v u h2]; exact g3⟩⟩
    | halt x w' => exact h.elim
  · rename_i hw
    rw [if_neg hw] at h
    exact ⟨keep _, by rw [← Act.put_comm a v undef h2]; exact h⟩

/-- Whatever order is picked within the head; between two operations the world may have grown. -/
def wpGL (P : Program) (md : Region.Mode) (ops : Array Oper) (n : Nat) (L : Array Bool → Act → World → Prop) : Nat → Array Bool → Act → World → Prop
  | 0, listed, a, w => L listed a w
  | f + 1, listed, a, w => (∃ i, i ∈ Region.ready md ops listed ∧ i < n) ∧ ∀ i ∈ Region.ready md ops listed, i < n → ∀ w', Gr w w' → hOp P ops i (wpGL P md ops n L f (listed.setIfInBounds i true)) a w'

variable {n : Nat} {L : Array Bool → Act → World → Prop}
theorem wpGL_mono (hL : ∀ listed a w w', Gr w w' → L listed a w → L listed a w') : ∀ (f : Nat) (listed : Array Bool) (a : Act) (w w' : World), Gr w w' → wpGL P md ops n L f listed a w → wpGL P md ops n L f listed a w'
  | 0, _, _, _, _, hg, h => hL _ _ _ _ hg h
  | _ + 1, _, _, _, _, hg, h => ⟨h.1, fun i hi hin w2 hw2 => h.2 i hi hin w2 (hg.trans hw2)⟩

/-- A quiet operation that may come up may be taken first. -/
theorem wpGL_first {i : Nat} {oi : Oper} {v : Value} (hi : ops[i]? = some oi) (hsel : ∀ (j : Nat) (o : Oper) cs b, ops[j]? = some o → o.op ≠ .select cs b) (hin : i < n)
    (hL : ∀ listed a w w', Gr w w' → L listed a w → L listed a w') (hdone : ∀ listed a w, L listed a w → ∀ j ∈ Region.ready md ops listed, n ≤ j) :
    ∀ (f : Nat) (listed : Array Bool) (a : Act) (w : World), Gr W w →
      (∀ j oj, ops[j]? = some oj → j ≠ i → listed.getD j true = false → (∀ e ∈ oj.after, Region.binds md e = true → e.on ≠ i) → oi.apart ops oj = true) →
      i ∈ Region.ready md ops listed → Yg P ops W oi v a → wpGL P md ops n L f (listed.setIfInBounds i true) (a.put oi.dst v) w → wpGL P md ops n L (f + 1) listed a w := by
  intro f
  induction f with
  | zero =>
    intro listed a w hW _ hr hy H
    refine ⟨⟨i, hr, hin⟩, fun j hj hjn w' hw' => ?_⟩
    by_cases hji : j = i
    · subst hji
      exact hy.hOp hi (hW.trans hw') fun w2 hw2 => hL _ _ _ _ (hw'.trans hw2) H
    · have := hdone _ _ _ H j (ready_mono hj hji)
      omega
  | succ f ih =>
    intro listed a w hW hfree hr hy H
    have hun := (mem_ready.1 hr).1
    refine ⟨⟨i, hr, hin⟩, fun j hj hjn w' hw' => ?_⟩
    by_cases hji : j = i
    · subst hji
      exact hy.hOp hi (hW.trans hw') fun w2 hw2 => wpGL_mono hL _ _ _ _ _ (hw'.trans hw2) H
    · have h1 := H.2 j (ready_mono hj hji) hjn w' hw'
      obtain ⟨hjun, oj, hoj, hall⟩ := mem_ready.1 hj
      have hnot : ∀ e ∈ oj.after, Region.binds md e = true → e.on ≠ i := fun e he hb heq => by
        have h1 := hall e he hb
        rw [heq, getD_both hun] at h1
        cases h1
      have h2 := hOp_put hoj (hfree j oj hoj hji hjun hnot) (fun cs b => hsel i oi cs b hi) (fun cs b => hsel j oj cs b hoj) hy h1
      have hfree' : ∀ k ok, ops[k]? = some ok → k ≠ i → (listed.setIfInBounds j true).getD k true = false →
          (∀ e ∈ ok.after, Region.binds md e = true → e.on ≠ i) → oi.apart ops ok = true := fun k ok hk hki hun hno => by
        refine hfree k ok hk hki ?_ hno
        by_cases hjk : j = k
        · subst hjk; exact hjun
        · rw [getD_set_ne true hjk] at hun; exact hun
      refine hOp_mono (fun a' w2 hw2 h3 => ih (listed.setIfInBounds j true) a' w2 ((hW.trans hw').trans hw2) hfree' (ready_mono hr (Ne.symm hji)) h3.1 ?_) h2
      rw [Array.setIfInBounds_comm _ _ hji]
      exact h3.2

/-! ### the region's head, its loose ends X (operations that ask nothing of the world and that the chain's first operation does not wait for), its chain -/
/-- An operation that asks nothing of the world. -/
def PureOp (P : Program) (o : Oper) : Prop := ∀ ρ : Operand → Value, (∃ v, ∀ w, (execOp ρ o).run P w = .ok (.value v) w) ∨ ∀ w, ∃ x w', (execOp ρ o).run P w = .halt x w'
def headInB (md : Region.Mode) (ops : Array Oper) (n : Nat) (X : List Nat) : Bool :=
  (List.range n).all fun i => (X.contains i || (List.range (n + 1)).any fun j => decide (i < j) && (!X.contains j && Region.waitsFor md ops j i)) && ((ops[i]?).map fun o => o.after.all fun e => !Region.binds md e || decide (e.on < i)).getD false
def looseB (md : Region.Mode) (ops : Array Oper) (n : Nat) (X : List Nat) : Bool :=
  X.all fun i => decide (i < n) && (List.range ops.size).all fun j => j == i || (Region.waitsFor md ops j i || (Region.waitsFor md ops i j || match ops[i]?, ops[j]? with | some oi, some oj => oi.apart ops oj | _, _ => false))

theorem tail_waits_in {X : List Nat} {listed : Array Bool} (hs : headInB md ops n X = true) (hc : Region.chainB md ops n = true) (hn : n < ops.size) (hnX : n ∉ X) (inv : HeadInv md ops n listed) :
    ∀ (d i : Nat), n - i = d → i < n → i ∉ X → listed.getD i true = false → ∀ t, n ≤ t → t ∉ Region.ready md ops listed := by
  intro d
  induction d using Nat.strongRecOn with
  | _ d ih =>
    intro i hd hi hiX hun t ht hr
    obtain ⟨_, ot, hot, hall⟩ := mem_ready.1 hr
    have htlt : t < ops.size := (Array.getElem?_eq_some_iff.1 hot).1
    by_cases htn : t = n
    · subst htn
      have h1 := List.all_eq_true.1 hs i (List.mem_range.2 hi)
      simp only [Bool.and_eq_true, Bool.or_eq_true] at h1
      have h1 := h1.1.resolve_left (by simpa using hiX)
      obtain ⟨j, hj, hj2⟩ := List.any_eq_true.1 h1
      simp only [Bool.and_eq_true, decide_eq_true_eq] at hj2
      obtain ⟨oj, hoj, e, he, hb, hon⟩ := Region.waitsFor_spec hj2.2.2
      have hjX : j ∉ X := by have := hj2.2.1; simpa using this
      have hjle : j ≤ t := by have := List.mem_range.1 hj; omega
      by_cases hjt : j = t
      · subst hjt
        obtain rfl : oj = ot := Option.some.inj (hoj.symm.trans hot)
        have h2 := hall e he hb
        rw [hon, getD_both hun] at h2
        cases h2
      · cases hl : listed.getD j false with
        | true =>
          have h2 := inv.closed j oj hoj hl e he hb
          rw [hon, getD_both hun] at h2
          cases h2
        | false =>
          have hjs : j < listed.size := by rw [inv.size]; omega
          exact ih (t - j) (by omega) j rfl (by omega) hjX (getD_in hjs hl) t (Nat.le_refl _) hr
    · have h1 := List.all_eq_true.1 hc t (List.mem_range.2 htlt)
      simp only [Bool.or_eq_true, decide_eq_true_eq] at h1
      rcases h1 with h1 | h1
      · omega
      · obtain ⟨o', ho', e, he, hb, hon⟩ := Region.waitsFor_spec h1
        obtain rfl : o' = ot := Option.some.inj (ho'.symm.trans hot)
        have h2 := hall e he hb
        rw [hon, getD_both (inv.tail (t - 1) (by omega) (by omega))] at h2
        cases h2

/-- where the chain may begin ahead of the head's end, a loose end may come up -/
theorem loose_ready {X : List Nat} {listed : Array Bool} (hs : headInB md ops n X = true) (hc : Region.chainB md ops n = true) (hn : n < ops.size) (hnX : n ∉ X) (inv : HeadInv md ops n listed)
    {t : Nat} (ht : n ≤ t) (hr : t ∈ Region.ready md ops listed) : ∀ (d i : Nat), i = d → i < n → listed.getD i true = false → ∃ x, x ∈ X ∧ x ∈ Region.ready md ops listed := by
  intro d
  induction d using Nat.strongRecOn with
  | _ d ih =>
    intro i hd hi hun
    have hiX : i ∈ X := by
      rcases Classical.em (i ∈ X) with h | h
      · exact h
      · exact absurd hr (tail_waits_in hs hc hn hnX inv _ i rfl hi h hun t ht)
    by_cases hri : i ∈ Region.ready md ops listed
    · exact ⟨i, hiX, hri⟩
    · have h1 := List.all_eq_true.1 hs i (List.mem_range.2 hi)
      simp only [Bool.and_eq_true] at h1
      have h2 := h1.2
      cases ho : ops[i]? with
      | none => rw [ho] at h2; simp at h2
      | some o =>
        rw [ho] at h2
        simp only [Option.map_some, Option.getD_some, Array.all_eq_true_iff_forall_mem, Bool.or_eq_true, Bool.not_eq_true', decide_eq_true_eq] at h2
        have h3 : ∃ e ∈ o.after, Region.binds md e = true ∧ listed.getD e.on false = false := by
          refine Classical.byContradiction fun hno => hri (mem_ready.2 ⟨hun, o, ho, fun e he hb => ?_⟩)
          cases hh : listed.getD e.on false
          · exact absurd ⟨e, he, hb, hh⟩ hno
          · rfl
        obtain ⟨e, he, hb, hl⟩ := h3
        have hlt := (h2 e he).resolve_left (by rw [hb]; decide)
        exact ih e.on (by omega) e.on rfl (by omega) (getD_in (by rw [inv.size]; omega) hl)

theorem wpAny_of_GL {X : List Nat} {g : Nat} {Q : Exit → Act → World → Prop} (hsel : Region.noSelect ops = true) (hs : headInB md ops n X = true) (hl : looseB md ops n X = true) (hc : Region.chainB md ops n = true) (hn : n < ops.size) (hnX : n ∉ X)
    (hX : ∀ x ∈ X, ∃ o, ops[x]? = some o ∧ PureOp P o) (hQ : ∀ listed a w, HeadInv md ops n listed → L listed a w → wpAny P md ops Q g listed a w) (hp : ∀ c a d v w, Q (.panic c) (a.put (some d) v) w → Q (.panic c) a w) :
    ∀ (f : Nat) (listed : Array Bool) (a : Act) (w : World), HeadInv md ops n listed → wpGL P md ops n L f listed a w → wpAny P md ops Q (f + g) listed a w
  | 0, _, _, _, inv, h => by rw [Nat.zero_add]; exact hQ _ _ _ inv h
  | f + 1, listed, a, w, inv, h => by
    rw [show f + 1 + g = (f + g) + 1 by omega]
    rcases Classical.em (∃ x, x ∈ X ∧ x ∈ Region.ready md ops listed) with ⟨x, hx, hrx⟩ | hno
    · have h1 := List.all_eq_true.1 hl x hx
      simp only [Bool.and_eq_true, decide_eq_true_eq] at h1
      obtain ⟨hxn, h1⟩ := h1
      obtain ⟨o, ho, hpure⟩ := hX x hx
      obtain ⟨o', ho', h2⟩ := h.2 x hrx hxn w (Gr.refl w)
      obtain rfl : o' = o := Option.some.inj (ho'.symm.trans ho)
      have hfree : ∀ j oj, ops[j]? = some oj → j ≠ x → listed.getD j true = false → (∀ e ∈ oj.after, Region.binds md e = true → e.on ≠ x) → o'.apart ops oj = true := fun j oj hj hne hun hnot => by
        have hjs : j < ops.size := (Array.getElem?_eq_some_iff.1 hj).1
        have h3 := List.all_eq_true.1 h1 j (List.mem_range.2 hjs)
        simp only [ho, hj, Bool.or_eq_true, beq_iff_eq] at h3
        rcases h3 with h3 | h3 | h3 | h3
        · exact absurd h3 hne
        · obtain ⟨oj', hoj', e, he, hb, hon⟩ := Region.waitsFor_spec h3
          obtain rfl : oj' = oj := Option.some.inj (hoj'.symm.trans hj)
          exact absurd hon (hnot e he hb)
        · obtain ⟨oi', hoi', e, he, hb, hon⟩ := Region.waitsFor_spec h3
          obtain rfl : oi' = o' := Option.some.inj (hoi'.symm.trans ho)
          obtain ⟨_, o3, ho3, hall⟩ := mem_ready.1 hrx
          obtain rfl : o3 = oi' := Option.some.inj (ho3.symm.trans ho)
          have h4 := hall e he hb
          rw [hon, getD_both hun] at h4
          cases h4
        · exact h3
      obtain ⟨v, hy, hK⟩ : ∃ v, Yields P ops o' v a ∧ wpGL P md ops n L f (listed.setIfInBounds x true) (a.put o'.dst v) w := by
        split at h2
        · rename_i hw
          rcases hpure a.eval with ⟨v, hv⟩ | hh
          · rw [hv] at h2
            exact ⟨v, .inl ⟨hw, hv⟩, h2.2⟩
          · obtain ⟨x1, w1, he⟩ := hh w
            rw [he] at h2
            exact h2.elim
        · rename_i hw
          exact ⟨undef, .inr ⟨by simpa using hw, rfl⟩, h2⟩
      exact wpAny_first ho (Region.noSelect_spec hsel) (fun c a w => by cases hd : o'.dst with | none => exact fun h => h | some d => exact hp c a d v w) (f + g) listed a w hfree hrx hy (wpAny_of_GL hsel hs hl hc hn hnX hX hQ hp f _ _ _ (inv.set hrx hxn) hK)
    · have hlt : ∀ i ∈ Region.ready md ops listed, i < n := fun i hi => by
        rcases Nat.lt_or_ge i n with h' | h'
        · exact h'
        · obtain ⟨k, hk, hkn⟩ := h.1
          exact absurd (loose_ready hs hc hn hnX inv h' hi _ k rfl hkn (mem_ready.1 hk).1) hno
      refine ⟨fun h0 => ?_, fun i hi => wpOp_of_hOp (fun a' w' h' => wpAny_of_GL hsel hs hl hc hn hnX hX hQ hp f _ a' w' (inv.set hi (hlt i hi)) h') (h.2 i hi (hlt i hi) w (Gr.refl w))⟩
      obtain ⟨k, hk, _⟩ := h.1
      rw [h0] at hk
      cases hk

/-! ### new variables of the region: their blocks -/
/-- Operation i makes a new variable: its slot is D i, its block Z i. -/
def AllocAt (P : Program) (md : Region.Mode) (ops : Array Oper) (D : Nat → Tmp) (Z : Nat → Obj) (i : Nat) : Prop :=
  ∃ o, ops[i]? = some o ∧ o.dst = some (D i) ∧ o.guard = none ∧ (∀ e ∈ o.after, Region.binds md e = false) ∧ ∀ ρ w, (execOp ρ o).run P w = .ok (.value (.pointer (some ⟨w.heap.size, 0, none⟩))) (w.alloc (Z i))
def puts (D : Nat → Tmp) (G : Nat → Nat) : List Nat → Act → Act
  | [], a => a
  | i :: is, a => puts D G is (a.put (some (D i)) (.pointer (some ⟨G i, 0, none⟩)))
theorem puts_put {D : Nat → Tmp} {G : Nat → Nat} {d : Tmp} {v : Value} : ∀ (is : List Nat) (a : Act), (∀ j ∈ is, D j ≠ d) → puts D G is (a.put (some d) v) = (puts D G is a).put (some d) v
  | [], _, _ => rfl
  | j :: is, a, h => by
    unfold puts
    rw [Act.put_comm a v _ (fun d' hd' e => h j (by simp) (by cases hd'; exact Option.some.inj e))]
    exact puts_put is _ (fun k hk => h k (by simp [hk]))
theorem puts_congr {D : Nat → Tmp} {G G' : Nat → Nat} : ∀ (is : List Nat) (a : Act), (∀ j ∈ is, G j = G' j) → puts D G is a = puts D G' is a
  | [], _, _ => rfl
  | j :: is, a, h => by unfold puts; rw [h j (by simp)]; exact puts_congr is _ (fun k hk => h k (by simp [hk]))
theorem puts_erase {D : Nat → Tmp} {G : Nat → Nat} {i : Nat} : ∀ (is : List Nat) (a : Act), i ∈ is → is.Nodup → (∀ j ∈ is, ∀ k ∈ is, D j = D k → j = k) → puts D G is a = puts D G (is.erase i) (a.put (some (D i)) (.pointer (some ⟨G i, 0, none⟩)))
  | [], _, h, _, _ => by cases h
  | j :: is, a, h, hnd, hD => by
    by_cases e : j = i
    · subst e; rw [List.erase_cons_head]; rfl
    · rw [List.erase_cons_tail (by simpa using e)]
      unfold puts
      have hi : i ∈ is := by
        rcases List.mem_cons.1 h with h | h
        · exact absurd h.symm e
        · exact h
      rw [puts_erase is _ hi (List.nodup_cons.1 hnd).2 (fun j hj k hk => hD j (by simp [hj]) k (by simp [hk]))]
      congr 1
      exact Act.put_comm a _ _ (fun d' hd' e' => e (by cases hd'; exact (hD _ (by simp [hi]) _ (by simp) (Option.some.inj e')).symm))

/-- The new blocks, in a world w' that has grown out of w. -/
def Fresh (Z : Nat → Obj) (is : List Nat) (G : Nat → Nat) (w w' : World) : Prop :=
  (∀ i ∈ is, w.heap.size ≤ G i ∧ w'.heap[G i]? = some (Z i)) ∧ ∀ i ∈ is, ∀ j ∈ is, G i = G j → i = j

def canon (n s : Nat) : Array Bool := Array.ofFn (n := s) fun i => decide (i.val < n)
theorem eq_canon {listed : Array Bool} (inv : HeadInv md ops n listed) (hall : ∀ i, i < n → listed.getD i true = true) : listed = canon n ops.size := by
  refine Array.ext (by simp [canon, inv.size]) fun i h1 h2 => ?_
  simp only [canon, Array.getElem_ofFn]
  by_cases hi : i < n
  · have := hall i hi
    simp [h1] at this
    simp [hi, this]
  · have := inv.tail i (by omega) (by rw [← inv.size]; exact h1)
    simp [h1] at this
    simp [hi, this]

end
end Go.Proofs.YtenpbnmmadbkdaaGreat


/- How a number lies in the program's two fields: below 2^64 in the first, else as the bytes of its words in the second; the reading back. No condition. -/
namespace Go.Proofs.YtenpbnmmadbkdaaGreat

/-- the first field -/
def lo (n : Nat) : Nat := if n < 18446744073709551616 then n else 0
/-- four bytes of a word -/
def by4 (d : Nat) : List UInt8 := [UInt8.ofNat d, UInt8.ofNat (d / 256), UInt8.ofNat (d / 65536), UInt8.ofNat (d / 16777216)]
/-- the bytes of k words -/
def bys (f : Nat → Nat) : Nat → List UInt8
  | 0 => []
  | k + 1 => bys f k ++ by4 (f k)
/-- the second field -/
def bg (n : Nat) : ByteArray := if n < 18446744073709551616 then ⟨#[]⟩ else ⟨(bys (dg n) (wl n)).toArray⟩

theorem lo_lt (n : Nat) : lo n < 18446744073709551616 := by unfold lo; split <;> omega
theorem lo_small {n : Nat} (h : n < 18446744073709551616) : lo n = n := if_pos h
theorem lo_big {n : Nat} (h : ¬ n < 18446744073709551616) : lo n = 0 := if_neg h
theorem bg_small {n : Nat} (h : n < 18446744073709551616) : bg n = ⟨#[]⟩ := if_pos h
theorem bg_big {n : Nat} (h : ¬ n < 18446744073709551616) : bg n = ⟨(bys (dg n) (wl n)).toArray⟩ := if_neg h

theorem length_bys (f : Nat → Nat) (k : Nat) : (bys f k).length = 4 * k := by
  induction k with
  | zero => rfl
  | succ k ih => rw [bys, List.length_append, ih]; rfl
theorem bys_congr {f g : Nat → Nat} {k : Nat} (h : ∀ i, i < k → f i = g i) : bys f k = bys g k := by
  induction k with
  | zero => rfl
  | succ k ih => rw [bys, bys, ih (fun i hi => h i (by omega)), h k (by omega)]

theorem bys_at (f : Nat → Nat) {k i j : Nat} (hi : i < k) (hj : j < 4) : (bys f k)[4 * i + j]? = (by4 (f i))[j]? := by
  induction k with
  | zero => omega
  | succ k ih =>
    rw [bys]
    by_cases h : i < k
    · rw [List.getElem?_append_left (by rw [length_bys]; omega)]
      exact ih h
    · obtain rfl : i = k := by omega
      rw [List.getElem?_append_right (by rw [length_bys]; omega), length_bys]
      congr 1
      omega

theorem by4_at (d : Nat) {j : Nat} (hj : j < 4) : ((by4 d)[j]?).map UInt8.toNat = some (d / 256 ^ j % 256) := by
  match j, hj with
  | 0, _ => simp [by4]
  | 1, _ => simp [by4]
  | 2, _ => simp [by4]
  | 3, _ => simp [by4]

theorem big_wl {n : Nat} (h : ¬ n < 18446744073709551616) : 3 ≤ wl n := by
  have := @wl_le_two n
  omega
theorem small_wl {n : Nat} (h : n < 18446744073709551616) : wl n ≤ 2 := wl_le_two.2 h

theorem size_bg_small {n : Nat} (h : n < 18446744073709551616) : (bg n).size = 0 := by rw [bg_small h]; rfl
theorem size_bg_big {n : Nat} (h : ¬ n < 18446744073709551616) : (bg n).size = 4 * wl n := by
  rw [bg_big h]
  show ((bys (dg n) (wl n)).toArray).size = _
  rw [List.size_toArray, length_bys]
theorem size_bg (n : Nat) : (bg n).size ≤ 4 * wl n := by
  by_cases h : n < 18446744073709551616
  · rw [size_bg_small h]; omega
  · rw [size_bg_big h]; exact Nat.le_refl _

theorem toList_bg_small {n : Nat} (h : n < 18446744073709551616) : (bg n).toList = [] := by rw [bg_small h, ByteArray.toList_eq]
theorem toList_bg_big {n : Nat} (h : ¬ n < 18446744073709551616) : (bg n).toList = bys (dg n) (wl n) := by rw [bg_big h, ByteArray.toList_mk]
theorem toList_bg_ne {n : Nat} (h : ¬ n < 18446744073709551616) : (bg n).toList ≠ [] := by
  rw [toList_bg_big h]
  intro e
  have := length_bys (dg n) (wl n)
  rw [e] at this
  have := big_wl h
  simp at *
  omega

/-- a byte of the second field -/
theorem bg_at {n i j : Nat} (h : ¬ n < 18446744073709551616) (hi : i < wl n) (hj : j < 4) (hb : 4 * i + j < (bg n).size) : ((bg n)[4 * i + j]'hb).toNat = dg n i / 256 ^ j % 256 := by
  have h1 := bys_at (dg n) hi hj
  have h2 := by4_at (dg n i) hj
  have h3 : (bys (dg n) (wl n))[4 * i + j]? = some ((bg n)[4 * i + j]'hb) := by
    have e : (bg n).data.toList = bys (dg n) (wl n) := by rw [← ByteArray.toList_eq, toList_bg_big h]
    rw [← e]
    have hb' : 4 * i + j < (bg n).data.toList.length := by simpa using hb
    rw [List.getElem?_eq_getElem hb']
    rfl
  rw [h3] at h1
  rw [← h1] at h2
  simpa using h2

theorem bys_inj {f g : Nat → Nat} {k : Nat} (hf : ∀ i, i < k → f i < 4294967296) (hg : ∀ i, i < k → g i < 4294967296) (h : bys f k = bys g k) : ∀ i, i < k → f i = g i := by
  intro i hi
  have e : ∀ j, j < 4 → f i / 256 ^ j % 256 = g i / 256 ^ j % 256 := fun j hj => by
    have h1 := by4_at (f i) hj
    have h2 := by4_at (g i) hj
    rw [← bys_at f hi hj, h, bys_at g hi hj, h2] at h1
    simpa using h1.symm
  have e0 := e 0 (by decide)
  have e1 := e 1 (by decide)
  have e2 := e 2 (by decide)
  have e3 := e 3 (by decide)
  have := hf i hi
  have := hg i hi
  simp at e0 e1 e2 e3
  omega

/-- two numbers with the same fields are the same -/
theorem fields_inj {m n : Nat} (h1 : lo m = lo n) (h2 : (bg m).toList = (bg n).toList) : m = n := by
  by_cases hm : m < 18446744073709551616 <;> by_cases hn : n < 18446744073709551616
  · rwa [lo_small hm, lo_small hn] at h1
  · rw [toList_bg_small hm] at h2
    exact absurd h2.symm (toList_bg_ne hn)
  · rw [toList_bg_small hn] at h2
    exact absurd h2 (toList_bg_ne hm)
  · rw [toList_bg_big hm, toList_bg_big hn] at h2
    have hl := congrArg List.length h2
    rw [length_bys, length_bys] at hl
    have hk : wl m = wl n := by omega
    rw [hk] at h2
    have := bys_inj (fun i _ => dg_lt m i) (fun i _ => dg_lt n i) h2
    rw [← vl_dg_of_lt (lt_bp_wl m), ← vl_dg_of_lt (lt_bp_wl n), hk]
    exact vl_congr this

theorem fields_beq (m n : Nat) : (((lo m : Nat) : Int) == ((lo n : Nat) : Int) && (bg m).toList == (bg n).toList) = decide (m = n) := by
  by_cases h : m = n
  · subst h; simp
  · rw [decide_eq_false h]
    by_cases h1 : lo m = lo n
    · have : ¬ (bg m).toList = (bg n).toList := fun h2 => h (fields_inj h1 h2)
      simp [this]
    · have : ((lo m : Nat) : Int) ≠ ((lo n : Nat) : Int) := by omega
      simp [this]

end Go.Proofs.YtenpbnmmadbkdaaGreat


/- Rows of words in memory: what a block holds, and how that is kept. No condition. -/
namespace Go.Proofs.YtenpbnmmadbkdaaGreat
open Go.RowKit

def lenOf : Value → Nat | .slice _ l _ => l | _ => 0

/-- block b is a row of n words, word i being f i -/
def Ws (w : World) (b n : Nat) (f : Nat → Nat) : Prop := w.rowIs b 22 n (fun i => .int .u32 ((f i : Nat) : Int))

section
variable {w w' : World} {b n : Nat} {f g : Nat → Nat}
theorem Ws.cell (h : Ws w b n f) {i : Nat} (hi : i < n) : w.cell? ⟨b, i, none⟩ = some (.int .u32 ((f i : Nat) : Int)) := World.rowIs.cell h hi
theorem Ws.frozen (h : Ws w b n f) (i : Nat) : w.frozen? ⟨b, i, none⟩ = false := World.rowIs.frozen h i
theorem Ws.lt (h : Ws w b n f) : b < w.heap.size := World.rowIs.lt h
theorem Ws.congr (h : Ws w b n f) (e : ∀ i, i < n → f i = g i) : Ws w b n g := World.rowIs.congr h (fun i hi => by rw [e i hi])
theorem Ws.below {B : Nat} (h : Ws w b n f) (hb : Below B w w') (hlt : b < B) : Ws w' b n f := World.rowIs.of_block h (hb.block b hlt)
theorem Ws.set (h : Ws w b n f) (i v : Nat) : Ws (w.setCell ⟨b, i, none⟩ (.int .u32 ((v : Nat) : Int))) b n (fun j => if j = i then v else f j) :=
  World.rowIs.congr (World.rowIs.set h i _) (fun j _ => by by_cases e : j = i <;> simp [e])
theorem Ws.setOther (h : Ws w b n f) {a : Addr} (ha : b ≠ a.block) (v : Value) : Ws (w.setCell a v) b n f := World.rowIs.setOther h ha v
theorem Ws.alloc (h : Ws w b n f) (o : Obj) : Ws (w.alloc o) b n f := World.rowIs.alloc h o
theorem Ws.drew (h : Ws w b n f) : Ws w.drew b n f := World.rowIs.drew h
theorem Ws.drewN (h : Ws w b n f) (k : Nat) : Ws (w.drewN k) b n f := h
theorem Ws.made (w : World) (n : Nat) : Ws (w.alloc (.cells (madeCells #[.int .u32 0] n) 22)) w.heap.size n (fun _ => 0) := World.rowIs_made w _ n _
end

theorem below_drewN {B : Nat} {a w : World} (h : Below B a w) (n : Nat) : Below B a (w.drewN n) := ⟨h.os, h.tape, h.output, h.size, h.block⟩

/-- what a call leaves that was there -/
theorem bcell {W w1 : World} (hb : Below W.heap.size W w1) : (∀ b o, b < W.heap.size → w1.cell? ⟨b, o, none⟩ = W.cell? ⟨b, o, none⟩) ∧ (∀ b o, b < W.heap.size → w1.frozen? ⟨b, o, none⟩ = W.frozen? ⟨b, o, none⟩) :=
  ⟨fun b o h => hb.cell (p := ⟨b, o, none⟩) h, fun b o h => hb.frozen (p := ⟨b, o, none⟩) h⟩

/-- the cells of a world's own blocks, in every world that has grown out of it: the walk's rule at a region that draws its order -/
theorem held (W0 : World) : ∀ w' : World, Below W0.heap.size W0 w' → ∀ b o, b < W0.heap.size → w'.cell? ⟨b, o, none⟩ = W0.cell? ⟨b, o, none⟩ := fun _ h b o hb => h.cell (p := ⟨b, o, none⟩) hb
/-- growing on -/
theorem grow {W0 w1 w2 : World} (h : Below W0.heap.size W0 w1) (k : Below w1.heap.size w1 w2) : Below W0.heap.size W0 w2 := h.trans (k.mono h.size)

theorem info_u32 : (Tryz.prog.info? 22).map (fun i => (i.zero, i.size, i.bytes)) = some (some (.int .u32 0), 1, 4) := by kernel_rfl
theorem size_u32 : (Tryz.prog.info? 22).map (·.size) = some 1 := by kernel_rfl

/-- 'make([]uint32, n)' -/
theorem make_ws (k : Int) (n : Nat) (hk : k = (n : Int)) (h : n ≤ 4398046511104) (W : World) : (Instr.makeSlice 122 (.int .i64 k) (.int .i64 k)).run Tryz.prog W = .ok (.slice (some ⟨W.heap.size, 0, none⟩) n n) (W.alloc (.cells (madeCells #[.int .u32 0] n) 22)) := by
  subst hk
  exact run_make_row' (P := Tryz.prog) 122 22 (.int .u32 0) 4 Tryz.underlying122 info_u32 rfl .i64 .i64 n (by omega) (by omega) W

/-- 'copy(out, x)', out a row of the call's own, at least as long as x -/
theorem copy_ws {w : World} {ops : Array Oper} {rest : List Oper} {o : Oper} {a : Act} {Q : Exit → Act → World → Prop} (hgd : o.guard = none) (d s : Operand)
    (ho : o.op = .call { callee := .builtin .copy, args := #[d, s], argTypes := #[122, 122] }) (g N dCap b n sCap : Nat)
    (hd : a.eval d = .slice (some ⟨g, 0, none⟩) N dCap) (hs : a.eval s = .slice (some ⟨b, 0, none⟩) n sCap) (hnN : n ≤ N) (F f : Nat → Nat) (hg : Ws w g N F)
    (hc : ∀ i, i < n → w.cell? ⟨b, i, none⟩ = some (.int .u32 ((f i : Nat) : Int))) (B : Nat) (w0 : World) (hb : Below B w0 w) (hBg : B ≤ g)
    (h : ∀ w', Ws w' g N (fun i => if i < n then f i else F i) → Below B w0 w' → w'.heap.size = w.heap.size → wpList Tryz.prog ops Q rest (a.put o.dst (.int .i64 ((n : Nat) : Int))) w') :
    wpList Tryz.prog ops Q (o :: rest) a w := by
  obtain ⟨c, hh, hsz, hcc⟩ := hg
  have hcs : (((List.range n).map fun i => Value.int .u32 ((f i : Nat) : Int))).length = n := by simp
  refine wpList_copy_own hgd d s 122 122 ho 22 Tryz.underlying122 size_u32 g 0 N dCap ⟨b, 0, none⟩ n sCap hd hs c 22 hh ((List.range n).map fun i => Value.int .u32 ((f i : Nat) : Int)) ?_ ?_ ?_ ?_ ?_
  · rw [hcs]; exact (Nat.min_eq_left hnN).symm
  · intro j v hj
    have hjn : j < n := by
      have := (List.getElem?_eq_some_iff.1 hj).1
      simpa using this
    have e : (⟨b, 0, none⟩ : Addr).add j = ⟨b, j, none⟩ := by unfold Addr.add; split <;> simp_all
    rw [e, hc j hjn]
    simp [hjn] at hj
    rw [hj]
  · rw [hcs, hsz]; omega
  · intro v hv
    simp at hv
    obtain ⟨i, _, rfl⟩ := hv
    rfl
  · rw [hcs]
    refine h _ ⟨_, setRow_heap w g _ _ 22 _ hh, ?_, ?_⟩ (below_setRow hb hBg _) (by simp [World.setRow])
    · simp [hsz]; omega
    · intro i hi
      by_cases e : i < n
      · simp only [List.take_zero, List.nil_append, Nat.zero_add, List.getElem?_toArray, e, if_true]
        rw [List.getElem?_append_left (by simpa using e)]
        simp [e]
      · have e2 : n + (i - n) = i := by omega
        have := hcc i hi
        simp only [List.take_zero, List.nil_append, Nat.zero_add, List.getElem?_toArray, e, if_false]
        rw [List.getElem?_append_right (by simpa using e), hcs, List.getElem?_drop, e2, Array.getElem?_toList]
        exact this

end Go.Proofs.YtenpbnmmadbkdaaGreat


/- nats.cut, nats.sign, nats.Of, nats.zero: what they return. -/
namespace Go.Proofs.YtenpbnmmadbkdaaGreat
open Go.RowKit

/-- how many words are left when zero words at the top are cut -/
def tl (f : Nat → Nat) : Nat → Nat
  | 0 => 0
  | n + 1 => if f n = 0 then tl f n else n + 1
theorem tl_zero {f : Nat → Nat} {n : Nat} (h : f n = 0) : tl f (n + 1) = tl f n := by simp [tl, h]
theorem tl_keep {f : Nat → Nat} {n : Nat} (h : f n ≠ 0) : tl f (n + 1) = n + 1 := by simp [tl, h]
theorem tl_le (f : Nat → Nat) (n : Nat) : tl f n ≤ n := by
  induction n with
  | zero => exact Nat.le_refl _
  | succ n ih => unfold tl; split <;> omega
theorem tl_top {f : Nat → Nat} {n : Nat} (h : 0 < tl f n) : f (tl f n - 1) ≠ 0 := by
  induction n with
  | zero => simp [tl] at h
  | succ n ih =>
    unfold tl at h ⊢
    split
    · next e => rw [if_pos e] at h; exact ih h
    · next e => simpa using e
theorem vl_tl (f : Nat → Nat) (n : Nat) : vl f (tl f n) = vl f n := by
  induction n with
  | zero => rfl
  | succ n ih =>
    unfold tl
    split
    · next e => rw [ih, vl_succ, e]; simp
    · rfl
theorem tl_wl {f : Nat → Nat} {n : Nat} (hf : ∀ i, i < n → f i < 4294967296) : tl f n = wl (vl f n) := by
  rw [← vl_tl]
  have := tl_le f n
  exact (wl_vl (fun j hj => hf j (by omega)) tl_top).symm

set_option maxHeartbeats 400000 in
theorem cut_any (b c : Nat) (f : Nat → Nat) (w : World) (n : Nat) (hn : n ≤ c) (hc : c ≤ 9223372036854775807)
    (hcell : ∀ i, i < n → w.cell? ⟨b, i, none⟩ = some (.int .u32 ((f i : Nat) : Int))) :
    Calls Tryz.prog 104 #[.slice (some ⟨b, 0, none⟩) n c] w fun e w' => e = .returned (.slice (some ⟨b, 0, none⟩) (tl f n) c) ∧ w = w' := by
  go_enter Tryz.func104, Tryz.ntmps104
  go_wp2
  go_loop [0] (fun l => ∃ m : Nat, m ≤ n ∧ l = .slice (some ⟨b, 0, none⟩) m c ∧ Hid (tl f m = tl f n)) (fun l => lenOf l)
  case atStart => exact ⟨n, Nat.le_refl _, rfl, Lib.hid rfl⟩
  case round =>
    obtain ⟨m, hm, rfl, HT⟩ := hrel
    rcases m with _ | m
    · go_wp2
      go_ret
      exact ⟨by rw [← HT.out]; rfl, rfl⟩
    · have h1 := hcell m (by omega)
      clear hcell
      by_cases h0 : f m = 0
      · have h2 : (((f m : Nat) : Int) == 0) = true := by simp [h0]
        have H0 := Lib.hid h0
        clear h0
        go_wp2
        go_round
        case rel => exact ⟨m, by omega, rfl, Lib.hid (by rw [← HT.out, tl_zero H0.out])⟩
        case measure => simp [lenOf]
      · have h2 : (((f m : Nat) : Int) == 0) = false := by simpa using h0
        have H0 := Lib.hid h0
        clear h0
        go_wp2
        go_ret
        exact ⟨by rw [← HT.out, tl_keep H0.out]; rfl, rfl⟩

/-- nats.Of -/
theorem of_small (n : Int) (w : World) (h0 : 0 ≤ n) (h1 : n < 18446744073709551616) :
    Calls Tryz.prog 77 #[.int .u64 n] w fun e w' => e = .returned (Value.agg #[.int .u64 (lo n.toNat), .string (bg n.toNat)]) ∧ Below w.heap.size w w' := by
  obtain ⟨m, rfl⟩ := Int.eq_ofNat_of_zero_le h0
  have hm : m < 18446744073709551616 := by omega
  rw [Int.toNat_natCast, lo_small hm, bg_small hm]
  clear h0 h1
  go_enter Tryz.func77, Tryz.ntmps77
  go_wp2
  exact bodyPost_ret (v := .agg #[.int .u64 ((m : Nat) : Int), .string ⟨#[]⟩]) (by simp [results, Tryz.results77, go_sem]) rfl ⟨rfl, (Below.refl _ _).alloc (Nat.le_refl _) _⟩

/-- nats.sign -/
theorem sign_any (n : Int) (w : World) (h0 : -9223372036854775808 ≤ n) (h1 : n ≤ 9223372036854775807) :
    Calls Tryz.prog 116 #[.int .i64 n] w fun e w' => e = .returned (.int .i64 (max (-1) (min 1 n))) ∧ w = w' := by
  go_enter Tryz.func116, Tryz.ntmps116
  go_wp2
  all_goals go_ret
  all_goals exact ⟨congrArg (fun x : Int => Ending.returned (.int .i64 x)) (by omega), rfl⟩

/-- '==' on numbers -/
theorem eq_nat (d m n : Nat) (w : World) : (Op.equalIn (d + 2) 30 (Value.agg #[.int .u64 (lo (m)), .string (bg (m))]) (Value.agg #[.int .u64 (lo (n)), .string (bg (n))])).run Tryz.prog w = .ok (decide (m = n)) w := by
  rw [← fields_beq]
  simp [go_sem]
  by_cases h1 : ((lo m : Nat) : Int) = ((lo n : Nat) : Int) <;> by_cases h2 : (bg m).toList = (bg n).toList <;> simp [h1, h2]
theorem eq_nat_zero (d m : Nat) (w : World) : (Op.equalIn (d + 2) 30 (Value.agg #[.int .u64 (lo (m)), .string (bg (m))]) (Value.agg #[.int .u64 0, .string ⟨#[]⟩])).run Tryz.prog w = .ok (decide (m = 0)) w := eq_nat d m 0 w

attribute [local go_sem ↓] eq_nat eq_nat_zero
/-- Nat.zero -/
theorem zero_any (n : Nat) (w : World) :
    Calls Tryz.prog 99 #[(Value.agg #[.int .u64 (lo (n)), .string (bg (n))])] w fun e w' => e = .returned (.bool (decide (n = 0))) ∧ Below w.heap.size w w' := by
  go_enter Tryz.func99, Tryz.ntmps99
  go_wp2
  go_ret
  exact ⟨rfl, (Below.refl _ _).alloc (Nat.le_refl _) _⟩
end Go.Proofs.YtenpbnmmadbkdaaGreat


/- Rows of digits in memory, and appending to one's own. No condition. -/
namespace Go.Proofs.YtenpbnmmadbkdaaGreat
open Go.RowKit

theorem tv_tl (f : Nat → Nat) (n : Nat) : tv f (tl f n) = tv f n := by
  induction n with
  | zero => rfl
  | succ n ih =>
    unfold tl
    split
    · next e => rw [ih, tv_succ, e]; simp
    · rfl
theorem tl_tw {f : Nat → Nat} {n : Nat} (hf : ∀ i, i < n → f i < 10000) : tl f n = tw (tv f n) := by
  rw [← tv_tl]
  have := tl_le f n
  exact (tw_tv (fun j hj => hf j (by omega)) tl_top).symm
/-- digits as values -/
def dvs (f : Nat → Nat) (n : Nat) : List Value := (List.range n).map fun i => .int .i64 ((f i : Nat) : Int)
theorem dvs_length (f : Nat → Nat) (n : Nat) : (dvs f n).length = n := by simp [dvs]
theorem dvs_get (f : Nat → Nat) {n i : Nat} (h : i < n) : (dvs f n)[i]? = some (.int .i64 ((f i : Nat) : Int)) := by simp [dvs, h]
theorem dvs_congr {f g : Nat → Nat} {n : Nat} (h : ∀ i, i < n → f i = g i) : dvs f n = dvs g n := by
  apply List.map_congr_left
  intro i hi
  rw [h i (by simpa using hi)]
theorem dvs_snoc (f : Nat → Nat) (n d : Nat) : dvs f n ++ [.int .i64 ((d : Nat) : Int)] = dvs (fun i => if i = n then d else f i) (n + 1) := by
  unfold dvs
  rw [List.range_succ, List.map_append]
  congr 1
  · apply List.map_congr_left
    intro i hi
    have : i < n := by simpa using hi
    simp [Nat.ne_of_lt this]
  · simp
theorem dvs_take (f : Nat → Nat) {m n : Nat} (h : m ≤ n) : (dvs f n).take m = dvs f m := by
  unfold dvs
  rw [← List.map_take, List.take_range, Nat.min_eq_left h]
/-- v owns n digits f, in blocks from B on -/
def Dr (w : World) (B : Nat) (v : Value) (n : Nat) (f : Nat → Nat) : Prop := w.ownsRow B 3 1 v n (dvs f n)
/-- v is the number n -/
def Rn (w : World) (v : Value) (n : Nat) : Prop := Dr w 0 v (tw n) (tg n)

section
variable {w w' : World} {B n : Nat} {v : Value} {f g : Nat → Nat}
theorem Dr.cases (h : Dr w B v n f) : (v = .slice none 0 0 ∧ n = 0) ∨ ∃ b c, v = .slice (some ⟨b, 0, none⟩) n c ∧ B ≤ b ∧ b < w.heap.size ∧ n ≤ c ∧ c ≤ 9223372036854775807 ∧ (∀ i, i < n → w.cell? ⟨b, i, none⟩ = some (.int .i64 ((f i : Nat) : Int))) ∧ (∀ i, w.frozen? ⟨b, i, none⟩ = false) := by
  have h0 := h
  rcases h.2 with hn | ⟨b, c, cur, rfl, hb, hg, hc, hm, hs, ht⟩
  · exact .inl hn
  · refine .inr ⟨b, c, rfl, hb, (Array.getElem?_eq_some_iff.1 hg).1, hc, hm, fun i hi => ?_, fun i => h0.frozenAt i⟩
    rw [World.ownsRow.cellAt h0 i (by omega), dvs_get f hi]
theorem Dr.slice (h : Dr w B v n f) : ∃ ao c, v = .slice ao n c ∧ n ≤ c ∧ c ≤ 9223372036854775807 := by
  rcases h.cases with ⟨rfl, rfl⟩ | ⟨b, c, rfl, _, _, h1, h2, _⟩
  · exact ⟨none, 0, rfl, Nat.le_refl _, by decide⟩
  · exact ⟨_, _, rfl, h1, h2⟩
theorem Dr.congr (h : Dr w B v n f) (e : ∀ i, i < n → f i = g i) : Dr w B v n g := by unfold Dr at *; rw [← dvs_congr e]; exact h
theorem Dr.gr (h : Dr w B v n f) (hg : Gr w w') : Dr w' B v n f := by
  refine ⟨h.1, ?_⟩
  rcases h.2 with hn | ⟨b, c, cur, rfl, hb, hh, rest⟩
  · exact .inl hn
  · exact .inr ⟨b, c, cur, rfl, hb, hg.block hh, rest⟩
theorem Dr.mono {C : Nat} (h : Dr w B v n f) (hC : C ≤ B) : Dr w C v n f := by
  refine ⟨h.1, ?_⟩
  rcases h.2 with hn | ⟨b, c, cur, rfl, hb, rest⟩
  · exact .inl hn
  · exact .inr ⟨b, c, cur, rfl, Nat.le_trans hC hb, rest⟩
theorem Dr.below {C : Nat} (h : Dr w 0 v n f) (hb : Below C w w') (hlt : ∀ k, v.ownBlock = some k → k < C) : Dr w' 0 v n f := by
  refine ⟨h.1, ?_⟩
  rcases h.2 with hn | ⟨b, c, cur, rfl, hb0, hh, rest⟩
  · exact .inl hn
  · exact .inr ⟨b, c, cur, rfl, hb0, (hb.block b (hlt b rfl)).trans hh, rest⟩
theorem Dr.drew (h : Dr w B v n f) : Dr w.drew B v n f := h
theorem Dr.drewN (h : Dr w B v n f) (k : Nat) : Dr (w.drewN k) B v n f := h
theorem Dr.alloc (h : Dr w B v n f) (o : Obj) : Dr (w.alloc o) B v n f := h.gr (Gr.alloc w o)
theorem Dr.nil (w : World) (B : Nat) (f : Nat → Nat) : Dr w B (.slice none 0 0) 0 f := World.ownsRow_nil _ _ _ _
theorem Dr.take {m : Nat} {ao : Option Addr} {c : Nat} (h : Dr w B (.slice ao n c) n f) (hm : m ≤ n) : Dr w B (.slice ao m c) m f := by
  refine ⟨by simp [dvs_length], ?_⟩
  rcases h.2 with ⟨e, rfl⟩ | ⟨b, c', cur, e, hb, hh, h1, h2, h3, h4⟩
  · obtain rfl : m = 0 := by omega
    exact .inl ⟨e, rfl⟩
  · injection e with e1 e2 e3
    subst e1 e3
    refine .inr ⟨b, c, cur, rfl, hb, hh, Nat.le_trans hm h1, h2, h3, ?_⟩
    have e := congrArg (List.take (m * 1)) h4
    rw [List.take_take, Nat.min_eq_left (by omega)] at e
    rw [e, Nat.mul_one, dvs_take f hm]
theorem Dr.snoc {d : Nat} (h : w.ownsRow B 3 1 v (n + 1) (dvs f n ++ [.int .i64 ((d : Nat) : Int)])) : Dr w B v (n + 1) (fun i => if i = n then d else f i) := by
  unfold Dr
  rw [← dvs_snoc]
  exact h
theorem Dr.own (h : Dr w B v n f) : ∀ k, v.ownBlock = some k → B ≤ k ∧ k < w.heap.size := World.ownsRow.lt h
/-- a row without leading zeros is a number -/
theorem Rn.of (h : Dr w B v (tl f n) f) (hf : ∀ i, i < n → f i < 10000) : Rn w v (tv f n) := by
  have e := tl_tw hf
  have hle := tl_le f n
  unfold Rn
  rw [← e]
  refine (h.mono (Nat.zero_le _)).congr fun i hi => ?_
  rw [← tv_tl, tg_tv (fun j hj => hf j (by omega)) hi]
theorem Rn.gr {k : Nat} (h : Rn w v k) (hg : Gr w w') : Rn w' v k := Dr.gr h hg
end
theorem new_cell (W : World) (x : Value) (T : TypeId) : ∀ j u, [x][j]? = some u → (W.alloc (.cells #[x] T)).cell? ((⟨W.heap.size, 0, none⟩ : Addr).add j) = some u := by
  intro j u hj
  match j, hj with
  | 0, hj => simp at hj; subst hj; simp [Addr.add, go_sem]
theorem new_one (k : IntKind) (n : Int) : ∀ u ∈ [Value.int k n], u.oneCell' = true := by intro u hu; simp at hu; subst hu; rfl
theorem info_int : (Tryz.prog.info? 3).map (fun i => (i.zero, i.size, i.bytes)) = some (some (.int .i64 0), 1, 8) := by kernel_rfl
end Go.Proofs.YtenpbnmmadbkdaaGreat


/- gussetref01: trim, at, Of. No condition but a bound on lengths. -/
namespace Go.Proofs.YtenpbnmmadbkdaaGreat
open Go.RowKit
set_option linter.unusedSimpArgs false
set_option linter.unusedVariables false

/-- one digit appended -/
theorem push_step {w0 wr w1 : World} {v v' : Value} {k d : Nat} {f : Nat → Nat} {o : Obj} (hb : Below w0.heap.size w0 wr) (ho : Dr wr w0.heap.size v k f)
    (hown : w1.ownsRow w0.heap.size 3 1 v' (k + 1) (dvs f k ++ [.int .i64 ((d : Nat) : Int)])) (hg : (wr.alloc o).grownBy w1 v.ownBlock) :
    Below w0.heap.size w0 w1 ∧ Dr w1 w0.heap.size v' (k + 1) (fun i => if i = k then d else f i) :=
  ⟨(hb.alloc hb.size o).grown hg (Nat.le_trans hb.size (by simp)) (fun j hj => (ho.own j hj).1), Dr.snoc hown⟩

theorem trim_any (v : Value) (B n : Nat) (f : Nat → Nat) (w : World) (h : Dr w B v n f) :
    Calls Tryz.prog 95 #[v] w fun e w' => (∃ v', e = .returned v' ∧ Dr w B v' (tl f n) f) ∧ w = w' := by
  rcases h.cases with ⟨rfl, rfl⟩ | ⟨b, c, rfl, _, _, hnc, hc, hcell, _⟩
  · have HD := Lib.hid h
    clear h
    go_enter Tryz.func95, Tryz.ntmps95
    go_wp2
    go_loop [0] (fun l => l = .slice none 0 0) (fun l => lenOf l)
    case atStart => rfl
    case round =>
      obtain rfl := hrel
      go_wp2
      go_ret
      exact ⟨⟨_, rfl, HD.out⟩, rfl⟩
  · have HD := Lib.hid h
    clear h
    go_enter Tryz.func95, Tryz.ntmps95
    go_wp2
    go_loop [0] (fun l => ∃ m : Nat, m ≤ n ∧ l = .slice (some ⟨b, 0, none⟩) m c ∧ Hid (tl f m = tl f n)) (fun l => lenOf l)
    case atStart => exact ⟨n, Nat.le_refl _, rfl, Lib.hid rfl⟩
    case round =>
      obtain ⟨m, hm, rfl, HT⟩ := hrel
      rcases m with _ | m
      · go_wp2
        go_ret
        exact ⟨⟨_, rfl, by rw [← HT.out]; exact HD.out.take (Nat.zero_le _)⟩, rfl⟩
      · have h1 := hcell m (by omega)
        clear hcell
        by_cases h0 : f m = 0
        · have h2 : (((f m : Nat) : Int) == 0) = true := by simp [h0]
          have H0 := Lib.hid h0
          clear h0
          go_wp2
          go_round
          case rel => exact ⟨m, by omega, rfl, Lib.hid (by rw [← HT.out, tl_zero H0.out])⟩
          case measure => simp [lenOf]
        · have h2 : (((f m : Nat) : Int) == 0) = false := by simpa using h0
          have H0 := Lib.hid h0
          clear h0
          go_wp2
          go_ret
          exact ⟨⟨_, rfl, by rw [← HT.out, tl_keep H0.out]; exact HD.out.take hm⟩, rfl⟩

theorem at_any (v : Value) (B n : Nat) (f : Nat → Nat) (w : World) (i : Nat) (hi : i ≤ 4611686018427387904) (h : Dr w B v n f) :
    Calls Tryz.prog 94 #[v, .int .i64 ((i : Nat) : Int)] w fun e w' => e = .returned (.int .i64 ((if i < n then f i else 0 : Nat) : Int)) ∧ w = w' := by
  rcases h.cases with ⟨rfl, rfl⟩ | ⟨b, c, rfl, _, _, hnc, hc, hcell, _⟩
  · clear h
    rw [if_neg (Nat.not_lt_zero i)]
    go_enter Tryz.func94, Tryz.ntmps94
    go_wp2
    go_ret
    exact ⟨rfl, rfl⟩
  · clear h
    by_cases hlt : i < n
    · have h1 := hcell i hlt
      clear hcell
      rw [if_pos hlt]
      go_enter Tryz.func94, Tryz.ntmps94
      go_wp2
      go_ret
      exact ⟨rfl, rfl⟩
    · clear hcell
      rw [if_neg hlt]
      go_enter Tryz.func94, Tryz.ntmps94
      go_wp2
      go_ret
      exact ⟨rfl, rfl⟩

theorem tg_step (N k : Nat) : N / tp k % 10000 = tg N k := rfl
theorem div_step (N k : Nat) : N / tp k / 10000 = N / tp (k + 1) := by rw [Nat.div_div_eq_div_mul, tp_succ, Nat.mul_comm]
set_option maxHeartbeats 400000 in
set_option maxRecDepth 20000 in
theorem rof_any (N : Nat) (w : World) (hN : N < 18446744073709551616) :
    Calls Tryz.prog 108 #[.int .u64 ((N : Nat) : Int)] w fun e w' => (∃ v', e = .returned v' ∧ Rn w' v' N) ∧ Below w.heap.size w w' := by
  obtain ⟨i0, hi, hz0, hz1, hz2⟩ := info_parts info_int
  have hwN : tw N ≤ 5 := tw_le.2 (Nat.lt_of_lt_of_le hN (by decide))
  go_enter Tryz.func108, Tryz.ntmps108
  go_wp2
  go_loopw [0, 3] (fun m v wr => ∃ k : Nat, k ≤ tw N ∧ m = .int .u64 ((N / tp k : Nat) : Int) ∧ Hid (Dr wr w.heap.size v k (tg N)) ∧ Hid (Below w.heap.size w wr)) (fun m _ _ => (intOf m).toNat)
  case atStart => exact ⟨0, Nat.zero_le _, by rw [tp_zero, Nat.div_one], Lib.hid (Dr.nil _ _ _), Lib.hid (Below.refl _ _)⟩
  case round =>
    obtain ⟨k, hk, rfl, HD, HB⟩ := hrel
    obtain ⟨m, hm⟩ : ∃ m, N / tp k = m := ⟨_, rfl⟩
    have hmN : m ≤ N := by rw [← hm]; exact Nat.div_le_self _ _
    have HM := Lib.hid hm
    rw [hm]
    clear hm
    by_cases h0 : m = 0
    · have e : tw N = k := by
        have h1 : tw N ≤ k := tw_le.2 (by have := HM.out; rw [h0] at this; exact (Nat.div_eq_zero_iff.1 this).resolve_left (Nat.ne_of_gt (tp_pos k)))
        omega
      have HE := Lib.hid e
      subst h0
      clear e
      go_wp2
      go_ret
      refine ⟨⟨_, rfl, ?_⟩, HB.out⟩
      unfold Rn
      rw [HE.out]
      exact HD.out.mono (Nat.zero_le _)
    · have hk1 : k + 1 ≤ tw N := lt_tw.2 (by
        have h2 := HM.out
        rcases Nat.lt_or_ge N (tp k) with h3 | h3
        · rw [Nat.div_eq_of_lt h3] at h2; exact absurd h2.symm h0
        · exact h3)
      have hsz := HB.out.size
      go_wp2_with (first
        | (at_builtin; refine wpList_append_own _ rfl (.tmp 6) (.tmp 10) 41 rfl w.heap.size 3 i0 (.int .i64 0) 1 8 Tryz.underlying41 hi hz0 hz1 hz2 rfl (by decide) _ _ _ rfl (HD.out.alloc _) ⟨wr.heap.size, 0, none⟩ 1 1 [.int .i64 ((m % 10000 : Nat) : Int)] (by simp [Act.eval, Act.put]) rfl ?c1 ?c2 ?c3 ?c4 ?c5 ?_)
        | fail)
      case c1 =>
        intro j u hj
        match j, hj with
        | 0, hj => simp at hj; subst hj; simp [Addr.add]
      case c2 => intro u hu; simp at hu; subst hu; rfl
      case c3 => unfold maxLen; omega
      case c4 => omega
      case c5 => simp; omega
      · intro v' w1 hown' hgrow _
        have R := push_step HB.out HD.out hown' hgrow
        have H1 := Lib.hid R.1
        have H2 := Lib.hid R.2
        clear R hown' hgrow
        go_wp2
        go_roundw
        case rel =>
          refine ⟨k + 1, hk1, by rw [← div_step, HM.out]; go_num, Lib.hid (H2.out.congr fun i hi => ?_), H1⟩
          split
          · next e => rw [e, ← tg_step, HM.out]; rfl
          · rfl
        case measure => simp [intOf]; omega
end Go.Proofs.YtenpbnmmadbkdaaGreat


/- gussetref01.Add. No condition but a bound on lengths. -/
namespace Go.Proofs.YtenpbnmmadbkdaaGreat
open Go.RowKit
set_option linter.unusedSimpArgs false
set_option linter.unusedVariables false

theorem rat_any (v : Value) (x : Nat) (w : World) (i : Nat) (hi : i ≤ 4611686018427387904) (h : Rn w v x) :
    Calls Tryz.prog 94 #[v, .int .i64 ((i : Nat) : Int)] w fun e w' => e = .returned (.int .i64 ((tg x i : Nat) : Int)) ∧ w = w' := by
  refine (at_any v 0 (tw x) (tg x) w i hi h).mono ?_
  rintro e w' ⟨rfl, rfl⟩
  refine ⟨?_, rfl⟩
  by_cases hlt : i < tw x
  · rw [if_pos hlt]
  · rw [if_neg hlt, tg_high (lt_tp_tw x) (by omega)]
/-- the carry of an addition -/
def rac (F G : Nat → Nat) : Nat → Nat
  | 0 => 0
  | k + 1 => (F k + G k + rac F G k) / 10000
/-- its digits -/
def rad (F G : Nat → Nat) (k : Nat) : Nat := (F k + G k + rac F G k) % 10000
theorem rac_succ (F G : Nat → Nat) (k : Nat) : rac F G (k + 1) = (F k + G k + rac F G k) / 10000 := rfl
theorem rac_le {F G : Nat → Nat} (hF : ∀ i, F i < 10000) (hG : ∀ i, G i < 10000) (k : Nat) : rac F G k ≤ 1 := by
  induction k with
  | zero => exact Nat.zero_le _
  | succ k ih => have := hF k; have := hG k; rw [rac_succ]; omega
theorem rad_inv (F G : Nat → Nat) (k : Nat) : tv (rad F G) k + rac F G k * tp k = tv F k + tv G k := by
  induction k with
  | zero => simp [tv, rac]
  | succ k ih =>
    rw [tv_succ, tv_succ, tv_succ, rac_succ, tp_succ]
    have e : rad F G k + 10000 * ((F k + G k + rac F G k) / 10000) = F k + G k + rac F G k := Nat.mod_add_div _ _
    generalize (F k + G k + rac F G k) / 10000 = q at *
    have e2 : (rad F G k + 10000 * q) * tp k = (F k + G k + rac F G k) * tp k := by rw [e]
    have e3 : q * (10000 * tp k) = 10000 * q * tp k := by rw [← Nat.mul_assoc, Nat.mul_comm q]
    rw [e3]
    simp only [Nat.add_mul] at e2
    omega
theorem rad_lt (F G : Nat → Nat) (k : Nat) : rad F G k < 10000 := Nat.mod_lt _ (by decide)
set_option maxRecDepth 20000 in
set_option maxHeartbeats 1000000 in
theorem radd_any (v u : Value) (x y : Nat) (w : World) (hx : Rn w v x) (hy : Rn w u y) (bx : tw x ≤ 1000000000) (by' : tw y ≤ 1000000000) :
    Calls Tryz.prog 96 #[v, u] w fun e w' => (∃ v', e = .returned v' ∧ Rn w' v' (x + y)) ∧ Below w.heap.size w w' := by
  obtain ⟨i0, hi, hz0, hz1, hz2⟩ := info_parts info_int
  obtain ⟨ao, ca, rfl, hca, hca2⟩ := hx.slice
  obtain ⟨bo, cb, rfl, hcb, hcb2⟩ := hy.slice
  obtain ⟨n, hn⟩ : ∃ n, tw x = n := ⟨_, rfl⟩
  obtain ⟨m, hm⟩ : ∃ m, tw y = m := ⟨_, rfl⟩
  rw [hn] at hx hca bx ⊢
  rw [hm] at hy hcb by' ⊢
  have HN := Lib.hid hn
  have HM := Lib.hid hm
  have HX := Lib.hid hx
  have HY := Lib.hid hy
  clear hx hy hn hm
  go_enter Tryz.func96, Tryz.ntmps96
  go_wp2
  go_loopw [5, 6, 7] (fun v c i wr => ∃ k c' : Nat, k ≤ n + m + 1 ∧ i = .int .i64 ((k : Nat) : Int) ∧ c = .int .i64 ((c' : Nat) : Int) ∧ Hid (rac (tg x) (tg y) k = c') ∧ Hid (Dr wr w.heap.size v k (rad (tg x) (tg y))) ∧ Hid (Below w.heap.size w wr)) (fun _ _ i _ => n + m + 2 - (intOf i).toNat)
  case atStart => exact ⟨0, 0, Nat.zero_le _, rfl, rfl, Lib.hid rfl, Lib.hid (Dr.nil _ _ _), Lib.hid (Below.refl _ _)⟩
  case round =>
    obtain ⟨k, c, hk, rfl, rfl, HC, HD, HB⟩ := hrel
    have hc1 : c ≤ 1 := by rw [← HC.out]; exact rac_le (tg_lt x) (tg_lt y) k
    have hend : n ≤ k → m ≤ k → 0 < c → k < n + m + 1 := by
      intro h1 h2 h3
      rcases Nat.lt_or_ge k (n + m + 1) with h | h
      · exact h
      · exfalso
        have e := rad_inv (tg x) (tg y) k
        rw [HC.out, tv_tg, tv_tg] at e
        have e1 : 1 * tp k ≤ c * tp k := Nat.mul_le_mul_right _ h3
        have hxk : x < tp (k - 1) := Nat.lt_of_lt_of_le (lt_tp_tw x) (tp_le (by rw [HN.out]; omega))
        have hyk : y < tp (k - 1) := Nat.lt_of_lt_of_le (lt_tp_tw y) (tp_le (by rw [HM.out]; omega))
        have h4 : x % tp k ≤ x := Nat.mod_le _ _
        have h5 : y % tp k ≤ y := Nat.mod_le _ _
        have h6 : tp k = 10000 * tp (k - 1) := by rw [← tp_succ]; congr 1; omega
        omega
    by_cases h1 : k < n
    · replace hend : k < n + m + 1 := by omega
      have hsz := HB.out.size
      have hD := tg_lt x k
      have hE := tg_lt y k
      go_wp2_with fail
      refine (rat_any _ x wr k (by omega) (HX.out.gr HB.out)).mono ?_
      rintro e w1 ⟨rfl, rfl⟩
      go_wp2_with fail
      refine (rat_any _ y wr k (by omega) (HY.out.gr HB.out)).mono ?_
      rintro e w1 ⟨rfl, rfl⟩
      obtain ⟨s, HS⟩ : ∃ s, Hid (tg x k + tg y k + c = s) := ⟨_, Lib.hid rfl⟩
      have hs : ((tg x k : Nat) : Int) + ((tg y k : Nat) : Int) + ((c : Nat) : Int) = ((s : Nat) : Int) := by have := HS.out; omega
      have hs2 : s ≤ 20000 := by have := HS.out; omega
      go_wp2_with (first | (at_builtin; refine wpList_append_own _ rfl (.tmp 34) (.tmp 37) 41 rfl w.heap.size 3 i0 (.int .i64 0) 1 8 Tryz.underlying41 hi hz0 hz1 hz2 rfl (by decide) _ _ _ (by simp [Act.eval, Act.put]) (HD.out.alloc _) ⟨wr.heap.size, 0, none⟩ 1 1 [.int .i64 ((s % 10000 : Nat) : Int)] (by simp [Act.eval, Act.put]) rfl (new_cell _ _ _) (new_one _ _) (by unfold maxLen; omega) (by omega) (by simp; omega) ?_) | fail)
      · intro v' w1 hown' hgrow _
        have R := push_step HB.out HD.out hown' hgrow
        have H1 := Lib.hid R.1
        have H2 := Lib.hid R.2
        clear R hown' hgrow
        go_wp2
        go_roundw
        case rel =>
          refine ⟨k + 1, s / 10000, by omega, by go_num, by go_num, Lib.hid (by rw [rac_succ, HC.out, HS.out]), Lib.hid (H2.out.congr fun i hi => ?_), H1⟩
          split
          · next e => rw [e, rad, HC.out, HS.out]; rfl
          · rfl
        case measure => simp [intOf]; omega
    by_cases h2 : k < m
    · replace hend : k < n + m + 1 := by omega
      have hsz := HB.out.size
      have hD := tg_lt x k
      have hE := tg_lt y k
      go_wp2_with fail
      refine (rat_any _ x wr k (by omega) (HX.out.gr HB.out)).mono ?_
      rintro e w1 ⟨rfl, rfl⟩
      go_wp2_with fail
      refine (rat_any _ y wr k (by omega) (HY.out.gr HB.out)).mono ?_
      rintro e w1 ⟨rfl, rfl⟩
      obtain ⟨s, HS⟩ : ∃ s, Hid (tg x k + tg y k + c = s) := ⟨_, Lib.hid rfl⟩
      have hs : ((tg x k : Nat) : Int) + ((tg y k : Nat) : Int) + ((c : Nat) : Int) = ((s : Nat) : Int) := by have := HS.out; omega
      have hs2 : s ≤ 20000 := by have := HS.out; omega
      go_wp2_with (first | (at_builtin; refine wpList_append_own _ rfl (.tmp 34) (.tmp 37) 41 rfl w.heap.size 3 i0 (.int .i64 0) 1 8 Tryz.underlying41 hi hz0 hz1 hz2 rfl (by decide) _ _ _ (by simp [Act.eval, Act.put]) (HD.out.alloc _) ⟨wr.heap.size, 0, none⟩ 1 1 [.int .i64 ((s % 10000 : Nat) : Int)] (by simp [Act.eval, Act.put]) rfl (new_cell _ _ _) (new_one _ _) (by unfold maxLen; omega) (by omega) (by simp; omega) ?_) | fail)
      · intro v' w1 hown' hgrow _
        have R := push_step HB.out HD.out hown' hgrow
        have H1 := Lib.hid R.1
        have H2 := Lib.hid R.2
        clear R hown' hgrow
        go_wp2
        go_roundw
        case rel =>
          refine ⟨k + 1, s / 10000, by omega, by go_num, by go_num, Lib.hid (by rw [rac_succ, HC.out, HS.out]), Lib.hid (H2.out.congr fun i hi => ?_), H1⟩
          split
          · next e => rw [e, rad, HC.out, HS.out]; rfl
          · rfl
        case measure => simp [intOf]; omega
    by_cases h3 : 0 < c
    · replace hend : k < n + m + 1 := hend (by omega) (by omega) h3
      have hsz := HB.out.size
      have hD := tg_lt x k
      have hE := tg_lt y k
      go_wp2_with fail
      refine (rat_any _ x wr k (by omega) (HX.out.gr HB.out)).mono ?_
      rintro e w1 ⟨rfl, rfl⟩
      go_wp2_with fail
      refine (rat_any _ y wr k (by omega) (HY.out.gr HB.out)).mono ?_
      rintro e w1 ⟨rfl, rfl⟩
      obtain ⟨s, HS⟩ : ∃ s, Hid (tg x k + tg y k + c = s) := ⟨_, Lib.hid rfl⟩
      have hs : ((tg x k : Nat) : Int) + ((tg y k : Nat) : Int) + ((c : Nat) : Int) = ((s : Nat) : Int) := by have := HS.out; omega
      have hs2 : s ≤ 20000 := by have := HS.out; omega
      go_wp2_with (first | (at_builtin; refine wpList_append_own _ rfl (.tmp 34) (.tmp 37) 41 rfl w.heap.size 3 i0 (.int .i64 0) 1 8 Tryz.underlying41 hi hz0 hz1 hz2 rfl (by decide) _ _ _ (by simp [Act.eval, Act.put]) (HD.out.alloc _) ⟨wr.heap.size, 0, none⟩ 1 1 [.int .i64 ((s % 10000 : Nat) : Int)] (by simp [Act.eval, Act.put]) rfl (new_cell _ _ _) (new_one _ _) (by unfold maxLen; omega) (by omega) (by simp; omega) ?_) | fail)
      · intro v' w1 hown' hgrow _
        have R := push_step HB.out HD.out hown' hgrow
        have H1 := Lib.hid R.1
        have H2 := Lib.hid R.2
        clear R hown' hgrow
        go_wp2
        go_roundw
        case rel =>
          refine ⟨k + 1, s / 10000, by omega, by go_num, by go_num, Lib.hid (by rw [rac_succ, HC.out, HS.out]), Lib.hid (H2.out.congr fun i hi => ?_), H1⟩
          split
          · next e => rw [e, rad, HC.out, HS.out]; rfl
          · rfl
        case measure => simp [intOf]; omega
    clear hend
    have hsz := HB.out.size
    go_wp2_with fail
    refine (trim_any _ _ _ _ _ HD.out).mono ?_
    rintro e w1 ⟨⟨v', rfl, hv⟩, rfl⟩
    have HV := Lib.hid hv
    clear hv
    go_wp2
    go_ret
    refine ⟨⟨_, rfl, ?_⟩, HB.out⟩
    have R := Rn.of HV.out (fun i _ => rad_lt _ _ i)
    have e := rad_inv (tg x) (tg y) k
    rw [HC.out, tv_tg, tv_tg] at e
    have hxk : x < tp k := Nat.lt_of_lt_of_le (lt_tp_tw x) (tp_le (by rw [HN.out]; omega))
    have hyk : y < tp k := Nat.lt_of_lt_of_le (lt_tp_tw y) (tp_le (by rw [HM.out]; omega))
    rw [Nat.mod_eq_of_lt hxk, Nat.mod_eq_of_lt hyk] at e
    have e0 : c * tp k = 0 := by rw [show c = 0 by omega, Nat.zero_mul]
    rw [show x + y = tv (rad (tg x) (tg y)) k by omega]
    exact R
end Go.Proofs.YtenpbnmmadbkdaaGreat


/- Nat.words, nats.of: between a number's fields and its words. -/
namespace Go.Proofs.YtenpbnmmadbkdaaGreat
open Go.RowKit

/-- the words of n in a new row -/
def WordsPost (n : Nat) (w : World) (e : Ending) (w' : World) : Prop :=
  ∃ b c : Nat, e = .returned (.slice (some ⟨b, 0, none⟩) (wl n) c) ∧ w.heap.size ≤ b ∧ wl n ≤ c ∧ c ≤ max 2 (wl n) ∧ Ws w' b c (dg n) ∧ Below w.heap.size w w'

theorem ws_two (W : World) (n : Nat) (h : n < 18446744073709551616) : Ws (W.alloc (.cells #[.int .u32 ((n : Int) % 4294967296), .int .u32 ((n : Int) / 4294967296)] 22)) W.heap.size 2 (dg n) := by
  refine World.rowIs_alloc W _ _ _ fun i hi => ?_
  match i, hi with
  | 0, _ => simp [dg, bp_zero]
  | 1, _ =>
    have : n / 4294967296 < 4294967296 := by omega
    simp [dg, bp_one, Nat.mod_eq_of_lt this]

theorem words_small (n : Nat) (w : World) (h : n < 18446744073709551616) :
    Calls Tryz.prog 81 #[(Value.agg #[.int .u64 (lo (n)), .string (bg (n))])] w (WordsPost n w) := by
  have hvl : Hid (vl (dg n) 2 = n) := vl_dg_of_lt (by rw [bp_two]; exact h)
  have hw2 := small_wl h
  rw [lo_small h, bg_small h]
  go_enter Tryz.func81, Tryz.ntmps81
  go_wp2_with fail
  have hw := ws_two (w.alloc (.cells #[.int .u64 ↑n, .string ⟨#[]⟩] 30)) n h
  refine (cut_any _ _ (dg n) _ 2 (by omega) (by omega) (fun i hi => ?_)).mono ?_
  · have := hw.cell hi
    simpa using this
  · rintro e w1 ⟨rfl, rfl⟩
    rw [tl_wl (fun i _ => dg_lt n i), hvl.out]
    clear hw
    go_wp2
    go_ret
    refine ⟨_, 2, rfl, Nat.le_succ _, hw2, by omega, ?_, ?_⟩
    · have := ws_two (w.alloc (.cells #[.int .u64 ↑n, .string ⟨#[]⟩] 30)) n h
      simpa using this
    · exact ((Below.refl _ _).alloc (Nat.le_refl _) _).alloc (by simp) _

theorem or_step (x y t : Nat) (hx : x < 256 ^ t) (hy : y < 256) (ht : t < 4) :
    bits .or .u32 (x : Int) ((y : Int) % 4294967296 * 2 ^ (8 * t) % 4294967296) = ((x + y * 256 ^ t : Nat) : Int) := by
  have e : (256 : Nat) ^ t = 2 ^ (8 * t) := by rw [Nat.pow_mul]
  have hp : (256 : Nat) ^ t ≤ 16777216 := by
    have : (256 : Nat) ^ t ≤ 256 ^ 3 := Nat.pow_le_pow_right (by decide) (by omega)
    simpa using this
  have hy2 : y * 256 ^ t ≤ 255 * 16777216 := Nat.mul_le_mul (by omega) hp
  have h1 : (y : Int) % 4294967296 * 2 ^ (8 * t) % 4294967296 = ((y * 256 ^ t : Nat) : Int) := by
    have h2 : (y : Int) % 4294967296 = (y : Int) := by omega
    rw [h2, e]
    have h3 : ((2 : Int) ^ (8 * t)) = ((2 ^ (8 * t) : Nat) : Int) := by simp
    rw [h3, ← Int.natCast_mul, ← e]
    omega
  rw [h1, u32_or_nat x (y * 256 ^ t) (by omega) (by omega)]
  congr 1
  rw [e] at hx ⊢
  have := Nat.two_pow_add_eq_or_of_lt hx y
  rw [Nat.or_comm, Nat.mul_comm y, ← this, Nat.add_comm]

theorem next_byte (d t : Nat) : d % 256 ^ t + d / 256 ^ t % 256 * 256 ^ t = d % 256 ^ (t + 1) := by
  rw [Nat.pow_succ, Nat.mod_mul, Nat.mul_comm (256 ^ t)]


set_option maxRecDepth 100000 in
theorem words_big (n : Nat) (w : World) (h : ¬ n < 18446744073709551616) (hl : wl n ≤ 1099511627776) :
    Calls Tryz.prog 81 #[(Value.agg #[.int .u64 (lo (n)), .string (bg (n))])] w (WordsPost n w) := by
  have hs : Hid ((bg n).size = 4 * wl n) := size_bg_big h
  have hne : (bg n).toList.isEmpty = false := by simpa using toList_bg_ne h
  rw [lo_big h, show ((0 : Nat) : Int) = 0 from rfl]
  obtain ⟨s, HS⟩ : ∃ s, Hid (bg n = s) := ⟨_, Lib.hid rfl⟩
  obtain ⟨k, HK⟩ : ∃ k, Hid (wl n = k) := ⟨_, Lib.hid rfl⟩
  rw [HS.out, HK.out] at hs
  rw [HS.out] at hne
  rw [HS.out]
  rw [HK.out] at hl
  have hsz : s.size ≤ 4398046511104 := by have := hs.out; omega
  have hq : (s.size : Int) / 4 = (k : Int) := by have := hs.out; omega
  have hmk := fun W => run_make_row' (P := Tryz.prog) 122 22 (.int .u32 0) 4 Tryz.underlying122 info_u32 rfl .i64 .i64 k (by omega) (by omega) W
  go_enter Tryz.func81, Tryz.ntmps81
  go_wp2_with fail
  go_loopw [25] (fun i wr => ∃ j : Nat, j ≤ k ∧ i = .int .i64 j ∧ Ws wr (w.heap.size + 1) k (fun m => if m < j then dg n m else 0) ∧ wr.cell? ⟨w.heap.size, 1, none⟩ = some (.string s) ∧ Below w.heap.size w wr) (fun i _ => k - (intOf i).toNat)
  case atStart =>
    refine ⟨0, Nat.zero_le _, rfl, ?_, ?_, ?_⟩
    · have := Ws.made (w.alloc (.cells #[.int .u64 0, .string s] 30)) k
      simpa using this
    · simp [go_sem]
    · exact ((Below.refl _ _).alloc (Nat.le_refl _) _).alloc (by simp) _
  case round =>
    obtain ⟨j, hj, rfl, hws, hc, hb⟩ := hrel
    by_cases hjk : j < k
    · have H1 := Lib.hid hws
      have H2 := Lib.hid hb
      clear hws hb
      have hd4 : decide ((0 : Int) < 4) = true := rfl
      go_wp2_with fail
      obtain ⟨wo, rfl⟩ : ∃ wo : World, wo = wr := ⟨_, rfl⟩
      have HC := Lib.hid hc
      clear hc
      go_loopw [28] (fun i wr => ∃ t : Nat, t ≤ 4 ∧ i = .int .i64 t ∧ Ws wr (w.heap.size + 1) k (fun m => if m = j then dg n j % 256 ^ t else if m < j then dg n m else 0) ∧ wr.cell? ⟨w.heap.size, 1, none⟩ = some (.string s) ∧ Below w.heap.size w wr) (fun i _ => 4 - (intOf i).toNat)
      case atStart =>
        refine ⟨0, Nat.zero_le _, rfl, ?_, HC.out, H2.out⟩
        refine H1.out.congr fun m hm => ?_
        by_cases e : m = j
        · simp [e, Nat.mod_one]
        · simp [e]
      case round =>
        obtain ⟨t, ht, rfl, hws, hc, hb⟩ := hrel
        by_cases ht4 : t < 4
        · have hlt : 4 * j + t < s.size := by have := hs.out; omega
          have hi0 : (0 : Int) ≤ 4 * (j : Int) + (t : Int) := by omega
          have hi1 : 4 * (j : Int) + (t : Int) < (s.size : Int) := by omega
          have hi2 : (4 * (j : Int) + (t : Int)).toNat = 4 * j + t := by omega
          have hcell := hws.cell hjk
          have hfr := hws.frozen j
          simp only [if_true] at hcell
          obtain ⟨x, HX⟩ : ∃ x, Hid (dg n j % 256 ^ t = x) := ⟨_, Lib.hid rfl⟩
          rw [HX.out] at hcell
          have hx1 : Hid (x < 256 ^ t) := by rw [← HX.out]; exact Nat.mod_lt _ (Nat.pow_pos (by decide))
          obtain ⟨y, hy⟩ : ∃ y, (s[4 * j + t]'hlt).toNat = y := ⟨_, rfl⟩
          have HY : Hid (y = dg n j / 256 ^ t % 256) := by
            rw [← hy]
            have := bg_at (j := t) h (show j < wl n by rw [HK.out]; exact hjk) ht4 (by rw [HS.out]; exact hlt)
            rw [← this]
            congr 2
            exact HS.out.symm
          have hor : Hid (bits .or .u32 (x : Int) ((y : Int) % 4294967296 * 2 ^ (8 * t) % 4294967296) = ((x + y * 256 ^ t : Nat) : Int)) :=
            or_step x y t hx1.out (by rw [HY.out]; exact Nat.mod_lt _ (by decide)) ht4
          have hxy := Lib.hid (show x + y * 256 ^ t = dg n j % 256 ^ (t + 1) from by rw [HY.out, ← HX.out, next_byte])
          obtain ⟨z, HZ⟩ : ∃ z, Hid (x + y * 256 ^ t = z) := ⟨_, Lib.hid rfl⟩
          rw [HZ.out] at hor hxy
          have hor := hor.out
          have hx : x < 4294967296 := by rw [← HX.out]; exact Nat.lt_of_le_of_lt (Nat.mod_le _ _) (dg_lt _ _)
          have H3 := Lib.hid hws
          have H4 := Lib.hid hb
          clear hws hb
          go_wp2_with fail
          go_region
          go_wp2
          go_roundw
          case rel =>
            refine ⟨t + 1, by omega, by go_num, ?_, ?_, ?_⟩
            · refine ((H3.out.set j z).drew).congr fun m hm => ?_
              by_cases e : m = j
              · simp [e, hxy.out]
              · simp [e]
            · simp [go_sem, hc]
            · exact (H4.out.setCell (by simp) _).drew
          case measure => simp [intOf]; omega
        · obtain rfl : t = 4 := by omega
          have H3 := Lib.hid hws
          have H4 := Lib.hid hb
          clear hws hb
          go_wp2
          go_roundw
          case rel =>
            refine ⟨j + 1, by omega, by go_num, ?_, hc, H4.out⟩
            refine H3.out.congr fun m hm => ?_
            by_cases e : m = j
            · have := dg_lt n j
              simp [e, Nat.mod_eq_of_lt this]
            · have e2 : (m < j) ↔ (m < j + 1) := by omega
              simp [e, e2]
          case measure => simp [intOf]; omega
    · obtain rfl : j = k := by omega
      have H1 := Lib.hid hws
      have H2 := Lib.hid hb
      clear hws hb
      go_wp2
      go_ret
      refine ⟨_, j, by rw [HK.out]; rfl, Nat.le_succ _, by rw [HK.out]; exact Nat.le_refl _, by rw [HK.out]; omega, H1.out.congr fun i hi => by rw [if_pos hi], H2.out⟩
end Go.Proofs.YtenpbnmmadbkdaaGreat


/- nats.of: the number of a row of words. -/
namespace Go.Proofs.YtenpbnmmadbkdaaGreat
open Go.RowKit

theorem or64 (x y j : Nat) (hx : x < bp j) (hy : y < 4294967296) (hj : j < 2) :
    bits .or .u64 (x : Int) (IntKind.u64.wrap (IntKind.u64.wrap (y : Int) * 2 ^ (32 * j))) = ((x + y * bp j : Nat) : Int) := by
  rw [IntKind.wrap_u64, IntKind.wrap_u64]
  have e : bp j = 2 ^ (32 * j) := bp_eq j
  have hp : bp j ≤ 4294967296 := by
    have := bp_le (show j ≤ 1 by omega)
    rwa [bp_one] at this
  have hy2 : y * bp j ≤ 4294967295 * 4294967296 := Nat.mul_le_mul (by omega) hp
  have h1 : (y : Int) % 18446744073709551616 * 2 ^ (32 * j) % 18446744073709551616 = ((y * bp j : Nat) : Int) := by
    have h2 : (y : Int) % 18446744073709551616 = (y : Int) := by omega
    rw [h2, e]
    have h3 : ((2 : Int) ^ (32 * j)) = ((2 ^ (32 * j) : Nat) : Int) := by simp
    rw [h3, ← Int.natCast_mul, ← e]
    omega
  rw [h1, u64_or_nat x (y * bp j) (by omega) (by omega)]
  congr 1
  rw [e] at hx ⊢
  have := Nat.two_pow_add_eq_or_of_lt hx y
  rw [Nat.or_comm, Nat.mul_comm y, ← this, Nat.add_comm]

set_option maxRecDepth 100000 in
theorem of_two (b n c : Nat) (f : Nat → Nat) (w : World) (hn : n ≤ c) (hc : c ≤ 9223372036854775807)
    (hcell : ∀ i, i < n → w.cell? ⟨b, i, none⟩ = some (.int .u32 ((f i : Nat) : Int))) (hb : b < w.heap.size) (hf : ∀ i, i < n → f i < 4294967296) (hm : tl f n ≤ 2) :
    Calls Tryz.prog 80 #[.slice (some ⟨b, 0, none⟩) n c] w fun e w' => e = .returned (Value.agg #[.int .u64 (lo (vl f n)), .string (bg (vl f n))]) ∧ Below w.heap.size w w' := by
  have hval : Hid (vl f (tl f n) = vl f n) := Lib.hid (vl_tl f n)
  have htn := tl_le f n
  go_enter Tryz.func80, Tryz.ntmps80
  have HC := Lib.hid hcell
  clear hcell
  go_wp2_with fail
  refine (cut_any b c f _ n hn hc (fun i hi => ?_)).mono ?_
  · rw [World.cell?_alloc_lt _ _ _ hb]
    exact HC.out i hi
  rintro e w1 ⟨rfl, rfl⟩
  obtain ⟨m, HM⟩ : ∃ m, Hid (tl f n = m) := ⟨_, Lib.hid rfl⟩
  rw [HM.out] at hm hval htn
  rw [HM.out]
  go_wp2_with fail
  go_loop [3, 16] (fun x i => ∃ j : Nat, j ≤ m ∧ i = .int .i64 j ∧ x = .int .u64 ((vl f j : Nat) : Int)) (fun _ i => m - (intOf i).toNat)
  case atStart => exact ⟨0, Nat.zero_le _, rfl, rfl⟩
  case round =>
    obtain ⟨j, hj, rfl, rfl⟩ := hrel
    by_cases hjm : j < m
    · have h1 := HC.out j (by omega)
      have h2 := or64 (vl f j) (f j) j (vl_lt fun i hi => hf i (by omega)) (hf j (by omega)) (by omega)
      rw [← vl_succ] at h2
      go_wp2
      go_round
      case rel => exact ⟨j + 1, by omega, by go_num, rfl⟩
      case measure => simp [intOf]; omega
    · obtain rfl : j = m := by omega
      go_wp2
      have hs : vl f n < 18446744073709551616 := by
        have := vl_lt (f := f) (n := j) (fun i hi => hf i (by omega))
        have := bp_le hm
        rw [bp_two] at this
        rw [← hval.out]
        omega
      rw [lo_small hs, bg_small hs]
      exact bodyPost_ret (v := .agg #[.int .u64 ((vl f j : Nat) : Int), .string ⟨#[]⟩]) (by simp [results, Tryz.results80, go_sem]) rfl ⟨by rw [hval.out], (Below.refl _ _).alloc (Nat.le_refl _) _⟩

theorem info_u8 : (Tryz.prog.info? 5).map (fun i => (i.zero, i.size, i.bytes)) = some (some (.int .u8 0), 1, 1) := by kernel_rfl

/-- 'make([]T, 0, n)', T of one cell -/
theorem made_cap {P : Program} (t e : TypeId) (i : TypeInfo) (z : Value) (ht : P.underlying t = some (.slice e)) (hi : P.info? e = some i) (hz : i.zero = some z) (h1 : i.size = 1) (hzc : z.cells = #[z])
    (kl kc : IntKind) (c : Int) (n : Nat) (hc : c = (n : Int)) (hbytes : i.bytes * n ≤ 281474976710656) (h63 : n ≤ 9223372036854775807) (w : World) :
    (Instr.makeSlice t (.int kl 0) (.int kc c)).run P w = .ok (.slice (some ⟨w.heap.size, 0, none⟩) 0 n) (w.alloc (.cells (madeCells #[z] n) e)) := by
  subst hc
  have hb : (i.bytes : Int) * (n : Int) ≤ 281474976710656 := by
    have h : ((i.bytes * n : Nat) : Int) ≤ 281474976710656 := by omega
    rwa [Int.natCast_mul] at h
  have hr := run_make (P := P) w t e i z ht hi hz kl kc 0 n (by omega) (by omega) hb (by omega)
  simp only [Int.toNat_natCast, Int.toNat_zero, h1, Nat.mul_one, hzc] at hr
  exact hr

/-- the bytes as cells -/
def cells8 (l : List UInt8) : List Value := l.map fun x => .int .u8 ((x.toNat : Nat) : Int)

theorem cells8_by4 (d : Nat) (h : d < 4294967296) : cells8 (by4 d) = [.int .u8 ((d : Int) % 256), .int .u8 ((d : Int) / 256 % 256), .int .u8 ((d : Int) / 65536 % 256), .int .u8 ((d : Int) / 16777216)] := by
  have : d / 16777216 < 256 := by omega
  simp [cells8, by4]
  omega
theorem cells8_append (l m : List UInt8) : cells8 (l ++ m) = cells8 l ++ cells8 m := by simp [cells8]
theorem length_cells8 (l : List UInt8) : (cells8 l).length = l.length := by simp [cells8]
theorem cells8_at {l : List UInt8} {j : Nat} {u : Value} (h : (cells8 l)[j]? = some u) : ∃ hj : j < l.length, u = .int .u8 ((l[j].toNat : Nat) : Int) := by
  have hj : j < l.length := by
    have := (List.getElem?_eq_some_iff.1 h).1
    simpa [cells8] using this
  refine ⟨hj, ?_⟩
  simp [cells8, List.getElem?_eq_getElem hj] at h
  exact h.symm

set_option maxRecDepth 100000 in
theorem of_big (b n c : Nat) (f : Nat → Nat) (w : World) (hn : n ≤ c) (hc : c ≤ 9223372036854775807) (hn40 : n ≤ 1099511627776)
    (hcell : ∀ i, i < n → w.cell? ⟨b, i, none⟩ = some (.int .u32 ((f i : Nat) : Int))) (hb : b < w.heap.size) (hf : ∀ i, i < n → f i < 4294967296) (hm : 2 < tl f n) :
    Calls Tryz.prog 80 #[.slice (some ⟨b, 0, none⟩) n c] w fun e w' => e = .returned (Value.agg #[.int .u64 (lo (vl f n)), .string (bg (vl f n))]) ∧ Below w.heap.size w w' := by
  have hval : Hid (vl f (tl f n) = vl f n) := Lib.hid (vl_tl f n)
  have hwl : Hid (tl f n = wl (vl f n)) := Lib.hid (tl_wl hf)
  have htn := tl_le f n
  obtain ⟨i0, hi, hz0, hz1, hz2⟩ := info_parts info_u8
  go_enter Tryz.func80, Tryz.ntmps80
  have HC := Lib.hid hcell
  clear hcell
  go_wp2_with fail
  refine (cut_any b c f _ n hn hc (fun i hi => ?_)).mono ?_
  · rw [World.cell?_alloc_lt _ _ _ hb]
    exact HC.out i hi
  rintro e w1 ⟨rfl, rfl⟩
  obtain ⟨m, HM⟩ : ∃ m, Hid (tl f n = m) := ⟨_, Lib.hid rfl⟩
  rw [HM.out] at hm hval htn hwl
  rw [HM.out]
  have hmk := fun W => made_cap (P := Tryz.prog) 142 5 i0 _ Tryz.underlying142 hi hz0 hz1 rfl .i64 .i64 (4 * (m : Int)) (4 * m) (by omega) (by rw [hz2]; omega) (by omega) W
  go_wp2_with fail
  have HM2 := Lib.hid hmk
  clear hmk
  obtain ⟨W0, HW⟩ : ∃ W0, Hid (w.alloc (.cells #[.int .u64 0, .string ⟨#[]⟩] 30) = W0) := ⟨_, Lib.hid rfl⟩
  rw [HW.out]
  go_loopw [6, 37] (fun v i wr => ∃ j : Nat, j ≤ m ∧ i = .int .i64 j ∧ v = .slice (some ⟨w.heap.size + 1, 0, none⟩) (4 * j) (4 * m) ∧ wr.ownsRow (w.heap.size + 1) 5 1 (.slice (some ⟨w.heap.size + 1, 0, none⟩) (4 * j) (4 * m)) (4 * j) (cells8 (bys f j)) ∧ Below (w.heap.size + 1) W0 wr) (fun _ i _ => m - (intOf i).toNat)
  case atStart =>
    refine ⟨0, Nat.zero_le _, rfl, rfl, ?_, ?_⟩
    · have := World.ownsRow_made (base := w.heap.size + 1) (e := 5) (size := 1) W0 (madeCells #[.int .u8 0] (4 * m)) (4 * m) (by rw [← HW.out]; simp) (by unfold maxLen; omega) (by simp [size_madeCells])
      rw [show W0.heap.size = w.heap.size + 1 from by rw [← HW.out]; simp] at this
      exact this
    · exact (Below.refl _ _).alloc (by rw [← HW.out]; simp) _
  case round =>
    obtain ⟨j, hj, rfl, rfl, hown, hbel⟩ := hrel
    by_cases hjm : j < m
    · have hcell : wr.cell? ⟨b, j, none⟩ = some (.int .u32 ((f j : Nat) : Int)) := by
        rw [hbel.cell (p := ⟨b, j, none⟩) (by simp; omega), ← HW.out, World.cell?_alloc_lt _ _ _ hb]
        exact HC.out j (by omega)
      have hfj := hf j (by omega)
      have H1 := Lib.hid hown
      have H2 := Lib.hid hbel
      clear hown hbel
      have hnews : ∀ k u, (cells8 (by4 (f j)))[k]? = some u → (wr.alloc (.cells #[.int .u8 ((f j : Nat) % 256 : Int), .int .u8 ((f j : Nat) / 256 % 256 : Int), .int .u8 ((f j : Nat) / 65536 % 256 : Int), .int .u8 ((f j : Nat) / 16777216 : Int)] 5)).cell? ((⟨wr.heap.size, 0, none⟩ : Addr).add k) = some u := by
        intro k u hk
        rw [cells8_by4 _ hfj] at hk
        match k, hk with
        | 0, hk => simpa [Addr.add] using hk
        | 1, hk => simpa [Addr.add] using hk
        | 2, hk => simpa [Addr.add] using hk
        | 3, hk => simpa [Addr.add] using hk
      have HN := Lib.hid hnews
      clear hnews
      go_wp2_with (at_builtin; refine wpList_append_fits _ rfl (.tmp 41) (.tmp 53) _ rfl (w.heap.size + 1) 5 i0 1 Tryz.underlying142 hi hz1 (w.heap.size + 1) (4 * j) (4 * m) (cells8 (bys f j)) rfl (H1.out.alloc _) ⟨wr.heap.size, 0, none⟩ 4 4 (cells8 (by4 (f j))) rfl rfl HN.out (fun u hu => by obtain ⟨k, hk⟩ := List.getElem?_of_mem hu; obtain ⟨_, rfl⟩ := cells8_at hk; rfl) (by omega) ?_; intro w1 hown1 hg1)
      have H3 := Lib.hid hown1
      have H4 := Lib.hid hg1
      clear hown1 hg1
      go_roundw
      case rel =>
        refine ⟨j + 1, by omega, by go_num, rfl, ?_, ?_⟩
        · rw [bys, cells8_append]
          exact H3.out
        · exact (H2.out.alloc (by have := H2.out.size; rw [← HW.out] at this; simpa using this) _).grown H4.out (by have := H2.out.size; rw [← HW.out] at this; simp at this ⊢; omega) (fun k hk => by simp at hk; omega)
      case measure => simp [intOf]; omega
    · obtain rfl : j = m := by omega
      have hr0 : wr.cell? ⟨w.heap.size, 0, none⟩ = some (.int .u64 0) := by
        rw [hbel.cell (p := ⟨w.heap.size, 0, none⟩) (by simp), ← HW.out]
        simp [go_sem]
      have hr1 : wr.cell? ⟨w.heap.size, 1, none⟩ = some (.string ⟨#[]⟩) := by
        rw [hbel.cell (p := ⟨w.heap.size, 1, none⟩) (by simp), ← HW.out]
        simp [go_sem]
      have hf0 : wr.frozen? ⟨w.heap.size, 0, none⟩ = false := by
        rw [hbel.frozen (p := ⟨w.heap.size, 0, none⟩) (by simp), ← HW.out]
        simp [go_sem]
      have hf1 : wr.frozen? ⟨w.heap.size, 1, none⟩ = false := by
        rw [hbel.frozen (p := ⟨w.heap.size, 1, none⟩) (by simp), ← HW.out]
        simp [go_sem]
      have hcv := run_convert_bytes_back (P := Tryz.prog) wr 142 9 5 ⟨w.heap.size + 1, 0, none⟩ (4 * j) (bys f j) Tryz.underlying142 Tryz.underlying5 Tryz.underlying9 (fun k hk => by
        have := hown.cells (g := w.heap.size + 1) rfl k
        refine this _ ?_
        simp [cells8, List.getElem?_eq_getElem hk])
      rw [length_bys] at hcv
      have H1 := Lib.hid hown
      have H2 := Lib.hid hbel
      clear hown hbel
      go_wp2
      have hs : ¬ vl f n < 18446744073709551616 := by
        have := @wl_le_two (vl f n)
        have := hwl.out
        omega
      have he : bys (dg (vl f n)) (wl (vl f n)) = bys f j := by
        rw [← hwl.out]
        refine bys_congr fun i hi => ?_
        exact dg_vl hf (by omega)
      rw [lo_big hs, bg_big hs, he]
      exact bodyPost_ret (v := .agg #[.int .u64 0, .string ⟨(bys f j).toArray⟩]) (by simp [results, Tryz.results80, go_sem, hr0, hr1]) rfl
        ⟨rfl, by
          have h0 : Below w.heap.size w W0 := by rw [← HW.out]; exact (Below.refl _ _).alloc (Nat.le_refl _) _
          exact ((h0.trans (H2.out.mono (Nat.le_succ _))).setCell (by simp) _).setCell (by simp) _⟩
/-- nats.of: the number of the words -/
theorem of_any (b n c : Nat) (f : Nat → Nat) (w : World) (hn : n ≤ c) (hc : c ≤ 9223372036854775807) (hn40 : n ≤ 1099511627776)
    (hcell : ∀ i, i < n → w.cell? ⟨b, i, none⟩ = some (.int .u32 ((f i : Nat) : Int))) (hb : b < w.heap.size) (hf : ∀ i, i < n → f i < 4294967296) :
    Calls Tryz.prog 80 #[.slice (some ⟨b, 0, none⟩) n c] w fun e w' => e = .returned (Value.agg #[.int .u64 (lo (vl f n)), .string (bg (vl f n))]) ∧ Below w.heap.size w w' := by
  by_cases hm : tl f n ≤ 2
  · exact of_two b n c f w hn hc hcell hb hf hm
  · exact of_big b n c f w hn hc hn40 hcell hb hf (by omega)

/-- Nat.words -/
theorem words_any (n : Nat) (w : World) (hl : wl n ≤ 1099511627776) : Calls Tryz.prog 81 #[(Value.agg #[.int .u64 (lo (n)), .string (bg (n))])] w (WordsPost n w) := by
  by_cases h : n < 18446744073709551616
  · exact words_small n w h
  · exact words_big n w h hl
end Go.Proofs.YtenpbnmmadbkdaaGreat


/- nats.cmp, nats.Cmp: the order of numbers. -/
namespace Go.Proofs.YtenpbnmmadbkdaaGreat
open Go.RowKit
attribute [local go_sem ↓] Go.wp_at_zero Go.wp_at_succ

/-- the order as a number -/
def cmpI (x y : Int) : Int := if x < y then -1 else if y < x then 1 else 0
theorem cmpI_lt {x y : Int} (h : x < y) : cmpI x y = -1 := if_pos h
theorem cmpI_gt {x y : Int} (h : y < x) : cmpI x y = 1 := by unfold cmpI; rw [if_neg (by omega), if_pos h]
theorem cmpI_eq {x y : Int} (h : x = y) : cmpI x y = 0 := by unfold cmpI; rw [if_neg (by omega), if_neg (by omega)]

def CmpPost (x y : Nat) (w : World) (e : Ending) (w' : World) : Prop := e = .returned (.int .i64 (cmpI x y)) ∧ Below w.heap.size w w'

theorem cmp_words (x y b c b' c' : Nat) (w : World) (hx : wl x ≤ 1099511627776) (hy : wl y ≤ 1099511627776)
    (hcx : ∀ i, i < wl x → w.cell? ⟨b, i, none⟩ = some (.int .u32 ((dg x i : Nat) : Int)))
    (hcy : ∀ i, i < wl y → w.cell? ⟨b', i, none⟩ = some (.int .u32 ((dg y i : Nat) : Int))) :
    Calls Tryz.prog 110 #[.slice (some ⟨b, 0, none⟩) (wl x) c, .slice (some ⟨b', 0, none⟩) (wl y) c'] w (CmpPost x y w) := by
  obtain ⟨n, HN⟩ : ∃ n, Hid (wl x = n) := ⟨_, Lib.hid rfl⟩
  obtain ⟨m, HM⟩ : ∃ m, Hid (wl y = m) := ⟨_, Lib.hid rfl⟩
  rw [HN.out] at hx hcx ⊢
  rw [HM.out] at hy hcy ⊢
  have HX := Lib.hid hcx
  have HY := Lib.hid hcy
  clear hcx hcy
  by_cases hnm : n = m
  · subst hnm
    have hne : (((n : Nat) : Int) != ((n : Nat) : Int)) = false := by simp
    go_enter Tryz.func110, Tryz.ntmps110
    go_wp2_with fail
    go_loopw [5] (fun i wr => ∃ j : Nat, j ≤ n ∧ i = .int .i64 ((j : Int) - 1) ∧ (∀ t, j ≤ t → t < n → dg x t = dg y t) ∧ ∃ q, wr = w.drewN q) (fun i _ => (intOf i + 1).toNat)
    case atStart => exact ⟨n, Nat.le_refl _, rfl, fun t h1 h2 => by omega, 0, rfl⟩
    case round =>
      obtain ⟨j, hj, rfl, heq, q, rfl⟩ := hrel
      rcases j with _ | j
      · have hxy : x = y := by
          rw [← vl_dg_of_lt (lt_bp_wl x), ← vl_dg_of_lt (lt_bp_wl y), HN.out, HM.out]
          exact vl_congr fun t ht => heq t (Nat.zero_le _) ht
        have HE := Lib.hid hxy
        clear heq hxy
        rw [show (((0 : Nat) : Int) - 1) = -1 from rfl]
        go_wp2
        go_ret
        exact ⟨by rw [HE.out, cmpI_eq rfl]; rfl, below_drewN (Below.refl _ _) _⟩
      · rw [show (((j + 1 : Nat) : Int) - 1) = (j : Int) from by omega]
        have h1 := HX.out j (by omega)
        have h2 := HY.out j (by omega)
        have HQ := Lib.hid heq
        clear heq
        have hi0 : (0 : Int) ≤ (j : Int) := by omega
        have hi1 : (j : Int) < (n : Int) := by omega
        by_cases e : dg x j = dg y j
        · have e1 : (((dg x j : Nat) : Int) != ((dg y j : Nat) : Int)) = false := by simp [e]
          have HE := Lib.hid e
          clear e
          go_wp2_with fail
          go_quiet (fail)
          go_wp2
          go_roundw
          case rel => exact ⟨j, by omega, rfl, fun t h1 h2 => by
            rcases Nat.eq_or_lt_of_le h1 with h | h
            · exact h ▸ HE.out
            · exact HQ.out t h h2, _, rfl⟩
          case measure => simp [intOf]
        · have e1 : (((dg x j : Nat) : Int) != ((dg y j : Nat) : Int)) = true := by rw [bne_iff_ne]; omega
          have HE := Lib.hid e
          clear e
          by_cases l : dg x j < dg y j
          · have hres : x < y := by
              rw [← vl_dg_of_lt (lt_bp_wl x), ← vl_dg_of_lt (lt_bp_wl y), HN.out, HM.out]
              exact vl_less (i := j) (by omega) (fun _ _ => dg_lt _ _) (fun t h1 h2 => HQ.out t h1 h2) l
            have HR := Lib.hid (show cmpI x y = -1 from cmpI_lt (by omega))
            have l1 : decide (((dg x j : Nat) : Int) < ((dg y j : Nat) : Int)) = true := decide_eq_true (by omega)
            clear hres
            go_wp2_with fail
            go_quiet (fail)
            go_wp2_with fail
            go_quiet (fail)
            go_wp2
            go_ret
            exact ⟨by rw [HR.out]; rfl, below_drewN (below_drewN (below_drewN (Below.refl _ _) _) _) _⟩
          · have hres : y < x := by
              rw [← vl_dg_of_lt (lt_bp_wl x), ← vl_dg_of_lt (lt_bp_wl y), HN.out, HM.out]
              exact vl_less (i := j) (by omega) (fun _ _ => dg_lt _ _) (fun t h1 h2 => (HQ.out t h1 h2).symm) (by have := HE.out; omega)
            have HR := Lib.hid (show cmpI x y = 1 from cmpI_gt (by omega))
            have l1 : decide (((dg x j : Nat) : Int) < ((dg y j : Nat) : Int)) = false := decide_eq_false (by omega)
            clear hres
            go_wp2_with fail
            go_quiet (fail)
            go_wp2_with fail
            go_quiet (fail)
            go_wp2
            go_ret
            exact ⟨by rw [HR.out]; rfl, below_drewN (below_drewN (below_drewN (Below.refl _ _) _) _) _⟩
  · have hne : (((n : Nat) : Int) != ((m : Nat) : Int)) = true := by rw [bne_iff_ne]; omega
    have hres : cmpI x y = max (-1) (min 1 ((n : Int) - (m : Int))) := by
      have h1 := @wl_le x m
      have h2 := lt_bp_wl y
      have h3 := @wl_le y n
      have h4 := lt_bp_wl x
      rcases Nat.lt_or_ge n m with h | h
      · have : x < y := by
          have a := @lt_wl y n
          have b := @wl_le x n
          have := HN.out
          have := HM.out
          omega
        rw [cmpI_lt (by omega)]; omega
      · have : y < x := by
          have a := @lt_wl x m
          have b := @wl_le y m
          have := HN.out
          have := HM.out
          omega
        rw [cmpI_gt (by omega)]; omega
    have HR := Lib.hid hres
    clear hres hnm
    go_enter Tryz.func110, Tryz.ntmps110
    go_wp2_with (go_at_call 116; refine (sign_any _ _ (by omega) (by omega)).mono ?_; rintro e w' ⟨rfl, rfl⟩)
    go_ret
    exact ⟨by rw [HR.out]; rfl, Below.refl _ _⟩
/-- nats.Cmp, both below 2^64 -/
theorem cmp_small (x y : Nat) (w : World) (hx : x < 18446744073709551616) (hy : y < 18446744073709551616) :
    Calls Tryz.prog 100 #[(Value.agg #[.int .u64 (lo (x)), .string (bg (x))]), (Value.agg #[.int .u64 (lo (y)), .string (bg (y))])] w (CmpPost x y w) := by
  rw [lo_small hx, bg_small hx, lo_small hy, bg_small hy]
  rcases Nat.lt_trichotomy x y with h | h | h
  · have HR := Lib.hid (show cmpI x y = -1 from cmpI_lt (by omega))
    go_enter Tryz.func100, Tryz.ntmps100
    go_wp2
    go_ret
    exact ⟨by rw [HR.out]; rfl, ((Below.refl _ _).alloc (Nat.le_refl _) _).alloc (by simp) _⟩
  · have HR := Lib.hid (show cmpI x y = 0 from cmpI_eq (by omega))
    subst h
    go_enter Tryz.func100, Tryz.ntmps100
    go_wp2
    go_ret
    exact ⟨by rw [HR.out]; rfl, ((Below.refl _ _).alloc (Nat.le_refl _) _).alloc (by simp) _⟩
  · have HR := Lib.hid (show cmpI x y = 1 from cmpI_gt (by omega))
    go_enter Tryz.func100, Tryz.ntmps100
    go_wp2
    go_ret
    exact ⟨by rw [HR.out]; rfl, ((Below.refl _ _).alloc (Nat.le_refl _) _).alloc (by simp) _⟩

/-- nats.Cmp, one of them at least 2^64 -/
theorem cmp_big (x y : Nat) (w : World) (hx : wl x ≤ 1099511627776) (hy : wl y ≤ 1099511627776) (h : ¬ (x < 18446744073709551616 ∧ y < 18446744073709551616)) :
    Calls Tryz.prog 100 #[(Value.agg #[.int .u64 (lo (x)), .string (bg (x))]), (Value.agg #[.int .u64 (lo (y)), .string (bg (y))])] w (CmpPost x y w) := by
  obtain ⟨px, hpx⟩ : ∃ p, (bg x).toList.isEmpty = p := ⟨_, rfl⟩
  obtain ⟨py, hpy⟩ : ∃ p, (bg y).toList.isEmpty = p := ⟨_, rfl⟩
  have hp : (px && py) = false := by
    rw [← hpx, ← hpy]
    by_cases h1 : x < 18446744073709551616
    · by_cases h2 : y < 18446744073709551616
      · exact absurd ⟨h1, h2⟩ h
      · have := toList_bg_ne h2
        simp [this]
    · have := toList_bg_ne h1
      simp [this]
  obtain ⟨W0, HW⟩ : ∃ W0, Hid ((w.alloc (.cells #[.int .u64 ((lo x : Nat) : Int), .string (bg x)] 30)).alloc (.cells #[.int .u64 ((lo y : Nat) : Int), .string (bg y)] 30) = W0) := ⟨_, Lib.hid rfl⟩
  have hsz : w.heap.size + 2 = W0.heap.size := by rw [← HW.out]; simp
  have HS := Lib.hid hsz
  have hza : w.heap.size < W0.heap.size := by omega
  have hzb : w.heap.size + 1 < W0.heap.size := by omega
  have hka : W0.cell? ⟨w.heap.size, 0, none⟩ = some (.int .u64 ((lo x : Nat) : Int)) := by rw [← HW.out]; simp [go_sem]
  have hkb : W0.cell? ⟨w.heap.size, 1, none⟩ = some (.string (bg x)) := by rw [← HW.out]; simp [go_sem]
  have hkc : W0.cell? ⟨w.heap.size + 1, 0, none⟩ = some (.int .u64 ((lo y : Nat) : Int)) := by rw [← HW.out]; simp [go_sem]
  have hkd : W0.cell? ⟨w.heap.size + 1, 1, none⟩ = some (.string (bg y)) := by rw [← HW.out]; simp [go_sem]
  have hlaw := held W0
  clear hsz
  cases px
  all_goals
    go_enter Tryz.func100, Tryz.ntmps100
    go_wp2_with fail
    rw [HW.out]
    go_region_held3 (fun w' => Below W0.heap.size W0 w') (first | exact (Below.refl _ _).drew | assumption | exact grow (by assumption) (by assumption))
      (first
        | (go_at_call_of 81 (Value.agg #[.int .u64 (lo (x)), .string (bg (x))]); refine (words_any x _ hx).mono ?_; rintro e w1 ⟨b1, c1, rfl, hb1, hc1, hd1, hws1, hbl1⟩)
        | (go_at_call_of 81 (Value.agg #[.int .u64 (lo (y)), .string (bg (y))]); refine (words_any y _ hy).mono ?_; rintro e w2 ⟨b2, c2, rfl, hb2, hc2, hd2, hws2, hbl2⟩)
        | (go_at_call 110; refine (cmp_words x y b1 c1 b2 c2 _ hx hy (fun i hi => (hbl2.cell (p := ⟨b1, i, none⟩) hws1.lt).trans (hws1.cell (Nat.lt_of_lt_of_le hi hc1))) (fun i hi => hws2.cell (Nat.lt_of_lt_of_le hi hc2))).mono ?_; rintro e w3 ⟨rfl, hbl3⟩))
    go_wp2
    go_ret
    refine ⟨rfl, ?_⟩
    have h0 : Below w.heap.size w W0 := by rw [← HW.out]; exact ((Below.refl _ _).alloc (Nat.le_refl _) _).alloc (by simp) _
    exact grow h0 (by assumption)

/-- nats.Cmp -/
theorem cmp_any (x y : Nat) (w : World) (hx : wl x ≤ 1099511627776) (hy : wl y ≤ 1099511627776) :
    Calls Tryz.prog 100 #[(Value.agg #[.int .u64 (lo (x)), .string (bg (x))]), (Value.agg #[.int .u64 (lo (y)), .string (bg (y))])] w (CmpPost x y w) := by
  by_cases h : x < 18446744073709551616 ∧ y < 18446744073709551616
  · exact cmp_small x y w h.1 h.2
  · exact cmp_big x y w hx hy h
end Go.Proofs.YtenpbnmmadbkdaaGreat


/- gussetref01.Cmp, leading. No condition but a bound on lengths. -/
namespace Go.Proofs.YtenpbnmmadbkdaaGreat
open Go.RowKit
set_option linter.unusedSimpArgs false
set_option linter.unusedVariables false

theorem tw_lt {x y : Nat} (h : tw x < tw y) : x < y := Nat.lt_of_lt_of_le (lt_tp_tw x) (lt_tw.1 h)
set_option maxRecDepth 20000 in
set_option maxHeartbeats 1000000 in
theorem rcmp_any (v u : Value) (x y : Nat) (w : World) (hx : Rn w v x) (hy : Rn w u y) (bx : tw x ≤ 1000000000) (by' : tw y ≤ 1000000000) :
    Calls Tryz.prog 98 #[v, u] w fun e w' => e = .returned (.int .i64 (cmpI x y)) ∧ Below w.heap.size w w' := by
  obtain ⟨n, HN⟩ : ∃ n, Hid (tw x = n) := ⟨_, Lib.hid rfl⟩
  obtain ⟨m, HM⟩ : ∃ m, Hid (tw y = m) := ⟨_, Lib.hid rfl⟩
  have hcx := hx.cases
  have hcy := hy.cases
  rw [HN.out] at hcx bx
  rw [HM.out] at hcy by'
  clear hx hy
  have hlt : n < m → cmpI x y = -1 := fun h => cmpI_lt (by have := tw_lt (x := x) (y := y) (by rw [HN.out, HM.out]; exact h); omega)
  have hgt : m < n → cmpI x y = 1 := fun h => cmpI_gt (by have := tw_lt (x := y) (y := x) (by rw [HN.out, HM.out]; exact h); omega)
  by_cases hnm : n = m
  · subst hnm
    clear hlt hgt
    by_cases h0 : n = 0
    · subst h0
      have hxy : cmpI x y = 0 := cmpI_eq (by
        have a := tw_eq_zero.1 HN.out
        have b := tw_eq_zero.1 HM.out
        omega)
      have HE := Lib.hid hxy
      clear hxy
      obtain ⟨ao, ca, rfl⟩ : ∃ ao ca, v = .slice ao 0 ca := by rcases hcx with ⟨e, _⟩ | ⟨b, c, e, _⟩; exact ⟨_, _, e⟩; exact ⟨_, _, e⟩
      obtain ⟨bo, cb, rfl⟩ : ∃ ao ca, u = .slice ao 0 ca := by rcases hcy with ⟨e, _⟩ | ⟨b, c, e, _⟩; exact ⟨_, _, e⟩; exact ⟨_, _, e⟩
      clear hcx hcy
      go_enter Tryz.func98, Tryz.ntmps98
      go_wp2_with fail
      go_loop [5] (fun i => i = .int .i64 (-1)) (fun _ => 0)
      case atStart => rfl
      case round =>
        obtain rfl := hrel
        go_wp2
        go_ret
        exact ⟨by rw [HE.out]; rfl, Below.refl _ _⟩
    obtain ⟨b, ca, rfl, -, -, hca, hca2, hx, -⟩ := hcx.resolve_left (fun h => h0 h.2)
    obtain ⟨b', cb, rfl, -, -, hcb, hcb2, hy, -⟩ := hcy.resolve_left (fun h => h0 h.2)
    have HX := Lib.hid hx
    have HY := Lib.hid hy
    clear hcx hcy hx hy
    go_enter Tryz.func98, Tryz.ntmps98
    go_wp2_with fail
    go_loopw [5] (fun i wr => ∃ j : Nat, j ≤ n ∧ i = .int .i64 ((j : Int) - 1) ∧ (∀ t, j ≤ t → t < n → tg x t = tg y t) ∧ ∃ q, wr = w.drewN q) (fun i _ => (intOf i + 1).toNat)
    case atStart => exact ⟨n, Nat.le_refl _, by simp, fun t h1 h2 => by omega, 0, rfl⟩
    case round =>
      obtain ⟨j, hj, rfl, heq, q, rfl⟩ := hrel
      rcases j with _ | j
      · have hxy : x = y := by
          rw [← tv_tg_of_lt (lt_tp_tw x), ← tv_tg_of_lt (lt_tp_tw y), HN.out, HM.out]
          exact tv_congr fun t ht => heq t (Nat.zero_le _) ht
        have HE := Lib.hid hxy
        clear heq hxy
        rw [show (((0 : Nat) : Int) - 1) = -1 from rfl]
        go_wp2
        go_ret
        exact ⟨by rw [HE.out, cmpI_eq rfl]; rfl, below_drewN (Below.refl _ _) _⟩
      · rw [show (((j + 1 : Nat) : Int) - 1) = (j : Int) from by omega]
        have h1 := HX.out j (by omega)
        have h2 := HY.out j (by omega)
        have HQ := Lib.hid heq
        clear heq
        have hi0 : (0 : Int) ≤ (j : Int) := by omega
        have hi1 : (j : Int) < (n : Int) := by omega
        by_cases e : tg x j = tg y j
        · have e1 : ¬ tg x j < tg y j := by omega
          have e2 : ¬ tg y j < tg x j := by omega
          have HE := Lib.hid e
          clear e
          go_wp2_with fail
          go_quiet (fail)
          go_wp2_with fail
          go_quiet (fail)
          go_wp2
          go_roundw
          case rel => exact ⟨j, by omega, rfl, fun t h1 h2 => by
            rcases Nat.eq_or_lt_of_le h1 with h | h
            · exact h ▸ HE.out
            · exact HQ.out t h h2, _, rfl⟩
          case measure => simp [intOf]
        · have HE := Lib.hid e
          clear e
          by_cases l : tg x j < tg y j
          · have hres : x < y := by
              rw [← tv_tg_of_lt (lt_tp_tw x), ← tv_tg_of_lt (lt_tp_tw y), HN.out, HM.out]
              exact tv_less (i := j) (by omega) (fun _ _ => tg_lt _ _) (fun t h1 h2 => HQ.out t h1 h2) l
            have HR := Lib.hid (show cmpI x y = -1 from cmpI_lt (by omega))
            clear hres
            go_wp2_with fail
            go_quiet (fail)
            go_wp2
            go_ret
            exact ⟨by rw [HR.out]; rfl, below_drewN (below_drewN (Below.refl _ _) _) _⟩
          · have hres : y < x := by
              rw [← tv_tg_of_lt (lt_tp_tw x), ← tv_tg_of_lt (lt_tp_tw y), HN.out, HM.out]
              exact tv_less (i := j) (by omega) (fun _ _ => tg_lt _ _) (fun t h1 h2 => (HQ.out t h1 h2).symm) (by have := HE.out; omega)
            have HR := Lib.hid (show cmpI x y = 1 from cmpI_gt (by omega))
            have l2 : tg y j < tg x j := by have := HE.out; omega
            clear hres
            go_wp2_with fail
            go_quiet (fail)
            go_wp2_with fail
            go_quiet (fail)
            go_wp2
            go_ret
            exact ⟨by rw [HR.out]; rfl, below_drewN (below_drewN (below_drewN (Below.refl _ _) _) _) _⟩
  · rcases Nat.lt_or_ge n m with h | h
    · have HR := Lib.hid (hlt h)
      obtain ⟨ao, ca, rfl⟩ : ∃ ao ca, v = .slice ao n ca := by rcases hcx with ⟨e, e2⟩ | ⟨b, c, e, _⟩; exact ⟨_, _, by rw [e, e2]⟩; exact ⟨_, _, e⟩
      obtain ⟨bo, cb, rfl⟩ : ∃ ao ca, u = .slice ao m ca := by rcases hcy with ⟨e, e2⟩ | ⟨b, c, e, _⟩; exact ⟨_, _, by rw [e, e2]⟩; exact ⟨_, _, e⟩
      clear hcx hcy hlt hgt
      go_enter Tryz.func98, Tryz.ntmps98
      go_wp2_with fail
      go_ret
      exact ⟨by rw [HR.out]; rfl, Below.refl _ _⟩
    · have hgm : m < n := by omega
      have HR := Lib.hid (hgt hgm)
      obtain ⟨ao, ca, rfl⟩ : ∃ ao ca, v = .slice ao n ca := by rcases hcx with ⟨e, e2⟩ | ⟨b, c, e, _⟩; exact ⟨_, _, by rw [e, e2]⟩; exact ⟨_, _, e⟩
      obtain ⟨bo, cb, rfl⟩ : ∃ ao ca, u = .slice ao m ca := by rcases hcy with ⟨e, e2⟩ | ⟨b, c, e, _⟩; exact ⟨_, _, by rw [e, e2]⟩; exact ⟨_, _, e⟩
      clear hcx hcy hlt hgt
      go_enter Tryz.func98, Tryz.ntmps98
      go_wp2_with fail
      go_ret
      exact ⟨by rw [HR.out]; rfl, Below.refl _ _⟩

/-- the digits from a place on -/
theorem lead_step (x k : Nat) : 10000 * (x / tp (k + 1)) + tg x k = x / tp k := by
  rw [← div_step, ← tg_step]
  omega
set_option maxRecDepth 20000 in
set_option maxHeartbeats 1000000 in
theorem lead_any (v : Value) (x s : Nat) (w : World) (hx : Rn w v x) (bx : tw x ≤ s + 4) (hs : s ≤ 1000000000) :
    Calls Tryz.prog 109 #[v, .int .i64 ((s : Nat) : Int)] w fun e w' => e = .returned (.int .i64 ((x / tp s : Nat) : Int)) ∧ w = w' := by
  obtain ⟨n, HN⟩ : ∃ n, Hid (tw x = n) := ⟨_, Lib.hid rfl⟩
  have hcx := hx.cases
  rw [HN.out] at hcx bx
  clear hx
  have hbig : x / tp s < 10000000000000000 := by
    refine Nat.div_lt_of_lt_mul ?_
    have h1 := lt_tp_tw x
    have h2 : tp (tw x) ≤ tp (s + 4) := tp_le (by rw [HN.out]; exact bx)
    rw [tp_add] at h2
    have h3 : tp 4 = 10000000000000000 := by decide
    rw [h3] at h2
    omega
  have hmono : ∀ k, s ≤ k → x / tp k ≤ x / tp s := fun k hk => Nat.div_le_div_left (tp_le hk) (tp_pos s)
  obtain ⟨r0, HR0⟩ : ∃ r, Hid (x / tp s = r) := ⟨_, Lib.hid rfl⟩
  rw [HR0.out] at hbig hmono ⊢
  have HMO := Lib.hid hmono
  clear hmono
  by_cases hns : n ≤ s
  · obtain rfl : r0 = 0 := by rw [← HR0.out]; exact Nat.div_eq_of_lt (Nat.lt_of_lt_of_le (lt_tp_tw x) (tp_le (by rw [HN.out]; exact hns)))
    obtain ⟨ao, ca, rfl⟩ : ∃ ao ca, v = .slice ao n ca := by rcases hcx with ⟨e, e2⟩ | ⟨b, c, e, _⟩; exact ⟨_, _, by rw [e, e2]⟩; exact ⟨_, _, e⟩
    clear hcx
    go_enter Tryz.func109, Tryz.ntmps109
    go_wp2_with fail
    go_loop [5, 6] (fun z i => z = .int .i64 0 ∧ i = .int .i64 ((n : Int) - 1)) (fun _ _ => 0)
    case atStart => exact ⟨rfl, rfl⟩
    case round =>
      obtain ⟨rfl, rfl⟩ := hrel
      have h1 : decide ((s : Int) ≤ (n : Int) - 1) = false := decide_eq_false (by omega)
      go_wp2
      go_ret
      exact ⟨rfl, rfl⟩
  obtain ⟨b, ca, rfl, -, -, hca, hca2, hx, -⟩ := hcx.resolve_left (fun h => by omega)
  have HX := Lib.hid hx
  clear hcx hx
  go_enter Tryz.func109, Tryz.ntmps109
  go_wp2_with fail
  go_loop [5, 6] (fun z i => ∃ k q : Nat, s ≤ k ∧ k ≤ n ∧ i = .int .i64 ((k : Int) - 1) ∧ z = .int .i64 ((q : Nat) : Int) ∧ Hid (x / tp k = q)) (fun _ i => (intOf i + 1).toNat)
  case atStart => exact ⟨n, 0, by omega, Nat.le_refl _, by simp, rfl, Lib.hid (Nat.div_eq_of_lt (by rw [← HN.out]; exact lt_tp_tw x))⟩
  case round =>
    obtain ⟨k, q, hsk, hkn, rfl, rfl, HQ⟩ := hrel
    by_cases h : s = k
    · subst h
      obtain rfl : q = r0 := by rw [← HQ.out, ← HR0.out]
      have h1 : decide ((s : Int) ≤ (s : Int) - 1) = false := decide_eq_false (by omega)
      go_wp2
      go_ret
      exact ⟨rfl, rfl⟩
    · obtain ⟨j, rfl⟩ : ∃ j, k = j + 1 := ⟨k - 1, by omega⟩
      rw [show (((j + 1 : Nat) : Int) - 1) = (j : Int) from by omega]
      have h1 := HX.out j (by omega)
      have hm := HMO.out j (by omega)
      have hl := lead_step x j
      have hd := tg_lt x j
      obtain ⟨r, HR⟩ : ∃ r, Hid (x / tp j = r) := ⟨_, Lib.hid rfl⟩
      rw [HQ.out, HR.out] at hl
      rw [HR.out] at hm
      have HL := Lib.hid hl
      have hqr : 10000 * q ≤ r := by omega
      have hsj : (s : Int) ≤ (j : Int) := by omega
      clear hl
      go_wp2
      go_round
      case rel => exact ⟨j, r, by omega, by omega, rfl, by rw [← HL.out]; go_num, HR⟩
      case measure => simp [intOf]
end Go.Proofs.YtenpbnmmadbkdaaGreat


/- gussetref01.Sub. No condition but a bound on lengths. -/
namespace Go.Proofs.YtenpbnmmadbkdaaGreat
open Go.RowKit
set_option linter.unusedSimpArgs false
set_option linter.unusedVariables false

theorem rat_q (v : Value) (x : Nat) (w : World) (i : Nat) (hi : i ≤ 4611686018427387904) (h : Rn w v x) :
    Calls Tryz.prog 94 #[v, .int .i64 ((i : Nat) : Int)] w fun e w' => e = .returned (.int .i64 ((tg x i : Nat) : Int)) ∧ w' = w :=
  (rat_any v x w i hi h).mono fun _ _ h => ⟨h.1, h.2.symm⟩
/-- what a subtraction lends -/
def rlb (F G : Nat → Nat) : Nat → Nat
  | 0 => 0
  | k + 1 => if F k < G k + rlb F G k then 1 else 0
/-- its digits -/
def rld (F G : Nat → Nat) (k : Nat) : Nat := F k + 10000 * rlb F G (k + 1) - (G k + rlb F G k)
theorem rlb_succ (F G : Nat → Nat) (k : Nat) : rlb F G (k + 1) = if F k < G k + rlb F G k then 1 else 0 := rfl
theorem rlb_le (F G : Nat → Nat) (k : Nat) : rlb F G k ≤ 1 := by
  cases k with
  | zero => exact Nat.zero_le _
  | succ k => rw [rlb_succ]; split <;> omega
theorem rld_eq {F G : Nat → Nat} (hG : ∀ i, G i < 10000) (k : Nat) : rld F G k + (G k + rlb F G k) = F k + 10000 * rlb F G (k + 1) := by
  unfold rld
  have h1 := hG k
  have h2 := rlb_le F G k
  rw [rlb_succ]
  split <;> omega
theorem rld_lt {F G : Nat → Nat} (hF : ∀ i, F i < 10000) (hG : ∀ i, G i < 10000) (k : Nat) : rld F G k < 10000 := by
  have h := rld_eq (F := F) hG k
  have h0 := hF k
  rw [rlb_succ] at h
  split at h <;> omega
theorem rld_inv {F G : Nat → Nat} (hG : ∀ i, G i < 10000) (k : Nat) : tv F k + rlb F G k * tp k = tv G k + tv (rld F G) k := by
  induction k with
  | zero => simp [tv, rlb]
  | succ k ih =>
    rw [tv_succ, tv_succ, tv_succ, tp_succ]
    have e := rld_eq (F := F) hG k
    generalize rlb F G (k + 1) = q at *
    have e2 : (rld F G k + (G k + rlb F G k)) * tp k = (F k + 10000 * q) * tp k := by rw [e]
    have e3 : q * (10000 * tp k) = 10000 * q * tp k := by rw [← Nat.mul_assoc, Nat.mul_comm q]
    rw [e3]
    simp only [Nat.add_mul] at e2
    omega
set_option maxRecDepth 20000 in
set_option maxHeartbeats 1000000 in
theorem rsub_any (v u : Value) (x y : Nat) (w : World) (hx : Rn w v x) (hy : Rn w u y) (hle : y ≤ x) (bx : tw x ≤ 1000000000) (by' : tw y ≤ 1000000000) :
    Calls Tryz.prog 92 #[v, u] w fun e w' => (∃ v', e = .returned v' ∧ Rn w' v' (x - y)) ∧ Below w.heap.size w w' := by
  obtain ⟨i0, hi, hz0, hz1, hz2⟩ := info_parts info_int
  obtain ⟨bo, cb, rfl, hcb, hcb2⟩ := hy.slice
  obtain ⟨n, hn⟩ : ∃ n, tw x = n := ⟨_, rfl⟩
  have hcx := hx.cases
  obtain ⟨m, hm⟩ : ∃ m, tw y = m := ⟨_, rfl⟩
  rw [hn] at hcx bx
  rw [hm] at hy hcb by' ⊢
  have HN := Lib.hid hn
  have HY := Lib.hid hy
  have HLE := Lib.hid hle
  clear hx hy hn hm hle
  have hdone : ∀ (k c : Nat) (v : Value) (wr : World), n = k → rlb (tg x) (tg y) k = c → Dr wr w.heap.size v (tl (rld (tg x) (tg y)) k) (rld (tg x) (tg y)) → Rn wr v (x - y) := by
    intro k c v wr hk hc hd
    have R := Rn.of hd (fun i _ => rld_lt (tg_lt x) (tg_lt y) i)
    have e := rld_inv (F := tg x) (tg_lt y) k
    have hxk : x < tp k := by rw [← hk, ← HN.out]; exact lt_tp_tw x
    have hyk : y < tp k := Nat.lt_of_le_of_lt HLE.out hxk
    rw [tv_tg_of_lt hxk, tv_tg_of_lt hyk] at e
    have h1 := tv_lt (f := rld (tg x) (tg y)) (n := k) (fun i _ => rld_lt (tg_lt x) (tg_lt y) i)
    have h2 := rlb_le (tg x) (tg y) k
    have h3 := HLE.out
    rcases (show rlb (tg x) (tg y) k = 0 ∨ rlb (tg x) (tg y) k = 1 by omega) with h | h
    · rw [h, Nat.zero_mul] at e
      rw [show x - y = tv (rld (tg x) (tg y)) k by omega]
      exact R
    · rw [h, Nat.one_mul] at e
      omega
  have HDONE := Lib.hid hdone
  clear hdone
  by_cases hn0 : n = 0
  · subst hn0
    obtain ⟨ao, ca, rfl⟩ : ∃ ao ca, v = .slice ao 0 ca := by rcases hcx with ⟨e, _⟩ | ⟨b, c, e, _⟩; exact ⟨_, _, e⟩; exact ⟨_, _, e⟩
    clear hcx
    go_enter Tryz.func92, Tryz.ntmps92
    go_wp2
    go_loopw [5, 6, 7] (fun v c i wr => v = .slice none 0 0 ∧ i = .int .i64 0 ∧ c = .int .i64 0 ∧ w = wr) (fun _ _ i _ => 0)
    case atStart => exact ⟨rfl, rfl, rfl, rfl⟩
    case round =>
      obtain ⟨rfl, rfl, rfl, rfl⟩ := hrel
      go_wp2_with fail
      refine (trim_any _ w.heap.size 0 (rld (tg x) (tg y)) _ (Dr.nil _ _ _)).mono ?_
      rintro e w1 ⟨⟨v', rfl, hv⟩, rfl⟩
      have HV := Lib.hid hv
      clear hv
      go_wp2
      go_ret
      exact ⟨⟨_, rfl, HDONE.out 0 0 _ _ rfl rfl HV.out⟩, Below.refl _ _⟩
  obtain ⟨b, ca, rfl, -, hbl, hca, hca2, hx, -⟩ := hcx.resolve_left (fun h => hn0 h.2)
  have HX := Lib.hid hx
  clear hcx hx
  go_enter Tryz.func92, Tryz.ntmps92
  go_wp2
  go_loopw [5, 6, 7] (fun v c i wr => ∃ k c' : Nat, k ≤ n ∧ c' ≤ 1 ∧ i = .int .i64 ((k : Nat) : Int) ∧ c = .int .i64 ((c' : Nat) : Int) ∧ Hid (rlb (tg x) (tg y) k = c') ∧ Hid (Dr wr w.heap.size v k (rld (tg x) (tg y))) ∧ Hid (Below w.heap.size w wr)) (fun _ _ i _ => n - (intOf i).toNat)
  case atStart => exact ⟨0, 0, Nat.zero_le _, by decide, rfl, rfl, Lib.hid rfl, Lib.hid (Dr.nil _ _ _), Lib.hid (Below.refl _ _)⟩
  case round =>
    obtain ⟨k, c, hk, hc1, rfl, rfl, HC, HD, HB⟩ := hrel
    by_cases hkn : k < n
    · have hsz := HB.out.size
      have h1 : wr.cell? ⟨b, k, none⟩ = some (.int .i64 ((tg x k : Nat) : Int)) := (HB.out.cell (p := ⟨b, k, none⟩) hbl).trans (HX.out k hkn)
      have hD := tg_lt x k
      have hE := tg_lt y k
      obtain ⟨s, hs⟩ : ∃ s : Int, ((tg x k : Nat) : Int) - ((tg y k : Nat) : Int) - ((c : Nat) : Int) = s := ⟨_, rfl⟩
      have hs1 : -10000 ≤ s := by omega
      have hs2 : s ≤ 9999 := by omega
      have hld : rld (tg x) (tg y) k = tg x k + 10000 * rlb (tg x) (tg y) (k + 1) - (tg y k + c) := by rw [← HC.out]; rfl
      have hlb : rlb (tg x) (tg y) (k + 1) = if tg x k < tg y k + c then 1 else 0 := by rw [rlb_succ, HC.out]
      have HP : Hid (0 ≤ s → rlb (tg x) (tg y) (k + 1) = 0 ∧ ((rld (tg x) (tg y) k : Nat) : Int) = s) := Lib.hid (by
        intro h; rw [if_neg (by omega)] at hlb; rw [hlb] at hld; exact ⟨hlb, by omega⟩)
      have HQ : Hid (s < 0 → rlb (tg x) (tg y) (k + 1) = 1 ∧ ((rld (tg x) (tg y) k : Nat) : Int) = s + 10000) := Lib.hid (by
        intro h; rw [if_pos (by omega)] at hlb; rw [hlb] at hld; exact ⟨hlb, by omega⟩)
      clear hlb hld
      go_wp2_with fail
      go_quiet (first | (go_at_call 94; exact Calls.quiet_of_same (rat_q _ y _ k (by omega) (HY.out.gr (below_drewN HB.out _)))) | fail)
      obtain ⟨wq, HWQ⟩ : ∃ wq, Hid (wr.drewN nq = wq) := ⟨_, Lib.hid rfl⟩
      rw [HWQ.out]
      replace HB : Hid (Below w.heap.size w wq) := Lib.hid (by rw [← HWQ.out]; exact below_drewN HB.out _)
      replace HD : Hid (Dr wq w.heap.size _ k (rld (tg x) (tg y))) := Lib.hid (by rw [← HWQ.out]; exact HD.out.drewN nq)
      replace hsz := HB.out.size
      try rw [show IntKind.i64.wrap (IntKind.i64.wrap (((tg x k : Nat) : Int) - ((tg y k : Nat) : Int)) - ((c : Nat) : Int)) = s by rw [IntKind.wrap_i64, IntKind.wrap_i64]; omega]
      clear h1 HWQ hs
      by_cases hneg : s < 0
      · obtain ⟨d, hd⟩ : ∃ d : Nat, s + 10000 = ((d : Nat) : Int) := ⟨(s + 10000).toNat, by omega⟩
        have HLB := Lib.hid (HQ.out hneg).1
        have HLD : Hid (rld (tg x) (tg y) k = d) := Lib.hid (by have := (HQ.out hneg).2; omega)
        go_wp2_with (first | (at_builtin; refine wpList_append_own _ rfl (.tmp 29) (.tmp 31) 41 rfl w.heap.size 3 i0 (.int .i64 0) 1 8 Tryz.underlying41 hi hz0 hz1 hz2 rfl (by decide) _ _ _ (by simp [Act.eval, Act.put]) (HD.out.alloc _) ⟨wq.heap.size, 0, none⟩ 1 1 [.int .i64 ((d : Nat) : Int)] (by simp [Act.eval, Act.put]) rfl (new_cell _ _ _) (new_one _ _) (by unfold maxLen; omega) (by omega) (by simp; omega) ?_) | fail)
        · intro v' w1 hown' hgrow _
          have R := push_step HB.out HD.out hown' hgrow
          have H1 := Lib.hid R.1
          have H2 := Lib.hid R.2
          clear R hown' hgrow
          go_wp2
          go_roundw
          case rel =>
            refine ⟨k + 1, 1, by omega, by decide, by go_num, rfl, Lib.hid HLB.out, Lib.hid (H2.out.congr fun i hi => ?_), H1⟩
            split
            · next e => rw [e]; exact (HLD.out).symm
            · rfl
          case measure => simp [intOf]; omega
      · obtain ⟨d, rfl⟩ : ∃ d : Nat, s = ((d : Nat) : Int) := ⟨s.toNat, by omega⟩
        have HLB := Lib.hid (HP.out (by omega)).1
        have HLD : Hid (rld (tg x) (tg y) k = d) := Lib.hid (by have := (HP.out (by omega)).2; omega)
        go_wp2_with (first | (at_builtin; refine wpList_append_own _ rfl (.tmp 29) (.tmp 31) 41 rfl w.heap.size 3 i0 (.int .i64 0) 1 8 Tryz.underlying41 hi hz0 hz1 hz2 rfl (by decide) _ _ _ (by simp [Act.eval, Act.put]) (HD.out.alloc _) ⟨wq.heap.size, 0, none⟩ 1 1 [.int .i64 ((d : Nat) : Int)] (by simp [Act.eval, Act.put]) rfl (new_cell _ _ _) (new_one _ _) (by unfold maxLen; omega) (by omega) (by simp; omega) ?_) | fail)
        · intro v' w1 hown' hgrow _
          have R := push_step HB.out HD.out hown' hgrow
          have H1 := Lib.hid R.1
          have H2 := Lib.hid R.2
          clear R hown' hgrow
          go_wp2
          go_roundw
          case rel =>
            refine ⟨k + 1, 0, by omega, by decide, by go_num, rfl, Lib.hid HLB.out, Lib.hid (H2.out.congr fun i hi => ?_), H1⟩
            split
            · next e => rw [e]; exact (HLD.out).symm
            · rfl
          case measure => simp [intOf]; omega
    · obtain rfl : n = k := by omega
      have hsz := HB.out.size
      go_wp2_with fail
      refine (trim_any _ _ _ _ _ HD.out).mono ?_
      rintro e w1 ⟨⟨v', rfl, hv⟩, rfl⟩
      have HV := Lib.hid hv
      clear hv
      go_wp2
      go_ret
      exact ⟨⟨_, rfl, HDONE.out _ _ _ _ rfl rfl HV.out⟩, HB.out⟩
end Go.Proofs.YtenpbnmmadbkdaaGreat


/- gussetref01.Mul. No condition but a bound on lengths. -/
namespace Go.Proofs.YtenpbnmmadbkdaaGreat
open Go.RowKit
set_option linter.unusedSimpArgs false
set_option linter.unusedVariables false

theorem wrap_in {z : Int} (h0 : -9223372036854775808 ≤ z) (h1 : z ≤ 9223372036854775807) : IntKind.i64.wrap z = z := by rw [IntKind.wrap_i64]; omega
theorem tv_set (F : Nat → Nat) {j N : Nat} (v : Nat) (hj : j < N) : tv (fun t => if t = j then v else F t) N + F j * tp j = tv F N + v * tp j := by
  induction N with
  | zero => omega
  | succ N ih =>
    rw [tv_succ, tv_succ]
    by_cases e : j = N
    · subst e
      rw [if_pos rfl, tv_congr (g := F) (fun i hi => by simp [show ¬ i = j by omega])]
      omega
    · have := ih (by omega)
      rw [if_neg (by omega)]
      omega
theorem rmul_step {A A' V y d e f c Yk Pk Pi r q t Pj : Nat} (hPj : Pj = Pi * Pk) (ht : t = f + d * e + c) (hr : r + 10000 * q = t)
    (hA : A' + f * Pj = A + r * Pj) (h : A + c * Pj = V * y + d * Yk * Pi) : A' + q * (10000 * Pj) = V * y + d * (Yk + e * Pk) * Pi := by
  have h1 : r * Pj + q * (10000 * Pj) = (f + d * e + c) * Pj := by rw [← ht, ← hr]; grind
  have h2 : (f + d * e + c) * Pj = d * e * Pj + f * Pj + c * Pj := by grind
  have h3 : d * (Yk + e * Pk) * Pi = d * Yk * Pi + d * e * Pj := by rw [hPj]; grind
  omega
section
variable {w : World} {B n g cap : Nat} {f : Nat → Nat}
theorem Dr.cellAt (h : Dr w B (.slice (some ⟨g, 0, none⟩) n cap) n f) {i : Nat} (hi : i < n) : w.cell? ⟨g, i, none⟩ = some (.int .i64 ((f i : Nat) : Int)) := by
  rw [World.ownsRow.cellAt h i (by omega), dvs_get f hi]
theorem Dr.frozenAt (h : Dr w B (.slice (some ⟨g, 0, none⟩) n cap) n f) (i : Nat) : w.frozen? ⟨g, i, none⟩ = false := World.ownsRow.frozenAt h i
theorem dvs_set (f : Nat → Nat) (n j d : Nat) : (dvs f n).set j (.int .i64 ((d : Nat) : Int)) = dvs (fun i => if i = j then d else f i) n := by
  apply List.ext_getElem?
  intro i
  unfold dvs
  rw [List.getElem?_set]
  by_cases hi : i < n
  · by_cases e : j = i
    · subst e; simp [hi]
    · simp [hi, e, Ne.symm e]
  · by_cases e : j = i
    · subst e; simp [hi]
    · simp [hi, e]
theorem Dr.store (h : Dr w B (.slice (some ⟨g, 0, none⟩) n cap) n f) (j d : Nat) (_hj : j < n) : Dr (w.setCell ⟨g, j, none⟩ (.int .i64 ((d : Nat) : Int))) B (.slice (some ⟨g, 0, none⟩) n cap) n (fun i => if i = j then d else f i) := by
  have := (World.ownsRow.stored h j (.int .i64 ((d : Nat) : Int))).1
  rw [dvs_set] at this
  exact this
theorem Dr.made (W : World) (hB : B ≤ W.heap.size) (n : Nat) (hn : n ≤ 1000000000000) : Dr (W.alloc (.cells (madeCells #[.int .i64 0] n) 3)) B (.slice (some ⟨W.heap.size, 0, none⟩) n n) n (fun _ => 0) := by
  have h := World.ownsRow_lit (base := B) (e := 3) (size := 1) W (madeCells #[.int .i64 0] n) n hB (by unfold maxLen; omega) (by simp [madeCells])
  rw [toList_madeCells_one] at h
  unfold Dr
  rw [show dvs (fun _ => 0) n = List.replicate n (.int .i64 0) from by unfold dvs; rw [List.map_const']; simp]
  exact h
end
/-- 'make(N, n)' -/
theorem make_is (k : Int) (n : Nat) (hk : k = (n : Int)) (h : n ≤ 1000000000000) (W : World) : (Instr.makeSlice 41 (.int .i64 k) (.int .i64 k)).run Tryz.prog W = .ok (.slice (some ⟨W.heap.size, 0, none⟩) n n) (W.alloc (.cells (madeCells #[.int .i64 0] n) 3)) := by
  subst hk
  exact run_make_row' (P := Tryz.prog) 41 3 (.int .i64 0) 8 Tryz.underlying41 info_int rfl .i64 .i64 n (by omega) (by omega) W
set_option maxRecDepth 20000 in
set_option maxHeartbeats 2000000 in
theorem rmul_any (v u : Value) (x y : Nat) (w : World) (hx : Rn w v x) (hy : Rn w u y) (bx : tw x ≤ 1000000000) (by' : tw y ≤ 1000000000) :
    Calls Tryz.prog 65 #[v, u] w fun e w' => (∃ v', e = .returned v' ∧ Rn w' v' (x * y)) ∧ Below w.heap.size w w' := by
  obtain ⟨bo, cb, rfl, hcb, hcb2⟩ := hy.slice
  obtain ⟨n, hn⟩ : ∃ n, tw x = n := ⟨_, rfl⟩
  have hcx := hx.cases
  obtain ⟨m, hm⟩ : ∃ m, tw y = m := ⟨_, rfl⟩
  rw [hn] at hcx bx
  rw [hm] at hy hcb by' ⊢
  have HN := Lib.hid hn
  have HM := Lib.hid hm
  have HY := Lib.hid hy
  clear hx hy hn hm
  have hdone : ∀ (v : Value) (wr : World) (F : Nat → Nat), Dr wr w.heap.size v (tl F (n + m)) F → (∀ t, t < n + m → F t < 10000) → tv F (n + m) = tv (tg x) n * y → Rn wr v (x * y) := by
    intro v wr F hd hF hv
    have R := Rn.of hd hF
    rw [hv, tv_tg_of_lt (by rw [← HN.out]; exact lt_tp_tw x)] at R
    exact R
  have HDONE := Lib.hid hdone
  clear hdone
  have hmk := make_is ((n : Int) + (m : Int)) (n + m) (by omega) (by omega)
  have HMADE := Lib.hid (Dr.made (B := w.heap.size) w (Nat.le_refl _) (n + m) (by omega))
  have hz0 : Hid (tv (fun _ => 0) (n + m) = 0) := Lib.hid (by rw [tv_tail (m := 0) (Nat.zero_le _) (fun _ _ _ => rfl)]; rfl)
  by_cases hn0 : n = 0
  · subst hn0
    obtain ⟨ao, ca, rfl⟩ : ∃ ao ca, v = .slice ao 0 ca := by rcases hcx with ⟨e, _⟩ | ⟨b, c, e, _⟩; exact ⟨_, _, e⟩; exact ⟨_, _, e⟩
    clear hcx hmk
    have hmk := make_is (m : Int) m rfl (by omega)
    go_enter Tryz.func65, Tryz.ntmps65
    go_wp2_with fail
    rw [show (0 : Nat) + m = m from Nat.zero_add m] at *
    obtain ⟨W1, HW⟩ : ∃ W1, Hid (w.alloc (.cells (madeCells #[.int .i64 0] m) 3) = W1) := ⟨_, Lib.hid rfl⟩
    have HB1 : Hid (Below w.heap.size w W1) := Lib.hid (by rw [← HW.out]; exact (Below.refl _ _).alloc (Nat.le_refl _) _)
    rw [HW.out] at HMADE ⊢
    clear hmk HW
    go_loopw [6] (fun i wr => i = .int .i64 0 ∧ W1 = wr) (fun i _ => 0)
    case atStart => exact ⟨rfl, rfl⟩
    case round =>
      obtain ⟨rfl, rfl⟩ := hrel
      go_wp2_with fail
      have hdr : Dr W1 w.heap.size (.slice (some ⟨w.heap.size, 0, none⟩) m m) m (fun _ => 0) := HMADE.out
      refine (trim_any _ w.heap.size m (fun _ => 0) _ hdr).mono ?_
      rintro e w1 ⟨⟨v', rfl, hv⟩, rfl⟩
      have HV := Lib.hid hv
      clear hv hdr
      go_wp2
      go_ret
      exact ⟨⟨_, rfl, HDONE.out _ _ _ HV.out (fun _ _ => (by decide : 0 < 10000)) (by rw [hz0.out, tv_zero, Nat.zero_mul])⟩, HB1.out⟩
  obtain ⟨b, ca, rfl, -, hbl, hca, hca2, hx, -⟩ := hcx.resolve_left (fun h => hn0 h.2)
  have HX := Lib.hid hx
  clear hcx hx
  go_enter Tryz.func65, Tryz.ntmps65
  go_wp2_with fail
  obtain ⟨W1, HW⟩ : ∃ W1, Hid (w.alloc (.cells (madeCells #[.int .i64 0] (n + m)) 3) = W1) := ⟨_, Lib.hid rfl⟩
  have HB1 : Hid (Below w.heap.size w W1) := Lib.hid (by rw [← HW.out]; exact (Below.refl _ _).alloc (Nat.le_refl _) _)
  rw [HW.out] at HMADE ⊢
  clear hmk HW
  go_loopw [6] (fun i wr => ∃ (i' : Nat) (F : Nat → Nat), i' ≤ n ∧ i = .int .i64 ((i' : Nat) : Int) ∧ Hid (Dr wr w.heap.size (.slice (some ⟨w.heap.size, 0, none⟩) (n + m) (n + m)) (n + m) F) ∧ Hid (∀ t, t < n + m → F t < 10000) ∧ Hid (tv F (n + m) = tv (tg x) i' * y) ∧ Hid (Below w.heap.size w wr)) (fun i _ => n - (intOf i).toNat)
  case atStart => exact ⟨0, fun _ => 0, Nat.zero_le _, rfl, HMADE, Lib.hid (fun _ _ => (by decide : 0 < 10000)), Lib.hid (by rw [hz0.out, tv_zero, Nat.zero_mul]), HB1⟩
  case round =>
    obtain ⟨i, F, hi, rfl, HD, HF, HV, HB⟩ := hrel
    clear HB1 HMADE
    by_cases hin : i < n
    · have hk0 : IntKind.i64.wrap 0 = 0 := rfl
      go_wp2_with fail
      obtain ⟨wo, rfl⟩ : ∃ wo : World, wo = wr := ⟨_, rfl⟩
      go_loopw [7, 8] (fun c k wr => ∃ (k' c' : Nat) (F : Nat → Nat), k' ≤ m + 1 ∧ c' ≤ 9999 + 9999 ∧ k = .int .i64 ((k' : Nat) : Int) ∧ c = .int .i64 ((c' : Nat) : Int) ∧ Hid (Dr wr w.heap.size (.slice (some ⟨w.heap.size, 0, none⟩) (n + m) (n + m)) (n + m) F) ∧ Hid (∀ t, t < n + m → F t < 10000) ∧ Hid (tv F (n + m) + c' * tp (i + k') = tv (tg x) i * y + tg x i * tv (tg y) k' * tp i) ∧ Hid (Below w.heap.size w wr)) (fun _ k _ => m + 2 - (intOf k).toNat)
      case atStart => exact ⟨0, 0, F, by omega, by omega, rfl, rfl, HD, HF, Lib.hid (by rw [HV.out, tv_zero]; simp), HB⟩
      case round =>
        clear HD HF HV HB
        obtain ⟨k, c, F, hk, hc, rfl, rfl, HD, HF, HV, HB⟩ := hrel
        have hlast : m ≤ k → 0 < c → k < m + 1 ∧ i + k < n + m := by
          intro h1 h2
          have e := HV.out
          have hy2 : tv (tg y) k = y := tv_tg_of_lt (Nat.lt_of_lt_of_le (lt_tp_tw y) (tp_le (by rw [HM.out]; exact h1)))
          rw [hy2] at e
          have h3 : 1 * tp (i + k) ≤ c * tp (i + k) := Nat.mul_le_mul_right _ h2
          have h4 : tv (tg x) i * y + tg x i * y * tp i = tv (tg x) (i + 1) * y := by rw [tv_succ]; grind
          have h5 : tv (tg x) (i + 1) < tp (i + 1) := tv_lt (fun j _ => tg_lt x j)
          have h6 : y < tp m := by rw [← HM.out]; exact lt_tp_tw y
          have h7 : tv (tg x) (i + 1) * y < tp (i + 1 + m) := by rw [tp_add]; exact Nat.mul_lt_mul_of_lt_of_le h5 (Nat.le_of_lt h6) (tp_pos _)
          have h8 : tp (i + k) < tp (i + 1 + m) := by omega
          have h9 : i + k < i + 1 + m := by
            rcases Nat.lt_or_ge (i + k) (i + 1 + m) with h | h
            · exact h
            · exact absurd (tp_le h) (by omega)
          omega
        by_cases hkm : k < m
        · have hik : i + k < n + m := by omega
          clear hlast
          have hsz := HB.out.size
          obtain ⟨j, hj⟩ : ∃ j : Nat, (i : Int) + (k : Int) = (j : Int) := ⟨i + k, by omega⟩
          have hji : i + k = j := by omega
          rw [hji] at hik
          have h1 : wr.cell? ⟨b, i, none⟩ = some (.int .i64 ((tg x i : Nat) : Int)) := (HB.out.cell (p := ⟨b, i, none⟩) hbl).trans (HX.out i hin)
          have h2 := HD.out.cellAt (i := j) hik
          have hD := tg_lt x i
          have hE := tg_lt y k
          have hF := HF.out j hik
          obtain ⟨P, hP, HP⟩ : ∃ P : Nat, ((tg x i : Nat) : Int) * ((tg y k : Nat) : Int) = (P : Int) ∧ Hid (tg x i * tg y k = P) := ⟨tg x i * tg y k, (Int.natCast_mul _ _).symm, Lib.hid rfl⟩
          have hPb : P ≤ 99980001 := by rw [← HP.out]; exact Nat.mul_le_mul (show tg x i ≤ 9999 by omega) (show tg y k ≤ 9999 by omega)
          obtain ⟨f, HFF⟩ : ∃ f, Hid (F j = f) := ⟨_, Lib.hid rfl⟩
          rw [HFF.out] at h2 hF
          have HJI := Lib.hid hji
          have hj0 : (0 : Int) ≤ (j : Int) := by omega
          have hj1 : (j : Int) < (n : Int) + (m : Int) := by omega
          have hwj : IntKind.i64.wrap ((j : Nat) : Int) = (j : Int) := wrap_in (by omega) (by omega)
          have hin' : (i : Int) < (n : Int) := by omega
          clear hji
          go_wp2_with fail
          go_quiet (first | (go_at_call 94; exact Calls.quiet_of_same (rat_q _ y _ k (by omega) (HY.out.gr (below_drewN HB.out _)))) | fail)
          obtain ⟨wq, HWQ⟩ : ∃ wq, Hid (wr.drewN nq = wq) := ⟨_, Lib.hid rfl⟩
          rw [HWQ.out]
          replace HB : Hid (Below w.heap.size w wq) := Lib.hid (by rw [← HWQ.out]; exact below_drewN HB.out _)
          replace HD : Hid (Dr wq w.heap.size (.slice (some ⟨w.heap.size, 0, none⟩) (n + m) (n + m)) (n + m) F) := Lib.hid (by rw [← HWQ.out]; exact HD.out.drewN nq)
          replace hsz := HB.out.size
          obtain ⟨s, hs⟩ : ∃ s, f + P + c = s := ⟨_, rfl⟩
          have hs2 : s ≤ 100010000 := by omega
          first
            | rw [show IntKind.i64.wrap (IntKind.i64.wrap (((f : Nat) : Int) + IntKind.i64.wrap ((P : Nat) : Int)) + ((c : Nat) : Int)) = ((s : Nat) : Int) by rw [wrap_in (z := ((P : Nat) : Int)) (by omega) (by omega), wrap_in (z := ((f : Nat) : Int) + ((P : Nat) : Int)) (by omega) (by omega), wrap_in (by omega) (by omega)]; omega]
            | rw [show ((f : Nat) : Int) + ((P : Nat) : Int) + ((c : Nat) : Int) = ((s : Nat) : Int) by omega]
          have HS := Lib.hid hs
          have hfr := HD.out.frozenAt j
          have h3 := HD.out.cellAt (i := j) hik
          clear h1 h2 HWQ hs hP
          go_wp2_with fail
          go_roundw
          case rel =>
            refine ⟨k + 1, s / 10000, _, by omega, by omega, by go_num, by go_num, Lib.hid (HD.out.store j (s % 10000) hik), Lib.hid (fun t ht => ?_), Lib.hid ?_, Lib.hid (HB.out.setCell (Nat.le_refl _) _)⟩
            · by_cases e : t = j
              · simp [e]; omega
              · simp [e]; exact HF.out t ht
            · have hv := HV.out
              rw [← Nat.add_assoc, HJI.out, tp_succ, tv_succ]
              rw [HJI.out] at hv
              refine rmul_step (by rw [← HJI.out]; exact tp_add i k) ?_ (Nat.mod_add_div _ _) (tv_set F _ hik) hv
              rw [HP.out, HFF.out]
              have := HS.out
              omega
          case measure => simp [intOf]; omega
        by_cases hc0 : 0 < c
        · obtain ⟨hk', hik⟩ := hlast (by omega) hc0
          clear hlast
          have hsz := HB.out.size
          obtain ⟨j, hj⟩ : ∃ j : Nat, (i : Int) + (k : Int) = (j : Int) := ⟨i + k, by omega⟩
          have hji : i + k = j := by omega
          rw [hji] at hik
          have h1 : wr.cell? ⟨b, i, none⟩ = some (.int .i64 ((tg x i : Nat) : Int)) := (HB.out.cell (p := ⟨b, i, none⟩) hbl).trans (HX.out i hin)
          have h2 := HD.out.cellAt (i := j) hik
          have hD := tg_lt x i
          have hE := tg_lt y k
          have hF := HF.out j hik
          obtain ⟨P, hP, HP⟩ : ∃ P : Nat, ((tg x i : Nat) : Int) * ((tg y k : Nat) : Int) = (P : Int) ∧ Hid (tg x i * tg y k = P) := ⟨tg x i * tg y k, (Int.natCast_mul _ _).symm, Lib.hid rfl⟩
          have hPb : P ≤ 99980001 := by rw [← HP.out]; exact Nat.mul_le_mul (show tg x i ≤ 9999 by omega) (show tg y k ≤ 9999 by omega)
          obtain ⟨f, HFF⟩ : ∃ f, Hid (F j = f) := ⟨_, Lib.hid rfl⟩
          rw [HFF.out] at h2 hF
          have HJI := Lib.hid hji
          have hj0 : (0 : Int) ≤ (j : Int) := by omega
          have hj1 : (j : Int) < (n : Int) + (m : Int) := by omega
          have hwj : IntKind.i64.wrap ((j : Nat) : Int) = (j : Int) := wrap_in (by omega) (by omega)
          have hin' : (i : Int) < (n : Int) := by omega
          clear hji
          go_wp2_with fail
          go_quiet (first | (go_at_call 94; exact Calls.quiet_of_same (rat_q _ y _ k (by omega) (HY.out.gr (below_drewN HB.out _)))) | fail)
          obtain ⟨wq, HWQ⟩ : ∃ wq, Hid (wr.drewN nq = wq) := ⟨_, Lib.hid rfl⟩
          rw [HWQ.out]
          replace HB : Hid (Below w.heap.size w wq) := Lib.hid (by rw [← HWQ.out]; exact below_drewN HB.out _)
          replace HD : Hid (Dr wq w.heap.size (.slice (some ⟨w.heap.size, 0, none⟩) (n + m) (n + m)) (n + m) F) := Lib.hid (by rw [← HWQ.out]; exact HD.out.drewN nq)
          replace hsz := HB.out.size
          obtain ⟨s, hs⟩ : ∃ s, f + P + c = s := ⟨_, rfl⟩
          have hs2 : s ≤ 100010000 := by omega
          first
            | rw [show IntKind.i64.wrap (IntKind.i64.wrap (((f : Nat) : Int) + IntKind.i64.wrap ((P : Nat) : Int)) + ((c : Nat) : Int)) = ((s : Nat) : Int) by rw [wrap_in (z := ((P : Nat) : Int)) (by omega) (by omega), wrap_in (z := ((f : Nat) : Int) + ((P : Nat) : Int)) (by omega) (by omega), wrap_in (by omega) (by omega)]; omega]
            | rw [show ((f : Nat) : Int) + ((P : Nat) : Int) + ((c : Nat) : Int) = ((s : Nat) : Int) by omega]
          have HS := Lib.hid hs
          have hfr := HD.out.frozenAt j
          have h3 := HD.out.cellAt (i := j) hik
          clear h1 h2 HWQ hs hP
          go_wp2_with fail
          go_roundw
          case rel =>
            refine ⟨k + 1, s / 10000, _, by omega, by omega, by go_num, by go_num, Lib.hid (HD.out.store j (s % 10000) hik), Lib.hid (fun t ht => ?_), Lib.hid ?_, Lib.hid (HB.out.setCell (Nat.le_refl _) _)⟩
            · by_cases e : t = j
              · simp [e]; omega
              · simp [e]; exact HF.out t ht
            · have hv := HV.out
              rw [← Nat.add_assoc, HJI.out, tp_succ, tv_succ]
              rw [HJI.out] at hv
              refine rmul_step (by rw [← HJI.out]; exact tp_add i k) ?_ (Nat.mod_add_div _ _) (tv_set F _ hik) hv
              rw [HP.out, HFF.out]
              have := HS.out
              omega
          case measure => simp [intOf]; omega
        clear hlast
        obtain rfl : c = 0 := by omega
        have hend : tv F (n + m) = tv (tg x) (i + 1) * y := by
          have e := HV.out
          have hy2 : tv (tg y) k = y := tv_tg_of_lt (Nat.lt_of_lt_of_le (lt_tp_tw y) (tp_le (by rw [HM.out]; omega)))
          rw [hy2, Nat.zero_mul] at e
          rw [tv_succ]
          have : (tv (tg x) i + tg x i * tp i) * y = tv (tg x) i * y + tg x i * y * tp i := by grind
          omega
        have HEND := Lib.hid hend
        clear hend
        go_wp2_with fail
        go_roundw
        case rel => exact ⟨i + 1, F, by omega, by go_num, HD, HF, HEND, HB⟩
        case measure => simp [intOf]; omega
    · obtain rfl : i = n := by omega
      have hsz := HB.out.size
      go_wp2_with fail
      refine (trim_any _ w.heap.size (i + m) F _ HD.out).mono ?_
      rintro e w1 ⟨⟨v', rfl, hv⟩, rfl⟩
      have HW := Lib.hid hv
      clear hv
      go_wp2
      go_ret
      exact ⟨⟨_, rfl, HDONE.out _ _ _ HW.out HF.out HV.out⟩, HB.out⟩
end Go.Proofs.YtenpbnmmadbkdaaGreat


/- gussetref01.Div. No condition but a bound on lengths. -/
namespace Go.Proofs.YtenpbnmmadbkdaaGreat
open Go.RowKit
set_option linter.unusedSimpArgs false
set_option linter.unusedVariables false

/-- one digit of a long division -/
theorem rdiv_digit (x y j : Nat) (hy : 0 < y) :
    (tg x j + 10000 * (x / tp (j + 1) % y)) / y = tg (x / y) j ∧ (tg x j + 10000 * (x / tp (j + 1) % y)) % y = x / tp j % y ∧ tg x j + 10000 * (x / tp (j + 1) % y) < 10000 * y := by
  have h1 := lead_step x j
  have h2 := tg_lt x j
  obtain ⟨A, hA⟩ : ∃ A, x / tp (j + 1) = A := ⟨_, rfl⟩
  have h3 : x / tp j / y = x / y / tp j := by rw [Nat.div_div_eq_div_mul, Nat.div_div_eq_div_mul, Nat.mul_comm]
  rw [tg_step (x / y) j |>.symm, ← h3, ← h1, hA]
  have h4 := Nat.div_add_mod A y
  have h5 := Nat.mod_lt A hy
  obtain ⟨q, hq⟩ : ∃ q, A / y = q := ⟨_, rfl⟩
  obtain ⟨R, hR⟩ : ∃ R, A % y = R := ⟨_, rfl⟩
  rw [hR] at h4 h5 ⊢
  rw [hq] at h4
  have h6 : 10000 * A + tg x j = (tg x j + 10000 * R) + y * (10000 * q) := by rw [← h4]; grind
  have h7 : tg x j + 10000 * R < 10000 * y := by omega
  rw [h6, Nat.add_mul_div_left _ _ hy, Nat.add_mul_mod_self_left (tg x j + 10000 * R) y (10000 * q)]
  refine ⟨?_, rfl, h7⟩
  have h8 : (tg x j + 10000 * R) / y < 10000 := Nat.div_lt_of_lt_mul (by omega)
  generalize (tg x j + 10000 * R) / y = f at *
  omega
/-- the bounds that the first digits give -/
theorem rdiv_bounds (R y T : Nat) (hT : 0 < T) (hy : 0 < y) (ht : 0 < y / T) : R / T / (y / T + 1) ≤ R / y ∧ R / y ≤ R / T / (y / T) := by
  constructor
  · refine (Nat.le_div_iff_mul_le hy).2 ?_
    have h1 : R / T / (y / T + 1) * (y / T + 1) ≤ R / T := Nat.div_mul_le_self _ _
    have h2 : R / T * T ≤ R := Nat.div_mul_le_self _ _
    have h3 : y ≤ (y / T + 1) * T := by
      have := Nat.div_add_mod y T
      have := Nat.mod_lt y hT
      rw [Nat.add_mul, Nat.mul_comm (y / T)]
      omega
    calc R / T / (y / T + 1) * y ≤ R / T / (y / T + 1) * ((y / T + 1) * T) := Nat.mul_le_mul_left _ h3
      _ = R / T / (y / T + 1) * (y / T + 1) * T := (Nat.mul_assoc _ _ _).symm
      _ ≤ R / T * T := Nat.mul_le_mul_right _ h1
      _ ≤ R := h2
  · refine (Nat.le_div_iff_mul_le ht).2 ((Nat.le_div_iff_mul_le hT).2 ?_)
    have h1 : R / y * y ≤ R := Nat.div_mul_le_self _ _
    have h2 : y / T * T ≤ y := Nat.div_mul_le_self _ _
    calc R / y * (y / T) * T = R / y * (y / T * T) := Nat.mul_assoc _ _ _
      _ ≤ R / y * y := Nat.mul_le_mul_left _ h2
      _ ≤ R := h1
theorem cmpI_le {x y : Nat} : cmpI (x : Int) (y : Int) ≤ 0 ↔ x ≤ y := by
  unfold cmpI
  split
  · omega
  · split <;> omega
theorem dvs_cons (f : Nat → Nat) (n d : Nat) : [Value.int .i64 ((d : Nat) : Int)] ++ dvs f n = dvs (fun t => if t = 0 then d else f (t - 1)) (n + 1) := by
  unfold dvs
  rw [List.range_succ_eq_map, List.map_cons, List.map_map]
  simp [Function.comp_def]
theorem tv_consd (f : Nat → Nat) (n d : Nat) : tv (fun t => if t = 0 then d else f (t - 1)) (n + 1) = d + 10000 * tv f n := by
  rw [tv_cons]
  simp
section
variable {w : World} {B n : Nat} {v : Value} {f : Nat → Nat}
theorem Dr.num (h : Dr w B v (tl f n) f) (hf : ∀ i, i < n → f i < 10000) : Dr w B v (tw (tv f n)) (tg (tv f n)) := by
  have e := tl_tw hf
  have hle := tl_le f n
  rw [← e]
  refine h.congr fun i hi => ?_
  rw [← tv_tl, tg_tv (fun j hj => hf j (by omega)) hi]
theorem Dr.setBelow (h : Dr w B v n f) {g : Nat} (hg : g < B) (j : Nat) (u : Value) : Dr (w.setCell ⟨g, j, none⟩ u) B v n f := ownsRow_setCell_below h hg u
theorem Dr.lit (W : World) (hB : B ≤ W.heap.size) (d : Nat) : Dr (W.alloc (.cells #[.int .i64 ((d : Nat) : Int)] 3)) B (.slice (some ⟨W.heap.size, 0, none⟩) 1 1) 1 (fun _ => d) :=
  World.ownsRow_lit (base := B) (e := 3) (size := 1) W #[.int .i64 ((d : Nat) : Int)] 1 hB (by decide) rfl
theorem Dr.lit0 (W : World) (hB : B ≤ W.heap.size) (f : Nat → Nat) : Dr (W.alloc (.cells #[] 3)) B (.slice (some ⟨W.heap.size, 0, none⟩) 0 0) 0 f :=
  World.ownsRow_lit (base := B) (e := 3) (size := 1) W #[] 0 hB (by decide) rfl
theorem Dr.belowK {C : Nat} {w' : World} (h : Dr w B v n f) (hb : Below C w w') (hlt : ∀ k, v.ownBlock = some k → k < C) : Dr w' B v n f := by
  refine ⟨h.1, ?_⟩
  rcases h.2 with hn | ⟨b, c, cur, rfl, hb0, hh, rest⟩
  · exact .inl hn
  · exact .inr ⟨b, c, cur, rfl, hb0, (hb.block b (hlt b rfl)).trans hh, rest⟩
theorem Rn.form {k : Nat} (h : Rn w v k) : ∃ ao c, v = .slice ao (tw k) c ∧ (ao = none → tw k = 0 ∧ c = 0) ∧ ∀ ad, ao = some ad → ∀ j, j < tw k → w.cell? (ad.add j) = some (.int .i64 ((tg k j : Nat) : Int)) := by
  rcases Dr.cases h with ⟨rfl, e⟩ | ⟨b, c, rfl, _, _, h1, h2, h3, _⟩
  · exact ⟨none, 0, by rw [e], fun _ => ⟨e, rfl⟩, fun ad had => by cases had⟩
  · refine ⟨_, c, rfl, fun e => (by cases e), fun ad had j hj => ?_⟩
    cases had
    rw [← h3 j hj]
    congr 1
    unfold Addr.add
    split <;> simp_all
theorem cell_lt {a : Addr} {u : Value} (h : w.cell? a = some u) : a.block < w.heap.size := by
  rcases Nat.lt_or_ge a.block w.heap.size with h1 | h1
  · exact h1
  · have : w.heap[a.block]? = none := Array.getElem?_eq_none h1
    simp [World.cell?, this] at h
theorem Rn.zero (w : World) : Rn w (.slice none 0 0) 0 := by unfold Rn; rw [tw_zero]; exact Dr.nil _ _ _
end
/-- 'append(own, digits...)': the digits wherever they lie -/
theorem wpList_append_digits {w : World} {ops : Array Oper} {rest : List Oper} {o : Oper} {a : Act} {Q : Exit → Act → World → Prop} (hgd : o.guard = none) (s x : Operand)
    (ho : o.op = .call { callee := .builtin .append, args := #[s, x], argTypes := #[41, 41] })
    (base : Nat) (v : Value) (n m c : Nat) (F f : Nat → Nat) (hs : a.eval s = v) (hown : Dr w base v n F) (ao : Option Addr) (hx : a.eval x = .slice ao m c) (hnone : ao = none → m = 0 ∧ c = 0)
    (hc : ∀ ad, ao = some ad → ∀ j, j < m → w.cell? (ad.add j) = some (.int .i64 ((f j : Nat) : Int))) (hb : n + m ≤ 10000000000) (hbase : base ≤ w.heap.size)
    (h : ∀ v' w', w'.ownsRow base 3 1 v' (n + m) (dvs F n ++ dvs f m) → w.grownBy w' v.ownBlock → wpList Tryz.prog ops Q rest (a.put o.dst v') w') :
    wpList Tryz.prog ops Q (o :: rest) a w := by
  obtain ⟨i0, hi, hz0, hz1, hz2⟩ := info_parts info_int
  cases ao with
  | none =>
    obtain ⟨rfl, rfl⟩ := hnone rfl
    refine wpList_append_own_none hgd s x 41 ho base 3 i0 1 Tryz.underlying41 hi v n _ hs hown hx (h v w ?_ (World.grownBy.refl _ _))
    rw [show dvs F n ++ dvs f 0 = dvs F n by simp [dvs]]
    exact hown
  | some ad =>
    refine wpList_append_own w hgd s x 41 ho base 3 i0 (.int .i64 0) 1 8 Tryz.underlying41 hi hz0 hz1 hz2 rfl (by decide) v n _ hs hown ad m c (dvs f m) hx (by simp [dvs_length]) ?_ ?_ (by unfold maxLen; omega) (by omega) hbase (fun v' w' h1 h2 _ => h v' w' h1 h2)
    · intro j u hj
      have hjm : j < m := by
        have := (List.getElem?_eq_some_iff.1 hj).1
        simpa [dvs_length] using this
      rw [dvs_get f hjm] at hj
      cases hj
      exact hc ad rfl j hjm
    · intro u hu
      unfold dvs at hu
      obtain ⟨i, _, rfl⟩ := List.mem_map.1 hu
      rfl
/-- a digit put ahead of a number -/
theorem push_front {w0 wr w1 : World} {v' : Value} {g d R : Nat} {o : Obj} (hb : Below w0.heap.size w0 wr) (hg : w0.heap.size ≤ g) (hgs : g < wr.heap.size)
    (hown : w1.ownsRow (g + 1) 3 1 v' (1 + tw R) (dvs (fun _ => d) 1 ++ dvs (tg R) (tw R))) (hgr : (wr.alloc o).grownBy w1 (some wr.heap.size)) :
    Below w0.heap.size w0 w1 ∧ Below (g + 1) wr w1 ∧ Dr w1 (g + 1) v' (tw R + 1) (fun t => if t = 0 then d else tg R (t - 1)) := by
  refine ⟨(hb.alloc hb.size o).grown hgr (Nat.le_trans hb.size (by simp)) (fun j hj => ?_), ((Below.refl _ wr).alloc (by omega) o).grown hgr (by simp; omega) (fun j hj => ?_), ?_⟩
  · cases hj; exact hb.size
  · cases hj; omega
  · unfold Dr
    have e : dvs (fun _ => d) 1 = [Value.int .i64 ((d : Nat) : Int)] := rfl
    rw [e] at hown
    rw [← dvs_cons, show tw R + 1 = 1 + tw R from Nat.add_comm _ _]
    exact hown
theorem tw_shift (x k : Nat) : tw (x / tp k) = tw x - k := by
  have h : ∀ c, tw (x / tp k) ≤ c ↔ tw x ≤ c + k := fun c => by
    rw [tw_le, tw_le, Nat.div_lt_iff_lt_mul (tp_pos k), tp_add]
  have h1 := (h (tw (x / tp k))).1 (Nat.le_refl _)
  have h2 := (h (tw x - k)).2 (by omega)
  omega
theorem tg_shift (x k t : Nat) : tg (x / tp k) t = tg x (k + t) := by
  unfold tg
  rw [Nat.div_div_eq_div_mul, tp_add]
theorem Rn.shift {w : World} {B : Nat} {v : Value} {x k : Nat} (h : Dr w B v (tw x - k) (fun t => tg x (k + t))) : Rn w v (x / tp k) := by
  unfold Rn
  rw [tw_shift]
  exact (h.mono (Nat.zero_le _)).congr fun i _ => (tg_shift x k i).symm
/-- the state at the head of the division's loop: the digits from j on are found -/
def DivAt (w : World) (x y p g j : Nat) (r : Value) (wr : World) : Prop :=
  Rn wr r (x / tp j % y) ∧ Dr wr w.heap.size (.slice (some ⟨g, 0, none⟩) (p + 1) (p + 1)) (p + 1) (fun t => if t < j then 0 else tg (x / y) t) ∧ Below w.heap.size w wr ∧ g < wr.heap.size
theorem DivAt.start {w w1 w' : World} {x y p : Nat} {v' : Value} {k : Nat} (hB : Below w.heap.size w w1) (hk : tw x - (p + 1) = k) (hlow : x / tp (p + 1) < y) (hp : p ≤ 1000000000)
    (hown : w'.ownsRow (w1.heap.size + 1) 3 1 v' k (dvs (fun _ => 0) 0 ++ dvs (fun t => tg x (p + 1 + t)) k))
    (hgr : ((w1.alloc (.cells (madeCells #[.int .i64 0] (p + 1)) 3)).alloc (.cells #[] 3)).grownBy w' (some (w1.heap.size + 1))) : DivAt w x y p w1.heap.size (p + 1) v' w' := by
  have hb2 : Below (w1.heap.size + 1) (w1.alloc (.cells (madeCells #[.int .i64 0] (p + 1)) 3)) w' :=
    ((Below.refl _ _).alloc (by simp) _).grown hgr (by simp) (fun j hj => by cases hj; omega)
  have hq := Dr.made (B := w.heap.size) w1 hB.size (p + 1) (by omega)
  refine ⟨?_, (hq.belowK hb2 (fun k hk => by cases hk; exact Nat.lt_succ_self _)).congr fun i hi => ?_, (hB.alloc hB.size _).trans (hb2.mono (by have := hB.size; omega)), ?_⟩
  · rw [Nat.mod_eq_of_lt hlow]
    refine Rn.shift (B := w1.heap.size + 1) ?_
    rw [hk]
    exact hown
  · rw [if_pos hi]
  · have := hb2.size
    simp at this
    omega
/-- the binary search ends where it should -/
theorem mid_le {y R d mid : Nat} (hy : 0 < y) (hd : R / y = d) : cmpI ((y * mid : Nat) : Int) (R : Int) ≤ 0 ↔ mid ≤ d := by
  rw [cmpI_le, ← hd, Nat.le_div_iff_mul_le hy, Nat.mul_comm]
/-- the digit is written, the rest is taken -/
theorem DivAt.next {w wr w3 : World} {x y p g j d : Nat} {r2 : Value} (hgw : w.heap.size ≤ g)
    (hq : Dr wr w.heap.size (.slice (some ⟨g, 0, none⟩) (p + 1) (p + 1)) (p + 1) (fun t => if t < j + 1 then 0 else tg (x / y) t)) (hb : Below w.heap.size w wr) (hg : g < wr.heap.size)
    (hd : tg (x / y) j = d) (hj : j < p + 1) (hr : Rn w3 r2 (x / tp j % y)) (h3 : Gr (wr.setCell ⟨g, j, none⟩ (.int .i64 ((d : Nat) : Int))) w3) : DivAt w x y p g j r2 w3 := by
  refine ⟨hr, ((hq.store j d hj).gr h3).congr fun i hi => ?_, (hb.setCell hgw _).trans (h3.mono ?_), Nat.lt_of_lt_of_le ?_ h3.size⟩
  · by_cases e : i = j
    · subst e; simp [hd]
    · by_cases e2 : i < j
      · simp [e, e2, show i < j + 1 by omega]
      · simp [e, e2, show ¬ i < j + 1 by omega]
  · have := hb.size
    simpa using this
  · simpa using hg
end Go.Proofs.YtenpbnmmadbkdaaGreat


/- gussetref01.Div: the walk. No condition but a bound on lengths. -/
namespace Go.Proofs.YtenpbnmmadbkdaaGreat
open Go.RowKit
set_option linter.unusedSimpArgs false
set_option linter.unusedVariables false

set_option maxRecDepth 20000 in
theorem rdiv_small (v u : Value) (x y : Nat) (w : World) (hx : Rn w v x) (hy : Rn w u y) (hlt : x < y) (bx : tw x ≤ 1000000000) (by' : tw y ≤ 1000000000) :
    Calls Tryz.prog 91 #[v, u] w fun e w' => (∃ q r, e = .returned (.tuple #[q, r]) ∧ Rn w' q (x / y) ∧ Rn w' r (x % y)) ∧ Below w.heap.size w w' := by
  have hcm := rcmp_any v u x y w hx hy bx by'
  rw [cmpI_lt (by omega)] at hcm
  obtain ⟨ao, ca, rfl, hca, hca2⟩ := hx.slice
  obtain ⟨bo, cb, rfl, hcb, hcb2⟩ := hy.slice
  have HX := Lib.hid hx
  have HCM := Lib.hid hcm
  have HD : Hid (x / y = 0 ∧ x % y = x) := Lib.hid ⟨Nat.div_eq_of_lt hlt, Nat.mod_eq_of_lt hlt⟩
  clear hx hy hcm hlt
  go_enter Tryz.func91, Tryz.ntmps91
  go_wp2_with fail
  refine HCM.out.mono ?_
  rintro e w1 ⟨rfl, hb⟩
  have HB := Lib.hid hb
  clear hb
  go_wp2
  go_ret2
  refine ⟨⟨_, _, rfl, ?_, ?_⟩, HB.out⟩
  · rw [HD.out.1]; exact Rn.zero _
  · rw [HD.out.2]; exact HX.out.gr HB.out

end Go.Proofs.YtenpbnmmadbkdaaGreat


/- gussetref01.Div: the walk. No condition but a bound on lengths. -/
namespace Go.Proofs.YtenpbnmmadbkdaaGreat
open Go.RowKit
set_option linter.unusedSimpArgs false
set_option linter.unusedVariables false

set_option maxRecDepth 20000 in
set_option maxHeartbeats 4000000 in
theorem rdiv_great (v u : Value) (x y : Nat) (w : World) (hx : Rn w v x) (hy : Rn w u y) (h0 : 0 < y) (hle : y ≤ x) (bx : tw x ≤ 500000000) (by' : tw y ≤ 500000000) :
    Calls Tryz.prog 91 #[v, u] w fun e w' => (∃ q r, e = .returned (.tuple #[q, r]) ∧ Rn w' q (x / y) ∧ Rn w' r (x % y)) ∧ Below w.heap.size w w' := by
  have hcm := rcmp_any v u x y w hx hy (by omega) (by omega)
  obtain ⟨cc, hcc⟩ : ∃ cc, cmpI (x : Int) (y : Int) = cc := ⟨_, rfl⟩
  have hcc0 : ¬ cc < 0 := by rw [← hcc]; unfold cmpI; split; omega; split <;> decide
  rw [hcc] at hcm
  clear hcc
  obtain ⟨n, hn⟩ : ∃ n, tw x = n := ⟨_, rfl⟩
  obtain ⟨m, hm⟩ : ∃ m, tw y = m := ⟨_, rfl⟩
  have hmn : m ≤ n := by rw [← hn, ← hm]; exact tw_mono hle
  have hm0 : 0 < m := by rw [← hm]; exact tw_pos h0
  obtain ⟨p, hp⟩ : ∃ p : Nat, (n : Int) - (m : Int) = (p : Int) := ⟨n - m, by omega⟩
  have HNP : Hid (n = (m - 1) + (p + 1)) := Lib.hid (by omega)
  have HNP2 : Hid (n = (p + 1) + (m - 1)) := Lib.hid (by omega)
  obtain ⟨s, hs⟩ : ∃ s : Nat, (if (3 : Int) < (m : Int) then (m : Int) - 3 else 0) = (s : Int) := ⟨m - 3, by split <;> omega⟩
  have hs1 : s ≤ m - 1 := by split at hs <;> omega
  have hs2 : m ≤ s + 3 := by split at hs <;> omega
  have hcx := hx.cases
  obtain ⟨bo, cb, rfl, hcb, hcb2⟩ := hy.slice
  rw [hn] at hcx bx
  rw [hm] at hy hcb by' hcm ⊢
  obtain ⟨b, ca, rfl, -, hbl, hca, hca2, hxc, -⟩ := hcx.resolve_left (fun h => by omega)
  have hT : Hid (0 < y / tp s) := Lib.hid (Nat.div_pos (Nat.le_trans (tp_le (n := m - 1) (by omega)) (lt_tw.1 (by rw [hm]; omega))) (tp_pos s))
  have hT2 : y / tp s < 1000000000000 := by
    refine Nat.div_lt_of_lt_mul ?_
    have h1 := lt_tp_tw y
    have h2 : tp (tw y) ≤ tp (s + 3) := tp_le (by rw [hm]; omega)
    rw [tp_add, show tp 3 = 1000000000000 by decide] at h2
    omega
  obtain ⟨T, HT⟩ : ∃ T, Hid (y / tp s = T) := ⟨_, Lib.hid rfl⟩
  rw [HT.out] at hT hT2
  have hT1 := hT.out
  have HX := Lib.hid hx
  have HY := Lib.hid hy
  have HXC := Lib.hid hxc
  have HCM := Lib.hid hcm
  have HN := Lib.hid hn
  have HM := Lib.hid hm
  have HLE := Lib.hid hle
  have HY0 := Lib.hid h0
  have HLOW : Hid (x / tp (p + 1) < y) := Lib.hid (by
    rw [Nat.div_lt_iff_lt_mul (tp_pos _)]
    have h1 := lt_tp_tw x
    rw [hn, HNP.out, tp_add] at h1
    have h2 : tp (m - 1) ≤ y := lt_tw.1 (by rw [hm]; exact Nat.sub_lt hm0 Nat.zero_lt_one)
    exact Nat.lt_of_lt_of_le h1 (Nat.mul_le_mul_right _ h2))
  clear hx hy hxc hcm hn hm hle h0 hcx hT
  go_enter Tryz.func91, Tryz.ntmps91
  go_wp2_with fail
  refine HCM.out.mono ?_
  rintro e w1 ⟨rfl, hb⟩
  have HB := Lib.hid hb
  clear hb HCM
  go_wp2_with fail
  refine (lead_any _ y s w1 (HY.out.gr HB.out) (by rw [HM.out]; omega) (by omega)).mono ?_
  rintro e w2 ⟨rfl, rfl⟩
  rw [HT.out]
  clear hs
  have hmk := make_is ((p : Int) + 1) (p + 1) (by omega) (by omega)
  have hwn : IntKind.i64.wrap ((p : Int) + 1) = (p : Int) + 1 := wrap_in (by omega) (by omega)
  have hlit : Dr ((w1.alloc (.cells (madeCells #[.int .i64 0] (p + 1)) 3)).alloc (.cells #[] 3)) (w1.heap.size + 1) (.slice (some ⟨w1.heap.size + 1, 0, none⟩) 0 0) 0 (fun _ => 0) := by
    have h := Dr.lit0 (B := w1.heap.size + 1) (w1.alloc (.cells (madeCells #[.int .i64 0] (p + 1)) 3)) (by simp) (fun _ => 0)
    simpa using h
  have HLIT := Lib.hid hlit
  clear hlit
  go_wp2_with (first
    | (at_builtin; refine wpList_append_digits rfl (.tmp 35) (.tmp 39) rfl (w1.heap.size + 1) _ 0 _ _ (fun _ => 0) (fun t => tg x (p + 1 + t)) rfl HLIT.out _ rfl ?h1 ?h2 ?h3 ?h4 ?_)
    | fail)
  case h2.inl => intro j hj; omega
  case h2.inr =>
    intro j hj
    exact (((HB.out.alloc HB.out.size _).alloc (by have := HB.out.size; simp; omega) _).cell (p := ⟨b, p + 1 + j, none⟩) hbl).trans (HXC.out (p + 1 + j) (by omega))
  case h3 => omega
  case h4 => simp
  all_goals
    intro v' w3 hown hgr
    have HA : Hid (DivAt w x y p w1.heap.size (p + 1) v' w3) := Lib.hid (DivAt.start HB.out (by rw [HN.out]) HLOW.out (by omega) hown hgr)
    clear hown hgr
    obtain ⟨g, hg⟩ : ∃ g, w1.heap.size = g := ⟨_, rfl⟩
    have hgw : w.heap.size ≤ g := by rw [← hg]; exact HB.out.size
    rw [hg] at HA ⊢
    clear HLIT hmk HB hg
    go_wp2_with fail
    go_loopw [8, 10] (fun i r wr => ∃ j : Nat, j ≤ p + 1 ∧ i = .int .i64 ((j : Int) - 1) ∧ Hid (DivAt w x y p g j r wr)) (fun i _ _ => (intOf i + 1).toNat)
    case atStart => exact ⟨p + 1, Nat.le_refl _, by simp, HA⟩
    case round =>
      clear HA
      obtain ⟨j, hj, rfl, HA⟩ := hrel
      rcases j with _ | j
      · rw [show (((0 : Nat) : Int) - 1) = -1 from rfl]
        go_wp2_with fail
        refine (trim_any _ w.heap.size (p + 1) (tg (x / y)) _ (HA.out.2.1.congr (fun i _ => by simp))).mono ?_
        rintro e w4 ⟨⟨q', rfl, hq⟩, rfl⟩
        have HQ := Lib.hid hq
        clear hq
        go_wp2
        go_ret2
        refine ⟨⟨_, _, rfl, ?_, ?_⟩, HA.out.2.2.1⟩
        · have R := Rn.of HQ.out (fun i _ => tg_lt _ i)
          have hlt : x / y < tp (p + 1) := by
            rw [Nat.div_lt_iff_lt_mul HY0.out]
            have h1 := lt_tp_tw x
            rw [HN.out, HNP2.out, tp_add] at h1
            have h2 : tp (m - 1) ≤ y := lt_tw.1 (by rw [HM.out]; omega)
            exact Nat.lt_of_lt_of_le h1 (Nat.mul_le_mul_left _ h2)
          rw [tv_tg_of_lt hlt] at R
          exact R
        · have := HA.out.1
          rw [tp_zero, Nat.div_one] at this
          exact this
      · rw [show (((j + 1 : Nat) : Int) - 1) = (j : Int) from by omega]
        obtain ⟨R, HR⟩ : ∃ R, Hid (x / tp (j + 1) % y = R) := ⟨_, Lib.hid rfl⟩
        obtain ⟨h1, h2, h3, hgs⟩ := HA.out
        rw [HR.out] at h1
        have hRy : Hid (R < y) := Lib.hid (by rw [← HR.out]; exact Nat.mod_lt _ HY0.out)
        have htR : tw R ≤ m := by rw [← HM.out]; exact tw_mono (Nat.le_of_lt hRy.out)
        obtain ⟨ro, rc, rfl, hnone, hcells⟩ := h1.form
        obtain ⟨k, hk⟩ : ∃ k, tw R = k := ⟨_, rfl⟩
        rw [hk] at htR hnone hcells ⊢
        have hxj : wr.cell? ⟨b, j, none⟩ = some (.int .i64 ((tg x j : Nat) : Int)) := (h3.cell (p := ⟨b, j, none⟩) hbl).trans (HXC.out j (by omega))
        have hws := h3.size
        have hjn : (j : Int) < (n : Int) := by omega
        have HQ := Lib.hid h2
        have HB := Lib.hid h3
        have HK := Lib.hid hk
        have HNO := Lib.hid hnone
        have HCE := Lib.hid hcells
        clear h1 h2 h3 hk hnone hcells HA
        have HLIT : Hid (Dr (wr.alloc (.cells #[.int .i64 ((tg x j : Nat) : Int)] 3)) (g + 1) (.slice (some ⟨wr.heap.size, 0, none⟩) 1 1) 1 (fun _ => tg x j)) := Lib.hid (Dr.lit wr (by omega) (tg x j))
        have HCE2 : Hid (∀ ad, ro = some ad → ∀ j', j' < k → (wr.alloc (.cells #[.int .i64 ((tg x j : Nat) : Int)] 3)).cell? (ad.add j') = some (.int .i64 ((tg R j' : Nat) : Int))) := Lib.hid (fun ad h t ht => by
          have h1 := HCE.out ad h t ht
          have h2 : (ad.add t).block < wr.heap.size := cell_lt h1
          rw [← h1]
          exact (Gr.alloc wr _).cell (p := ad.add t) h2)
        go_wp2_with (first
          | (at_builtin; refine wpList_append_digits rfl (.tmp 49) (.tmp 50) rfl (g + 1) _ 1 _ _ (fun _ => tg x j) (tg R) rfl HLIT.out _ rfl HNO.out HCE2.out (by omega) (by simp; omega) ?_)
          | fail)
        intro v3 w3 hown hgr
        have P := push_front (R := R) HB.out hgw hgs (by rw [HK.out]; exact hown) hgr
        obtain ⟨P1, P2, P3⟩ := P
        have HP1 := Lib.hid P1
        have HQ3 := Lib.hid (HQ.out.belowK P2 (fun k hk => by cases hk; exact Nat.lt_succ_self _))
        have HP3 := Lib.hid P3
        have hgs3 : g < w3.heap.size := by have := P2.size; omega
        clear P1 P2 P3 hown hgr HCE HCE2 HNO HLIT HB HQ hxj hws hgs
        go_wp2_with fail
        refine (trim_any _ (g + 1) (tw R + 1) _ _ HP3.out).mono ?_
        rintro e w4 ⟨⟨r1, rfl, hr1⟩, rfl⟩
        have hdig : ∀ i, i < tw R + 1 → (if i = 0 then tg x j else tg R (i - 1)) < 10000 := fun i _ => by split; exact tg_lt _ _; exact tg_lt _ _
        have hr2 := hr1.num hdig
        rw [tv_consd, tv_tg_of_lt (lt_tp_tw R)] at hr2
        obtain ⟨D1, D2, D3⟩ := rdiv_digit x y j HY0.out
        rw [HR.out] at D1 D2 D3
        obtain ⟨R', HR'⟩ : ∃ R', Hid (tg x j + 10000 * R = R') := ⟨_, Lib.hid rfl⟩
        rw [HR'.out] at hr2 D1 D2 D3
        have HR2 := Lib.hid hr2
        have htw : tw R' ≤ s + 4 := by
          have h1 : tw R' ≤ m + 1 := tw_le.2 (Nat.lt_of_lt_of_le D3 (by rw [tp_succ]; exact Nat.mul_le_mul_left _ (Nat.le_of_lt (by rw [← HM.out]; exact lt_tp_tw y))))
          omega
        obtain ⟨d, hd⟩ : ∃ d, R' / y = d := ⟨_, rfl⟩
        rw [hd] at D1
        have hd9 : d ≤ 9999 := by rw [D1]; have := tg_lt (x / y) j; omega
        have hT3 : 0 < y / tp s := by rw [HT.out]; exact hT1
        obtain ⟨b1, b2⟩ := rdiv_bounds R' y (tp s) (tp_pos s) HY0.out hT3
        rw [HT.out, hd] at b1 b2
        obtain ⟨f0, hf0⟩ : ∃ f0, R' / tp s = f0 := ⟨_, rfl⟩
        rw [hf0] at b1 b2
        have HF0 := Lib.hid hf0
        have HD1 := Lib.hid D1
        have HD2 := Lib.hid D2
        have HDD := Lib.hid hd
        have HRS := Lib.hid htw
        have hf1 : f0 < 10000000000000000 := by
          rw [← hf0]
          refine Nat.div_lt_of_lt_mul ?_
          have h1 := lt_tp_tw R'
          have h2 : tp (tw R') ≤ tp (s + 4) := tp_le htw
          rw [tp_add, show tp 4 = 10000000000000000 by decide] at h2
          omega
        clear hr1 hr2 hdig D1 D2 D3 hd hf0 htw hT3 HP3
        go_wp2_with fail
        refine (lead_any _ R' s w3 (HR2.out.mono (Nat.zero_le _)) HRS.out (by omega)).mono ?_
        rintro e w5 ⟨rfl, rfl⟩
        rw [HF0.out]
        obtain ⟨l0, hl0⟩ : ∃ l0 : Nat, f0 / (T + 1) = l0 := ⟨_, rfl⟩
        obtain ⟨q0, hq0⟩ : ∃ q0 : Nat, f0 / T = q0 := ⟨_, rfl⟩
        rw [hl0] at b1
        rw [hq0] at b2
        obtain ⟨h0, hh0⟩ : ∃ h0 : Nat, (if (9999 : Int) < (q0 : Int) then 9999 else (q0 : Int)) = (h0 : Int) := ⟨min q0 9999, by split <;> omega⟩
        have hh1 : d ≤ h0 ∧ h0 ≤ 9999 := by split at hh0 <;> omega
        have e1 : ((f0 : Nat) : Int) / ((T : Int) + 1) = (l0 : Int) := by rw [← hl0]; simp
        have e2 : ((f0 : Nat) : Int) / (T : Int) = (q0 : Int) := by rw [← hq0]; simp
        have e1t : Int.tdiv ((f0 : Nat) : Int) ((T : Int) + 1) = (l0 : Int) := by rw [Int.tdiv_eq_ediv_of_nonneg (by omega)]; exact e1
        have e2t : Int.tdiv ((f0 : Nat) : Int) (T : Int) = (q0 : Int) := by rw [Int.tdiv_eq_ediv_of_nonneg (by omega)]; exact e2
        have hlf : l0 ≤ f0 := by rw [← hl0]; exact Nat.div_le_self _ _
        have hqf : q0 ≤ f0 := by rw [← hq0]; exact Nat.div_le_self _ _
        have hwT : IntKind.i64.wrap ((T : Int) + 1) = (T : Int) + 1 := wrap_in (by omega) (by omega)
        have hwl : IntKind.i64.wrap ((l0 : Nat) : Int) = (l0 : Int) := wrap_in (by omega) (by omega)
        have hwq : IntKind.i64.wrap ((q0 : Nat) : Int) = (q0 : Int) := wrap_in (by omega) (by omega)
        have hTz : ¬ ((T : Int) + 1 = 0) := by omega
        have hTz2 : ¬ (T = 0) := by omega
        clear hl0 hq0
        go_wp2_with fail
        go_quiet (fail)
        obtain ⟨wq, HWQ⟩ : ∃ wq, Hid (w3.drewN nq = wq) := ⟨_, Lib.hid rfl⟩
        rw [HWQ.out]
        have HBq : Hid (Below w.heap.size w wq) := Lib.hid (by rw [← HWQ.out]; exact below_drewN HP1.out _)
        have HQq : Hid (Dr wq w.heap.size (.slice (some ⟨g, 0, none⟩) (p + 1) (p + 1)) (p + 1) (fun t => if t < j + 1 then 0 else tg (x / y) t)) := Lib.hid (by rw [← HWQ.out]; exact HQ3.out.drewN nq)
        have HRq : Hid (Dr wq (g + 1) r1 (tw R') (tg R')) := Lib.hid (by rw [← HWQ.out]; exact HR2.out.drewN nq)
        have hgq : g < wq.heap.size := by rw [← HWQ.out]; exact hgs3
        have hRs := HRS.out
        clear HP1 HQ3 HR2 HWQ hgs3 e1 e2 e1t e2t hwl hwq hwT hTz hTz2 hh0 HRS
        go_wp2_with fail
        go_loopw [12, 13] (fun lo hi wr => ∃ l h : Nat, l ≤ d ∧ d ≤ h ∧ h ≤ 9999 ∧ lo = .int .i64 ((l : Nat) : Int) ∧ hi = .int .i64 ((h : Nat) : Int) ∧ Hid (Gr wq wr)) (fun lo hi _ => (intOf hi - intOf lo).toNat)
        case atStart => exact ⟨l0, h0, b1, hh1.1, hh1.2, rfl, rfl, Lib.hid (Gr.refl _)⟩
        case round =>
          obtain ⟨l, h, hl, hh, h9, rfl, rfl, HG⟩ := hrel
          have HBr : Hid (Below w.heap.size w wr) := Lib.hid (Gr.trans HBq.out HG.out)
          by_cases hlh : l < h
          · obtain ⟨mid, hmid⟩ : ∃ mid : Nat, ((l : Int) + (h : Int) + 1) / 2 = (mid : Int) := ⟨(l + h + 1) / 2, by omega⟩
            have hm1 : l < mid := by omega
            have hm2 : mid ≤ h := by omega
            have hwu : IntKind.u64.wrap ((mid : Nat) : Int) = (mid : Int) := by rw [IntKind.wrap_u64]; omega
            go_wp2_with fail
            refine (rof_any mid wr (by omega)).mono ?_
            rintro e w5 ⟨⟨z, rfl, hz⟩, hb5⟩
            have HZ := Lib.hid hz
            have HB5 : Hid (Gr wr w5) := Lib.hid hb5
            clear hz hb5
            go_wp2_with fail
            have htz : tw mid ≤ 1 := tw_small (by omega)
            refine (rmul_any _ z y mid w5 (HY.out.gr (Gr.trans HBr.out HB5.out)) HZ.out (by rw [HM.out]; omega) (by omega)).mono ?_
            rintro e w6 ⟨⟨z2, rfl, hz⟩, hb6⟩
            have HZ2 := Lib.hid hz
            have HB6 : Hid (Gr w5 w6) := Lib.hid hb6
            clear hz hb6
            go_wp2_with fail
            have htm : tw (y * mid) ≤ m + 1 := by
              have := tw_mul y mid
              have := HM.out
              omega
            refine (rcmp_any z2 r1 (y * mid) R' w6 HZ2.out ((HRq.out.mono (Nat.zero_le _)).gr (Gr.trans HG.out (Gr.trans HB5.out HB6.out))) (by omega) (by omega)).mono ?_
            rintro e w7 ⟨rfl, hb7⟩
            have HB7 : Hid (Gr w6 w7) := Lib.hid hb7
            clear hb7
            obtain ⟨c, hc⟩ : ∃ c, cmpI ((y * mid : Nat) : Int) (R' : Int) = c := ⟨_, rfl⟩
            rw [hc]
            have hcm := mid_le (mid := mid) HY0.out HDD.out
            rw [hc] at hcm
            clear hc
            have HG7 : Hid (Gr wq w7) := Lib.hid (Gr.trans HG.out (Gr.trans HB5.out (Gr.trans HB6.out HB7.out)))
            by_cases hle2 : mid ≤ d
            · have hcl : c ≤ 0 := hcm.2 hle2
              clear hcm
              go_wp2_with fail
              go_roundw
              case rel => exact ⟨mid, h, hle2, hh, h9, rfl, rfl, HG7⟩
              case measure => simp [intOf]; omega
            · have hcl : ¬ c ≤ 0 := fun e => hle2 (hcm.1 e)
              clear hcm
              go_wp2_with fail
              go_roundw
              case rel => exact ⟨l, mid - 1, hl, by omega, by omega, rfl, by go_num, HG7⟩
              case measure => simp [intOf]; omega
          · obtain rfl : l = d := by omega
            have HQr := Lib.hid (HQq.out.gr HG.out)
            have hgr : g < wr.heap.size := Nat.lt_of_lt_of_le hgq HG.out.size
            have hfr := HQr.out.frozenAt j
            have hcl := HQr.out.cellAt (i := j) (by omega)
            have hj0 : (0 : Int) ≤ (j : Int) := by omega
            have hj1 : (j : Int) < (p : Int) + 1 := by omega
            have hwu : IntKind.u64.wrap ((l : Nat) : Int) = (l : Int) := by rw [IntKind.wrap_u64]; omega
            go_wp2_with fail
            obtain ⟨ws, HWS⟩ : ∃ ws, Hid (wr.setCell ⟨g, j, none⟩ (.int .i64 ((l : Nat) : Int)) = ws) := ⟨_, Lib.hid rfl⟩
            rw [HWS.out]
            have HBs : Hid (Below w.heap.size w ws) := Lib.hid (by rw [← HWS.out]; exact HBr.out.setCell hgw _)
            have HRs : Hid (Rn ws r1 R') := Lib.hid (by rw [← HWS.out]; exact ((HRq.out.gr HG.out).setBelow (Nat.lt_succ_self g) j _).mono (Nat.zero_le _))
            clear hfr hcl
            refine (rof_any l ws (by omega)).mono ?_
            rintro e w5 ⟨⟨z, rfl, hz⟩, hb5⟩
            have HZ := Lib.hid hz
            have HB5 : Hid (Gr ws w5) := Lib.hid hb5
            clear hz hb5
            go_wp2_with fail
            have htz : tw l ≤ 1 := tw_small (by omega)
            refine (rmul_any _ z y l w5 (HY.out.gr (Gr.trans HBs.out HB5.out)) HZ.out (by rw [HM.out]; omega) (by omega)).mono ?_
            rintro e w6 ⟨⟨z2, rfl, hz⟩, hb6⟩
            have HZ2 := Lib.hid hz
            have HB6 : Hid (Gr w5 w6) := Lib.hid hb6
            clear hz hb6
            go_wp2_with fail
            have htm : tw (y * l) ≤ m + 1 := by
              have := tw_mul y l
              have := HM.out
              omega
            have hmod := Nat.div_add_mod R' y
            rw [HDD.out] at hmod
            refine (rsub_any r1 z2 R' (y * l) w6 (HRs.out.gr (Gr.trans HB5.out HB6.out)) HZ2.out (by omega) (by omega) (by omega)).mono ?_
            rintro e w7 ⟨⟨r2, rfl, hz⟩, hb7⟩
            rw [show R' - y * l = x / tp j % y by rw [← HD2.out]; omega] at hz
            have HNX := Lib.hid (DivAt.next (w := w) hgw HQr.out HBr.out hgr HD1.out.symm (by omega) hz (by rw [HWS.out]; exact Gr.trans HB5.out (Gr.trans HB6.out hb7)))
            clear hz hb7 hmod
            go_wp2_with fail
            go_roundw
            case rel => exact ⟨j, by omega, rfl, HNX⟩
            case measure => simp [intOf]
theorem rdiv_any (v u : Value) (x y : Nat) (w : World) (hx : Rn w v x) (hy : Rn w u y) (h0 : 0 < y) (bx : tw x ≤ 500000000) (by' : tw y ≤ 500000000) :
    Calls Tryz.prog 91 #[v, u] w fun e w' => (∃ q r, e = .returned (.tuple #[q, r]) ∧ Rn w' q (x / y) ∧ Rn w' r (x % y)) ∧ Below w.heap.size w w' := by
  rcases Nat.lt_or_ge x y with h | h
  · exact rdiv_small v u x y w hx hy h (by omega) (by omega)
  · exact rdiv_great v u x y w hx hy h0 h bx by'
end Go.Proofs.YtenpbnmmadbkdaaGreat


/- gussetref01.Gcd. No condition but a bound on lengths. -/
namespace Go.Proofs.YtenpbnmmadbkdaaGreat
open Go.RowKit
set_option linter.unusedSimpArgs false
set_option linter.unusedVariables false
set_option maxRecDepth 20000 in
set_option maxHeartbeats 1000000 in
theorem rgcd_any (v u : Value) (x y : Nat) (w : World) (hx : Rn w v x) (hy : Rn w u y) (bx : tw x ≤ 500000000) (by' : tw y ≤ 500000000) :
    Calls Tryz.prog 90 #[v, u] w fun e w' => (∃ v', e = .returned v' ∧ Rn w' v' (Nat.gcd x y)) ∧ Below w.heap.size w w' := by
  have HX := Lib.hid hx
  have HY := Lib.hid hy
  clear hx hy
  go_enter Tryz.func90, Tryz.ntmps90
  go_wp2_with fail
  go_loopg [0, 1] y (fun k a b wr => ∃ p : Nat, Hid (Nat.gcd p k = Nat.gcd x y) ∧ tw p ≤ 500000000 ∧ tw k ≤ 500000000 ∧ Hid (Rn wr a p) ∧ Hid (Rn wr b k) ∧ Hid (Below w.heap.size w wr))
  case atStart => exact ⟨x, Lib.hid rfl, bx, by', HX, HY, Lib.hid (Below.refl _ _)⟩
  case round =>
    obtain ⟨p, HE, hp, hq, HP, HQ, HB⟩ := hrel
    obtain ⟨ao, ca, rfl, hca, hca2⟩ := HQ.out.slice
    obtain ⟨n, hn⟩ : ∃ n, tw gk = n := ⟨_, rfl⟩
    have HN := Lib.hid hn
    rw [hn] at HQ hq hca ⊢
    clear hn
    by_cases h0 : n = 0
    · subst h0
      have hk0 : gk = 0 := tw_eq_zero.1 HN.out
      have HK := Lib.hid hk0
      clear hk0
      go_wp2
      go_ret
      refine ⟨⟨_, rfl, ?_⟩, HB.out⟩
      have e := HE.out
      rw [HK.out, Nat.gcd_zero_right] at e
      rw [← e]
      exact HP.out
    · have hk0 : 0 < gk := Nat.pos_of_ne_zero (fun e => h0 (by rw [← HN.out, e]; exact tw_zero))
      have HK := Lib.hid hk0
      clear hk0
      go_wp2_with fail
      refine (rdiv_any _ _ p gk wr HP.out HQ.out HK.out hp (by rw [HN.out]; exact hq)).mono ?_
      rintro e w2 ⟨⟨q, r, rfl, hq', hr⟩, hb⟩
      have HR := Lib.hid hr
      have HB2 : Hid (Gr wr w2) := Lib.hid hb
      clear hq' hr hb
      go_wp2_with fail
      go_roundg (p % gk)
      case measure => exact Nat.mod_lt _ HK.out
      case rel =>
        refine ⟨gk, Lib.hid ?_, by rw [HN.out]; exact hq, ?_, Lib.hid (HQ.out.gr HB2.out), HR, Lib.hid (Gr.trans HB.out HB2.out)⟩
        · rw [Nat.gcd_comm, ← Nat.gcd_rec, Nat.gcd_comm]
          exact HE.out
        · exact Nat.le_trans (tw_mono (Nat.le_of_lt (Nat.mod_lt _ HK.out))) (by rw [HN.out]; exact hq)
end Go.Proofs.YtenpbnmmadbkdaaGreat


/- Fractions as Lean's rational numbers: how many words numerator and denominator have. No condition. -/
namespace Go.Proofs.YtenpbnmmadbkdaaGreat

/-- the greater of the numbers of words of numerator and denominator -/
def sz (q : Rat) : Nat := max (wl q.num.natAbs) (wl q.den)
theorem sz_num (q : Rat) : wl q.num.natAbs ≤ sz q := Nat.le_max_left _ _
theorem sz_den (q : Rat) : wl q.den ≤ sz q := Nat.le_max_right _ _
theorem sz_pos (q : Rat) : 1 ≤ sz q := Nat.le_trans (wl_pos q.den_pos) (sz_den q)
theorem sz_of {q : Rat} {k : Nat} (h1 : wl q.num.natAbs ≤ k) (h2 : wl q.den ≤ k) : sz q ≤ k := Nat.max_le.2 ⟨h1, h2⟩
theorem natAbs_div_le (n : Int) (g : Nat) : (n / (g : Int)).natAbs ≤ n.natAbs := Int.natAbs_ediv_le_natAbs n (g : Int)
theorem sz_mkRat {n : Int} {d k : Nat} (h1 : wl n.natAbs ≤ k) (h2 : wl d ≤ k) (h3 : 1 ≤ k) : sz (mkRat n d) ≤ k := by
  refine sz_of ?_ ?_
  · rw [Rat.num_mkRat]
    split
    · exact Nat.zero_le _
    · exact Nat.le_trans (wl_mono (natAbs_div_le _ _)) h1
  · rw [Rat.den_mkRat]
    split
    · exact Nat.le_trans (wl_small (by decide)) h3
    · exact Nat.le_trans (wl_div _ _) h2
theorem sz_add (p q : Rat) : sz (p + q) ≤ sz p + sz q + 1 := by
  rw [Rat.add_def']
  have a := sz_num p
  have b := sz_num q
  have c := sz_den p
  have d := sz_den q
  refine sz_mkRat ?_ (Nat.le_trans (wl_mul _ _) (by omega)) (by omega)
  have h1 := wl_mul p.num.natAbs q.den
  have h2 := wl_mul q.num.natAbs p.den
  have h3 := wl_add (p.num.natAbs * q.den) (q.num.natAbs * p.den)
  refine Nat.le_trans (wl_mono (Int.natAbs_add_le _ _)) ?_
  rw [Int.natAbs_mul, Int.natAbs_mul, Int.natAbs_natCast, Int.natAbs_natCast]
  omega
theorem sz_mul (p q : Rat) : sz (p * q) ≤ sz p + sz q := by
  rw [Rat.mul_def']
  have a := sz_num p
  have b := sz_num q
  have c := sz_den p
  have d := sz_den q
  have e := sz_pos p
  refine sz_mkRat ?_ (Nat.le_trans (wl_mul _ _) (by omega)) (by omega)
  rw [Int.natAbs_mul]
  exact Nat.le_trans (wl_mul _ _) (by omega)
theorem sz_neg (p : Rat) : sz (-p) = sz p := by
  unfold sz
  rw [Rat.neg_num, Rat.neg_den, Int.natAbs_neg]
theorem sz_sub (p q : Rat) : sz (p - q) ≤ sz p + sz q + 1 := by
  rw [Rat.sub_eq_add_neg]
  have := sz_add p (-q)
  rwa [sz_neg] at this
theorem sz_inv (p : Rat) : sz p⁻¹ ≤ sz p := by
  have a := sz_num p
  have c := sz_den p
  have e := sz_pos p
  refine sz_of ?_ ?_
  · rw [Rat.num_inv, Int.natAbs_mul, Int.natAbs_natCast]
    refine Nat.le_trans (wl_mono ?_) c
    rw [Int.natAbs_sign]
    split <;> omega
  · rw [Rat.den_inv]
    split
    · exact Nat.le_trans (wl_small (by decide)) e
    · exact a
theorem sz_div (p q : Rat) : sz (p / q) ≤ sz p + sz q := by
  rw [Rat.div_def]
  have h1 := sz_mul p q⁻¹
  have h2 := sz_inv q
  omega
theorem sz_int (n : Int) : sz (n : Rat) = max (wl n.natAbs) 1 := by
  unfold sz
  rw [Rat.num_intCast, Rat.den_intCast]
  rfl
theorem sz_int64 {n : Int} (h1 : -9223372036854775808 ≤ n) (h2 : n ≤ 9223372036854775807) : sz (n : Rat) ≤ 2 := by
  rw [sz_int]
  have : wl n.natAbs ≤ 2 := wl_le_two.2 (by omega)
  omega

/-- the sign of a number -/
def sgQ (q : Rat) : Int := if q = 0 then 0 else if q < 0 then -1 else 1
theorem num_zero {q : Rat} : q.num = 0 ↔ q = 0 := Rat.num_eq_zero
theorem num_neg {q : Rat} : q.num < 0 ↔ q < 0 := by
  rw [← Int.not_le, Rat.num_nonneg, Rat.not_le]
theorem sgQ_num (q : Rat) : sgQ q = if q.num = 0 then 0 else if q.num < 0 then -1 else 1 := by
  unfold sgQ
  by_cases h : q = 0
  · simp [h]
  · rw [if_neg h, if_neg (fun e => h (num_zero.1 e))]
    by_cases h2 : q < 0
    · rw [if_pos h2, if_pos (num_neg.2 h2)]
    · rw [if_neg h2, if_neg (fun e => h2 (num_neg.1 e))]
theorem sgQ_pos {q : Rat} (h : 0 < q) : sgQ q = 1 := by
  unfold sgQ
  rw [if_neg (fun e => by subst e; exact Rat.lt_irrefl h), if_neg (fun e => Rat.not_lt.2 (Rat.le_of_lt e) h)]
theorem sgQ_neg {q : Rat} (h : q < 0) : sgQ q = -1 := by
  unfold sgQ
  rw [if_neg (fun e => by subst e; exact Rat.lt_irrefl h), if_pos h]
theorem sgQ_zero : sgQ 0 = 0 := rfl

/-- lowest terms -/
theorem low_den (n : Int) (d : Nat) (hd : 0 < d) : d / Nat.gcd n.natAbs d = (mkRat n d).den := by
  rw [Rat.den_mkRat, if_neg (by omega), Nat.gcd_comm]
theorem low_num (n : Int) (d : Nat) (hd : 0 < d) : (if n < 0 then -((n.natAbs / Nat.gcd n.natAbs d : Nat) : Int) else ((n.natAbs / Nat.gcd n.natAbs d : Nat) : Int)) = (mkRat n d).num := by
  have e : (mkRat n d).num = n / ((Nat.gcd n.natAbs d : Nat) : Int) := by rw [Rat.num_mkRat, if_neg (by omega), Nat.gcd_comm]
  rw [e]
  have hg : Nat.gcd n.natAbs d ∣ n.natAbs := Nat.gcd_dvd_left _ _
  generalize Nat.gcd n.natAbs d = g at *
  by_cases h : n < 0
  · rw [if_pos h]
    obtain ⟨m, rfl⟩ : ∃ m : Nat, n = -(m : Int) := ⟨n.natAbs, by omega⟩
    rw [Int.natAbs_neg, Int.natAbs_natCast] at *
    obtain ⟨c, rfl⟩ := hg
    by_cases h0 : g = 0
    · subst h0; simp
    · rw [Nat.mul_div_cancel_left _ (by omega), Int.natCast_mul, ← Int.mul_neg, Int.mul_ediv_cancel_left _ (by omega)]
  · rw [if_neg h]
    obtain ⟨m, rfl⟩ : ∃ m : Nat, n = (m : Int) := ⟨n.natAbs, by omega⟩
    rw [Int.natAbs_natCast, Int.natCast_ediv]

/-- the two fields of a fraction -/
theorem frac_inj {p q : Rat} (h1 : p.num = q.num) (h2 : p.den - 1 = q.den - 1) : p = q := by
  refine Rat.ext h1 ?_
  have := p.den_pos
  have := q.den_pos
  omega
theorem sgQ_mkRat (n : Int) (d : Nat) (hd : 0 < d) : sgQ (mkRat n d) = if n = 0 then 0 else if n < 0 then -1 else 1 := by
  have hd' : (0 : Int) < (d : Int) := by omega
  have h0 : mkRat n d = 0 ↔ n = 0 := Rat.mkRat_eq_zero (by omega)
  have hn : mkRat n d < 0 ↔ n < 0 := by
    rw [← Rat.not_le, ← Int.not_le, ← Rat.divInt_ofNat, Rat.divInt_nonneg_iff_of_pos_right hd']
  unfold sgQ
  simp only [h0, hn]
theorem sgQ_sub (a b : Rat) : (if a.num * b.den - b.num * a.den = 0 then (0 : Int) else if a.num * b.den - b.num * a.den < 0 then -1 else 1) = sgQ (a - b) := by
  rw [Rat.sub_def', sgQ_mkRat _ _ (Nat.mul_pos a.den_pos b.den_pos)]
theorem sgQ_sub_same (a b : Rat) (h : a.den = b.den) : (if a.num - b.num = 0 then (0 : Int) else if a.num - b.num < 0 then -1 else 1) = sgQ (a - b) := by
  rw [← sgQ_sub, h]
  have hp : (0 : Int) < (b.den : Int) := by have := b.den_pos; omega
  have e : a.num * (b.den : Int) - b.num * (b.den : Int) = (a.num - b.num) * (b.den : Int) := by rw [Int.sub_mul]
  rw [e]
  have h1 : (a.num - b.num) * (b.den : Int) = 0 ↔ a.num - b.num = 0 := by
    rw [Int.mul_eq_zero]; constructor
    · rintro (h | h) <;> omega
    · exact fun h => .inl h
  have h2 : (a.num - b.num) * (b.den : Int) < 0 ↔ a.num - b.num < 0 := by
    constructor
    · intro h
      rcases Int.lt_or_le (a.num - b.num) 0 with h3 | h3
      · exact h3
      · have := Int.mul_nonneg h3 (Int.le_of_lt hp); omega
    · intro h; exact Int.mul_neg_of_neg_of_pos h hp
  simp only [h1, h2]
/-- a sum over one denominator -/
theorem add_same (a b : Rat) (h : a.den = b.den) : mkRat (a.num + b.num) a.den = a + b := by
  have hp := a.den_pos
  rw [Rat.add_def', ← h, ← Int.add_mul, Rat.mkRat_mul_right (by omega)]
theorem add_int (a b : Rat) (ha : a.den = 1) (hb : b.den = 1) : ((a.num + b.num : Int) : Rat) = a + b := by
  have e := add_same a b (by rw [ha, hb])
  rw [← e, ha]
  exact (Rat.mkRat_self ((a.num + b.num : Int) : Rat)).symm
theorem mul_int (a b : Rat) (ha : a.den = 1) (hb : b.den = 1) : ((a.num * b.num : Int) : Rat) = a * b := by
  rw [Rat.mul_def', ha, hb]
  exact (Rat.mkRat_self ((a.num * b.num : Int) : Rat)).symm
theorem inv_mk (b : Rat) (h : b.num ≠ 0) : mkRat (if decide (sgQ b < 0) then -((b.den : Nat) : Int) else ((b.den : Nat) : Int)) b.num.natAbs = b⁻¹ := by
  rw [Rat.inv_def]
  have e : (sgQ b < 0) ↔ b.num < 0 := by
    rw [sgQ_num, if_neg h]
    by_cases h2 : b.num < 0 <;> simp [h2]
  by_cases h2 : b.num < 0
  · rw [if_pos (by simpa using e.2 h2), ← Rat.divInt_ofNat, show ((b.num.natAbs : Nat) : Int) = -b.num by omega, Rat.neg_divInt_neg]
  · rw [if_neg (by simpa using fun h3 => h2 (e.1 h3)), ← Rat.divInt_ofNat, show ((b.num.natAbs : Nat) : Int) = b.num by omega]
end Go.Proofs.YtenpbnmmadbkdaaGreat


/- Blocks known whole, and how a region's walk uses them. No condition. -/
namespace Go.Proofs.YtenpbnmmadbkdaaGreat
open Go.RowKit

/-- block b holds the cells cs of type T, and none is frozen -/
def Bx (w : World) (b : Nat) (T : TypeId) (cs : Array Value) : Prop := w.heap[b]? = some (.cells cs T (0, 0))

section
variable {w w' : World} {b : Nat} {T : TypeId} {cs : Array Value}
theorem Bx.lt (h : Bx w b T cs) : b < w.heap.size := (Array.getElem?_eq_some_iff.1 h).1
theorem Bx.gr (h : Bx w b T cs) (hg : Gr w w') : Bx w' b T cs := hg.block h
theorem Bx.below {B : Nat} (h : Bx w b T cs) (hb : Below B w w') (hlt : b < B) : Bx w' b T cs := (hb.block b hlt).trans h
theorem Bx.cells (h : Bx w b T cs) : ∀ w', Gr w w' → ∀ i, w'.cell? ⟨b, i, none⟩ = cs[i]? := fun w' hg i => by
  have := h.gr hg
  unfold Bx at this
  simp [World.cell?, this]
theorem Bx.free (h : Bx w b T cs) : ∀ w', Gr w w' → ∀ i, w'.frozen? ⟨b, i, none⟩ = false := fun w' hg i => by
  have := h.gr hg
  unfold Bx at this
  simp [World.frozen?, this]
theorem Bx.new (w : World) (T : TypeId) (cs : Array Value) : Bx (w.alloc (.cells cs T)) w.heap.size T cs := by
  show (w.heap.push _)[w.heap.size]? = _
  simp
theorem Bx.at (h : w.heap.size = b) : Bx (w.alloc (.cells cs T)) b T cs := by subst h; exact Bx.new _ _ _
theorem Bx.alloc (h : Bx w b T cs) (o : Obj) : Bx (w.alloc o) b T cs := h.gr (Gr.alloc w o)
theorem Bx.set (h : Bx w b T cs) (i : Nat) (v : Value) : Bx (w.setCell ⟨b, i, none⟩ v) b T (cs.setIfInBounds i v) := by
  unfold Bx at *
  simp only [World.setCell, Array.getElem?_modify, if_pos]
  rw [h]
  rfl
theorem Bx.setOther (h : Bx w b T cs) {a : Addr} (ha : b ≠ a.block) (v : Value) : Bx (w.setCell a v) b T cs := (Below.heap_setCell w a v b ha).trans h
theorem Bx.eq {cs' : Array Value} (h : Bx w b T cs) (e : cs = cs') : Bx w b T cs' := e ▸ h
theorem Bx.of_fresh {Z : Nat → Obj} {is : List Nat} {G : Nat → Nat} (h : Fresh Z is G w w') {i : Nat} (hi : i ∈ is) (hz : Z i = .cells cs T) : Bx w' (G i) T cs := by
  have := (h.1 i hi).2
  rw [hz] at this
  exact this
end

/-- the world at hand is forgotten but for what F says of it -/
theorem forgetW {P : Program} {c : Code} {Q : Exit → Act → World → Prop} {a : Act} {W : World} (F : World → Prop) (hF : F W) (h : ∀ w, F w → c.wp P Q a w) : c.wp P Q a W := h W hF

theorem forgetB {P : Program} {f : Func} {R : Ending → World → Prop} {e : Exit} {a : Act} {W : World} (F : World → Prop) (hF : F W) (h : ∀ w, F w → bodyPost P f R e a w) : bodyPost P f R e a W := h W hF

/-- what follows a piece of code behind a variable -/
theorem wp_last_k {P : Program} {x : Code} {Q : Exit → Act → World → Prop} {a : Act} {w : World} (h : ∀ K : Act → World → Prop, (∀ a w, Q .normal a w → K a w) → x.wp P (Exit.then K Q) a w) : x.wp P Q a w :=
  wp_mono (h _ (fun _ _ h => h)) (fun e _ _ h => by cases e <;> exact h)
end Go.Proofs.YtenpbnmmadbkdaaGreat


/- Regions that draw their order, walked once along a plan: quiet operations are taken, an operation that alone may come up is carried out, new variables come last. Condition: the Bool 'planB' of the region's own edges. -/
namespace Go.Proofs.YtenpbnmmadbkdaaGreat
open Go.RowKit

section
variable {P : Program} {ops : Array Oper} {md : Region.Mode}

def wpPlan (P : Program) (ops : Array Oper) (T : Act → World → Prop) : List (Bool × Nat) → Act → World → Prop
  | [], a, w => T a w
  | (true, i) :: r, a, w => ∃ o v, ops[i]? = some o ∧ Yg P ops w o v a ∧ wpPlan P ops T r (a.put o.dst v) w
  | (false, i) :: r, a, w => ∀ w', Gr w w' → hOp P ops i (wpPlan P ops T r) a w'
theorem wpPlan_nil {T : Act → World → Prop} {a : Act} {w : World} (h : T a w) : wpPlan P ops T [] a w := h
theorem wpPlan_take {T : Act → World → Prop} {a : Act} {w : World} {i : Nat} {o : Oper} {r : List (Bool × Nat)} {v : Value} (ho : ops[i]? = some o) (h1 : Region.wanted o (yielded ops a.tmps) = true)
    (h2 : ∀ w', Gr w w' → o.quietAt P a (Gr w') w' v) (h3 : wpPlan P ops T r (a.put o.dst v) w) : wpPlan P ops T ((true, i) :: r) a w := ⟨o, v, ho, .inl ⟨h1, h2⟩, h3⟩
theorem wpPlan_skip {T : Act → World → Prop} {a : Act} {w : World} {i : Nat} {o : Oper} {r : List (Bool × Nat)} (ho : ops[i]? = some o) (h1 : Region.wanted o (yielded ops a.tmps) = false)
    (h3 : wpPlan P ops T r (a.put o.dst undef) w) : wpPlan P ops T ((true, i) :: r) a w := ⟨o, undef, ho, .inr ⟨h1, rfl⟩, h3⟩
/-- an operation carried out: it makes memory and hands back v -/
theorem wpPlan_force {T : Act → World → Prop} {a : Act} {w : World} {i : Nat} {o : Oper} {r : List (Bool × Nat)} (ho : ops[i]? = some o) (h1 : Region.wanted o (yielded ops a.tmps) = true)
    (h2 : ∀ w', Gr w w' → ∃ v w'', (execOp a.eval o).run P w' = .ok (.value v) w'' ∧ Gr w' w'' ∧ wpPlan P ops T r (a.put o.dst v) w'') : wpPlan P ops T ((false, i) :: r) a w := fun w' hw => by
  obtain ⟨v, w'', hr, hg, hK⟩ := h2 w' hw
  refine ⟨o, ho, ?_⟩
  rw [if_pos h1, hr]
  exact ⟨hg, hK⟩
theorem wpPlan_drop {T : Act → World → Prop} {a : Act} {w : World} {i : Nat} {o : Oper} {r : List (Bool × Nat)} (ho : ops[i]? = some o) (h1 : Region.wanted o (yielded ops a.tmps) = false)
    (h3 : ∀ w', Gr w w' → wpPlan P ops T r (a.put o.dst undef) w') : wpPlan P ops T ((false, i) :: r) a w := fun w' hw => by
  refine ⟨o, ho, ?_⟩
  rw [if_neg (by rw [h1]; decide)]
  exact h3 w' hw

/-- a call of a named function, by its contract -/
theorem wpPlan_call {T : Act → World → Prop} {a : Act} {w : World} {i : Nat} {r : List (Bool × Nat)} {v : Value} {f ty : Nat} {xs : Array Operand} {ats : Array TypeId} {pos : String} {af : Array Edge} {g : Option (Nat × Bool)} {d : Option Tmp} {args : Array Value}
    (ho : ops[i]? = some { dst := d, op := .call { callee := .value (.func f), args := xs, argTypes := ats }, type := ty, pos := pos, after := af, guard := g })
    (h1 : Region.wanted { dst := d, op := .call { callee := .value (.func f), args := xs, argTypes := ats }, type := ty, pos := pos, after := af, guard := g } (yielded ops a.tmps) = true)
    (hr : ∀ args w, (callFunc f args).run P w = .ok (.enter f args) w)
    (h2 : ∀ w', Gr w w' → Calls P f args w' fun e w'' => e = .returned v ∧ Below w'.heap.size w' w'') (ha : (xs.toList.map a.eval).toArray = args)
    (h3 : wpPlan P ops T r (a.put d v) w) : wpPlan P ops T ((true, i) :: r) a w := by
  refine ⟨_, v, ho, .inl ⟨h1, fun w' hw => ?_⟩, h3⟩
  unfold Oper.quietAt
  have e : (#[] ++ xs.map a.eval ++ #[] : Array Value) = args := by rw [← ha]; cases xs; simp
  rw [execOp_call_go, hr, e]
  exact ⟨rfl, h2 w' hw⟩

/-- the same where the operations are written out -/
theorem wpPlan_takeL {l : List Oper} {T : Act → World → Prop} {a : Act} {w : World} {i : Nat} {o : Oper} {r : List (Bool × Nat)} {v : Value} (ho : l[i]? = some o) (h1 : Region.wanted o (yielded l.toArray a.tmps) = true)
    (h2 : ∀ w', Gr w w' → o.quietAt P a (Gr w') w' v) (h3 : wpPlan P l.toArray T r (a.put o.dst v) w) : wpPlan P l.toArray T ((true, i) :: r) a w := wpPlan_take (by rw [List.getElem?_toArray]; exact ho) h1 h2 h3
theorem wpPlan_skipL {l : List Oper} {T : Act → World → Prop} {a : Act} {w : World} {i : Nat} {o : Oper} {r : List (Bool × Nat)} (ho : l[i]? = some o) (h1 : Region.wanted o (yielded l.toArray a.tmps) = false)
    (h3 : wpPlan P l.toArray T r (a.put o.dst undef) w) : wpPlan P l.toArray T ((true, i) :: r) a w := wpPlan_skip (by rw [List.getElem?_toArray]; exact ho) h1 h3
theorem wpPlan_callL {l : List Oper} {T : Act → World → Prop} {a : Act} {w : World} {i : Nat} {r : List (Bool × Nat)} {v : Value} {f ty : Nat} {xs : Array Operand} {ats : Array TypeId} {pos : String} {af : Array Edge} {g : Option (Nat × Bool)} {d : Option Tmp} {args : Array Value}
    (ho : l[i]? = some { dst := d, op := .call { callee := .value (.func f), args := xs, argTypes := ats }, type := ty, pos := pos, after := af, guard := g })
    (h1 : Region.wanted { dst := d, op := .call { callee := .value (.func f), args := xs, argTypes := ats }, type := ty, pos := pos, after := af, guard := g } (yielded l.toArray a.tmps) = true)
    (hr : ∀ args w, (callFunc f args).run P w = .ok (.enter f args) w)
    (h2 : ∀ w', Gr w w' → Calls P f args w' fun e w'' => e = .returned v ∧ Below w'.heap.size w' w'') (ha : (xs.toList.map a.eval).toArray = args)
    (h3 : wpPlan P l.toArray T r (a.put d v) w) : wpPlan P l.toArray T ((true, i) :: r) a w := wpPlan_call (by rw [List.getElem?_toArray]; exact ho) h1 hr h2 ha h3

/-- a call whose result is told by a fact alone: carried out when nothing else is ready -/
theorem wpPlan_callE {l : List Oper} {T : Act → World → Prop} {a : Act} {w : World} {i : Nat} {r : List (Bool × Nat)} {f ty : Nat} {xs : Array Operand} {ats : Array TypeId} {pos : String} {af : Array Edge} {g : Option (Nat × Bool)} {d : Option Tmp} {args : Array Value}
    (ho : l[i]? = some { dst := d, op := .call { callee := .value (.func f), args := xs, argTypes := ats }, type := ty, pos := pos, after := af, guard := g })
    (h1 : Region.wanted { dst := d, op := .call { callee := .value (.func f), args := xs, argTypes := ats }, type := ty, pos := pos, after := af, guard := g } (yielded l.toArray a.tmps) = true)
    (hr : ∀ args w, (callFunc f args).run P w = .ok (.enter f args) w) (ha : (xs.toList.map a.eval).toArray = args)
    (h2 : ∀ w', Gr w w' → Calls P f args w' fun e w'' => ∃ v, e = .returned v ∧ Gr w' w'' ∧ wpPlan P l.toArray T r (a.put d v) w'') : wpPlan P l.toArray T ((false, i) :: r) a w := fun w' hw => by
  refine ⟨_, by rw [List.getElem?_toArray]; exact ho, ?_⟩
  rw [if_pos h1]
  have e : (#[] ++ xs.map a.eval ++ #[] : Array Value) = args := by rw [← ha]; cases xs; simp
  rw [execOp_call_go, hr, e]
  exact ⟨rfl, h2 w' hw⟩

/-- a call of a function value -/
theorem wpPlan_callV {l : List Oper} {T : Act → World → Prop} {a : Act} {w : World} {i : Nat} {r : List (Bool × Nat)} {v : Value} {t f ty : Nat} {xs : Array Operand} {ats : Array TypeId} {pos : String} {af : Array Edge} {g : Option (Nat × Bool)} {d : Option Tmp} {args : Array Value} {first cap : Array Value}
    (ho : l[i]? = some { dst := d, op := .call { callee := .value (.tmp t), args := xs, argTypes := ats }, type := ty, pos := pos, after := af, guard := g })
    (h1 : Region.wanted { dst := d, op := .call { callee := .value (.tmp t), args := xs, argTypes := ats }, type := ty, pos := pos, after := af, guard := g } (yielded l.toArray a.tmps) = true)
    (hv : a.eval (.tmp t) = .func (.func f) first cap) (hr : ∀ args w, (callFunc f args).run P w = .ok (.enter f args) w)
    (h2 : ∀ w', Gr w w' → Calls P f args w' fun e w'' => e = .returned v ∧ Below w'.heap.size w' w'') (ha : (first.toList ++ xs.toList.map a.eval ++ cap.toList).toArray = args)
    (h3 : wpPlan P l.toArray T r (a.put d v) w) : wpPlan P l.toArray T ((true, i) :: r) a w := by
  refine ⟨_, v, (by rw [List.getElem?_toArray]; exact ho), .inl ⟨h1, fun w' hw => ?_⟩, h3⟩
  unfold Oper.quietAt
  have e : (execOp a.eval { dst := d, op := .call { callee := .value (.tmp t), args := xs, argTypes := ats }, type := ty, pos := pos, after := af, guard := g }) = callFunc f (first ++ xs.map a.eval ++ cap) := by
    simp only [execOp, resolve, hv, Deferred.ofValue]
    rfl
  have e2 : (first ++ xs.map a.eval ++ cap : Array Value) = args := by rw [← ha]; cases xs; cases first; cases cap; simp
  rw [e, hr, e2]
  exact ⟨rfl, h2 w' hw⟩

/-- a slice literal -/
theorem wpPlan_slice {l : List Oper} {T : Act → World → Prop} {a : Act} {w : World} {i : Nat} {o : Oper} {r : List (Bool × Nat)} {n : Nat} {cs : Array Value} {E : TypeId} (ho : l[i]? = some o) (h1 : Region.wanted o (yielded l.toArray a.tmps) = true)
    (hrun : ∀ w', Gr w w' → (execOp a.eval o).run P w' = .ok (.value (.slice (some ⟨w'.heap.size, 0, none⟩) n n)) (w'.alloc (.cells cs E)))
    (h : ∀ g w1, Gr w w1 → w.heap.size ≤ g → Bx w1 g E cs → wpPlan P l.toArray T r (a.put o.dst (.slice (some ⟨g, 0, none⟩) n n)) w1) : wpPlan P l.toArray T ((false, i) :: r) a w := fun w' hw => by
  refine ⟨o, by rw [List.getElem?_toArray]; exact ho, ?_⟩
  rw [if_pos h1, hrun w' hw]
  exact ⟨Gr.alloc _ _, h _ _ (hw.trans (Gr.alloc _ _)) hw.size (Bx.new _ _ _)⟩

def planB (md : Region.Mode) (ops : Array Oper) (n : Nat) : List (Bool × Nat) → Array Bool → Bool
  | [], listed => decide (listed = canon n ops.size)
  | (true, i) :: r, listed => decide (i < n) && ((Region.ready md ops listed).contains i && (Region.free md ops listed i && planB md ops n r (listed.setIfInBounds i true)))
  | (false, i) :: r, listed => decide (i < n) && (decide (Region.ready md ops listed = [i]) && planB md ops n r (listed.setIfInBounds i true))

theorem wpGL_plan {n : Nat} {T : Act → World → Prop} (hsel : Region.noSelect ops = true)
    (hT : ∀ a w w', Gr w w' → T a w → T a w') (hdone : ∀ j ∈ Region.ready md ops (canon n ops.size), n ≤ j) :
    ∀ (plan : List (Bool × Nat)) (listed : Array Bool) (a : Act) (w : World), HeadInv md ops n listed → planB md ops n plan listed = true → wpPlan P ops T plan a w →
      wpGL P md ops n (fun listed a w => listed = canon n ops.size ∧ T a w) plan.length listed a w
  | [], listed, a, w, _, hB, h => ⟨by simpa [planB] using hB, h⟩
  | (true, i) :: r, listed, a, w, inv, hB, h => by
    simp only [planB, Bool.and_eq_true, decide_eq_true_eq] at hB
    obtain ⟨hin, hr, hf, hB'⟩ := hB
    obtain ⟨o, v, ho, hy, hK⟩ := h
    have hr' : i ∈ Region.ready md ops listed := by simpa using hr
    exact wpGL_first ho (Region.noSelect_spec hsel) hin (fun _ _ _ _ hg h => ⟨h.1, hT _ _ _ hg h.2⟩) (fun listed a w h j hj => by rw [h.1] at hj; exact hdone j hj)
      r.length listed a w (Gr.refl w) (Region.free_spec ho hf) hr' hy (wpGL_plan hsel hT hdone r _ _ _ (inv.set hr' hin) hB' hK)
  | (false, i) :: r, listed, a, w, inv, hB, h => by
    simp only [planB, Bool.and_eq_true, decide_eq_true_eq] at hB
    obtain ⟨hin, hr, hB'⟩ := hB
    have hr' : i ∈ Region.ready md ops listed := by rw [hr]; simp
    refine ⟨⟨i, hr', hin⟩, fun j hj _ w' hw' => ?_⟩
    obtain rfl : j = i := by rw [hr] at hj; simpa using hj
    exact hOp_mono (fun a2 w2 _ h2 => wpGL_plan hsel hT hdone r _ _ _ (inv.set hr' hin) hB' h2) (h w' hw')

/-! ### new variables come at whatever time -/
/-- E changes the frame in slots that no other operation of the head looks at. -/
def Com (ops : Array Oper) (n : Nat) (is : List Nat) (E : Act → Act) : Prop :=
  ∀ i o, i < n → ops[i]? = some o → i ∉ is → ∀ a, execOp (E a).eval o = execOp a.eval o ∧ Region.wanted o (yielded ops (E a).tmps) = Region.wanted o (yielded ops a.tmps) ∧ ∀ v, (E a).put o.dst v = E (a.put o.dst v)

theorem Com.hOp {n : Nat} {is : List Nat} {E : Act → Act} (hE : Com ops n is E) {i : Nat} (hi : i < n) (his : i ∉ is) {K : Act → World → Prop} {a : Act} {w : World} (h : hOp P ops i K a w) :
    hOp P ops i (fun a' w' => ∃ a2, a' = E a2 ∧ K a2 w') (E a) w := by
  obtain ⟨o, ho, h⟩ := h
  obtain ⟨e1, e2, e3⟩ := hE i o hi ho his a
  refine ⟨o, ho, ?_⟩
  rw [e1, e2]
  split
  · rename_i hw
    rw [if_pos hw] at h
    generalize (execOp a.eval o).run P w = r at *
    cases r with
    | ok n w' =>
      cases n <;> simp only [hUpon] at h ⊢
      case value u => exact ⟨h.1, _, e3 _, h.2⟩
      case skip => exact ⟨h.1, _, e3 _, h.2⟩
      case enter f args =>
        obtain ⟨e, hc⟩ := h
        exact ⟨e, hc.mono fun e w'' ⟨v, g1, g2, g3⟩ => ⟨v, g1, g2, _, e3 _, g3⟩⟩
    | halt x w' => exact h.elim
  · rename_i hw
    rw [if_neg hw] at h
    exact ⟨_, e3 _, h⟩

/-- the Bool: the new variables' slots are apart from the other operations of the head -/
def apartB (ops : Array Oper) (n : Nat) (is : List Nat) : Bool :=
  is.all fun i => (List.range n).all fun j => is.contains j || match ops[i]?, ops[j]? with | some oi, some oj => oi.apart ops oj | _, _ => false

theorem Com.put {n : Nat} {is : List Nat} {E : Act → Act} (hE : Com ops n is E) (hsel : Region.noSelect ops = true) (hB : apartB ops n is = true) {i : Nat} (hi : i ∈ is) {o : Oper} (ho : ops[i]? = some o) (v : Value) :
    Com ops n is fun a => (E a).put o.dst v := fun j oj hj hoj hjs a => by
  have h1 := List.all_eq_true.1 (List.all_eq_true.1 hB i hi) j (List.mem_range.2 hj)
  simp only [ho, hoj, Bool.or_eq_true, List.contains_eq_mem, decide_eq_true_eq] at h1
  have hap := h1.resolve_left hjs
  obtain ⟨a1, a2, a3⟩ := Oper.apart_spec hap
  obtain ⟨e1, e2, e3⟩ := hE j oj hj hoj hjs a
  refine ⟨?_, ?_, fun u => ?_⟩
  · show execOp ((E a).put o.dst v).eval oj = _
    rw [execOp_put oj (fun cs b => Region.noSelect_spec hsel j oj cs b hoj) (E a) o.dst v a1, e1]
  · show Region.wanted oj (yielded ops ((E a).put o.dst v).tmps) = _
    rw [wanted_put oj (E a) o.dst v a1, e2]
  · show ((E a).put o.dst v).put oj.dst u = (E (a.put oj.dst u)).put o.dst v
    rw [Act.put_comm (E a) v u a2, e3]

theorem wpGL_bg {n : Nat} {is : List Nat} {D : Nat → Tmp} {Z : Nat → Obj} {L T : Act → World → Prop} (hsel : Region.noSelect ops = true) (hn : n < ops.size)
    (hap : apartB ops n is = true) (hdone : ∀ j ∈ Region.ready md ops (canon n ops.size), n ≤ j) (hnd : is.Nodup) (hD : ∀ j ∈ is, ∀ k ∈ is, D j = D k → j = k) (hA : ∀ i ∈ is, i < n ∧ AllocAt P md ops D Z i) :
    ∀ (N f : Nat) (pend : List Nat) (listed listedP : Array Bool) (E : Act → Act) (a : Act) (w wR : World), f + pend.length = N → pend.Nodup → (∀ i ∈ pend, i ∈ is) → HeadInv md ops n listed → HeadInv md ops n listedP →
      (∀ j, j ∉ pend → listed.getD j true = listedP.getD j true) → (∀ j, listed.getD j false = true → listedP.getD j false = true) → (∀ j ∈ pend, listed.getD j true = false) → (∀ j ∈ is, listedP.getD j true = true) → Com ops n is E → Gr w wR →
      wpGL P md ops n (fun listed a w => listed = canon n ops.size ∧ L a w) f listedP a w →
      (∀ a2 w2, Gr w w2 → L a2 w2 → ∀ G w', Gr w2 w' → Gr wR w' → Fresh Z pend G wR w' → T (puts D G pend (E a2)) w') →
      wpGL P md ops n (fun listed a w => listed = canon n ops.size ∧ T a w) N listed (E a) wR
  | 0, f, pend, listed, listedP, E, a, w, wR, hN, _, _, inv, invP, hl, _, _, _, _, hg, hrun, H => by
    obtain rfl : f = 0 := by omega
    obtain rfl : pend = [] := List.length_eq_zero_iff.1 (by omega)
    obtain ⟨h1, h2⟩ := hrun
    refine ⟨?_, H a w (Gr.refl _) h2 (fun _ => 0) wR hg (Gr.refl _) ⟨fun i hi => (by cases hi), fun i hi => (by cases hi)⟩⟩
    refine eq_canon inv fun i hi => ?_
    rw [hl i (by simp), h1]
    have h3 : i < ops.size := by omega
    simp [canon, h3, hi]
  | N + 1, f, pend, listed, listedP, E, a, w, wR, hN, hpn, hps, inv, invP, hl, hll, hpu, hpl, hE, hg, hrun, H => by
    have hrdA : ∀ i ∈ pend, i ∈ Region.ready md ops listed := fun i hi => by
      obtain ⟨hin, o, ho, _, _, haf, _⟩ := hA i (hps i hi)
      exact mem_ready.2 ⟨hpu i hi, o, ho, fun e he hb => by rw [haf e he] at hb; cases hb⟩
    have hrdP : ∀ i ∈ Region.ready md ops listed, i ∉ pend → i ∈ Region.ready md ops listedP := fun i hi hip => by
      obtain ⟨h0, o, ho, hall⟩ := mem_ready.1 hi
      exact mem_ready.2 ⟨by rw [← hl i hip]; exact h0, o, ho, fun e he hb => hll _ (hall e he hb)⟩
    refine ⟨?_, fun i hi hin w' hw' => ?_⟩
    · cases pend with
      | cons p ps => exact ⟨p, hrdA p (by simp), (hA p (hps p (by simp))).1⟩
      | nil =>
        cases f with
        | zero => simp at hN
        | succ f =>
          obtain ⟨⟨k, hk, hkn⟩, _⟩ := hrun
          have e : listed = listedP := by
            refine Array.ext (by rw [inv.size, invP.size]) fun j h1 h2 => ?_
            have := hl j (by simp)
            simpa [h1, h2] using this
          exact ⟨k, by rw [e]; exact hk, hkn⟩
    · by_cases hip : i ∈ pend
      · obtain ⟨_, o, ho, hd, hgd, haf, hrn⟩ := hA i (hps i hip)
        refine ⟨o, ho, ?_⟩
        have hwd : Region.wanted o (yielded ops (E a).tmps) = true := by unfold Region.wanted; rw [hgd]
        rw [if_pos hwd, hrn]
        refine ⟨Gr.alloc _ _, ?_⟩
        have hsub : ∀ j, j ∈ pend.erase i → j ∈ pend := fun j hj => List.mem_of_mem_erase hj
        have hiL : i < listed.size := by rw [inv.size]; exact Nat.lt_trans (hA i (hps i hip)).1 hn
        refine wpGL_bg hsel hn hap hdone hnd hD hA N f (pend.erase i) _ listedP (fun a => (E a).put o.dst _) a w _ (by rw [List.length_erase_of_mem hip]; have := List.length_pos_of_mem hip; omega) (hpn.erase i) (fun j hj => hps j (hsub j hj)) (inv.set hi hin) invP
          (fun j hj => ?_) (fun j hj => ?_) (fun j hj => ?_) hpl (hE.put hsel hap (hps i hip) ho _) ((hg.trans hw').trans (Gr.alloc _ _)) hrun ?_
        · by_cases e : i = j
          · subst e
            rw [hpl i (hps i hip)]
            simp [hiL]
          · rw [getD_set_ne true e]
            exact hl j (fun h => hj ((hpn.mem_erase_iff).2 ⟨fun h' => e h'.symm, h⟩))
        · by_cases e : i = j
          · subst e
            have h1 := hpl i (hps i hip)
            have h2 : i < listedP.size := by rw [invP.size]; exact Nat.lt_trans (hA i (hps i hip)).1 hn
            simp [h2] at h1 ⊢
            exact h1
          · rw [getD_set_ne false e] at hj
            exact hll j hj
        · have h1 := (hpn.mem_erase_iff).1 hj
          rw [getD_set_ne true (fun e => h1.1 e.symm)]
          exact hpu j h1.2
        · intro a2 w2 hw2 hL G w3 hg3 hgR hf
          have hb : w3.heap[w'.heap.size]? = some (Z i) := hgR.block (by show (w'.heap.push (Z i))[w'.heap.size]? = _; simp)
          have hsz : ∀ j ∈ pend.erase i, w'.heap.size < G j := fun j hj => by
            have := (hf.1 j hj).1
            have e : (w'.alloc (Z i)).heap.size = w'.heap.size + 1 := by simp
            omega
          have hne : ∀ j ∈ pend.erase i, j ≠ i := fun j hj => ((hpn.mem_erase_iff).1 hj).1
          have hmem : ∀ j ∈ pend, j ≠ i → j ∈ pend.erase i := fun j hj hne => (hpn.mem_erase_iff).2 ⟨hne, hj⟩
          have h1 := H a2 w2 hw2 hL (fun j => if j = i then w'.heap.size else G j) w3 hg3 (hw'.trans ((Gr.alloc _ _).trans hgR)) ⟨fun j hj => ?_, fun j hj k hk e => ?_⟩
          · rw [puts_erase pend _ hip hpn (fun j hj k hk => hD j (hps j hj) k (hps k hk))] at h1
            rw [puts_congr (G' := G) (pend.erase i) _ (fun j hj => if_neg (hne j hj))] at h1
            rw [hd]
            simpa using h1
          · show wR.heap.size ≤ (if j = i then w'.heap.size else G j) ∧ w3.heap[(if j = i then w'.heap.size else G j)]? = some (Z j)
            by_cases e : j = i
            · subst e; rw [if_pos rfl]; exact ⟨hw'.size, hb⟩
            · rw [if_neg e]
              have h3 := hw'.size
              have h2 := hsz j (hmem j hj e)
              exact ⟨by omega, (hf.1 j (hmem j hj e)).2⟩
          · replace e : (if j = i then w'.heap.size else G j) = (if k = i then w'.heap.size else G k) := e
            by_cases ej : j = i <;> by_cases ek : k = i
            · rw [ej, ek]
            · rw [if_pos ej, if_neg ek] at e
              have := hsz k (hmem k hk ek)
              omega
            · rw [if_neg ej, if_pos ek] at e
              have := hsz j (hmem j hj ej)
              omega
            · rw [if_neg ej, if_neg ek] at e
              exact hf.2 j (hmem j hj ej) k (hmem k hk ek) e
      · have hiP := hrdP i hi hip
        have his : i ∉ is := fun h => by
          have h1 := hpl i h
          rw [(mem_ready.1 hiP).1] at h1
          cases h1
        cases f with
        | zero =>
          rw [hrun.1] at hiP
          have := hdone i hiP
          omega
        | succ f =>
          have h1 := hrun.2 i hiP hin w' (hg.trans hw')
          refine hOp_mono (fun a' w2 hw2 h3 => ?_) (hE.hOp hin his h1)
          obtain ⟨a2, rfl, hK⟩ := h3
          refine wpGL_bg hsel hn hap hdone hnd hD hA N f pend _ _ E a2 w2 w2 (by omega) hpn hps (inv.set hi hin) (invP.set hiP hin) (fun j hj => ?_) (fun j hj => ?_) (fun j hj => ?_) (fun j hj => ?_) hE (Gr.refl _) hK
            (fun a3 w3 hw3 hL G w4 hg4 hgR hf => H a3 w3 ((hg.trans hw').trans (hw2.trans hw3)) hL G w4 hg4 ((hw'.trans hw2).trans hgR) ⟨fun k hk => ⟨Nat.le_trans (hw'.trans hw2).size (hf.1 k hk).1, (hf.1 k hk).2⟩, hf.2⟩)
          · by_cases e : i = j
            · subst e
              have hiL : i < listed.size := by rw [inv.size]; exact Nat.lt_trans hin hn
              have hiL2 : i < listedP.size := by rw [invP.size]; exact Nat.lt_trans hin hn
              simp [hiL, hiL2]
            · rw [getD_set_ne true e, getD_set_ne true e]; exact hl j hj
          · by_cases e : i = j
            · subst e
              have hiL2 : i < listedP.size := by rw [invP.size]; exact Nat.lt_trans hin hn
              simp [hiL2]
            · rw [getD_set_ne false e] at hj ⊢
              exact hll j hj
          · rw [getD_set_ne true (fun e => hip (by rw [e]; exact hj))]
            exact hpu j hj
          · rw [getD_set_ne true (fun e => his (by rw [e]; exact hj))]
            exact hpl j hj

/-- the new variables marked as if they had come up -/
def marked (is : List Nat) (s : Nat) : Array Bool := Array.ofFn (n := s) fun i => is.contains i.val
def regionB (md : Region.Mode) (ops : Array Oper) (D : Nat → Tmp) (n : Nat) (is X : List Nat) (plan : List (Bool × Nat)) : Bool :=
  Region.noSelect ops && (decide (n < ops.size ∧ plan.length + is.length = n) && ((headInB md ops n X && (looseB md ops n X && !X.contains n)) && (Region.chainB md ops n && (apartB ops n is && (planB md ops n plan (marked is ops.size) && (Region.seqB md ops (ops.size - n) n (canon n ops.size) &&
    (decide is.Nodup && (is.all (fun i => decide (i < n) && (is.all fun j => decide (D i = D j → i = j)) && ((ops[i]?).map fun o => o.after.isEmpty).getD false)))))))))

theorem pure_extract {d : Option Tmp} {x : Operand} {i ty : Nat} {pos : String} {af : Array Edge} {g : Option (Nat × Bool)} : PureOp P { dst := d, op := .extract x i, type := ty, pos := pos, after := af, guard := g } := fun ρ => by
  simp only [execOp]
  cases h : ρ x with
  | tuple vs =>
    cases h2 : vs[i]? with
    | some v => exact .inl ⟨v, fun w => by simp [Instr.extract, h2, go_sem]⟩
    | none => exact .inr fun w => by simp [Instr.extract, h2, go_sem, stuck]
  | _ => exact .inr fun w => by simp [Instr.extract, go_sem, stuck]

theorem wp_region_plan {id : Nat} {Q : Exit → Act → World → Prop} {a : Act} {w : World} {l : List Oper} (n : Nat) (is X : List Nat) (D : Nat → Tmp) (Z : Nat → Obj) (plan : List (Bool × Nat)) (hm : P.follows .mixedOrders = true)
    (hB : regionB .any l.toArray D n is X plan = true) (hA : ∀ i ∈ is, AllocAt P .any l.toArray D Z i) (hX : ∀ x ∈ X, ∃ o, l.toArray[x]? = some o ∧ PureOp P o) (hp : ∀ c a d v w, Q (.panic c) (a.put (some d) v) w → Q (.panic c) a w)
    (h : ∀ T : Act → World → Prop, Hid (∀ a' w', (∀ G w2, Gr w' w2 → Fresh Z is G w w2 → wpList P l.toArray Q (l.drop n) (puts D G is a') w2) → T a' w') → wpPlan P l.toArray T plan a w) : (Code.region id l.toArray true).wp P Q a w := by
  simp only [regionB, Bool.and_eq_true, decide_eq_true_eq, List.all_eq_true] at hB
  obtain ⟨hsel, ⟨hn, hcount⟩, ⟨hs, hlo, hnX⟩, hc, hap, hpl, hseq, hnd, hal⟩ := hB
  have hn' : n < l.length := by simpa using hn
  have hdl : (l.drop n).length = l.toArray.size - n := by simp
  have hdone : ∀ j ∈ Region.ready .any l.toArray (canon n l.toArray.size), n ≤ j := fun j hj => seqB_ready hseq j hj
  have inv0 : HeadInv .any l.toArray n (Array.replicate l.toArray.size false) :=
    ⟨by simp, fun j oj _ hl => (by rw [getD_replicate_false] at hl; cases hl), fun t _ ht => getD_in (by simpa using ht) (getD_replicate_false _ _)⟩
  have hmk : ∀ j d, (marked is l.toArray.size).getD j d = if j < l.toArray.size then is.contains j else d := fun j d => by
    by_cases h : j < l.toArray.size
    · rw [if_pos h, Array.getD_eq_getD_getElem?, Array.getElem?_eq_getElem (by simpa [marked] using h)]
      simp [marked]
    · rw [if_neg h, Array.getD_eq_getD_getElem?, Array.getElem?_eq_none (by simpa [marked] using h)]
      rfl
  have inv1 : HeadInv .any l.toArray n (marked is l.toArray.size) := by
    refine ⟨by simp [marked], fun j oj hj hl e he hb => ?_, fun t ht ht' => ?_⟩
    · rw [hmk] at hl
      split at hl
      · have hjs : j ∈ is := by simpa using hl
        have h3 := (hal j hjs).2
        rw [hj] at h3
        simp only [Option.map_some, Option.getD_some] at h3
        have : oj.after = #[] := by simpa using h3
        rw [this] at he
        simp at he
      · cases hl
    · rw [hmk, if_pos ht']
      cases hh : is.contains t
      · rfl
      · have := ((hal t (by simpa using hh)).1).1
        omega
  refine wp_region_any hm ?_
  have H1 := wpGL_plan (P := P) (md := .any) (n := n) (T := fun a' w' => ∀ G w2, Gr w' w2 → Fresh Z is G w w2 → wpList P l.toArray Q (l.drop n) (puts D G is a') w2) hsel
    (fun a' w1 w2 hg h G w3 hw3 hf => h G w3 (hg.trans hw3) hf) hdone plan _ a w inv1 hpl (h _ (fun _ _ h => h))
  have H2 := wpGL_bg (P := P) (md := .any) (n := n) (is := is) (D := D) (Z := Z) (T := fun a' w' => ∀ w2, Gr w' w2 → wpList P l.toArray Q (l.drop n) a' w2) hsel hn hap hdone hnd
    (fun j hj k hk => by have := (hal j hj).1.2 k hk; simpa using this) (fun i hi => ⟨by simpa using (hal i hi).1.1, hA i hi⟩)
    (plan.length + is.length) plan.length is (Array.replicate l.toArray.size false) (marked is l.toArray.size) (fun a => a) a w w.drew rfl hnd (fun _ h => h) inv0 inv1
    (fun j hj => ?_) (fun j hj => (by rw [getD_replicate_false] at hj; cases hj)) (fun j hj => ?_) (fun j hj => ?_) (fun _ _ _ _ _ _ => ⟨rfl, rfl, fun _ => rfl⟩) (Gr.drew w) H1
    (fun a2 w2 hw2 hL G w' hg2 hgR hf w3 hw3 => hL G w3 (hg2.trans hw3) ⟨fun i hi => ⟨(hf.1 i hi).1, hw3.block (hf.1 i hi).2⟩, hf.2⟩)
  · have h2 := wpAny_of_GL (X := X) (Q := Q) (g := l.toArray.size - n) hsel hs hlo hc hn (by simpa using hnX) hX (fun listed a w _ hL => by
      have h3 := wpAny_of_seq (md := .any) (Q' := Q) (l.drop n) n listed a w (fun j => by simp [List.getElem?_drop]) (by rw [hdl, hL.1]; exact hseq) (hL.2 w (Gr.refl _))
      rwa [hdl] at h3) hp _ _ _ _ inv0 H2
    have hlen : plan.length + is.length + (l.toArray.size - n) = l.toArray.size := by
      omega
    rw [hlen] at h2
    exact h2
  · rw [hmk]
    by_cases h3 : j < l.toArray.size
    · rw [if_pos h3, show is.contains j = false by simpa using hj]
      exact getD_in (by simpa using h3) (getD_replicate_false _ _)
    · rw [if_neg h3]; simp at h3; simp [h3]
  · have := (hal j hj).1.1
    exact getD_in (by simp; omega) (getD_replicate_false _ _)
  · have := (hal j hj).1.1
    rw [hmk, if_pos (by simp; omega)]
    simpa using hj
theorem wpPlan_mono {T : Act → World → Prop} (hT : ∀ a w w', Gr w w' → T a w → T a w') : ∀ (plan : List (Bool × Nat)) (a : Act) (w w' : World), Gr w w' → wpPlan P ops T plan a w → wpPlan P ops T plan a w'
  | [], _, _, _, hg, h => hT _ _ _ hg h
  | (true, _) :: r, _, _, _, hg, ⟨o, v, ho, hy, hK⟩ => ⟨o, v, ho, hy.imp (fun h => ⟨h.1, fun w2 hw2 => h.2 w2 (hg.trans hw2)⟩) (fun h => h), wpPlan_mono hT r _ _ _ hg hK⟩
  | (false, _) :: _, _, _, _, hg, h => fun w2 hw2 => h w2 (hg.trans hw2)

/-- a region that does not draw -/
theorem wpList_of_plan {Q : Exit → Act → World → Prop} {T : Act → World → Prop} {rest : List Oper} (hT : ∀ a w w', Gr w w' → T a w → T a w') (hTw : ∀ a w, T a w → wpList P ops Q rest a w) :
    ∀ (l : List Oper) (plan : List (Bool × Nat)) (k : Nat) (a : Act) (w : World), plan.map (·.2) = List.range' k l.length → (∀ j, j < l.length → l[j]? = ops[k + j]?) → wpPlan P ops T plan a w → wpList P ops Q (l ++ rest) a w
  | [], plan, k, a, w, hp, _, h => by
    obtain rfl : plan = [] := by simpa using hp
    exact hTw _ _ h
  | o :: l, [], k, a, w, hp, _, h => by simp [List.range'] at hp
  | o :: l, (b, i) :: r, k, a, w, hp, hl, h => by
    simp only [List.length_cons, List.range', List.map_cons, List.cons.injEq] at hp
    obtain ⟨rfl, hp⟩ := hp
    have h0 : ops[i]? = some o := by simpa using (hl 0 (by simp)).symm
    have hh : hOp P ops i (wpPlan P ops T r) a w := by
      cases b with
      | false => exact h w (Gr.refl w)
      | true =>
        obtain ⟨o', v, ho', hy, hK⟩ := h
        obtain rfl : o' = o := Option.some.inj (ho'.symm.trans h0)
        exact hy.hOp ho' (Gr.refl w) fun w' hw' => wpPlan_mono hT r _ _ _ hw' hK
    have h1 := wpOp_of_hOp (Q := Q) (K' := fun a' w' => wpList P ops Q (l ++ rest) a' w') (fun a' w' hK => wpList_of_plan hT hTw l r (i + 1) a' w' hp (fun j hj => by
      have := hl (j + 1) (by simp; omega)
      simpa [Nat.add_assoc, Nat.add_comm 1 j] using this) hK) hh
    unfold wpOp at h1
    simp only [h0] at h1
    exact h1

theorem wp_region_seqplan {id : Nat} {Q : Exit → Act → World → Prop} {a : Act} {w : World} {l : List Oper} (n : Nat) (plan : List (Bool × Nat)) (hp : plan.map (·.2) = List.range' 0 n) (hn : n ≤ l.length)
    (h : ∀ T : Act → World → Prop, Hid (∀ a' w', (∀ w2, Gr w' w2 → wpList P l.toArray Q (l.drop n) a' w2) → T a' w') → wpPlan P l.toArray T plan a w) : (Code.region id l.toArray false).wp P Q a w := by
  refine wp_region_lit ?_
  have hlen : (l.take n).length = n := by simp; omega
  have := wpList_of_plan (Q := Q) (P := P) (ops := l.toArray) (rest := l.drop n) (T := fun a' w' => ∀ w2, Gr w' w2 → wpList P l.toArray Q (l.drop n) a' w2) (fun a' w1 w2 hg h w3 hw3 => h w3 (hg.trans hw3)) (fun a' w' h => h w' (Gr.refl _)) (l.take n) plan 0 a w
    (by rw [hlen]; exact hp) (fun j hj => by
      have hj' : j < n := by rw [hlen] at hj; exact hj
      simp [hj']) (h _ (fun _ _ h => h))
  rwa [List.take_append_drop] at this
end
end Go.Proofs.YtenpbnmmadbkdaaGreat


/- Fractions as Lean's rational numbers: how many digits to the base 10000 numerator and denominator have; slices of digits beside blocks known whole. No condition. -/
namespace Go.Proofs.YtenpbnmmadbkdaaGreat
open Go.RowKit
set_option linter.unusedSimpArgs false
set_option linter.unusedVariables false

theorem tw_one : tw 1 = 1 := by
  rw [tw, if_neg (by decide)]
  show tw 0 + 1 = 1
  rw [tw_zero]
/-- the greater of the numbers of digits of numerator and denominator -/
def rz (q : Rat) : Nat := max (tw q.num.natAbs) (tw q.den)
theorem rz_num (q : Rat) : tw q.num.natAbs ≤ rz q := Nat.le_max_left _ _
theorem rz_den (q : Rat) : tw q.den ≤ rz q := Nat.le_max_right _ _
theorem rz_pos (q : Rat) : 1 ≤ rz q := Nat.le_trans (tw_pos q.den_pos) (rz_den q)
theorem rz_of {q : Rat} {k : Nat} (h1 : tw q.num.natAbs ≤ k) (h2 : tw q.den ≤ k) : rz q ≤ k := Nat.max_le.2 ⟨h1, h2⟩
theorem rz_mkRat {n : Int} {d k : Nat} (h1 : tw n.natAbs ≤ k) (h2 : tw d ≤ k) (h3 : 1 ≤ k) : rz (mkRat n d) ≤ k := by
  refine rz_of ?_ ?_
  · rw [Rat.num_mkRat]
    split
    · rw [Int.natAbs_zero, tw_zero]; exact Nat.zero_le _
    · exact Nat.le_trans (tw_mono (natAbs_div_le _ _)) h1
  · rw [Rat.den_mkRat]
    split
    · exact Nat.le_trans (tw_small (by decide)) h3
    · exact Nat.le_trans (tw_div _ _) h2
theorem rz_add (p q : Rat) : rz (p + q) ≤ rz p + rz q + 1 := by
  rw [Rat.add_def']
  have a := rz_num p
  have b := rz_num q
  have c := rz_den p
  have d := rz_den q
  refine rz_mkRat ?_ (Nat.le_trans (tw_mul _ _) (by omega)) (by omega)
  have h1 := tw_mul p.num.natAbs q.den
  have h2 := tw_mul q.num.natAbs p.den
  have h3 := tw_add (p.num.natAbs * q.den) (q.num.natAbs * p.den)
  refine Nat.le_trans (tw_mono (Int.natAbs_add_le _ _)) ?_
  rw [Int.natAbs_mul, Int.natAbs_mul, Int.natAbs_natCast, Int.natAbs_natCast]
  omega
theorem rz_mul (p q : Rat) : rz (p * q) ≤ rz p + rz q := by
  rw [Rat.mul_def']
  have a := rz_num p
  have b := rz_num q
  have c := rz_den p
  have d := rz_den q
  have e := rz_pos p
  refine rz_mkRat ?_ (Nat.le_trans (tw_mul _ _) (by omega)) (by omega)
  rw [Int.natAbs_mul]
  exact Nat.le_trans (tw_mul _ _) (by omega)
theorem rz_neg (p : Rat) : rz (-p) = rz p := by
  unfold rz
  rw [Rat.neg_num, Rat.neg_den, Int.natAbs_neg]
theorem rz_sub (p q : Rat) : rz (p - q) ≤ rz p + rz q + 1 := by
  rw [Rat.sub_eq_add_neg]
  have := rz_add p (-q)
  rwa [rz_neg] at this
theorem rz_inv (p : Rat) : rz p⁻¹ ≤ rz p := by
  have a := rz_num p
  have c := rz_den p
  have e := rz_pos p
  refine rz_of ?_ ?_
  · rw [Rat.num_inv, Int.natAbs_mul, Int.natAbs_natCast]
    refine Nat.le_trans (tw_mono ?_) c
    rw [Int.natAbs_sign]
    split <;> omega
  · rw [Rat.den_inv]
    split
    · exact Nat.le_trans (tw_small (by decide)) e
    · exact a
theorem rz_div (p q : Rat) : rz (p / q) ≤ rz p + rz q := by
  rw [Rat.div_def]
  have h1 := rz_mul p q⁻¹
  have h2 := rz_inv q
  omega
theorem rz_int (n : Int) : rz (n : Rat) = max (tw n.natAbs) 1 := by
  unfold rz
  rw [Rat.num_intCast, Rat.den_intCast]
  rw [tw_one]



section
variable {w w' : World} {v : Value} {k : Nat}
theorem Rn.alloc (h : Rn w v k) (o : Obj) : Rn (w.alloc o) v k := Dr.alloc h o
theorem Rn.ne {g : Nat} {T : TypeId} {cs : Array Value} (h : Rn w v k) (hb : Bx w g T cs) (hT : T ≠ 3) : v.ownBlock ≠ some g := by
  rcases h.2 with ⟨rfl, _⟩ | ⟨b, c, cur, rfl, _, hh, _⟩
  · intro e; cases e
  · intro e
    have e2 : b = g := by injection e
    subst e2
    unfold Bx at hb
    rw [hb] at hh
    injection hh with hh
    injection hh with h1 h2 h3
    exact hT h2
theorem Rn.setOther (h : Rn w v k) {a : Addr} (ha : v.ownBlock ≠ some a.block) (u : Value) : Rn (w.setCell a u) v k := by
  refine ⟨h.1, ?_⟩
  rcases h.2 with hn | ⟨b, c, cur, rfl, hb, hh, rest⟩
  · exact .inl hn
  · exact .inr ⟨b, c, cur, rfl, hb, (Below.heap_setCell w a u b (fun e => ha (by simp [Value.ownBlock, e]))).trans hh, rest⟩
end
theorem tw_sgn (z : Int) : tw (if z < 0 then -z else z).natAbs = tw z.natAbs := by split <;> simp
theorem tw_iadd (a b : Int) : tw (a + b).natAbs ≤ max (tw a.natAbs) (tw b.natAbs) + 1 :=
  Nat.le_trans (tw_mono (Int.natAbs_add_le a b)) (tw_add _ _)
theorem tw_imul (a b : Int) : tw (a * b).natAbs ≤ tw a.natAbs + tw b.natAbs := by
  rw [Int.natAbs_mul]; exact tw_mul _ _
end Go.Proofs.YtenpbnmmadbkdaaGreat
namespace Go.Proofs.YtenpbnmmadbkdaaGreat
open Go.RowKit
theorem bG {w w' : World} {b : Nat} {T : TypeId} {cs : Array Value} (h : Hid (Bx w b T cs)) (g : Hid (Gr w w')) : Hid (Bx w' b T cs) := Lib.hid (h.out.gr g.out)
theorem rG {w w' : World} {v : Value} {k : Nat} (h : Hid (Rn w v k)) (g : Hid (Gr w w')) : Hid (Rn w' v k) := Lib.hid (h.out.gr g.out)
theorem so2 {w : World} {g : Nat} {o0 o1 : Nat} {v0 v1 : Value} {b : Nat} {T : TypeId} {cs : Array Value} (h : Bx w b T cs) (e : b ≠ g) : Bx ((w.setCell ⟨g, o0, none⟩ v0).setCell ⟨g, o1, none⟩ v1) b T cs := ((h.setOther e _).setOther e _)
theorem so3 {w : World} {g : Nat} {o0 o1 o2 : Nat} {v0 v1 v2 : Value} {b : Nat} {T : TypeId} {cs : Array Value} (h : Bx w b T cs) (e : b ≠ g) : Bx (((w.setCell ⟨g, o0, none⟩ v0).setCell ⟨g, o1, none⟩ v1).setCell ⟨g, o2, none⟩ v2) b T cs := (((h.setOther e _).setOther e _).setOther e _)
theorem so5 {w : World} {g : Nat} {o0 o1 o2 o3 o4 : Nat} {v0 v1 v2 v3 v4 : Value} {b : Nat} {T : TypeId} {cs : Array Value} (h : Bx w b T cs) (e : b ≠ g) : Bx (((((w.setCell ⟨g, o0, none⟩ v0).setCell ⟨g, o1, none⟩ v1).setCell ⟨g, o2, none⟩ v2).setCell ⟨g, o3, none⟩ v3).setCell ⟨g, o4, none⟩ v4) b T cs := (((((h.setOther e _).setOther e _).setOther e _).setOther e _).setOther e _)
theorem so6 {w : World} {g : Nat} {o0 o1 o2 o3 o4 o5 : Nat} {v0 v1 v2 v3 v4 v5 : Value} {b : Nat} {T : TypeId} {cs : Array Value} (h : Bx w b T cs) (e : b ≠ g) : Bx ((((((w.setCell ⟨g, o0, none⟩ v0).setCell ⟨g, o1, none⟩ v1).setCell ⟨g, o2, none⟩ v2).setCell ⟨g, o3, none⟩ v3).setCell ⟨g, o4, none⟩ v4).setCell ⟨g, o5, none⟩ v5) b T cs := ((((((h.setOther e _).setOther e _).setOther e _).setOther e _).setOther e _).setOther e _)
theorem so10 {w : World} {g : Nat} {o0 o1 o2 o3 o4 o5 o6 o7 o8 o9 : Nat} {v0 v1 v2 v3 v4 v5 v6 v7 v8 v9 : Value} {b : Nat} {T : TypeId} {cs : Array Value} (h : Bx w b T cs) (e : b ≠ g) : Bx ((((((((((w.setCell ⟨g, o0, none⟩ v0).setCell ⟨g, o1, none⟩ v1).setCell ⟨g, o2, none⟩ v2).setCell ⟨g, o3, none⟩ v3).setCell ⟨g, o4, none⟩ v4).setCell ⟨g, o5, none⟩ v5).setCell ⟨g, o6, none⟩ v6).setCell ⟨g, o7, none⟩ v7).setCell ⟨g, o8, none⟩ v8).setCell ⟨g, o9, none⟩ v9) b T cs := ((((((((((h.setOther e _).setOther e _).setOther e _).setOther e _).setOther e _).setOther e _).setOther e _).setOther e _).setOther e _).setOther e _)
theorem ro2 {w : World} {g : Nat} {o0 o1 : Nat} {v0 v1 : Value} {v : Value} {k : Nat} (h : Rn w v k) (e : v.ownBlock ≠ some g) : Rn ((w.setCell ⟨g, o0, none⟩ v0).setCell ⟨g, o1, none⟩ v1) v k := ((h.setOther e _).setOther e _)
theorem ro3 {w : World} {g : Nat} {o0 o1 o2 : Nat} {v0 v1 v2 : Value} {v : Value} {k : Nat} (h : Rn w v k) (e : v.ownBlock ≠ some g) : Rn (((w.setCell ⟨g, o0, none⟩ v0).setCell ⟨g, o1, none⟩ v1).setCell ⟨g, o2, none⟩ v2) v k := (((h.setOther e _).setOther e _).setOther e _)
theorem ro6 {w : World} {g : Nat} {o0 o1 o2 o3 o4 o5 : Nat} {v0 v1 v2 v3 v4 v5 : Value} {v : Value} {k : Nat} (h : Rn w v k) (e : v.ownBlock ≠ some g) : Rn ((((((w.setCell ⟨g, o0, none⟩ v0).setCell ⟨g, o1, none⟩ v1).setCell ⟨g, o2, none⟩ v2).setCell ⟨g, o3, none⟩ v3).setCell ⟨g, o4, none⟩ v4).setCell ⟨g, o5, none⟩ v5) v k := ((((((h.setOther e _).setOther e _).setOther e _).setOther e _).setOther e _).setOther e _)
theorem sc2 {w : World} {g : Nat} {o0 o1 : Nat} {v0 v1 : Value} {B : Nat} {a : World} (h : Below B a w) (e : B ≤ g) : Below B a ((w.setCell ⟨g, o0, none⟩ v0).setCell ⟨g, o1, none⟩ v1) := ((h.setCell e _).setCell e _)
theorem sc3 {w : World} {g : Nat} {o0 o1 o2 : Nat} {v0 v1 v2 : Value} {B : Nat} {a : World} (h : Below B a w) (e : B ≤ g) : Below B a (((w.setCell ⟨g, o0, none⟩ v0).setCell ⟨g, o1, none⟩ v1).setCell ⟨g, o2, none⟩ v2) := (((h.setCell e _).setCell e _).setCell e _)
theorem sc5 {w : World} {g : Nat} {o0 o1 o2 o3 o4 : Nat} {v0 v1 v2 v3 v4 : Value} {B : Nat} {a : World} (h : Below B a w) (e : B ≤ g) : Below B a (((((w.setCell ⟨g, o0, none⟩ v0).setCell ⟨g, o1, none⟩ v1).setCell ⟨g, o2, none⟩ v2).setCell ⟨g, o3, none⟩ v3).setCell ⟨g, o4, none⟩ v4) := (((((h.setCell e _).setCell e _).setCell e _).setCell e _).setCell e _)
theorem sc6 {w : World} {g : Nat} {o0 o1 o2 o3 o4 o5 : Nat} {v0 v1 v2 v3 v4 v5 : Value} {B : Nat} {a : World} (h : Below B a w) (e : B ≤ g) : Below B a ((((((w.setCell ⟨g, o0, none⟩ v0).setCell ⟨g, o1, none⟩ v1).setCell ⟨g, o2, none⟩ v2).setCell ⟨g, o3, none⟩ v3).setCell ⟨g, o4, none⟩ v4).setCell ⟨g, o5, none⟩ v5) := ((((((h.setCell e _).setCell e _).setCell e _).setCell e _).setCell e _).setCell e _)
theorem sc10 {w : World} {g : Nat} {o0 o1 o2 o3 o4 o5 o6 o7 o8 o9 : Nat} {v0 v1 v2 v3 v4 v5 v6 v7 v8 v9 : Value} {B : Nat} {a : World} (h : Below B a w) (e : B ≤ g) : Below B a ((((((((((w.setCell ⟨g, o0, none⟩ v0).setCell ⟨g, o1, none⟩ v1).setCell ⟨g, o2, none⟩ v2).setCell ⟨g, o3, none⟩ v3).setCell ⟨g, o4, none⟩ v4).setCell ⟨g, o5, none⟩ v5).setCell ⟨g, o6, none⟩ v6).setCell ⟨g, o7, none⟩ v7).setCell ⟨g, o8, none⟩ v8).setCell ⟨g, o9, none⟩ v9) := ((((((((((h.setCell e _).setCell e _).setCell e _).setCell e _).setCell e _).setCell e _).setCell e _).setCell e _).setCell e _).setCell e _)
end Go.Proofs.YtenpbnmmadbkdaaGreat
