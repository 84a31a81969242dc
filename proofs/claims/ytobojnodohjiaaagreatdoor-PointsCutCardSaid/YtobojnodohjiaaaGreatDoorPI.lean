/- A pack of texts: Rat, RefR, RefS. No condition but those stated. -/
import Derived.Test.YtobojnodohjiaaaGreatDoorPA
import Derived.Test.YtobojnodohjiaaaGreatDoorPG
import Derived.Test.YtobojnodohjiaaaGreatDoorPC
set_option linter.unusedVariables false
set_option linter.unusedSimpArgs false
/- Fractions as Lean's rational numbers: how many words numerator and denominator have. No condition. -/
namespace Go.Proofs.YtobojnodohjiaaaGreatDoor
def sz (q : Rat) : Nat := max (wl q.num.natAbs) (wl q.den)
theorem sz_num (q : Rat) : wl q.num.natAbs ≤ sz q := Nat.le_max_left _ _
theorem sz_den (q : Rat) : wl q.den ≤ sz q := Nat.le_max_right _ _
theorem sz_pos (q : Rat) : 1 ≤ sz q := Nat.le_trans (wl_pos q.den_pos) (sz_den q)
theorem sz_of {q : Rat} {k : Nat} (h1 : wl q.num.natAbs ≤ k) (h2 : wl q.den ≤ k) : sz q ≤ k := Nat.max_le.2 ⟨h1, h2⟩
theorem natAbs_div_le (n : Int) (g : Nat) : (n / (g : Int)).natAbs ≤ n.natAbs := Int.natAbs_ediv_le_natAbs n (g : Int)
theorem sz_mkRat {n : Int} {d k : Nat} (h1 : wl n.natAbs ≤ k) (h2 : wl d ≤ k) (h3 : 1 ≤ k) : sz (mkRat n d) ≤ k := by
  refine sz_of ?_ ?_
  · rw [Rat.num_mkRat]
    split
    · exact Nat.zero_le _
    · exact Nat.le_trans (wl_mono (natAbs_div_le _ _)) h1
  · rw [Rat.den_mkRat]
    split
    · exact Nat.le_trans (wl_small (by decide)) h3
    · exact Nat.le_trans (wl_div _ _) h2
theorem sz_add (p q : Rat) : sz (p + q) ≤ sz p + sz q + 1 := by
  rw [Rat.add_def']
  have a := sz_num p
  have b := sz_num q
  have c := sz_den p
  have d := sz_den q
  refine sz_mkRat ?_ (Nat.le_trans (wl_mul _ _) (by omega)) (by omega)
  have h1 := wl_mul p.num.natAbs q.den
  have h2 := wl_mul q.num.natAbs p.den
  have h3 := wl_add (p.num.natAbs * q.den) (q.num.natAbs * p.den)
  refine Nat.le_trans (wl_mono (Int.natAbs_add_le _ _)) ?_
  rw [Int.natAbs_mul, Int.natAbs_mul, Int.natAbs_natCast, Int.natAbs_natCast]
  omega
theorem sz_mul (p q : Rat) : sz (p * q) ≤ sz p + sz q := by
  rw [Rat.mul_def']
  have a := sz_num p
  have b := sz_num q
  have c := sz_den p
  have d := sz_den q
  have e := sz_pos p
  refine sz_mkRat ?_ (Nat.le_trans (wl_mul _ _) (by omega)) (by omega)
  rw [Int.natAbs_mul]
  exact Nat.le_trans (wl_mul _ _) (by omega)
theorem sz_neg (p : Rat) : sz (-p) = sz p := by
  unfold sz
  rw [Rat.neg_num, Rat.neg_den, Int.natAbs_neg]
theorem sz_sub (p q : Rat) : sz (p - q) ≤ sz p + sz q + 1 := by
  rw [Rat.sub_eq_add_neg]
  have := sz_add p (-q)
  rwa [sz_neg] at this
theorem sz_inv (p : Rat) : sz p⁻¹ ≤ sz p := by
  have a := sz_num p
  have c := sz_den p
  have e := sz_pos p
  refine sz_of ?_ ?_
  · rw [Rat.num_inv, Int.natAbs_mul, Int.natAbs_natCast]
    refine Nat.le_trans (wl_mono ?_) c
    rw [Int.natAbs_sign]
    split <;> omega
  · rw [Rat.den_inv]
    split
    · exact Nat.le_trans (wl_small (by decide)) e
    · exact a
theorem sz_div (p q : Rat) : sz (p / q) ≤ sz p + sz q := by
  rw [Rat.div_def]
  have h1 := sz_mul p q⁻¹
  have h2 := sz_inv q
  omega
theorem sz_int (n : Int) : sz (n : Rat) = max (wl n.natAbs) 1 := by
  unfold sz
  rw [Rat.num_intCast, Rat.den_intCast]
  rfl
theorem sz_int64 {n : Int} (h1 : -9223372036854775808 ≤ n) (h2 : n ≤ 9223372036854775807) : sz (n : Rat) ≤ 2 := by
  rw [sz_int]
  have : wl n.natAbs ≤ 2 := wl_le_two.2 (by omega)
  omega
def sgQ (q : Rat) : Int := if q = 0 then 0 else if q < 0 then -1 else 1
theorem num_zero {q : Rat} : q.num = 0 ↔ q = 0 := Rat.num_eq_zero
theorem num_neg {q : Rat} : q.num < 0 ↔ q < 0 := by
  rw [← Int.not_le, Rat.num_nonneg, Rat.not_le]
theorem sgQ_num (q : Rat) : sgQ q = if q.num = 0 then 0 else if q.num < 0 then -1 else 1 := by
  unfold sgQ
  by_cases h : q = 0
  · simp [h]
  · rw [if_neg h, if_neg (fun e => h (num_zero.1 e))]
    by_cases h2 : q < 0
    · rw [if_pos h2, if_pos (num_neg.2 h2)]
    · rw [if_neg h2, if_neg (fun e => h2 (num_neg.1 e))]
theorem sgQ_pos {q : Rat} (h : 0 < q) : sgQ q = 1 := by
  unfold sgQ
  rw [if_neg (fun e => by subst e; exact Rat.lt_irrefl h), if_neg (fun e => Rat.not_lt.2 (Rat.le_of_lt e) h)]
theorem sgQ_neg {q : Rat} (h : q < 0) : sgQ q = -1 := by
  unfold sgQ
  rw [if_neg (fun e => by subst e; exact Rat.lt_irrefl h), if_pos h]
theorem low_den (n : Int) (d : Nat) (hd : 0 < d) : d / Nat.gcd n.natAbs d = (mkRat n d).den := by
  rw [Rat.den_mkRat, if_neg (by omega), Nat.gcd_comm]
theorem low_num (n : Int) (d : Nat) (hd : 0 < d) : (if n < 0 then -((n.natAbs / Nat.gcd n.natAbs d : Nat) : Int) else ((n.natAbs / Nat.gcd n.natAbs d : Nat) : Int)) = (mkRat n d).num := by
  have e : (mkRat n d).num = n / ((Nat.gcd n.natAbs d : Nat) : Int) := by rw [Rat.num_mkRat, if_neg (by omega), Nat.gcd_comm]
  rw [e]
  have hg : Nat.gcd n.natAbs d ∣ n.natAbs := Nat.gcd_dvd_left _ _
  generalize Nat.gcd n.natAbs d = g at *
  by_cases h : n < 0
  · rw [if_pos h]
    obtain ⟨m, rfl⟩ : ∃ m : Nat, n = -(m : Int) := ⟨n.natAbs, by omega⟩
    rw [Int.natAbs_neg, Int.natAbs_natCast] at *
    obtain ⟨c, rfl⟩ := hg
    by_cases h0 : g = 0
    · subst h0; simp
    · rw [Nat.mul_div_cancel_left _ (by omega), Int.natCast_mul, ← Int.mul_neg, Int.mul_ediv_cancel_left _ (by omega)]
  · rw [if_neg h]
    obtain ⟨m, rfl⟩ : ∃ m : Nat, n = (m : Int) := ⟨n.natAbs, by omega⟩
    rw [Int.natAbs_natCast, Int.natCast_ediv]
theorem frac_inj {p q : Rat} (h1 : p.num = q.num) (h2 : p.den - 1 = q.den - 1) : p = q := by
  refine Rat.ext h1 ?_
  have := p.den_pos
  have := q.den_pos
  omega
theorem sgQ_mkRat (n : Int) (d : Nat) (hd : 0 < d) : sgQ (mkRat n d) = if n = 0 then 0 else if n < 0 then -1 else 1 := by
  have hd' : (0 : Int) < (d : Int) := by omega
  have h0 : mkRat n d = 0 ↔ n = 0 := Rat.mkRat_eq_zero (by omega)
  have hn : mkRat n d < 0 ↔ n < 0 := by
    rw [← Rat.not_le, ← Int.not_le, ← Rat.divInt_ofNat, Rat.divInt_nonneg_iff_of_pos_right hd']
  unfold sgQ
  simp only [h0, hn]
theorem sgQ_sub (a b : Rat) : (if a.num * b.den - b.num * a.den = 0 then (0 : Int) else if a.num * b.den - b.num * a.den < 0 then -1 else 1) = sgQ (a - b) := by
  rw [Rat.sub_def', sgQ_mkRat _ _ (Nat.mul_pos a.den_pos b.den_pos)]
theorem sgQ_sub_same (a b : Rat) (h : a.den = b.den) : (if a.num - b.num = 0 then (0 : Int) else if a.num - b.num < 0 then -1 else 1) = sgQ (a - b) := by
  rw [← sgQ_sub, h]
  have hp : (0 : Int) < (b.den : Int) := by have := b.den_pos; omega
  have e : a.num * (b.den : Int) - b.num * (b.den : Int) = (a.num - b.num) * (b.den : Int) := by rw [Int.sub_mul]
  rw [e]
  have h1 : (a.num - b.num) * (b.den : Int) = 0 ↔ a.num - b.num = 0 := by
    rw [Int.mul_eq_zero]; constructor
    · rintro (h | h) <;> omega
    · exact fun h => .inl h
  have h2 : (a.num - b.num) * (b.den : Int) < 0 ↔ a.num - b.num < 0 := by
    constructor
    · intro h
      rcases Int.lt_or_le (a.num - b.num) 0 with h3 | h3
      · exact h3
      · have := Int.mul_nonneg h3 (Int.le_of_lt hp); omega
    · intro h; exact Int.mul_neg_of_neg_of_pos h hp
  simp only [h1, h2]
theorem add_same (a b : Rat) (h : a.den = b.den) : mkRat (a.num + b.num) a.den = a + b := by
  have hp := a.den_pos
  rw [Rat.add_def', ← h, ← Int.add_mul, Rat.mkRat_mul_right (by omega)]
theorem add_int (a b : Rat) (ha : a.den = 1) (hb : b.den = 1) : ((a.num + b.num : Int) : Rat) = a + b := by
  have e := add_same a b (by rw [ha, hb])
  rw [← e, ha]
  exact (Rat.mkRat_self ((a.num + b.num : Int) : Rat)).symm
theorem mul_int (a b : Rat) (ha : a.den = 1) (hb : b.den = 1) : ((a.num * b.num : Int) : Rat) = a * b := by
  rw [Rat.mul_def', ha, hb]
  exact (Rat.mkRat_self ((a.num * b.num : Int) : Rat)).symm
theorem inv_mk (b : Rat) (h : b.num ≠ 0) : mkRat (if decide (sgQ b < 0) then -((b.den : Nat) : Int) else ((b.den : Nat) : Int)) b.num.natAbs = b⁻¹ := by
  rw [Rat.inv_def]
  have e : (sgQ b < 0) ↔ b.num < 0 := by
    rw [sgQ_num, if_neg h]
    by_cases h2 : b.num < 0 <;> simp [h2]
  by_cases h2 : b.num < 0
  · rw [if_pos (by simpa using e.2 h2), ← Rat.divInt_ofNat, show ((b.num.natAbs : Nat) : Int) = -b.num by omega, Rat.neg_divInt_neg]
  · rw [if_neg (by simpa using fun h3 => h2 (e.1 h3)), ← Rat.divInt_ofNat, show ((b.num.natAbs : Nat) : Int) = b.num by omega]
end Go.Proofs.YtobojnodohjiaaaGreatDoor
/- Fractions as Lean's rational numbers: how many digits to the base 10000 numerator and denominator have; slices of digits beside blocks known whole. No condition. -/
namespace Go.Proofs.YtobojnodohjiaaaGreatDoor
open Go.RowKit
theorem tw_one : tw 1 = 1 := by
  rw [tw, if_neg (by decide)]
  show tw 0 + 1 = 1
  rw [tw_zero]
def rz (q : Rat) : Nat := max (tw q.num.natAbs) (tw q.den)
theorem rz_num (q : Rat) : tw q.num.natAbs ≤ rz q := Nat.le_max_left _ _
theorem rz_den (q : Rat) : tw q.den ≤ rz q := Nat.le_max_right _ _
theorem rz_pos (q : Rat) : 1 ≤ rz q := Nat.le_trans (tw_pos q.den_pos) (rz_den q)
theorem rz_of {q : Rat} {k : Nat} (h1 : tw q.num.natAbs ≤ k) (h2 : tw q.den ≤ k) : rz q ≤ k := Nat.max_le.2 ⟨h1, h2⟩
theorem rz_mkRat {n : Int} {d k : Nat} (h1 : tw n.natAbs ≤ k) (h2 : tw d ≤ k) (h3 : 1 ≤ k) : rz (mkRat n d) ≤ k := by
  refine rz_of ?_ ?_
  · rw [Rat.num_mkRat]
    split
    · rw [Int.natAbs_zero, tw_zero]; exact Nat.zero_le _
    · exact Nat.le_trans (tw_mono (natAbs_div_le _ _)) h1
  · rw [Rat.den_mkRat]
    split
    · exact Nat.le_trans (tw_small (by decide)) h3
    · exact Nat.le_trans (tw_div _ _) h2
theorem rz_add (p q : Rat) : rz (p + q) ≤ rz p + rz q + 1 := by
  rw [Rat.add_def']
  have a := rz_num p
  have b := rz_num q
  have c := rz_den p
  have d := rz_den q
  refine rz_mkRat ?_ (Nat.le_trans (tw_mul _ _) (by omega)) (by omega)
  have h1 := tw_mul p.num.natAbs q.den
  have h2 := tw_mul q.num.natAbs p.den
  have h3 := tw_add (p.num.natAbs * q.den) (q.num.natAbs * p.den)
  refine Nat.le_trans (tw_mono (Int.natAbs_add_le _ _)) ?_
  rw [Int.natAbs_mul, Int.natAbs_mul, Int.natAbs_natCast, Int.natAbs_natCast]
  omega
theorem rz_mul (p q : Rat) : rz (p * q) ≤ rz p + rz q := by
  rw [Rat.mul_def']
  have a := rz_num p
  have b := rz_num q
  have c := rz_den p
  have d := rz_den q
  have e := rz_pos p
  refine rz_mkRat ?_ (Nat.le_trans (tw_mul _ _) (by omega)) (by omega)
  rw [Int.natAbs_mul]
  exact Nat.le_trans (tw_mul _ _) (by omega)
theorem rz_neg (p : Rat) : rz (-p) = rz p := by
  unfold rz
  rw [Rat.neg_num, Rat.neg_den, Int.natAbs_neg]
theorem rz_sub (p q : Rat) : rz (p - q) ≤ rz p + rz q + 1 := by
  rw [Rat.sub_eq_add_neg]
  have := rz_add p (-q)
  rwa [rz_neg] at this
theorem rz_inv (p : Rat) : rz p⁻¹ ≤ rz p := by
  have a := rz_num p
  have c := rz_den p
  have e := rz_pos p
  refine rz_of ?_ ?_
  · rw [Rat.num_inv, Int.natAbs_mul, Int.natAbs_natCast]
    refine Nat.le_trans (tw_mono ?_) c
    rw [Int.natAbs_sign]
    split <;> omega
  · rw [Rat.den_inv]
    split
    · exact Nat.le_trans (tw_small (by decide)) e
    · exact a
theorem rz_div (p q : Rat) : rz (p / q) ≤ rz p + rz q := by
  rw [Rat.div_def]
  have h1 := rz_mul p q⁻¹
  have h2 := rz_inv q
  omega
theorem rz_int (n : Int) : rz (n : Rat) = max (tw n.natAbs) 1 := by
  unfold rz
  rw [Rat.num_intCast, Rat.den_intCast]
  rw [tw_one]
section
variable {w w' : World} {v : Value} {k : Nat}
theorem Rn.alloc (h : Rn w v k) (o : Obj) : Rn (w.alloc o) v k := Dr.alloc h o
theorem Rn.ne {g : Nat} {T : TypeId} {cs : Array Value} (h : Rn w v k) (hb : Bx w g T cs) (hT : T ≠ 3) : v.ownBlock ≠ some g := by
  rcases h.2 with ⟨rfl, _⟩ | ⟨b, c, cur, rfl, _, hh, _⟩
  · intro e; cases e
  · intro e
    have e2 : b = g := by injection e
    subst e2
    unfold Bx at hb
    rw [hb] at hh
    injection hh with hh
    injection hh with h1 h2 h3
    exact hT h2
theorem Rn.setOther (h : Rn w v k) {a : Addr} (ha : v.ownBlock ≠ some a.block) (u : Value) : Rn (w.setCell a u) v k := by
  refine ⟨h.1, ?_⟩
  rcases h.2 with hn | ⟨b, c, cur, rfl, hb, hh, rest⟩
  · exact .inl hn
  · exact .inr ⟨b, c, cur, rfl, hb, (Below.heap_setCell w a u b (fun e => ha (by simp [Value.ownBlock, e]))).trans hh, rest⟩
end
theorem tw_iadd (a b : Int) : tw (a + b).natAbs ≤ max (tw a.natAbs) (tw b.natAbs) + 1 :=
  Nat.le_trans (tw_mono (Int.natAbs_add_le a b)) (tw_add _ _)
theorem tw_imul (a b : Int) : tw (a * b).natAbs ≤ tw a.natAbs + tw b.natAbs := by
  rw [Int.natAbs_mul]; exact tw_mul _ _
end Go.Proofs.YtobojnodohjiaaaGreatDoor
/- gussetref01 in z-form; gussetref02.From. -/
namespace Go.Proofs.YtobojnodohjiaaaGreatDoor
open Go.RowKit
attribute [local go_sem ↓] Go.wp_at_zero Go.wp_at_succ
theorem zradd (v u : Value) (x y z : Nat) (w : World) (hz : x + y = z) (hx : Rn w v x) (hy : Rn w u y) (bx : tw x ≤ 1000000000) (by' : tw y ≤ 1000000000) :
    Calls Tryz.prog 220 #[v, u] w fun e w' => (∃ v', e = .returned v' ∧ Rn w' v' z) ∧ Below w.heap.size w w' := hz ▸ radd_any v u x y w hx hy bx by'
theorem zrmul (v u : Value) (x y z : Nat) (w : World) (hz : x * y = z) (hx : Rn w v x) (hy : Rn w u y) (bx : tw x ≤ 1000000000) (by' : tw y ≤ 1000000000) :
    Calls Tryz.prog 178 #[v, u] w fun e w' => (∃ v', e = .returned v' ∧ Rn w' v' z) ∧ Below w.heap.size w w' := hz ▸ rmul_any v u x y w hx hy bx by'
theorem zrsub (v u : Value) (x y z : Nat) (w : World) (hz : x - y = z) (hx : Rn w v x) (hy : Rn w u y) (hle : y ≤ x) (bx : tw x ≤ 1000000000) (by' : tw y ≤ 1000000000) :
    Calls Tryz.prog 244 #[v, u] w fun e w' => (∃ v', e = .returned v' ∧ Rn w' v' z) ∧ Below w.heap.size w w' := hz ▸ rsub_any v u x y w hx hy hle bx by'
theorem zrgcd (v u : Value) (x y z : Nat) (w : World) (hz : Nat.gcd x y = z) (hx : Rn w v x) (hy : Rn w u y) (bx : tw x ≤ 500000000) (by' : tw y ≤ 500000000) :
    Calls Tryz.prog 248 #[v, u] w fun e w' => (∃ v', e = .returned v' ∧ Rn w' v' z) ∧ Below w.heap.size w w' := hz ▸ rgcd_any v u x y w hx hy bx by'
theorem zrdiv (v u : Value) (x y q r : Nat) (w : World) (hq : x / y = q) (hr : x % y = r) (hx : Rn w v x) (hy : Rn w u y) (h0 : 0 < y) (bx : tw x ≤ 500000000) (by' : tw y ≤ 500000000) :
    Calls Tryz.prog 176 #[v, u] w fun e w' => (∃ v1 v2, e = .returned (.tuple #[v1, v2]) ∧ Rn w' v1 q ∧ Rn w' v2 r) ∧ Below w.heap.size w w' := hq ▸ hr ▸ rdiv_any v u x y w hx hy h0 bx by'
theorem zrcmp (v u : Value) (x y : Nat) (c : Int) (w : World) (hc : cmpI x y = c) (hx : Rn w v x) (hy : Rn w u y) (bx : tw x ≤ 1000000000) (by' : tw y ≤ 1000000000) :
    Calls Tryz.prog 219 #[v, u] w fun e w' => e = .returned (.int .i64 c) ∧ Below w.heap.size w w' := hc ▸ rcmp_any v u x y w hx hy bx by'
theorem tw_i64 {n : Int} (h1 : -9223372036854775808 ≤ n) (h2 : n ≤ 9223372036854775807) : tw n.natAbs ≤ 5 := tw_le.2 (by rw [show tp 5 = 100000000000000000000 from by decide]; omega)
theorem Rn.sl {w : World} {v : Value} {k : Nat} (h : Rn w v k) : ∃ ao n c, v = .slice ao n c := by
  obtain ⟨ao, c, e, _⟩ := Dr.slice h
  exact ⟨ao, _, c, e⟩
theorem zfrom_any (b : Bool) (n : Nat) (z : Int) (v : Value) (w : World) (hz : (if b then -(n : Int) else (n : Int)) = z) (h : Rn w v n) :
    Calls Tryz.prog 196 #[.bool b, v] w fun e w' => (∃ v', e = .returned (.agg #[.bool (decide (z < 0)), v']) ∧ Rn w' v' z.natAbs) ∧ Below w.heap.size w w' := by
  obtain ⟨ao, c, rfl, hc, hc2⟩ := Dr.slice h
  obtain ⟨k, hk⟩ : ∃ k, tw n = k := ⟨_, rfl⟩
  rw [hk] at h hc ⊢
  have HK := Lib.hid hk
  have HR := Lib.hid h
  have HZ := Lib.hid hz
  clear h hk hz
  cases b
  · have he : Hid (decide (z < 0) = false ∧ z.natAbs = n) := Lib.hid (by have := HZ.out; simp at this; constructor; simp; omega; omega)
    go_enter Tryz.func196, Tryz.ntmps196
    go_wp2
    exact bodyPost_ret (v := .agg #[.bool false, .slice ao k c]) (by simp [results, Tryz.results196, go_sem]) rfl ⟨⟨_, by rw [he.out.1], by rw [he.out.2]; exact HR.out.alloc _⟩, (Below.refl _ _).alloc (Nat.le_refl _) _⟩
  · by_cases h0 : k = 0
    · subst h0
      have hn : n = 0 := tw_eq_zero.1 HK.out
      have he : Hid (decide (z < 0) = false ∧ z.natAbs = n) := Lib.hid (by have := HZ.out; simp at this; constructor; simp; omega; omega)
      clear hn
      go_enter Tryz.func196, Tryz.ntmps196
      go_wp2
      exact bodyPost_ret (v := .agg #[.bool false, .slice ao 0 c]) (by simp [results, Tryz.results196, go_sem]) rfl ⟨⟨_, by rw [he.out.1], by rw [he.out.2]; exact HR.out.alloc _⟩, (Below.refl _ _).alloc (Nat.le_refl _) _⟩
    · have hn : 0 < n := Nat.pos_of_ne_zero (fun e => h0 (by rw [← HK.out, e]; exact tw_zero))
      have he : Hid (decide (z < 0) = true ∧ z.natAbs = n) := Lib.hid (by have := HZ.out; simp at this; constructor; simp; omega; omega)
      have hk0 : 0 < k := by omega
      clear hn
      go_enter Tryz.func196, Tryz.ntmps196
      go_wp2
      exact bodyPost_ret (v := .agg #[.bool true, .slice ao k c]) (by simp [results, Tryz.results196, go_sem]) rfl ⟨⟨_, by rw [he.out.1], by rw [he.out.2]; exact HR.out.alloc _⟩, (Below.refl _ _).alloc (Nat.le_refl _) _⟩
end Go.Proofs.YtobojnodohjiaaaGreatDoor
