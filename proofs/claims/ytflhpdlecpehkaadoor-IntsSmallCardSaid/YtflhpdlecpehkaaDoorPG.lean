/- A pack of texts: RefF, RefG1, RefG, RefH. No condition but those stated. -/
import Derived.Test.YtflhpdlecpehkaaDoorPF
import Derived.Laws.AppendOwnNone
import Derived.Deep.LoopGhost
set_option linter.unusedVariables false
set_option linter.unusedSimpArgs false

/- gussetref01.Div. No condition but a bound on lengths. -/
namespace Go.Proofs.YtflhpdlecpehkaaDoor
open Go.RowKit
set_option linter.unusedSimpArgs false
set_option linter.unusedVariables false

/-- one digit of a long division -/
theorem rdiv_digit (x y j : Nat) (hy : 0 < y) :
    (tg x j + 10000 * (x / tp (j + 1) % y)) / y = tg (x / y) j ∧ (tg x j + 10000 * (x / tp (j + 1) % y)) % y = x / tp j % y ∧ tg x j + 10000 * (x / tp (j + 1) % y) < 10000 * y := by
  have h1 := lead_step x j
  have h2 := tg_lt x j
  obtain ⟨A, hA⟩ : ∃ A, x / tp (j + 1) = A := ⟨_, rfl⟩
  have h3 : x / tp j / y = x / y / tp j := by rw [Nat.div_div_eq_div_mul, Nat.div_div_eq_div_mul, Nat.mul_comm]
  rw [tg_step (x / y) j |>.symm, ← h3, ← h1, hA]
  have h4 := Nat.div_add_mod A y
  have h5 := Nat.mod_lt A hy
  obtain ⟨q, hq⟩ : ∃ q, A / y = q := ⟨_, rfl⟩
  obtain ⟨R, hR⟩ : ∃ R, A % y = R := ⟨_, rfl⟩
  rw [hR] at h4 h5 ⊢
  rw [hq] at h4
  have h6 : 10000 * A + tg x j = (tg x j + 10000 * R) + y * (10000 * q) := by rw [← h4]; grind
  have h7 : tg x j + 10000 * R < 10000 * y := by omega
  rw [h6, Nat.add_mul_div_left _ _ hy, Nat.add_mul_mod_self_left (tg x j + 10000 * R) y (10000 * q)]
  refine ⟨?_, rfl, h7⟩
  have h8 : (tg x j + 10000 * R) / y < 10000 := Nat.div_lt_of_lt_mul (by omega)
  generalize (tg x j + 10000 * R) / y = f at *
  omega
/-- the bounds that the first digits give -/
theorem rdiv_bounds (R y T : Nat) (hT : 0 < T) (hy : 0 < y) (ht : 0 < y / T) : R / T / (y / T + 1) ≤ R / y ∧ R / y ≤ R / T / (y / T) := by
  constructor
  · refine (Nat.le_div_iff_mul_le hy).2 ?_
    have h1 : R / T / (y / T + 1) * (y / T + 1) ≤ R / T := Nat.div_mul_le_self _ _
    have h2 : R / T * T ≤ R := Nat.div_mul_le_self _ _
    have h3 : y ≤ (y / T + 1) * T := by
      have := Nat.div_add_mod y T
      have := Nat.mod_lt y hT
      rw [Nat.add_mul, Nat.mul_comm (y / T)]
      omega
    calc R / T / (y / T + 1) * y ≤ R / T / (y / T + 1) * ((y / T + 1) * T) := Nat.mul_le_mul_left _ h3
      _ = R / T / (y / T + 1) * (y / T + 1) * T := (Nat.mul_assoc _ _ _).symm
      _ ≤ R / T * T := Nat.mul_le_mul_right _ h1
      _ ≤ R := h2
  · refine (Nat.le_div_iff_mul_le ht).2 ((Nat.le_div_iff_mul_le hT).2 ?_)
    have h1 : R / y * y ≤ R := Nat.div_mul_le_self _ _
    have h2 : y / T * T ≤ y := Nat.div_mul_le_self _ _
    calc R / y * (y / T) * T = R / y * (y / T * T) := Nat.mul_assoc _ _ _
      _ ≤ R / y * y := Nat.mul_le_mul_left _ h2
      _ ≤ R := h1
theorem cmpI_le {x y : Nat} : cmpI (x : Int) (y : Int) ≤ 0 ↔ x ≤ y := by
  unfold cmpI
  split
  · omega
  · split <;> omega
theorem dvs_cons (f : Nat → Nat) (n d : Nat) : [Value.int .i64 ((d : Nat) : Int)] ++ dvs f n = dvs (fun t => if t = 0 then d else f (t - 1)) (n + 1) := by
  unfold dvs
  rw [List.range_succ_eq_map, List.map_cons, List.map_map]
  simp [Function.comp_def]
theorem tv_consd (f : Nat → Nat) (n d : Nat) : tv (fun t => if t = 0 then d else f (t - 1)) (n + 1) = d + 10000 * tv f n := by
  rw [tv_cons]
  simp
section
variable {w : World} {B n : Nat} {v : Value} {f : Nat → Nat}
theorem Dr.num (h : Dr w B v (tl f n) f) (hf : ∀ i, i < n → f i < 10000) : Dr w B v (tw (tv f n)) (tg (tv f n)) := by
  have e := tl_tw hf
  have hle := tl_le f n
  rw [← e]
  refine h.congr fun i hi => ?_
  rw [← tv_tl, tg_tv (fun j hj => hf j (by omega)) hi]
theorem Dr.setBelow (h : Dr w B v n f) {g : Nat} (hg : g < B) (j : Nat) (u : Value) : Dr (w.setCell ⟨g, j, none⟩ u) B v n f := ownsRow_setCell_below h hg u
theorem Dr.lit (W : World) (hB : B ≤ W.heap.size) (d : Nat) : Dr (W.alloc (.cells #[.int .i64 ((d : Nat) : Int)] 3)) B (.slice (some ⟨W.heap.size, 0, none⟩) 1 1) 1 (fun _ => d) :=
  World.ownsRow_lit (base := B) (e := 3) (size := 1) W #[.int .i64 ((d : Nat) : Int)] 1 hB (by decide) rfl
theorem Dr.lit0 (W : World) (hB : B ≤ W.heap.size) (f : Nat → Nat) : Dr (W.alloc (.cells #[] 3)) B (.slice (some ⟨W.heap.size, 0, none⟩) 0 0) 0 f :=
  World.ownsRow_lit (base := B) (e := 3) (size := 1) W #[] 0 hB (by decide) rfl
theorem Dr.belowK {C : Nat} {w' : World} (h : Dr w B v n f) (hb : Below C w w') (hlt : ∀ k, v.ownBlock = some k → k < C) : Dr w' B v n f := by
  refine ⟨h.1, ?_⟩
  rcases h.2 with hn | ⟨b, c, cur, rfl, hb0, hh, rest⟩
  · exact .inl hn
  · exact .inr ⟨b, c, cur, rfl, hb0, (hb.block b (hlt b rfl)).trans hh, rest⟩
theorem Rn.form {k : Nat} (h : Rn w v k) : ∃ ao c, v = .slice ao (tw k) c ∧ (ao = none → tw k = 0 ∧ c = 0) ∧ ∀ ad, ao = some ad → ∀ j, j < tw k → w.cell? (ad.add j) = some (.int .i64 ((tg k j : Nat) : Int)) := by
  rcases Dr.cases h with ⟨rfl, e⟩ | ⟨b, c, rfl, _, _, h1, h2, h3, _⟩
  · exact ⟨none, 0, by rw [e], fun _ => ⟨e, rfl⟩, fun ad had => by cases had⟩
  · refine ⟨_, c, rfl, fun e => (by cases e), fun ad had j hj => ?_⟩
    cases had
    rw [← h3 j hj]
    congr 1
    unfold Addr.add
    split <;> simp_all
theorem cell_lt {a : Addr} {u : Value} (h : w.cell? a = some u) : a.block < w.heap.size := by
  rcases Nat.lt_or_ge a.block w.heap.size with h1 | h1
  · exact h1
  · have : w.heap[a.block]? = none := Array.getElem?_eq_none h1
    simp [World.cell?, this] at h
theorem Rn.zero (w : World) : Rn w (.slice none 0 0) 0 := by unfold Rn; rw [tw_zero]; exact Dr.nil _ _ _
end
/-- 'append(own, digits...)': the digits wherever they lie -/
theorem wpList_append_digits {w : World} {ops : Array Oper} {rest : List Oper} {o : Oper} {a : Act} {Q : Exit → Act → World → Prop} (hgd : o.guard = none) (s x : Operand)
    (ho : o.op = .call { callee := .builtin .append, args := #[s, x], argTypes := #[34, 34] })
    (base : Nat) (v : Value) (n m c : Nat) (F f : Nat → Nat) (hs : a.eval s = v) (hown : Dr w base v n F) (ao : Option Addr) (hx : a.eval x = .slice ao m c) (hnone : ao = none → m = 0 ∧ c = 0)
    (hc : ∀ ad, ao = some ad → ∀ j, j < m → w.cell? (ad.add j) = some (.int .i64 ((f j : Nat) : Int))) (hb : n + m ≤ 10000000000) (hbase : base ≤ w.heap.size)
    (h : ∀ v' w', w'.ownsRow base 3 1 v' (n + m) (dvs F n ++ dvs f m) → w.grownBy w' v.ownBlock → wpList Tryd.prog ops Q rest (a.put o.dst v') w') :
    wpList Tryd.prog ops Q (o :: rest) a w := by
  obtain ⟨i0, hi, hz0, hz1, hz2⟩ := info_parts info_int
  cases ao with
  | none =>
    obtain ⟨rfl, rfl⟩ := hnone rfl
    refine wpList_append_own_none hgd s x 34 ho base 3 i0 1 Tryd.underlying34 hi v n _ hs hown hx (h v w ?_ (World.grownBy.refl _ _))
    rw [show dvs F n ++ dvs f 0 = dvs F n by simp [dvs]]
    exact hown
  | some ad =>
    refine wpList_append_own w hgd s x 34 ho base 3 i0 (.int .i64 0) 1 8 Tryd.underlying34 hi hz0 hz1 hz2 rfl (by decide) v n _ hs hown ad m c (dvs f m) hx (by simp [dvs_length]) ?_ ?_ (by unfold maxLen; omega) (by omega) hbase (fun v' w' h1 h2 _ => h v' w' h1 h2)
    · intro j u hj
      have hjm : j < m := by
        have := (List.getElem?_eq_some_iff.1 hj).1
        simpa [dvs_length] using this
      rw [dvs_get f hjm] at hj
      cases hj
      exact hc ad rfl j hjm
    · intro u hu
      unfold dvs at hu
      obtain ⟨i, _, rfl⟩ := List.mem_map.1 hu
      rfl
/-- a digit put ahead of a number -/
theorem push_front {w0 wr w1 : World} {v' : Value} {g d R : Nat} {o : Obj} (hb : Below w0.heap.size w0 wr) (hg : w0.heap.size ≤ g) (hgs : g < wr.heap.size)
    (hown : w1.ownsRow (g + 1) 3 1 v' (1 + tw R) (dvs (fun _ => d) 1 ++ dvs (tg R) (tw R))) (hgr : (wr.alloc o).grownBy w1 (some wr.heap.size)) :
    Below w0.heap.size w0 w1 ∧ Below (g + 1) wr w1 ∧ Dr w1 (g + 1) v' (tw R + 1) (fun t => if t = 0 then d else tg R (t - 1)) := by
  refine ⟨(hb.alloc hb.size o).grown hgr (Nat.le_trans hb.size (by simp)) (fun j hj => ?_), ((Below.refl _ wr).alloc (by omega) o).grown hgr (by simp; omega) (fun j hj => ?_), ?_⟩
  · cases hj; exact hb.size
  · cases hj; omega
  · unfold Dr
    have e : dvs (fun _ => d) 1 = [Value.int .i64 ((d : Nat) : Int)] := rfl
    rw [e] at hown
    rw [← dvs_cons, show tw R + 1 = 1 + tw R from Nat.add_comm _ _]
    exact hown
theorem tw_shift (x k : Nat) : tw (x / tp k) = tw x - k := by
  have h : ∀ c, tw (x / tp k) ≤ c ↔ tw x ≤ c + k := fun c => by
    rw [tw_le, tw_le, Nat.div_lt_iff_lt_mul (tp_pos k), tp_add]
  have h1 := (h (tw (x / tp k))).1 (Nat.le_refl _)
  have h2 := (h (tw x - k)).2 (by omega)
  omega
theorem tg_shift (x k t : Nat) : tg (x / tp k) t = tg x (k + t) := by
  unfold tg
  rw [Nat.div_div_eq_div_mul, tp_add]
theorem Rn.shift {w : World} {B : Nat} {v : Value} {x k : Nat} (h : Dr w B v (tw x - k) (fun t => tg x (k + t))) : Rn w v (x / tp k) := by
  unfold Rn
  rw [tw_shift]
  exact (h.mono (Nat.zero_le _)).congr fun i _ => (tg_shift x k i).symm
/-- the state at the head of the division's loop: the digits from j on are found -/
def DivAt (w : World) (x y p g j : Nat) (r : Value) (wr : World) : Prop :=
  Rn wr r (x / tp j % y) ∧ Dr wr w.heap.size (.slice (some ⟨g, 0, none⟩) (p + 1) (p + 1)) (p + 1) (fun t => if t < j then 0 else tg (x / y) t) ∧ Below w.heap.size w wr ∧ g < wr.heap.size
theorem DivAt.start {w w1 w' : World} {x y p : Nat} {v' : Value} {k : Nat} (hB : Below w.heap.size w w1) (hk : tw x - (p + 1) = k) (hlow : x / tp (p + 1) < y) (hp : p ≤ 1000000000)
    (hown : w'.ownsRow (w1.heap.size + 1) 3 1 v' k (dvs (fun _ => 0) 0 ++ dvs (fun t => tg x (p + 1 + t)) k))
    (hgr : ((w1.alloc (.cells (madeCells #[.int .i64 0] (p + 1)) 3)).alloc (.cells #[] 3)).grownBy w' (some (w1.heap.size + 1))) : DivAt w x y p w1.heap.size (p + 1) v' w' := by
  have hb2 : Below (w1.heap.size + 1) (w1.alloc (.cells (madeCells #[.int .i64 0] (p + 1)) 3)) w' :=
    ((Below.refl _ _).alloc (by simp) _).grown hgr (by simp) (fun j hj => by cases hj; omega)
  have hq := Dr.made (B := w.heap.size) w1 hB.size (p + 1) (by omega)
  refine ⟨?_, (hq.belowK hb2 (fun k hk => by cases hk; exact Nat.lt_succ_self _)).congr fun i hi => ?_, (hB.alloc hB.size _).trans (hb2.mono (by have := hB.size; omega)), ?_⟩
  · rw [Nat.mod_eq_of_lt hlow]
    refine Rn.shift (B := w1.heap.size + 1) ?_
    rw [hk]
    exact hown
  · rw [if_pos hi]
  · have := hb2.size
    simp at this
    omega
/-- the binary search ends where it should -/
theorem mid_le {y R d mid : Nat} (hy : 0 < y) (hd : R / y = d) : cmpI ((y * mid : Nat) : Int) (R : Int) ≤ 0 ↔ mid ≤ d := by
  rw [cmpI_le, ← hd, Nat.le_div_iff_mul_le hy, Nat.mul_comm]
/-- the digit is written, the rest is taken -/
theorem DivAt.next {w wr w3 : World} {x y p g j d : Nat} {r2 : Value} (hgw : w.heap.size ≤ g)
    (hq : Dr wr w.heap.size (.slice (some ⟨g, 0, none⟩) (p + 1) (p + 1)) (p + 1) (fun t => if t < j + 1 then 0 else tg (x / y) t)) (hb : Below w.heap.size w wr) (hg : g < wr.heap.size)
    (hd : tg (x / y) j = d) (hj : j < p + 1) (hr : Rn w3 r2 (x / tp j % y)) (h3 : Gr (wr.setCell ⟨g, j, none⟩ (.int .i64 ((d : Nat) : Int))) w3) : DivAt w x y p g j r2 w3 := by
  refine ⟨hr, ((hq.store j d hj).gr h3).congr fun i hi => ?_, (hb.setCell hgw _).trans (h3.mono ?_), Nat.lt_of_lt_of_le ?_ h3.size⟩
  · by_cases e : i = j
    · subst e; simp [hd]
    · by_cases e2 : i < j
      · simp [e, e2, show i < j + 1 by omega]
      · simp [e, e2, show ¬ i < j + 1 by omega]
  · have := hb.size
    simpa using this
  · simpa using hg
end Go.Proofs.YtflhpdlecpehkaaDoor


/- gussetref01.Div: the walk. No condition but a bound on lengths. -/
namespace Go.Proofs.YtflhpdlecpehkaaDoor
open Go.RowKit
set_option linter.unusedSimpArgs false
set_option linter.unusedVariables false

end Go.Proofs.YtflhpdlecpehkaaDoor


/- gussetref01.Div: the walk. No condition but a bound on lengths. -/
namespace Go.Proofs.YtflhpdlecpehkaaDoor
open Go.RowKit
set_option linter.unusedSimpArgs false
set_option linter.unusedVariables false

end Go.Proofs.YtflhpdlecpehkaaDoor


/- gussetref01.Gcd. No condition but a bound on lengths. -/
namespace Go.Proofs.YtflhpdlecpehkaaDoor
open Go.RowKit
set_option linter.unusedSimpArgs false
set_option linter.unusedVariables false
end Go.Proofs.YtflhpdlecpehkaaDoor
