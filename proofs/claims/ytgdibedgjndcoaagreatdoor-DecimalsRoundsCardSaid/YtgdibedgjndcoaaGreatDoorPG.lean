/- A pack of texts: RefF, RefG1, RefG, RefH. No condition but those stated. -/
import Derived.Test.YtgdibedgjndcoaaGreatDoorPF
import Derived.Laws.AppendOwnNone
import Derived.Deep.LoopGhost
set_option linter.unusedVariables false
set_option linter.unusedSimpArgs false

/- gussetref01.Div. No condition but a bound on lengths. -/
namespace Go.Proofs.YtgdibedgjndcoaaGreatDoor
open Go.RowKit
set_option linter.unusedSimpArgs false
set_option linter.unusedVariables false

section
variable {w : World} {B n : Nat} {v : Value} {f : Nat → Nat}
theorem Dr.num (h : Dr w B v (tl f n) f) (hf : ∀ i, i < n → f i < 10000) : Dr w B v (tw (tv f n)) (tg (tv f n)) := by
  have e := tl_tw hf
  have hle := tl_le f n
  rw [← e]
  refine h.congr fun i hi => ?_
  rw [← tv_tl, tg_tv (fun j hj => hf j (by omega)) hi]
theorem Dr.belowK {C : Nat} {w' : World} (h : Dr w B v n f) (hb : Below C w w') (hlt : ∀ k, v.ownBlock = some k → k < C) : Dr w' B v n f := by
  refine ⟨h.1, ?_⟩
  rcases h.2 with hn | ⟨b, c, cur, rfl, hb0, hh, rest⟩
  · exact .inl hn
  · exact .inr ⟨b, c, cur, rfl, hb0, (hb.block b (hlt b rfl)).trans hh, rest⟩
theorem Rn.form {k : Nat} (h : Rn w v k) : ∃ ao c, v = .slice ao (tw k) c ∧ (ao = none → tw k = 0 ∧ c = 0) ∧ ∀ ad, ao = some ad → ∀ j, j < tw k → w.cell? (ad.add j) = some (.int .i64 ((tg k j : Nat) : Int)) := by
  rcases Dr.cases h with ⟨rfl, e⟩ | ⟨b, c, rfl, _, _, h1, h2, h3, _⟩
  · exact ⟨none, 0, by rw [e], fun _ => ⟨e, rfl⟩, fun ad had => by cases had⟩
  · refine ⟨_, c, rfl, fun e => (by cases e), fun ad had j hj => ?_⟩
    cases had
    rw [← h3 j hj]
    congr 1
    unfold Addr.add
    split <;> simp_all
theorem cell_lt {a : Addr} {u : Value} (h : w.cell? a = some u) : a.block < w.heap.size := by
  rcases Nat.lt_or_ge a.block w.heap.size with h1 | h1
  · exact h1
  · have : w.heap[a.block]? = none := Array.getElem?_eq_none h1
    simp [World.cell?, this] at h
theorem Rn.zero (w : World) : Rn w (.slice none 0 0) 0 := by unfold Rn; rw [tw_zero]; exact Dr.nil _ _ _
end
theorem tw_shift (x k : Nat) : tw (x / tp k) = tw x - k := by
  have h : ∀ c, tw (x / tp k) ≤ c ↔ tw x ≤ c + k := fun c => by
    rw [tw_le, tw_le, Nat.div_lt_iff_lt_mul (tp_pos k), tp_add]
  have h1 := (h (tw (x / tp k))).1 (Nat.le_refl _)
  have h2 := (h (tw x - k)).2 (by omega)
  omega
theorem tg_shift (x k t : Nat) : tg (x / tp k) t = tg x (k + t) := by
  unfold tg
  rw [Nat.div_div_eq_div_mul, tp_add]
theorem Rn.shift {w : World} {B : Nat} {v : Value} {x k : Nat} (h : Dr w B v (tw x - k) (fun t => tg x (k + t))) : Rn w v (x / tp k) := by
  unfold Rn
  rw [tw_shift]
  exact (h.mono (Nat.zero_le _)).congr fun i _ => (tg_shift x k i).symm
/-- the state at the head of the division's loop: the digits from j on are found -/
def DivAt (w : World) (x y p g j : Nat) (r : Value) (wr : World) : Prop :=
  Rn wr r (x / tp j % y) ∧ Dr wr w.heap.size (.slice (some ⟨g, 0, none⟩) (p + 1) (p + 1)) (p + 1) (fun t => if t < j then 0 else tg (x / y) t) ∧ Below w.heap.size w wr ∧ g < wr.heap.size
theorem DivAt.start {w w1 w' : World} {x y p : Nat} {v' : Value} {k : Nat} (hB : Below w.heap.size w w1) (hk : tw x - (p + 1) = k) (hlow : x / tp (p + 1) < y) (hp : p ≤ 1000000000)
    (hown : w'.ownsRow (w1.heap.size + 1) 3 1 v' k (dvs (fun _ => 0) 0 ++ dvs (fun t => tg x (p + 1 + t)) k))
    (hgr : ((w1.alloc (.cells (madeCells #[.int .i64 0] (p + 1)) 3)).alloc (.cells #[] 3)).grownBy w' (some (w1.heap.size + 1))) : DivAt w x y p w1.heap.size (p + 1) v' w' := by
  have hb2 : Below (w1.heap.size + 1) (w1.alloc (.cells (madeCells #[.int .i64 0] (p + 1)) 3)) w' :=
    ((Below.refl _ _).alloc (by simp) _).grown hgr (by simp) (fun j hj => by cases hj; omega)
  have hq := Dr.made (B := w.heap.size) w1 hB.size (p + 1) (by omega)
  refine ⟨?_, (hq.belowK hb2 (fun k hk => by cases hk; exact Nat.lt_succ_self _)).congr fun i hi => ?_, (hB.alloc hB.size _).trans (hb2.mono (by have := hB.size; omega)), ?_⟩
  · rw [Nat.mod_eq_of_lt hlow]
    refine Rn.shift (B := w1.heap.size + 1) ?_
    rw [hk]
    exact hown
  · rw [if_pos hi]
  · have := hb2.size
    simp at this
    omega
/-- the digit is written, the rest is taken -/
theorem DivAt.next {w wr w3 : World} {x y p g j d : Nat} {r2 : Value} (hgw : w.heap.size ≤ g)
    (hq : Dr wr w.heap.size (.slice (some ⟨g, 0, none⟩) (p + 1) (p + 1)) (p + 1) (fun t => if t < j + 1 then 0 else tg (x / y) t)) (hb : Below w.heap.size w wr) (hg : g < wr.heap.size)
    (hd : tg (x / y) j = d) (hj : j < p + 1) (hr : Rn w3 r2 (x / tp j % y)) (h3 : Gr (wr.setCell ⟨g, j, none⟩ (.int .i64 ((d : Nat) : Int))) w3) : DivAt w x y p g j r2 w3 := by
  refine ⟨hr, ((hq.store j d hj).gr h3).congr fun i hi => ?_, (hb.setCell hgw _).trans (h3.mono ?_), Nat.lt_of_lt_of_le ?_ h3.size⟩
  · by_cases e : i = j
    · subst e; simp [hd]
    · by_cases e2 : i < j
      · simp [e, e2, show i < j + 1 by omega]
      · simp [e, e2, show ¬ i < j + 1 by omega]
  · have := hb.size
    simpa using this
  · simpa using hg
end Go.Proofs.YtgdibedgjndcoaaGreatDoor


/- gussetref01.Div: the walk. No condition but a bound on lengths. -/
namespace Go.Proofs.YtgdibedgjndcoaaGreatDoor
open Go.RowKit
set_option linter.unusedSimpArgs false
set_option linter.unusedVariables false

end Go.Proofs.YtgdibedgjndcoaaGreatDoor


/- gussetref01.Div: the walk. No condition but a bound on lengths. -/
namespace Go.Proofs.YtgdibedgjndcoaaGreatDoor
open Go.RowKit
set_option linter.unusedSimpArgs false
set_option linter.unusedVariables false

end Go.Proofs.YtgdibedgjndcoaaGreatDoor


/- gussetref01.Gcd. No condition but a bound on lengths. -/
namespace Go.Proofs.YtgdibedgjndcoaaGreatDoor
open Go.RowKit
set_option linter.unusedSimpArgs false
set_option linter.unusedVariables false
end Go.Proofs.YtgdibedgjndcoaaGreatDoor
