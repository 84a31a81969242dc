/- A pack of texts: RefI, RefJ, RefM. No condition but those stated. -/
import Derived.Test.YtobojnodohjiaaaGreatDoorPG
import Derived.Test.YtobojnodohjiaaaGreatDoorPC
import Derived.Test.YtobojnodohjiaaaGreatDoorPD
import Derived.Test.YtobojnodohjiaaaGreatDoorPR
set_option linter.unusedVariables false
set_option linter.unusedSimpArgs false
/- gussetref01: OfWords, Pow, Bits. No condition but a bound on lengths. -/
namespace Go.Proofs.YtobojnodohjiaaaGreatDoor
open Go.RowKit
theorem bp_le_tp (k : Nat) : bp k ≤ tp (3 * k) := by
  unfold bp tp
  rw [Nat.pow_mul]
  exact Nat.pow_le_pow_left (by decide) k
theorem tw_wl (n : Nat) : tw n ≤ 3 * wl n := tw_le.2 (Nat.lt_of_lt_of_le (lt_bp_wl n) (bp_le_tp _))
theorem Rn.nil (w : World) : Rn w (.slice none 0 0) 0 := by unfold Rn; rw [tw_zero]; exact Dr.nil _ _ _
def Wa (w : World) (v : Value) (k : Nat) (f : Nat → Nat) : Prop :=
  (∃ ao c, v = .slice ao k c ∧ k = 0) ∨ ∃ b o c, v = .slice (some ⟨b, o, none⟩) k c ∧ b < w.heap.size ∧ ∀ i, i < k → w.cell? ⟨b, o + i, none⟩ = some (.int .u32 ((f i : Nat) : Int))
theorem Wa.gr {w w' : World} {v : Value} {k : Nat} {f : Nat → Nat} (h : Wa w v k f) (hg : Gr w w') : Wa w' v k f := by
  rcases h with h | ⟨b, o, c, rfl, hb, hc⟩
  · exact .inl h
  · exact .inr ⟨b, o, c, rfl, Nat.lt_of_lt_of_le hb hg.size, fun i hi => (Below.cell hg (p := ⟨b, o + i, none⟩) hb).trans (hc i hi)⟩
theorem Wa.slice {w : World} {v : Value} {k : Nat} {f : Nat → Nat} (h : Wa w v k f) : ∃ ao c, v = .slice ao k c := by
  rcases h with ⟨ao, c, rfl, _⟩ | ⟨b, o, c, rfl, _⟩
  · exact ⟨_, _, rfl⟩
  · exact ⟨_, _, rfl⟩
end Go.Proofs.YtobojnodohjiaaaGreatDoor
/- gussetref01: Pow, Bits. No condition but a bound on lengths. -/
namespace Go.Proofs.YtobojnodohjiaaaGreatDoor
open Go.RowKit
theorem nb_tw (n : Nat) : nb n ≤ 14 * tw n := by
  rw [nb_le]
  refine Nat.lt_of_lt_of_le (lt_tp_tw n) ?_
  unfold tp
  rw [Nat.pow_mul]
  exact Nat.pow_le_pow_left (by decide) _
end Go.Proofs.YtobojnodohjiaaaGreatDoor
/- gussetref01.Sqrt. No condition but a bound on lengths. -/
namespace Go.Proofs.YtobojnodohjiaaaGreatDoor
open Go.RowKit
def RootAt (w : World) (r n g j : Nat) (wr : World) : Prop :=
  Dr wr w.heap.size (.slice (some ⟨g, 0, none⟩) n n) n (fun t => if t < j then 0 else tg r t) ∧ Below w.heap.size w wr ∧ g < wr.heap.size
theorem RootAt.next {w wr : World} {r n g j d : Nat} (hgw : w.heap.size ≤ g) (h : RootAt w r n g (j + 1) wr) (hd : tg r j = d) (hj : j < n) : RootAt w r n g j (wr.setCell ⟨g, j, none⟩ (.int .i64 ((d : Nat) : Int))) := by
  refine ⟨(h.1.store j d hj).congr fun i hi => ?_, h.2.1.setCell hgw _, by simpa using h.2.2⟩
  by_cases e : i = j
  · subst e; simp [hd]
  · by_cases e2 : i < j
    · simp [e, e2, show i < j + 1 by omega]
    · simp [e, e2, show ¬ i < j + 1 by omega]
end Go.Proofs.YtobojnodohjiaaaGreatDoor
