/- A pack of texts: ParseP, Parse. No condition but those stated. -/
import Derived.Test.YtobojnodohjiaaaGreatDoorPF
import Derived.Test.YtobojnodohjiaaaGreatDoorPA
import Derived.Test.YtobojnodohjiaaaGreatDoorPR
import Derived.Test.YtobojnodohjiaaaGreatDoorPD
set_option linter.unusedVariables false
set_option linter.unusedSimpArgs false
/- Reading decimal forms: plain; and own rows of words in memory. -/
namespace Go.Proofs.YtobojnodohjiaaaGreatDoor
open Go.RowKit
def byt (s : ByteArray) (i : Nat) : Nat := if h : i < s.size then (s[i]'h).toNat else 0
def pvr (s : ByteArray) (a : Nat) : Nat → Nat
  | 0 => 0
  | k + 1 => 10 * pvr s a k + (byt s (a + k) - 48)
def pv (s : ByteArray) (k : Nat) : Nat := pvr s 0 k
def pgood (s : ByteArray) : Prop := 0 < s.size ∧ (byt s 0 = 48 → s.size ≤ 1) ∧ ∀ i, i < s.size → 48 ≤ byt s i ∧ byt s i ≤ 57
instance (s : ByteArray) : Decidable (pgood s) := inferInstanceAs (Decidable (_ ∧ _ ∧ ∀ i, i < s.size → _))
def wvs (f : Nat → Nat) (n : Nat) : List Value := (List.range n).map fun i => .int .u32 ((f i : Nat) : Int)
theorem wvs_length (f : Nat → Nat) (n : Nat) : (wvs f n).length = n := by simp [wvs]
theorem wvs_get (f : Nat → Nat) {n i : Nat} (h : i < n) : (wvs f n)[i]? = some (.int .u32 ((f i : Nat) : Int)) := by simp [wvs, h]
theorem wvs_congr {f g : Nat → Nat} {n : Nat} (h : ∀ i, i < n → f i = g i) : wvs f n = wvs g n := by
  apply List.map_congr_left
  intro i hi
  rw [h i (by simpa using hi)]
theorem wvs_snoc (f : Nat → Nat) (n d : Nat) : wvs f n ++ [.int .u32 ((d : Nat) : Int)] = wvs (fun i => if i = n then d else f i) (n + 1) := by
  unfold wvs
  rw [List.range_succ, List.map_append]
  congr 1
  · apply List.map_congr_left
    intro i hi
    have : i < n := by simpa using hi
    simp [Nat.ne_of_lt this]
  · simp
theorem wvs_set (f : Nat → Nat) (n i d : Nat) : (wvs f n).set i (.int .u32 ((d : Nat) : Int)) = wvs (fun j => if j = i then d else f j) n := by
  apply List.ext_getElem?
  intro j
  by_cases hj : j < n
  · rw [wvs_get _ hj, List.getElem?_set]
    by_cases e : i = j
    · subst e; simp [wvs_length, hj]
    · rw [if_neg e, wvs_get _ hj, if_neg (Ne.symm e)]
  · rw [List.getElem?_eq_none (by simp [wvs_length]; omega), List.getElem?_eq_none (by simp [wvs_length]; omega)]
def Wr (w : World) (B : Nat) (v : Value) (n : Nat) (f : Nat → Nat) : Prop := w.ownsRow B 22 1 v n (wvs f n)
section
variable {w w' : World} {B n : Nat} {v : Value} {f g : Nat → Nat}
theorem Wr.cases (h : Wr w B v n f) : (v = .slice none 0 0 ∧ n = 0) ∨ ∃ b c, v = .slice (some ⟨b, 0, none⟩) n c ∧ B ≤ b ∧ b < w.heap.size ∧ n ≤ c ∧ c ≤ 9223372036854775807 ∧ (∀ i, i < n → w.cell? ⟨b, i, none⟩ = some (.int .u32 ((f i : Nat) : Int))) ∧ (∀ i, w.frozen? ⟨b, i, none⟩ = false) := by
  have h0 := h
  rcases h.2 with hn | ⟨b, c, cur, rfl, hb, hg, hc, hm, hs, ht⟩
  · exact .inl hn
  · refine .inr ⟨b, c, rfl, hb, (Array.getElem?_eq_some_iff.1 hg).1, hc, hm, fun i hi => ?_, fun i => h0.frozenAt i⟩
    rw [World.ownsRow.cellAt h0 i (by omega), wvs_get f hi]
theorem Wr.slice (h : Wr w B v n f) : ∃ ao c, v = .slice ao n c ∧ n ≤ c ∧ c ≤ 9223372036854775807 := by
  rcases h.cases with ⟨rfl, rfl⟩ | ⟨b, c, rfl, _, _, h1, h2, _⟩
  · exact ⟨none, 0, rfl, Nat.le_refl _, by decide⟩
  · exact ⟨_, _, rfl, h1, h2⟩
theorem Wr.congr (h : Wr w B v n f) (e : ∀ i, i < n → f i = g i) : Wr w B v n g := by unfold Wr at *; rw [← wvs_congr e]; exact h
theorem Wr.gr (h : Wr w B v n f) (hg : Gr w w') : Wr w' B v n f := by
  refine ⟨h.1, ?_⟩
  rcases h.2 with hn | ⟨b, c, cur, rfl, hb, hh, rest⟩
  · exact .inl hn
  · exact .inr ⟨b, c, cur, rfl, hb, hg.block hh, rest⟩
theorem Wr.alloc (h : Wr w B v n f) (o : Obj) : Wr (w.alloc o) B v n f := h.gr (Gr.alloc w o)
theorem Wr.nil (w : World) (B : Nat) (f : Nat → Nat) : Wr w B (.slice none 0 0) 0 f := World.ownsRow_nil _ _ _ _
theorem Wr.own (h : Wr w B v n f) : ∀ k, v.ownBlock = some k → B ≤ k ∧ k < w.heap.size := World.ownsRow.lt h
theorem Wr.set {b c i d : Nat} (h : Wr w B (.slice (some ⟨b, 0, none⟩) n c) n f) : Wr (w.setCell ⟨b, i, none⟩ (.int .u32 ((d : Nat) : Int))) B (.slice (some ⟨b, 0, none⟩) n c) n (fun j => if j = i then d else f j) := by
  unfold Wr
  rw [← wvs_set]
  exact (World.ownsRow.stored h i _).1
theorem Wr.push {w0 wr w1 : World} {v v' : Value} {k d : Nat} {f : Nat → Nat} {o : Obj} (hb : Below w0.heap.size w0 wr) (ho : Wr wr (w0.heap.size + 1) v k f)
    (hown : w1.ownsRow (w0.heap.size + 1) 22 1 v' (k + 1) (wvs f k ++ [.int .u32 ((d : Nat) : Int)])) (hg : (wr.alloc o).grownBy w1 v.ownBlock) :
    Below w0.heap.size w0 w1 ∧ Wr w1 (w0.heap.size + 1) v' (k + 1) (fun i => if i = k then d else f i) :=
  ⟨(hb.alloc hb.size o).grown hg (Nat.le_trans hb.size (by simp)) (fun j hj => Nat.le_of_succ_le (ho.own j hj).1), by unfold Wr; rw [← wvs_snoc]; exact hown⟩
end
end Go.Proofs.YtobojnodohjiaaaGreatDoor
/- nats.Parse: the walk. -/
namespace Go.Proofs.YtobojnodohjiaaaGreatDoor
open Go.RowKit
end Go.Proofs.YtobojnodohjiaaaGreatDoor
