
/- append onto a slice of one's own, with its content and what else is known of the world. No condition but those stated. -/
import Derived.Test.YtaflakcemiilaaaGreatDoorHp
import Derived.Maps.AppendAt
import Derived.Test.YtaflakcemiilaaaGreatDoorFs
namespace Go.Proofs.YtaflakcemiilaaaGreatDoor
open Go.RowKit
set_option linter.unusedVariables false
/-- the slice v of n elements (k cells each, xs) lies at the head of the block b, whose content is cur -/
def RowV (b : Nat) (cur : Array Value) (k : Nat) (v : Value) (n : Nat) (xs : List Value) : Prop :=
  ∃ cap, v = .slice (some ⟨b, 0, none⟩) n cap ∧ n ≤ cap ∧ cap ≤ maxLen ∧ cur.size = cap * k ∧ cur.toList.take (n * k) = xs ∧ xs.length = n * k
section
variable {w0 W W' : World} {L : List Fk} {b E k n : Nat} {cur : Array Value} {v : Value} {xs : List Value}
theorem RowV.own (h : RowV b cur k v n xs) (hB : Bx W b E cur) (hle : w0.heap.size ≤ b) : W.ownsRow w0.heap.size E k v n xs := by
  obtain ⟨cap, rfl, h1, h2, h3, h4, h5⟩ := h
  exact ⟨h5, .inr ⟨b, cap, cur, rfl, hle, hB, h1, h2, h3, h4⟩⟩
theorem RowV.sl (h : RowV b cur k v n xs) : ∃ cap, v = .slice (some ⟨b, 0, none⟩) n cap := by
  obtain ⟨cap, e, _⟩ := h; exact ⟨cap, e⟩
theorem RowV.cell (h : RowV b cur k v n xs) (hB : Bx W b E cur) (g : Gr W W') (i : Nat) (hi : i < n * k) : W'.cell? ⟨b, i, none⟩ = xs[i]? := by
  obtain ⟨cap, rfl, h1, h2, h3, h4, h5⟩ := h
  rw [hB.cells W' g, ← h4, List.getElem?_take_of_lt hi, Array.getElem?_toList]
theorem Rn.kept {u : Value} {m : Nat} {row : Option Nat} (h : Rn W u m) (g : W.grownBy W' row) (hne : ∀ j, row = some j → u.ownBlock ≠ some j) : Rn W' u m := by
  refine World.ownsRow.kept h g ?_
  cases hr : row with
  | none => cases hu : u.ownBlock with
    | none => exact .inl rfl
    | some j => exact .inr (by simp)
  | some j => exact .inr (hne j hr)
end
end Go.Proofs.YtaflakcemiilaaaGreatDoor

namespace Go.Proofs.YtaflakcemiilaaaGreatDoor
open Go.RowKit
set_option linter.unusedVariables false
section
variable {w0 W : World} {L : List Fk} {E k n : Nat} {v : Value} {xs : List Value}
/-- the known blocks are others than the slice's -/
def Apart (L : List Fk) (v : Value) : Prop := ∀ (i : Nat) (x : Nat × TypeId × Array Value), L[i]? = some (Sum.inl x) → v.ownBlock ≠ some x.1
theorem HP.grown {W' : World} {row : Option Nat} (h : HP w0 W L) (hrow : ∀ j, row = some j → w0.heap.size ≤ j) (hM : ∀ (i : Nat) (x : Nat × TypeId × Array Value), L[i]? = some (Sum.inl x) → row ≠ some x.1)
    (hR : ∀ (i : Nat) (v : Value) (m : Nat), L[i]? ≠ some (Sum.inr (v, m))) (g : W.grownBy W' row) : HP w0 W' L := by
  obtain ⟨h1, h2, h3⟩ := h
  refine ⟨h1.grown g h1.size hrow, fun i e he => ?_, h3⟩
  have := h2 i e he
  rcases e with ⟨c, S, ds⟩ | ⟨u, m⟩
  · exact ⟨(g.block c this.1.lt (fun e => hM i _ he e.symm)).trans this.1, this.2⟩
  · exact absurd he (hR i u m)
theorem own_at (own : W.ownsRow w0.heap.size E k v n xs) : ∀ j, v.ownBlock = some j → w0.heap.size ≤ j := by
  obtain ⟨_, ⟨rfl, _⟩ | ⟨g, cap, cur, rfl, h, _⟩⟩ := own
  · intro j hj; cases hj
  · intro j hj; injection hj with hj; subst hj; exact h
theorem apX {ops : Array Oper} {rest : List Oper} {o : Oper} {a : Act} {Q : Exit → Act → World → Prop} {ad : Addr} {m c bytes : Nat} {news : List Value} {i : TypeInfo} {z : Value} (HG : Hid (HP w0 W L)) (own : Hid (W.ownsRow w0.heap.size E k v n xs)) (HA : Hid (Apart L v)) (s x : Operand) (t : TypeId)
    (hi : Tryz.prog.info? E = some i) (hz : i.zero = some z) (hsize : i.size = k) (hby : i.bytes = bytes) (hzs : z.cells.size = k) (hty : Tryz.prog.underlying t = some (.slice E))
    (h63 : n + m ≤ maxLen) (hbytes : (n + m) * bytes ≤ 140737488355328) (hR : ∀ (i : Nat) (v : Value) (m : Nat), L[i]? ≠ some (Sum.inr (v, m)))
    (hv : a.eval s = v) (hx : a.eval x = .slice (some ad) m c) (hnews : Hid (∀ j u, news[j]? = some u → W.cell? (ad.add j) = some u)) (hl : news.length = m * k) (h1 : ∀ u ∈ news, u.oneCell' = true) (hk : 0 < k)
    (ho : o.op = .call { callee := .builtin .append, args := #[s, x], argTypes := #[t, t] }) (hgd : o.guard = none)
    (h : ∀ v' W', Hid (HP w0 W' L) → Hid (W'.ownsRow w0.heap.size E k v' (n + m) (xs ++ news)) → Hid (Apart L v') → wpList Tryz.prog ops Q rest (a.put o.dst v') W') : wpList Tryz.prog ops Q (o :: rest) a W := by
  refine wpList_append_own_at W hgd s x t ho w0.heap.size E i z k bytes hty hi hz hsize hby hzs hk v n xs hv own.out ad m c news hx hl hnews.out h1 h63 hbytes HG.out.1.size ?_
  intro v' W' own' grown _ hat
  refine h v' W' (Lib.hid (HG.out.grown (own_at own.out) HA.out hR grown)) (Lib.hid own') (Lib.hid fun j y hy e => ?_)
  rcases hat with ha | ha
  · exact HA.out j y hy (ha ▸ e)
  · have := HG.out.lt j y hy
    rw [e] at ha
    injection ha with ha
    omega
theorem own_gr {B : Nat} {W' : World} (h : W.ownsRow B E k v n xs) (hg : Gr W W') : W'.ownsRow B E k v n xs := by
  obtain ⟨hl, h | ⟨g, cap, cur, rfl, h0, hc, h1⟩⟩ := h
  · exact ⟨hl, .inl h⟩
  · exact ⟨hl, .inr ⟨g, cap, cur, rfl, h0, Bx.gr (show Bx W g E cur from hc) hg, h1⟩⟩
/-- a slice of one's own that is not empty, as a known block -/
theorem own_hp (h : HP w0 W L) (own : W.ownsRow w0.heap.size E k v n xs) (ha : Apart L v) (hn : 0 < n) (hE : E ≠ 3) : ∃ g cur, HP w0 W (L ++ [Sum.inl (g, E, cur)]) ∧ RowV g cur k v n xs := by
  obtain ⟨hl, ⟨_, h0⟩ | ⟨g, cap, cur, rfl, hg, hc, h1, h2, h3, h4⟩⟩ := own
  · omega
  · exact ⟨g, cur, h.add hc hE hg (fun i x hx e => ha i x hx (by show some g = some x.1; rw [e])), ⟨cap, rfl, h1, h2, h3, h4, hl⟩⟩
end
/-- the cells of fractions -/
def fcs (f : Nat → Rat) : Nat → List Value
  | 0 => []
  | k + 1 => fcs f k ++ fcl (f k)
theorem fcs_len (f : Nat → Rat) (n : Nat) : (fcs f n).length = n * 5 := by
  induction n with
  | zero => rfl
  | succ n ih => rw [fcs, List.length_append, ih]; show _ + 5 = _; omega
theorem fcs_at (f : Nat → Rat) (n i j : Nat) (hi : i < n) (hj : j < 5) : (fcs f n)[i * 5 + j]? = (fcl (f i))[j]? := by
  induction n with
  | zero => omega
  | succ n ih =>
    have hl := fcs_len f n
    rcases Nat.lt_or_ge i n with h | h
    · rw [fcs, List.getElem?_append_left (by omega)]
      exact ih h
    · obtain rfl : i = n := by omega
      rw [fcs, List.getElem?_append_right (by omega), hl, Nat.add_sub_cancel_left]
theorem rowv_fs {W : World} {g E n : Nat} {cur : Array Value} {v : Value} {f : Nat → Rat} (h : RowV g cur 5 v n (fcs f n)) (hB : Bx W g E cur) : Fs W v n f := by
  obtain ⟨cap, rfl, h1, h2, h3, h4, h5⟩ := h
  refine .inr ⟨g, 0, cap, rfl, hB.lt, fun i hi j hj => ?_⟩
  have hlt : i * 5 + j < n * 5 := by omega
  rw [Nat.zero_add, hB.cells W (Gr.refl _), ← fcs_at f n i j hi hj, ← h4, List.getElem?_take_of_lt hlt, Array.getElem?_toList]
end Go.Proofs.YtaflakcemiilaaaGreatDoor
