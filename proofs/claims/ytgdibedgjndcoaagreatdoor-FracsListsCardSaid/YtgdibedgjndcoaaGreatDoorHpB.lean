
/- append onto a slice of one's own, with its content and what else is known of the world. No condition but those stated. -/
import Derived.Test.YtgdibedgjndcoaaGreatDoorHpA
import Derived.Test.YtgdibedgjndcoaaGreatDoorFs
namespace Go.Proofs.YtgdibedgjndcoaaGreatDoor
open Go.RowKit
set_option linter.unusedVariables false
section
variable {w0 W : World} {L : List Fk} {E k n : Nat} {v : Value} {xs : List Value}
/-- the known blocks are others than the slice's -/
def Apart (L : List Fk) (v : Value) : Prop := ∀ (i : Nat) (x : Nat × TypeId × Array Value), L[i]? = some (Sum.inl x) → v.ownBlock ≠ some x.1
theorem HP.grown {W' : World} {row : Option Nat} (h : HP w0 W L) (hrow : ∀ j, row = some j → w0.heap.size ≤ j) (hM : ∀ (i : Nat) (x : Nat × TypeId × Array Value), L[i]? = some (Sum.inl x) → row ≠ some x.1)
    (hR : ∀ (i : Nat) (v : Value) (m : Nat), L[i]? ≠ some (Sum.inr (v, m))) (g : W.grownBy W' row) : HP w0 W' L := by
  obtain ⟨h1, h2, h3⟩ := h
  refine ⟨h1.grown g h1.size hrow, fun i e he => ?_, h3⟩
  have := h2 i e he
  rcases e with ⟨c, S, ds⟩ | ⟨u, m⟩
  · exact ⟨(g.block c this.1.lt (fun e => hM i _ he e.symm)).trans this.1, this.2⟩
  · exact absurd he (hR i u m)
theorem own_at (own : W.ownsRow w0.heap.size E k v n xs) : ∀ j, v.ownBlock = some j → w0.heap.size ≤ j := by
  obtain ⟨_, ⟨rfl, _⟩ | ⟨g, cap, cur, rfl, h, _⟩⟩ := own
  · intro j hj; cases hj
  · intro j hj; injection hj with hj; subst hj; exact h
theorem apX {ops : Array Oper} {rest : List Oper} {o : Oper} {a : Act} {Q : Exit → Act → World → Prop} {ad : Addr} {m c bytes : Nat} {news : List Value} {i : TypeInfo} {z : Value} (HG : Hid (HP w0 W L)) (own : Hid (W.ownsRow w0.heap.size E k v n xs)) (HA : Hid (Apart L v)) (s x : Operand) (t : TypeId)
    (hi : Tryz.prog.info? E = some i) (hz : i.zero = some z) (hsize : i.size = k) (hby : i.bytes = bytes) (hzs : z.cells.size = k) (hty : Tryz.prog.underlying t = some (.slice E))
    (h63 : n + m ≤ maxLen) (hbytes : (n + m) * bytes ≤ 140737488355328) (hR : ∀ (i : Nat) (v : Value) (m : Nat), L[i]? ≠ some (Sum.inr (v, m)))
    (hv : a.eval s = v) (hx : a.eval x = .slice (some ad) m c) (hnews : Hid (∀ j u, news[j]? = some u → W.cell? (ad.add j) = some u)) (hl : news.length = m * k) (h1 : ∀ u ∈ news, u.oneCell' = true) (hk : 0 < k)
    (ho : o.op = .call { callee := .builtin .append, args := #[s, x], argTypes := #[t, t] }) (hgd : o.guard = none)
    (h : ∀ v' W', Hid (HP w0 W' L) → Hid (W'.ownsRow w0.heap.size E k v' (n + m) (xs ++ news)) → Hid (Apart L v') → wpList Tryz.prog ops Q rest (a.put o.dst v') W') : wpList Tryz.prog ops Q (o :: rest) a W := by
  refine wpList_append_own_at W hgd s x t ho w0.heap.size E i z k bytes hty hi hz hsize hby hzs hk v n xs hv own.out ad m c news hx hl hnews.out h1 h63 hbytes HG.out.1.size ?_
  intro v' W' own' grown _ hat
  refine h v' W' (Lib.hid (HG.out.grown (own_at own.out) HA.out hR grown)) (Lib.hid own') (Lib.hid fun j y hy e => ?_)
  rcases hat with ha | ha
  · exact HA.out j y hy (ha ▸ e)
  · have := HG.out.lt j y hy
    rw [e] at ha
    injection ha with ha
    omega
theorem own_gr {B : Nat} {W' : World} (h : W.ownsRow B E k v n xs) (hg : Gr W W') : W'.ownsRow B E k v n xs := by
  obtain ⟨hl, h | ⟨g, cap, cur, rfl, h0, hc, h1⟩⟩ := h
  · exact ⟨hl, .inl h⟩
  · exact ⟨hl, .inr ⟨g, cap, cur, rfl, h0, Bx.gr (show Bx W g E cur from hc) hg, h1⟩⟩
/-- a slice of one's own that is not empty, as a known block -/
theorem own_hp (h : HP w0 W L) (own : W.ownsRow w0.heap.size E k v n xs) (ha : Apart L v) (hn : 0 < n) (hE : E ≠ 3) : ∃ g cur, HP w0 W (L ++ [Sum.inl (g, E, cur)]) ∧ RowV g cur k v n xs := by
  obtain ⟨hl, ⟨_, h0⟩ | ⟨g, cap, cur, rfl, hg, hc, h1, h2, h3, h4⟩⟩ := own
  · omega
  · exact ⟨g, cur, h.add hc hE hg (fun i x hx e => ha i x hx (by show some g = some x.1; rw [e])), ⟨cap, rfl, h1, h2, h3, h4, hl⟩⟩
theorem hp_own {g : Nat} {cur : Array Value} (h : HP w0 W (L ++ [Sum.inl (g, E, cur)])) (hr : RowV g cur k v n xs) : HP w0 W L ∧ W.ownsRow w0.heap.size E k v n xs ∧ Apart L v := by
  have hl : (L ++ [(Sum.inl (g, E, cur) : Fk)])[L.length]? = some (Sum.inl (g, E, cur)) := by simp
  refine ⟨?_, hr.own (h.bx L.length hl) (h.2.1 L.length _ hl).2.2, fun i x hx e => ?_⟩
  · have := h.er L.length
    rwa [List.eraseIdx_append_of_length_le (Nat.le_refl _), Nat.sub_self, List.eraseIdx_cons_zero, List.append_nil] at this
  · rw [hr.blk] at e
    injection e with e
    have hi : i < L.length := (List.getElem?_eq_some_iff.1 hx).1
    exact h.2.2 i L.length x _ (by omega) (by rw [List.getElem?_append_left hi]; exact hx) hl e.symm
end
/-- the cells of fractions -/
def fcs (f : Nat → Rat) : Nat → List Value
  | 0 => []
  | k + 1 => fcs f k ++ fcl (f k)
theorem fcs_len (f : Nat → Rat) (n : Nat) : (fcs f n).length = n * 5 := by
  induction n with
  | zero => rfl
  | succ n ih => rw [fcs, List.length_append, ih]; show _ + 5 = _; omega
theorem fcs_at (f : Nat → Rat) (n i j : Nat) (hi : i < n) (hj : j < 5) : (fcs f n)[i * 5 + j]? = (fcl (f i))[j]? := by
  induction n with
  | zero => omega
  | succ n ih =>
    have hl := fcs_len f n
    rcases Nat.lt_or_ge i n with h | h
    · rw [fcs, List.getElem?_append_left (by omega)]
      exact ih h
    · obtain rfl : i = n := by omega
      rw [fcs, List.getElem?_append_right (by omega), hl, Nat.add_sub_cancel_left]
theorem fcs_one (f : Nat → Rat) (n : Nat) : ∀ u ∈ fcs f n, u.oneCell' = true := by
  induction n with
  | zero => intro u hu; cases hu
  | succ n ih =>
    intro u hu
    rw [fcs] at hu
    rcases List.mem_append.1 hu with hu | hu
    · exact ih u hu
    · simp [fcl] at hu
      rcases hu with rfl | rfl | rfl | rfl | rfl <;> rfl
theorem fcs_add (f : Nat → Rat) (n m : Nat) : fcs f (n + m) = fcs f n ++ fcs (fun i => f (n + i)) m := by
  induction m with
  | zero => simp [fcs]
  | succ m ih => rw [← Nat.add_assoc, fcs, ih, fcs, List.append_assoc]
theorem fcs_eq (f g : Nat → Rat) (n : Nat) (h : ∀ i, i < n → f i = g i) : fcs f n = fcs g n := by
  induction n with
  | zero => rfl
  | succ n ih => rw [fcs, fcs, ih (fun i hi => h i (by omega)), h n (by omega)]
/-- a slice of one's own is a slice of fractions -/
theorem own_fs {W : World} {B E n : Nat} {v : Value} {f : Nat → Rat} (h : W.ownsRow B E 5 v n (fcs f n)) (hn : 0 < n) : Fs W v n f := by
  obtain ⟨hl, ⟨_, h0⟩ | ⟨g, cap, cur, rfl, hg, hc, h1, h2, h3, h4⟩⟩ := h
  · omega
  · refine .inr ⟨g, 0, cap, rfl, (Array.getElem?_eq_some_iff.1 hc).1, fun i hi j hj => ?_⟩
    have hlt : i * 5 + j < n * 5 := by omega
    have hB : Bx W g E cur := hc
    rw [Nat.zero_add, hB.cells W (Gr.refl _), ← fcs_at f n i j hi hj, ← h4, List.getElem?_take_of_lt hlt, Array.getElem?_toList]
theorem rowv_fs {W : World} {g E n : Nat} {cur : Array Value} {v : Value} {f : Nat → Rat} (h : RowV g cur 5 v n (fcs f n)) (hB : Bx W g E cur) : Fs W v n f := by
  obtain ⟨cap, rfl, h1, h2, h3, h4, h5⟩ := h
  refine .inr ⟨g, 0, cap, rfl, hB.lt, fun i hi j hj => ?_⟩
  have hlt : i * 5 + j < n * 5 := by omega
  rw [Nat.zero_add, hB.cells W (Gr.refl _), ← fcs_at f n i j hi hj, ← h4, List.getElem?_take_of_lt hlt, Array.getElem?_toList]
/-- a part of a slice of fractions, in cells -/
theorem row_part {W : World} {g E n : Nat} {cur : Array Value} {v : Value} {f : Nat → Rat} (h : RowV g cur 5 v n (fcs f n)) (hB : Bx W g E cur) (a m : Nat) (ham : a + m ≤ n) :
    ∀ j u, (fcs (fun i => f (a + i)) m)[j]? = some u → W.cell? ((⟨g, a * 5, none⟩ : Addr).add j) = some u := by
  obtain ⟨cap, rfl, h1, h2, h3, h4, h5⟩ := h
  intro j u hj
  have hl : j < m * 5 := by have := (List.getElem?_eq_some_iff.1 hj).1; rwa [fcs_len] at this
  have e : fcs f n = fcs f (a + m) ++ fcs (fun i => f (a + m + i)) (n - (a + m)) := by rw [← fcs_add]; congr 1; omega
  have hlt : a * 5 + j < n * 5 := by omega
  have hq : (fcs f n)[a * 5 + j]? = some u := by
    rw [e, List.getElem?_append_left (by rw [fcs_len]; omega), fcs_add, List.getElem?_append_right (by rw [fcs_len]; omega), fcs_len, Nat.add_sub_cancel_left]
    exact hj
  rw [← h4, List.getElem?_take_of_lt hlt, Array.getElem?_toList] at hq
  rw [Go.WideShapes.add_plain, hB.cells W (Gr.refl _)]
  exact hq
end Go.Proofs.YtgdibedgjndcoaaGreatDoor
