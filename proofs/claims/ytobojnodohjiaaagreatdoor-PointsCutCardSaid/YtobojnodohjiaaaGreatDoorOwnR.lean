
/- append onto a row of one's own beside numbers of the reference (the row's cells are of another type than theirs). No condition but those stated. -/
import Derived.Test.YtobojnodohjiaaaGreatDoorHp
import Derived.Maps.AppendAt
import Derived.Test.YtobojnodohjiaaaGreatDoorPL
set_option linter.unusedVariables false
set_option linter.unusedSimpArgs false
namespace Go.Proofs.YtobojnodohjiaaaGreatDoor
open Go.RowKit
def RowV (b : Nat) (cur : Array Value) (k : Nat) (v : Value) (n : Nat) (xs : List Value) : Prop :=
  ∃ cap, v = .slice (some ⟨b, 0, none⟩) n cap ∧ n ≤ cap ∧ cap ≤ maxLen ∧ cur.size = cap * k ∧ cur.toList.take (n * k) = xs ∧ xs.length = n * k
section
variable {w0 W W' : World} {L : List Fk} {b E k n : Nat} {cur : Array Value} {v : Value} {xs : List Value}
theorem RowV.own (h : RowV b cur k v n xs) (hB : Bx W b E cur) (hle : w0.heap.size ≤ b) : W.ownsRow w0.heap.size E k v n xs := by
  obtain ⟨cap, rfl, h1, h2, h3, h4, h5⟩ := h
  exact ⟨h5, .inr ⟨b, cap, cur, rfl, hle, hB, h1, h2, h3, h4⟩⟩
theorem RowV.sl (h : RowV b cur k v n xs) : ∃ cap, v = .slice (some ⟨b, 0, none⟩) n cap := by
  obtain ⟨cap, e, _⟩ := h; exact ⟨cap, e⟩
theorem RowV.cell (h : RowV b cur k v n xs) (hB : Bx W b E cur) (g : Gr W W') (i : Nat) (hi : i < n * k) : W'.cell? ⟨b, i, none⟩ = xs[i]? := by
  obtain ⟨cap, rfl, h1, h2, h3, h4, h5⟩ := h
  rw [hB.cells W' g, ← h4, List.getElem?_take_of_lt hi, Array.getElem?_toList]
theorem Rn.kept {u : Value} {m : Nat} {row : Option Nat} (h : Rn W u m) (g : W.grownBy W' row) (hne : ∀ j, row = some j → u.ownBlock ≠ some j) : Rn W' u m := by
  refine World.ownsRow.kept h g ?_
  cases hr : row with
  | none => cases hu : u.ownBlock with
    | none => exact .inl rfl
    | some j => exact .inr (by simp)
  | some j => exact .inr (hne j hr)
end
end Go.Proofs.YtobojnodohjiaaaGreatDoor

set_option linter.unusedVariables false
set_option linter.unusedSimpArgs false
namespace Go.Proofs.YtobojnodohjiaaaGreatDoor
open Go.RowKit
def fcl (q : Rat) : List Value := [.int .u64 ((lo (Int.natAbs ((q).num)) : Nat) : Int), .string (bg (Int.natAbs ((q).num))), .bool (decide (((q).num) < 0)), .int .u64 ((lo ((q).den - 1) : Nat) : Int), .string (bg ((q).den - 1))]
def Fs (w : World) (v : Value) (n : Nat) (f : Nat → Rat) : Prop :=
  (∃ ao c, v = .slice ao n c ∧ n = 0) ∨ ∃ b o c, v = .slice (some ⟨b, o, none⟩) n c ∧ b < w.heap.size ∧ ∀ i, i < n → ∀ j, j < 5 → w.cell? ⟨b, o + i * 5 + j, none⟩ = (fcl (f i))[j]?
theorem Fs.gr {w w' : World} {v : Value} {n : Nat} {f : Nat → Rat} (h : Fs w v n f) (hg : Gr w w') : Fs w' v n f := by
  rcases h with h | ⟨b, o, c, rfl, hb, hc⟩
  · exact .inl h
  · exact .inr ⟨b, o, c, rfl, Nat.lt_of_lt_of_le hb hg.size, fun i hi j hj => (Below.cell hg (p := ⟨b, o + i * 5 + j, none⟩) hb).trans (hc i hi j hj)⟩
theorem Fs.slice {w : World} {v : Value} {n : Nat} {f : Nat → Rat} (h : Fs w v n f) : ∃ ao c, v = .slice ao n c := by
  rcases h with ⟨ao, c, rfl, _⟩ | ⟨b, o, c, rfl, _⟩
  · exact ⟨_, _, rfl⟩
  · exact ⟨_, _, rfl⟩
end Go.Proofs.YtobojnodohjiaaaGreatDoor

set_option linter.unusedVariables false
set_option linter.unusedSimpArgs false
namespace Go.Proofs.YtobojnodohjiaaaGreatDoor
open Go.RowKit
section
variable {w0 W : World} {L : List Fk} {E k n : Nat} {v : Value} {xs : List Value}
def Apart (L : List Fk) (v : Value) : Prop := ∀ (i : Nat) (x : Nat × TypeId × Array Value), L[i]? = some (Sum.inl x) → v.ownBlock ≠ some x.1
theorem HP.grown {W' : World} {row : Option Nat} (h : HP w0 W L) (hrow : ∀ j, row = some j → w0.heap.size ≤ j) (hM : ∀ (i : Nat) (x : Nat × TypeId × Array Value), L[i]? = some (Sum.inl x) → row ≠ some x.1)
    (hR : ∀ (i : Nat) (v : Value) (m : Nat), L[i]? ≠ some (Sum.inr (v, m))) (g : W.grownBy W' row) : HP w0 W' L := by
  obtain ⟨h1, h2, h3⟩ := h
  refine ⟨h1.grown g h1.size hrow, fun i e he => ?_, h3⟩
  have := h2 i e he
  rcases e with ⟨c, S, ds⟩ | ⟨u, m⟩
  · exact ⟨(g.block c this.1.lt (fun e => hM i _ he e.symm)).trans this.1, this.2⟩
  · exact absurd he (hR i u m)
theorem own_at (own : W.ownsRow w0.heap.size E k v n xs) : ∀ j, v.ownBlock = some j → w0.heap.size ≤ j := by
  obtain ⟨_, ⟨rfl, _⟩ | ⟨g, cap, cur, rfl, h, _⟩⟩ := own
  · intro j hj; cases hj
  · intro j hj; injection hj with hj; subst hj; exact h
theorem own_gr {B : Nat} {W' : World} (h : W.ownsRow B E k v n xs) (hg : Gr W W') : W'.ownsRow B E k v n xs := by
  obtain ⟨hl, h | ⟨g, cap, cur, rfl, h0, hc, h1⟩⟩ := h
  · exact ⟨hl, .inl h⟩
  · exact ⟨hl, .inr ⟨g, cap, cur, rfl, h0, Bx.gr (show Bx W g E cur from hc) hg, h1⟩⟩
theorem own_hp (h : HP w0 W L) (own : W.ownsRow w0.heap.size E k v n xs) (ha : Apart L v) (hn : 0 < n) (hE : E ≠ 3) : ∃ g cur, HP w0 W (L ++ [Sum.inl (g, E, cur)]) ∧ RowV g cur k v n xs := by
  obtain ⟨hl, ⟨_, h0⟩ | ⟨g, cap, cur, rfl, hg, hc, h1, h2, h3, h4⟩⟩ := own
  · omega
  · exact ⟨g, cur, h.add hc hE hg (fun i x hx e => ha i x hx (by show some g = some x.1; rw [e])), ⟨cap, rfl, h1, h2, h3, h4, hl⟩⟩
end
end Go.Proofs.YtobojnodohjiaaaGreatDoor

set_option linter.unusedVariables false
set_option linter.unusedSimpArgs false
namespace Go.Proofs.YtobojnodohjiaaaGreatDoor
open Go.RowKit
section
variable {w0 W : World} {L : List Fk} {E k n : Nat} {v : Value} {xs : List Value}
theorem apZ {ops : Array Oper} {rest : List Oper} {o : Oper} {a : Act} {Q : Exit → Act → World → Prop} {ad : Addr} {m c bytes : Nat} {news : List Value} {i : TypeInfo} {z : Value} (HG : Hid (HP w0 W L)) (own : Hid (W.ownsRow w0.heap.size E k v n xs)) (HA : Hid (Apart L v)) (s x : Operand) (t : TypeId)
    (hi : Tryz.prog.info? E = some i) (hz : i.zero = some z) (hsize : i.size = k) (hby : i.bytes = bytes) (hzs : z.cells.size = k) (hty : Tryz.prog.underlying t = some (.slice E)) (hE : E ≠ 3)
    (h63 : n + m ≤ maxLen) (hbytes : (n + m) * bytes ≤ 140737488355328)
    (hv : a.eval s = v) (hx : a.eval x = .slice (some ad) m c) (hnews : Hid (∀ j u, news[j]? = some u → W.cell? (ad.add j) = some u)) (hl : news.length = m * k) (h1 : ∀ u ∈ news, u.oneCell' = true) (hk : 0 < k)
    (ho : o.op = .call { callee := .builtin .append, args := #[s, x], argTypes := #[t, t] }) (hgd : o.guard = none)
    (h : ∀ v' W', Hid (HP w0 W' L) → Hid (W'.ownsRow w0.heap.size E k v' (n + m) (xs ++ news)) → Hid (Apart L v') → wpList Tryz.prog ops Q rest (a.put o.dst v') W') : wpList Tryz.prog ops Q (o :: rest) a W := by
  refine wpList_append_own_at W hgd s x t ho w0.heap.size E i z k bytes hty hi hz hsize hby hzs hk v n xs hv own.out ad m c news hx hl hnews.out h1 h63 hbytes HG.out.1.size ?_
  intro v' W' own' grown _ hat
  have hne : ∀ (u : Value) (q : Nat), Rn W u q → ∀ j, v.ownBlock = some j → u.ownBlock ≠ some j := fun u q hu j hj => by
    obtain ⟨_, ⟨rfl, _⟩ | ⟨g, cap, cur, rfl, _, hc, _⟩⟩ := own.out
    · cases hj
    · injection hj with hj
      subst hj
      exact Rn.ne hu (show Bx W g E cur from hc) hE
  have hbase : HP w0 W' L := by
    obtain ⟨g1, g2, g3⟩ := HG.out
    refine ⟨g1.grown grown g1.size (own_at own.out), fun i e he => ?_, g3⟩
    have h2 := g2 i e he
    rcases e with ⟨c, S, ds⟩ | ⟨u, q⟩
    · exact ⟨(grown.block c h2.1.lt (fun e => HA.out i _ he e.symm)).trans h2.1, h2.2⟩
    · exact Rn.kept h2 grown (hne u q h2)
  refine h v' W' (Lib.hid hbase) (Lib.hid own') (Lib.hid fun j y hy e => ?_)
  rcases hat with ha | ha
  · exact HA.out j y hy (ha ▸ e)
  · have := HG.out.lt j y hy
    rw [e] at ha
    injection ha with ha
    omega
end
end Go.Proofs.YtobojnodohjiaaaGreatDoor
