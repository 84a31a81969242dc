
/- rows of one's own beside each other; rows of integers. No condition but those stated. -/
import Derived.Test.YtobojnodohjiaaaGreatDoorChiP
import Derived.Test.YtobojnodohjiaaaGreatDoorRsP
namespace Go.Proofs.YtobojnodohjiaaaGreatDoor
open Go.RowKit
set_option linter.unusedSimpArgs false
set_option linter.unusedVariables false
section
variable {w0 W : World} {L : List Fk} {E k n : Nat} {v : Value} {xs : List Value}
theorem own_other {W' : World} {B : Nat} {row : Option Nat} (own : W.ownsRow B E k v n xs) (g : W.grownBy W' row) (hne : ∀ j, v.ownBlock = some j → row ≠ some j) : W'.ownsRow B E k v n xs := by
  obtain ⟨hl, h | ⟨b, cap, cur, rfl, h0, hc, h1⟩⟩ := own
  · exact ⟨hl, .inl h⟩
  · exact ⟨hl, .inr ⟨b, cap, cur, rfl, h0, (g.block b (show Bx W b E cur from hc).lt (fun e => hne b rfl e.symm)).trans hc, h1⟩⟩
/-- two rows lie in two blocks -/
def Dj (v v2 : Value) : Prop := ∀ j, v.ownBlock = some j → v2.ownBlock ≠ some j
theorem Dj.symm {v v2 : Value} (h : Dj v v2) : Dj v2 v := fun j h1 h2 => h j h2 h1
theorem dj_nil (v : Value) : Dj (.slice none 0 0) v := fun j h => by cases h
theorem apY {ops : Array Oper} {rest : List Oper} {o : Oper} {a : Act} {Q : Exit → Act → World → Prop} {ad : Addr} {m c bytes : Nat} {news : List Value} {i : TypeInfo} {z : Value} {E2 k2 n2 E3 k3 n3 : Nat} {v2 v3 : Value} {xs2 xs3 : List Value} (HG : Hid (HP w0 W L)) (own : Hid (W.ownsRow w0.heap.size E k v n xs)) (HA : Hid (Apart L v)) (o2 : Hid (W.ownsRow w0.heap.size E2 k2 v2 n2 xs2)) (o3 : Hid (W.ownsRow w0.heap.size E3 k3 v3 n3 xs3)) (d2 : Hid (Dj v v2)) (d3 : Hid (Dj v v3)) (s x : Operand) (t : TypeId)
    (hi : Tryz.prog.info? E = some i) (hz : i.zero = some z) (hsize : i.size = k) (hby : i.bytes = bytes) (hzs : z.cells.size = k) (hty : Tryz.prog.underlying t = some (.slice E))
    (h63 : n + m ≤ maxLen) (hbytes : (n + m) * bytes ≤ 140737488355328) (hR : ∀ (i : Nat) (v : Value) (m : Nat), L[i]? ≠ some (Sum.inr (v, m)))
    (hv : a.eval s = v) (hx : a.eval x = .slice (some ad) m c) (hnews : Hid (∀ j u, news[j]? = some u → W.cell? (ad.add j) = some u)) (hl : news.length = m * k) (h1 : ∀ u ∈ news, u.oneCell' = true) (hk : 0 < k)
    (ho : o.op = .call { callee := .builtin .append, args := #[s, x], argTypes := #[t, t] }) (hgd : o.guard = none)
    (h : ∀ v' W', Hid (HP w0 W' L) → Hid (W'.ownsRow w0.heap.size E k v' (n + m) (xs ++ news)) → Hid (Apart L v') → Hid (W'.ownsRow w0.heap.size E2 k2 v2 n2 xs2) → Hid (W'.ownsRow w0.heap.size E3 k3 v3 n3 xs3) → Hid (Dj v' v2) → Hid (Dj v' v3) → wpList Tryz.prog ops Q rest (a.put o.dst v') W') : wpList Tryz.prog ops Q (o :: rest) a W := by
  refine wpList_append_own_at W hgd s x t ho w0.heap.size E i z k bytes hty hi hz hsize hby hzs hk v n xs hv own.out ad m c news hx hl hnews.out h1 h63 hbytes HG.out.1.size ?_
  intro v' W' own' grown _ hat
  have dj : ∀ {E2 k2 n2 : Nat} {v2 : Value} {xs2 : List Value}, W.ownsRow w0.heap.size E2 k2 v2 n2 xs2 → Dj v v2 → Dj v' v2 := fun o d j hj e => by
    rcases hat with ha | ha
    · exact d j (ha ▸ hj) e
    · have h2 := World.ownsRow.lt o j e
      rw [ha] at hj
      injection hj with hj
      omega
  refine h v' W' (Lib.hid (HG.out.grown (own_at own.out) HA.out hR grown)) (Lib.hid own') (Lib.hid fun j y hy e => ?_) (Lib.hid (own_other o2.out grown fun j hj e => d2.out j e hj)) (Lib.hid (own_other o3.out grown fun j hj e => d3.out j e hj)) (Lib.hid (dj o2.out d2.out)) (Lib.hid (dj o3.out d3.out))
  rcases hat with ha | ha
  · exact HA.out j y hy (ha ▸ e)
  · have := HG.out.lt j y hy
    rw [e] at ha
    injection ha with ha
    omega
/-- a store into another block -/
theorem own_set {B : Nat} {a : Addr} {u : Value} (own : W.ownsRow B E k v n xs) (hne : ∀ j, v.ownBlock = some j → j ≠ a.block) : (W.setCell a u).ownsRow B E k v n xs := by
  obtain ⟨hl, h | ⟨b, cap, cur, rfl, h0, hc, h1⟩⟩ := own
  · exact ⟨hl, .inl h⟩
  · exact ⟨hl, .inr ⟨b, cap, cur, rfl, h0, (show Bx W b E cur from hc).setOther (hne b rfl) u, h1⟩⟩
end
/-- the cells of integers -/
def ics (g : Nat → Int) : Nat → List Value
  | 0 => []
  | k + 1 => ics g k ++ [.int .i64 (g k)]
theorem ics_len (g : Nat → Int) (n : Nat) : (ics g n).length = n * 1 := by
  induction n with
  | zero => rfl
  | succ n ih => rw [ics, List.length_append, ih]; show _ + 1 = _; omega
theorem ics_at (g : Nat → Int) (n i : Nat) (hi : i < n) : (ics g n)[i]? = some (.int .i64 (g i)) := by
  induction n with
  | zero => omega
  | succ n ih =>
    have hl := ics_len g n
    rcases Nat.lt_or_ge i n with h | h
    · rw [ics, List.getElem?_append_left (by omega)]
      exact ih h
    · obtain rfl : i = n := by omega
      rw [ics, List.getElem?_append_right (by omega), hl, Nat.mul_one, Nat.sub_self]; rfl
theorem own_isl {W : World} {B E n : Nat} {v : Value} {g : Nat → Int} (h : W.ownsRow B E 1 v n (ics g n)) (hn : 0 < n) : Isl W v n g := by
  obtain ⟨hl, ⟨_, h0⟩ | ⟨b, cap, cur, rfl, hg, hc, h1, h2, h3, h4⟩⟩ := h
  · omega
  · refine .inr ⟨b, 0, cap, rfl, (Array.getElem?_eq_some_iff.1 hc).1, fun i hi => ?_⟩
    have hlt : i < n * 1 := by omega
    have hB : Bx W b E cur := hc
    rw [Nat.zero_add, hB.cells W (Gr.refl _), ← ics_at g n i hi, ← h4, List.getElem?_take_of_lt hlt, Array.getElem?_toList]
theorem own_rsC {W : World} {B E n : Nat} {v : Value} {f : Nat → Int × Nat} (h : W.ownsRow B E 5 v n (rcs f n)) (hn : 0 < n) : Rs W v n f := by
  obtain ⟨hl, ⟨_, h0⟩ | ⟨g, cap, cur, rfl, hg, hc, h1, h2, h3, h4⟩⟩ := h
  · omega
  · refine .inr ⟨g, 0, cap, rfl, (Array.getElem?_eq_some_iff.1 hc).1, fun i hi j hj => ?_⟩
    have hlt : i * 5 + j < n * 5 := by omega
    have hB : Bx W g E cur := hc
    rw [Nat.zero_add, hB.cells W (Gr.refl _), ← rcs_at f n i j hi hj, ← h4, List.getElem?_take_of_lt hlt, Array.getElem?_toList]
theorem isl_nil (W : World) (g : Nat → Int) : Isl W (.slice none 0 0) 0 g := .inl ⟨none, 0, rfl, rfl⟩
theorem info_int64 : (Tryz.prog.info? 3).map (fun i => (i.zero, i.size, i.bytes)) = some (some (.int .i64 0), 1, 8) := by kernel_rfl
theorem fO {P : World → Prop} {c : Code} {Q : Exit → Act → World → Prop} {a : Act} {w0 W : World} {L L' : List Fk} (h : HP w0 W L) (p : P W) (k : ∀ W', Hid (HP w0 W' L') → P W' → c.wp Tryz.prog Q a W') (hL : L = L' := by first | (simp only [lA, lB, lC, lF, lG, lH, lI]; rfl) | rfl) : c.wp Tryz.prog Q a W := k W (Lib.hid (hL ▸ h)) p
theorem apart1 {g T : Nat} {cs : Array Value} {v : Value} (h : ∀ j, v.ownBlock = some j → j ≠ g) : Apart [Sum.inl (g, T, cs)] v := fun i x hx e => by
  rcases i with _ | i
  · simp at hx; subst hx; exact h _ e rfl
  · simp at hx
theorem Isl.gr {w w' : World} {v : Value} {n : Nat} {g : Nat → Int} (h : Isl w v n g) (hg : Gr w w') : Isl w' v n g := by
  rcases h with h | ⟨b, o, c, rfl, hb, hc⟩
  · exact .inl h
  · exact .inr ⟨b, o, c, rfl, Nat.lt_of_lt_of_le hb hg.size, fun i hi => (Below.cell hg (p := ⟨b, o + i, none⟩) hb).trans (hc i hi)⟩
theorem chv_z0 {f : Nat → Int × Nat} {n : Nat} (h : ∃ i, i < n ∧ (f i).2 = 0) : chv f n 0 0 5 :=
  ⟨fun _ => ⟨rfl, rfl, rfl⟩, fun h2 => by obtain ⟨i, hi, h0⟩ := h; have := h2 i hi; omega⟩
/-- Chinese has a result -/
theorem chv_ex (f : Nat → Int × Nat) (n : Nat) (hm : ∀ i, i < n → (f i).2 ≤ 12) (hn : n ≤ 4) : ∃ R M c, chv f n R M c ∧ 0 ≤ R ∧ R ≤ 100000000 ∧ M ≤ 100000000 ∧ (c = 0 ∨ c = 5 ∨ c = 6) := by
  by_cases h0 : ∃ i, i < n ∧ (f i).2 = 0
  · exact ⟨0, 0, 5, chv_z0 h0, by omega, by omega, by omega, by omega⟩
  · have hp : ∀ i, i < n → 0 < (f i).2 := fun i hi => by
      rcases Nat.eq_zero_or_pos (f i).2 with h | h
      · exact absurd ⟨i, hi, h⟩ h0
      · exact h
    cases hc : chn f n with
    | none => exact ⟨0, 0, 6, chv_none hp hc, by omega, by omega, by omega, by omega⟩
    | some p =>
      obtain ⟨R, M⟩ := p
      obtain ⟨a1, a2, a3, _⟩ := chn_some hp hc
      have hl : ∀ k, k ≤ n → lcms f k ≤ 12 ^ k := fun k => by
        induction k with
        | zero => intro _; exact Nat.le_refl 1
        | succ k ih =>
          intro hk
          have h1 := ih (by omega)
          have h2 := hm k (by omega)
          rw [lcms, Nat.pow_succ]
          refine Nat.le_trans (Nat.le_of_dvd ?_ (Nat.lcm_dvd_mul _ _)) (Nat.mul_le_mul h1 h2)
          exact Nat.mul_pos (lcms_pos f fun i hi => hp i (by omega)) (hp k (by omega))
      have e1 : (M : Int) ∣ ((lcms f n : Nat) : Int) := chn_min hc _ (fun i hi => Int.ofNat_dvd.2 (lcms_dvd f hi))
      have e2 := Nat.le_of_dvd (lcms_pos f hp) (Int.ofNat_dvd.1 e1)
      have e3 := Nat.le_trans e2 (Nat.le_trans (hl n (Nat.le_refl n)) (pow12 hn))
      exact ⟨R, M, 0, chv_some hp hc, a2, by omega, by omega, by omega⟩
end Go.Proofs.YtobojnodohjiaaaGreatDoor
