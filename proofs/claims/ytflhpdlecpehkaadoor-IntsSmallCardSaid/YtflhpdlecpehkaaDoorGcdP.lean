
/- the plain part of ints.Gcd's walk: the number of steps, the row of quotients. -/
import Derived.Test.YtflhpdlecpehkaaDoorIntDiv
import Derived.Test.YtflhpdlecpehkaaDoorPE
namespace Go.Proofs.YtflhpdlecpehkaaDoor
open Go.RowKit
set_option linter.unusedSimpArgs false
set_option linter.unusedVariables false
attribute [local go_sem ↓] Go.wp_at_zero Go.wp_at_succ
/-- the number of steps -/
theorem pr_half (a b : Int) : ∀ i, (∀ j, j < i → (pr a b j).2 ≠ 0) → (pr a b i).2.natAbs * 2 ^ ((i - 1) / 2) ≤ b.natAbs
  | 0, _ => by simp [pr]
  | 1, h => by simpa using (pr_small a b 1 h).2
  | 2, h => by simpa using (pr_small a b 2 h).2
  | i + 3, h => by
    have ih := pr_half a b (i + 1) (fun j hj => h j (by omega))
    have e : (i + 3 - 1) / 2 = (i + 1 - 1) / 2 + 1 := by omega
    rw [e, Nat.pow_succ]
    have h2 : 2 * (pr a b (i + 3)).2.natAbs ≤ (pr a b (i + 1)).2.natAbs := by
      have n0 := h i (by omega)
      have n1 := h (i + 1) (by omega)
      have n2 := h (i + 2) (by omega)
      rw [pr_step a b (i + 2)]
      show 2 * ((pr a b (i + 2)).1 % (pr a b (i + 2)).2).natAbs ≤ _
      have e1 : (pr a b (i + 2)).1 = (pr a b (i + 1)).2 := by rw [pr_step a b (i + 1)]
      have e2 : (pr a b (i + 2)).2 = (pr a b (i + 1)).1 % (pr a b (i + 1)).2 := by rw [pr_step a b (i + 1)]
      have e3 : (pr a b (i + 1)).2 = (pr a b i).1 % (pr a b i).2 := by rw [pr_step a b i]
      have p1 := mod_abs (pr a b i).1 n0
      have p2 := mod_abs (pr a b (i + 1)).1 n1
      rw [← e2] at p2
      rw [← e3] at p1
      rw [e1]
      generalize (pr a b (i + 1)).2 = y at *
      generalize (pr a b (i + 2)).2 = z at *
      have p3 := mod_abs y n2
      have p4 := Int.mul_ediv_add_emod y z
      have p5 : 1 ≤ y / z := Int.le_ediv_of_mul_le (by omega) (by omega)
      have p6 : z * 1 ≤ z * (y / z) := Int.mul_le_mul_of_nonneg_left p5 (by omega)
      omega
    have h3 := Nat.mul_le_mul_right (2 ^ ((i + 1 - 1) / 2)) h2
    have h4 : (pr a b (i + 3)).2.natAbs * (2 ^ ((i + 1 - 1) / 2) * 2) = 2 * (pr a b (i + 3)).2.natAbs * 2 ^ ((i + 1 - 1) / 2) := by rw [Nat.mul_comm (2 ^ _) 2, ← Nat.mul_assoc, Nat.mul_comm _ 2]
    omega
theorem pr_count (a b : Int) (i : Nat) (h : ∀ j, j < i → (pr a b j).2 ≠ 0) : i ≤ 2 * nb b.natAbs + 2 := by
  rcases i with _ | i
  · omega
  have h1 := pr_half a b i (fun j hj => h j (by omega))
  have h2 := h i (by omega)
  have h3 : 1 * 2 ^ ((i - 1) / 2) ≤ (pr a b i).2.natAbs * 2 ^ ((i - 1) / 2) := Nat.mul_le_mul_right _ (by omega)
  have h4 : b.natAbs < 2 ^ nb b.natAbs := nb_le.1 (Nat.le_refl _)
  have h5 : 2 ^ ((i - 1) / 2) < 2 ^ nb b.natAbs := by omega
  have h6 := (Nat.pow_lt_pow_iff_right (by decide : 1 < 2)).1 h5
  omega
/-- Euclid's pair and what is left of it -/
def ec (a b : Int) (i : Nat) : Int × Int × Int := egcd (pr a b i).1 (pr a b i).2
theorem ec_zero (a b : Int) : ec a b 0 = egcd a b := rfl
theorem ec_step (a b : Int) (i : Nat) (h : (pr a b i).2 ≠ 0) : ec a b i = ((ec a b (i + 1)).1, (ec a b (i + 1)).2.2, (ec a b (i + 1)).2.1 - ((pr a b i).1 / (pr a b i).2) * (ec a b (i + 1)).2.2) := egcd_pr a b i h
theorem ec_end (a b : Int) (i : Nat) (h : (pr a b i).2 = 0) : ec a b i = (((pr a b i).1.natAbs : Int), sgI (pr a b i).1, 0) := by unfold ec; rw [h, egcd_zero]
theorem wl_ec (a b : Int) (i : Nat) (h : ∀ j, j < i → (pr a b j).2 ≠ 0) (ha : wl a.natAbs ≤ 1000000000) (hb : wl b.natAbs ≤ 1000000000) : wl (ec a b i).2.1.natAbs ≤ 1000000003 ∧ wl (ec a b i).2.2.natAbs ≤ 1000000003 := by
  obtain ⟨h1, h2⟩ := pr_small a b i h
  obtain ⟨h3, h4⟩ := egcd_small (pr a b i).1 (pr a b i).2
  have hs : wl (5 * ((a.natAbs + b.natAbs) + b.natAbs) + 5) ≤ 1000000003 := by
    have e1 := wl_add a.natAbs b.natAbs
    have e2 := wl_add (a.natAbs + b.natAbs) b.natAbs
    have e3 := wl_mul 5 ((a.natAbs + b.natAbs) + b.natAbs)
    have e5 : wl 5 ≤ 1 := wl_small (by decide)
    have e6 : (5 * ((a.natAbs + b.natAbs) + b.natAbs) + 5) ≤ 20 * (max a.natAbs b.natAbs + 1) := by omega
    have e7 := wl_mul 20 (max a.natAbs b.natAbs + 1)
    have e8 : wl 20 ≤ 1 := wl_small (by decide)
    have e9 := wl_add (max a.natAbs b.natAbs) 1
    have e10 : wl 1 ≤ 1 := wl_small (by decide)
    have e11 : wl (max a.natAbs b.natAbs) ≤ 1000000000 := by
      rcases Nat.le_total a.natAbs b.natAbs with h | h
      · rw [Nat.max_eq_right h]; exact hb
      · rw [Nat.max_eq_left h]; exact ha
    have := wl_mono e6
    omega
  constructor
  · exact Nat.le_trans (wl_mono (by unfold ec; omega)) hs
  · exact Nat.le_trans (wl_mono (by unfold ec; omega)) hs
theorem wl_pr (a b : Int) (i : Nat) (h : ∀ j, j < i → (pr a b j).2 ≠ 0) (ha : wl a.natAbs ≤ 1000000000) (hb : wl b.natAbs ≤ 1000000000) : wl (pr a b i).1.natAbs ≤ 1000000001 ∧ wl (pr a b i).2.natAbs ≤ 1000000000 ∧ wl ((pr a b i).1 / (pr a b i).2).natAbs ≤ 1000000002 := by
  obtain ⟨h1, h2⟩ := pr_small a b i h
  have e1 := wl_mono h1
  have e2 := wl_add a.natAbs b.natAbs
  have e3 := wl_mono h2
  have e4 := wl_idiv (pr a b i).1 (pr a b i).2
  omega
/-- the quotients' cells -/
def qrow (a b : Int) : Nat → List Value
  | 0 => []
  | n + 1 => qrow a b n ++ [.int .u64 ((lo (Int.natAbs ((pr a b n).1 / (pr a b n).2)) : Nat) : Int), .string (bg (Int.natAbs ((pr a b n).1 / (pr a b n).2))), .bool (decide (((pr a b n).1 / (pr a b n).2) < 0))]
theorem qrow_length (a b : Int) : ∀ n, (qrow a b n).length = n * 3
  | 0 => rfl
  | n + 1 => by unfold qrow; rw [List.length_append, qrow_length a b n]; simp; omega
theorem qrow_get (a b : Int) (i k : Nat) (hk : k < 3) : ∀ n, i < n → (qrow a b n)[i * 3 + k]? = [.int .u64 ((lo (Int.natAbs ((pr a b i).1 / (pr a b i).2)) : Nat) : Int), .string (bg (Int.natAbs ((pr a b i).1 / (pr a b i).2))), .bool (decide (((pr a b i).1 / (pr a b i).2) < 0))][k]?
  | 0, h => by omega
  | n + 1, h => by
    unfold qrow
    by_cases e : i = n
    · subst e
      rw [List.getElem?_append_right (by rw [qrow_length]; omega), qrow_length]
      congr 1
      omega
    · rw [List.getElem?_append_left (by rw [qrow_length]; omega)]
      exact qrow_get a b i k hk n (by omega)
def Qr (w : World) (B : Nat) (v : Value) (n : Nat) (xs : List Value) : Prop := w.ownsRow B 29 3 v n xs
theorem Qr.gr {w w' : World} {B : Nat} {v : Value} {n : Nat} {xs : List Value} (h : Qr w B v n xs) (hg : Gr w w') : Qr w' B v n xs := by
  refine ⟨h.1, ?_⟩
  rcases h.2 with hn | ⟨b, c, cur, rfl, hb, hh, rest⟩
  · exact .inl hn
  · exact .inr ⟨b, c, cur, rfl, hb, hg.block hh, rest⟩
theorem Qr.setOther {w : World} {B : Nat} {v : Value} {n : Nat} {xs : List Value} (h : Qr w B v n xs) {a : Addr} (ha : a.block < B) (u : Value) : Qr (w.setCell a u) B v n xs := by
  refine ⟨h.1, ?_⟩
  rcases h.2 with hn | ⟨b, c, cur, rfl, hb, hh, rest⟩
  · exact .inl hn
  · exact .inr ⟨b, c, cur, rfl, hb, (Below.heap_setCell w a u b (by omega)).trans hh, rest⟩
theorem Qr.own {w : World} {B : Nat} {v : Value} {n : Nat} {xs : List Value} (h : Qr w B v n xs) : ∀ k, v.ownBlock = some k → B ≤ k ∧ k < w.heap.size := World.ownsRow.lt h
theorem Qr.nil (w : World) (B : Nat) : Qr w B (.slice none 0 0) 0 [] := World.ownsRow_nil _ _ _ _
/-- another block after the row has grown -/
theorem Bx.grown {wr w1 : World} {B : Nat} {v : Value} {n k : Nat} {xs : List Value} {o : Obj} {T : TypeId} {cs : Array Value} (hx : Bx wr k T cs) (hk : k < B) (ho : Qr wr B v n xs) (hg : (wr.alloc o).grownBy w1 v.ownBlock) : Bx w1 k T cs :=
  (hg.block _ (Nat.lt_of_lt_of_le hx.lt (by simp)) (fun e => by have := (ho.own _ e.symm).1; omega)).trans (hx.alloc o)
theorem Qr.below {wr w1 w0 : World} {B : Nat} {v : Value} {n : Nat} {xs : List Value} {o : Obj} (hb : Below w0.heap.size w0 wr) (ho : Qr wr B v n xs) (hB : w0.heap.size ≤ B) (hg : (wr.alloc o).grownBy w1 v.ownBlock) : Below w0.heap.size w0 w1 :=
  (hb.alloc hb.size o).grown hg (Nat.le_trans hb.size (by simp)) (fun j hj => Nat.le_trans hB (ho.own j hj).1)
theorem Bx.grown' {wr w1 : World} {v : Value} {k : Nat} {o : Obj} {T : TypeId} {cs : Array Value} (hx : Bx wr k T cs) (hne : ∀ j, v.ownBlock = some j → j ≠ k) (hg : (wr.alloc o).grownBy w1 v.ownBlock) : Bx w1 k T cs :=
  (hg.block _ (Nat.lt_of_lt_of_le hx.lt (by simp)) (fun e => hne _ e.symm rfl)).trans (hx.alloc o)
theorem Qr.sl {w : World} {B : Nat} {v : Value} {n : Nat} {xs : List Value} (h : Qr w B v n xs) : (∃ ao c, v = .slice ao n c) ∧ (0 < n → ∃ g c, v = .slice (some ⟨g, 0, none⟩) n c ∧ ∀ i, i < n * 3 → w.cell? ⟨g, i, none⟩ = xs[i]?) := by
  rcases h.2 with ⟨rfl, rfl⟩ | ⟨b, c, cur, rfl, hb, hh, rest⟩
  · exact ⟨⟨none, 0, rfl⟩, fun h => by omega⟩
  · exact ⟨⟨_, _, rfl⟩, fun _ => ⟨b, c, rfl, fun i hi => World.ownsRow.cellAt h i hi⟩⟩
theorem Bx.k0 {w w' : World} {b : Nat} {T : TypeId} {u v t : Value} (h : Bx w b T #[u, v, t]) (hg : Gr w w') : w'.cell? ⟨b, 0, none⟩ = some u := by rw [h.cells w' hg]; rfl
theorem Bx.k1 {w w' : World} {b : Nat} {T : TypeId} {u v t : Value} (h : Bx w b T #[u, v, t]) (hg : Gr w w') : w'.cell? ⟨b, 1, none⟩ = some v := by rw [h.cells w' hg]; rfl
theorem Bx.k2 {w w' : World} {b : Nat} {T : TypeId} {u v t : Value} (h : Bx w b T #[u, v, t]) (hg : Gr w w') : w'.cell? ⟨b, 2, none⟩ = some t := by rw [h.cells w' hg]; rfl
theorem Bx.set3 {w : World} {b : Nat} {T : TypeId} {u v t : Value} (h : Bx w b T #[u, v, t]) (u' v' t' : Value) : Bx (((w.setCell ⟨b, 0, none⟩ u').setCell ⟨b, 1, none⟩ v').setCell ⟨b, 2, none⟩ t') b T #[u', v', t'] := ((((h.set 0 _).set 1 _).set 2 _).eq rfl)
theorem Bx.keep3 {w : World} {b : Nat} {T : TypeId} {cs : Array Value} (h : Bx w b T cs) {b' : Nat} (hb : b ≠ b') (u' v' t' : Value) : Bx (((w.setCell ⟨b', 0, none⟩ u').setCell ⟨b', 1, none⟩ v').setCell ⟨b', 2, none⟩ t') b T cs := ((h.setOther hb _).setOther hb _).setOther hb _
theorem Qr.keep3 {w : World} {B : Nat} {v : Value} {n : Nat} {xs : List Value} (h : Qr w B v n xs) {b' : Nat} (hb : b' < B) (u' v' t' : Value) : Qr (((w.setCell ⟨b', 0, none⟩ u').setCell ⟨b', 1, none⟩ v').setCell ⟨b', 2, none⟩ t') B v n xs := ((h.setOther hb _).setOther hb _).setOther hb _
theorem below_set3 {B : Nat} {w w' : World} (h : Below B w w') {b : Nat} (hb : B ≤ b) (u' v' t' : Value) : Below B w (((w'.setCell ⟨b, 0, none⟩ u').setCell ⟨b, 1, none⟩ v').setCell ⟨b, 2, none⟩ t') := ((h.setCell hb _).setCell hb _).setCell hb _
theorem info_Int : (Tryd.prog.info? 29).map (fun i => (i.zero, i.size, i.bytes)) = some (some (.agg #[.int .u64 0, .string ⟨#[]⟩, .bool false]), 3, 32) := by kernel_rfl

end Go.Proofs.YtflhpdlecpehkaaDoor
