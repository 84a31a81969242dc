/- A pack of texts: Rat, RefR, RefS. No condition but those stated. -/
import Derived.Test.YtpcfncbcpknobaaGreatDoorPA
import Derived.Test.YtpcfncbcpknobaaGreatDoorPG
import Derived.Test.YtpcfncbcpknobaaGreatDoorPC
set_option linter.unusedVariables false
set_option linter.unusedSimpArgs false

/- Fractions as Lean's rational numbers: how many words numerator and denominator have. No condition. -/
namespace Go.Proofs.YtpcfncbcpknobaaGreatDoor

end Go.Proofs.YtpcfncbcpknobaaGreatDoor


/- Fractions as Lean's rational numbers: how many digits to the base 10000 numerator and denominator have; slices of digits beside blocks known whole. No condition. -/
namespace Go.Proofs.YtpcfncbcpknobaaGreatDoor
open Go.RowKit
set_option linter.unusedSimpArgs false
set_option linter.unusedVariables false

section
variable {w w' : World} {v : Value} {k : Nat}
theorem Rn.alloc (h : Rn w v k) (o : Obj) : Rn (w.alloc o) v k := Dr.alloc h o
theorem Rn.ne {g : Nat} {T : TypeId} {cs : Array Value} (h : Rn w v k) (hb : Bx w g T cs) (hT : T ≠ 3) : v.ownBlock ≠ some g := by
  rcases h.2 with ⟨rfl, _⟩ | ⟨b, c, cur, rfl, _, hh, _⟩
  · intro e; cases e
  · intro e
    have e2 : b = g := by injection e
    subst e2
    unfold Bx at hb
    rw [hb] at hh
    injection hh with hh
    injection hh with h1 h2 h3
    exact hT h2
theorem Rn.setOther (h : Rn w v k) {a : Addr} (ha : v.ownBlock ≠ some a.block) (u : Value) : Rn (w.setCell a u) v k := by
  refine ⟨h.1, ?_⟩
  rcases h.2 with hn | ⟨b, c, cur, rfl, hb, hh, rest⟩
  · exact .inl hn
  · exact .inr ⟨b, c, cur, rfl, hb, (Below.heap_setCell w a u b (fun e => ha (by simp [Value.ownBlock, e]))).trans hh, rest⟩
end
theorem tw_iadd (a b : Int) : tw (a + b).natAbs ≤ max (tw a.natAbs) (tw b.natAbs) + 1 :=
  Nat.le_trans (tw_mono (Int.natAbs_add_le a b)) (tw_add _ _)
theorem tw_imul (a b : Int) : tw (a * b).natAbs ≤ tw a.natAbs + tw b.natAbs := by
  rw [Int.natAbs_mul]; exact tw_mul _ _
end Go.Proofs.YtpcfncbcpknobaaGreatDoor


/- gussetref01 in z-form; gussetref02.From. -/
namespace Go.Proofs.YtpcfncbcpknobaaGreatDoor
open Go.RowKit
set_option linter.unusedSimpArgs false
set_option linter.unusedVariables false
attribute [local go_sem ↓] Go.wp_at_zero Go.wp_at_succ
theorem zradd (v u : Value) (x y z : Nat) (w : World) (hz : x + y = z) (hx : Rn w v x) (hy : Rn w u y) (bx : tw x ≤ 1000000000) (by' : tw y ≤ 1000000000) :
    Calls Tryz.prog 148 #[v, u] w fun e w' => (∃ v', e = .returned v' ∧ Rn w' v' z) ∧ Below w.heap.size w w' := hz ▸ radd_any v u x y w hx hy bx by'
theorem zrmul (v u : Value) (x y z : Nat) (w : World) (hz : x * y = z) (hx : Rn w v x) (hy : Rn w u y) (bx : tw x ≤ 1000000000) (by' : tw y ≤ 1000000000) :
    Calls Tryz.prog 164 #[v, u] w fun e w' => (∃ v', e = .returned v' ∧ Rn w' v' z) ∧ Below w.heap.size w w' := hz ▸ rmul_any v u x y w hx hy bx by'
theorem zrsub (v u : Value) (x y z : Nat) (w : World) (hz : x - y = z) (hx : Rn w v x) (hy : Rn w u y) (hle : y ≤ x) (bx : tw x ≤ 1000000000) (by' : tw y ≤ 1000000000) :
    Calls Tryz.prog 179 #[v, u] w fun e w' => (∃ v', e = .returned v' ∧ Rn w' v' z) ∧ Below w.heap.size w w' := hz ▸ rsub_any v u x y w hx hy hle bx by'
theorem zrdiv (v u : Value) (x y q r : Nat) (w : World) (hq : x / y = q) (hr : x % y = r) (hx : Rn w v x) (hy : Rn w u y) (h0 : 0 < y) (bx : tw x ≤ 500000000) (by' : tw y ≤ 500000000) :
    Calls Tryz.prog 180 #[v, u] w fun e w' => (∃ v1 v2, e = .returned (.tuple #[v1, v2]) ∧ Rn w' v1 q ∧ Rn w' v2 r) ∧ Below w.heap.size w w' := hq ▸ hr ▸ rdiv_any v u x y w hx hy h0 bx by'
theorem zrcmp (v u : Value) (x y : Nat) (c : Int) (w : World) (hc : cmpI x y = c) (hx : Rn w v x) (hy : Rn w u y) (bx : tw x ≤ 1000000000) (by' : tw y ≤ 1000000000) :
    Calls Tryz.prog 147 #[v, u] w fun e w' => e = .returned (.int .i64 c) ∧ Below w.heap.size w w' := hc ▸ rcmp_any v u x y w hx hy bx by'
theorem tw_i64 {n : Int} (h1 : -9223372036854775808 ≤ n) (h2 : n ≤ 9223372036854775807) : tw n.natAbs ≤ 5 := tw_le.2 (by rw [show tp 5 = 100000000000000000000 from by decide]; omega)
theorem Rn.sl {w : World} {v : Value} {k : Nat} (h : Rn w v k) : ∃ ao n c, v = .slice ao n c := by
  obtain ⟨ao, c, e, _⟩ := Dr.slice h
  exact ⟨ao, _, c, e⟩
theorem zfrom_any (b : Bool) (n : Nat) (z : Int) (v : Value) (w : World) (hz : (if b then -(n : Int) else (n : Int)) = z) (h : Rn w v n) :
    Calls Tryz.prog 165 #[.bool b, v] w fun e w' => (∃ v', e = .returned (.agg #[.bool (decide (z < 0)), v']) ∧ Rn w' v' z.natAbs) ∧ Below w.heap.size w w' := by
  obtain ⟨ao, c, rfl, hc, hc2⟩ := Dr.slice h
  obtain ⟨k, hk⟩ : ∃ k, tw n = k := ⟨_, rfl⟩
  rw [hk] at h hc ⊢
  have HK := Lib.hid hk
  have HR := Lib.hid h
  have HZ := Lib.hid hz
  clear h hk hz
  cases b
  · have he : Hid (decide (z < 0) = false ∧ z.natAbs = n) := Lib.hid (by have := HZ.out; simp at this; constructor; simp; omega; omega)
    go_enter Tryz.func165, Tryz.ntmps165
    go_wp2
    exact bodyPost_ret (v := .agg #[.bool false, .slice ao k c]) (by simp [results, Tryz.results165, go_sem]) rfl ⟨⟨_, by rw [he.out.1], by rw [he.out.2]; exact HR.out.alloc _⟩, (Below.refl _ _).alloc (Nat.le_refl _) _⟩
  · by_cases h0 : k = 0
    · subst h0
      have hn : n = 0 := tw_eq_zero.1 HK.out
      have he : Hid (decide (z < 0) = false ∧ z.natAbs = n) := Lib.hid (by have := HZ.out; simp at this; constructor; simp; omega; omega)
      clear hn
      go_enter Tryz.func165, Tryz.ntmps165
      go_wp2
      exact bodyPost_ret (v := .agg #[.bool false, .slice ao 0 c]) (by simp [results, Tryz.results165, go_sem]) rfl ⟨⟨_, by rw [he.out.1], by rw [he.out.2]; exact HR.out.alloc _⟩, (Below.refl _ _).alloc (Nat.le_refl _) _⟩
    · have hn : 0 < n := Nat.pos_of_ne_zero (fun e => h0 (by rw [← HK.out, e]; exact tw_zero))
      have he : Hid (decide (z < 0) = true ∧ z.natAbs = n) := Lib.hid (by have := HZ.out; simp at this; constructor; simp; omega; omega)
      have hk0 : 0 < k := by omega
      clear hn
      go_enter Tryz.func165, Tryz.ntmps165
      go_wp2
      exact bodyPost_ret (v := .agg #[.bool true, .slice ao k c]) (by simp [results, Tryz.results165, go_sem]) rfl ⟨⟨_, by rw [he.out.1], by rw [he.out.2]; exact HR.out.alloc _⟩, (Below.refl _ _).alloc (Nat.le_refl _) _⟩

end Go.Proofs.YtpcfncbcpknobaaGreatDoor
