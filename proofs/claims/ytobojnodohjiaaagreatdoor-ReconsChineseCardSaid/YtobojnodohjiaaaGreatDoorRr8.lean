
/- gussetref07: Back. -/
import Derived.Test.YtobojnodohjiaaaGreatDoorRr7
namespace Go.Proofs.YtobojnodohjiaaaGreatDoor
open Go.RowKit
set_option linter.unusedSimpArgs false
set_option linter.unusedVariables false
attribute [local go_sem ↓] Go.wp_at_zero Go.wp_at_succ
/-- the fraction n/d in lowest terms -/
theorem q7_fit {n : Int} {d m : Nat} {a : Int} (hd : d ≠ 0) (hc : n.natAbs.Coprime d) : rfit ⟨n, d, hd, hc⟩ a m ↔ fit7 n d a m := Iff.rfl
theorem q7_far {n : Int} {d m : Nat} (hd : d ≠ 0) (hc : n.natAbs.Coprime d) : rfar ⟨n, d, hd, hc⟩ m ↔ (2 * (n.natAbs * n.natAbs) < m ∧ 2 * (d * d) < m) := Iff.rfl
theorem sq_small {d m : Nat} (h : 2 * (d * d) < m) (hm : m ≤ 1000) : d ≤ 500 := by
  rcases Nat.lt_or_ge 500 d with h1 | h1
  · have := Nat.mul_le_mul h1 h1; omega
  · exact h1
/-- no fraction with denominator d and a numerator below k -/
def none7 (a : Int) (m d k : Nat) : Prop := ∀ n, n < k → Nat.gcd n d = 1 → ¬ fit7 (n : Int) d a m ∧ ¬ fit7 (-(n : Int)) d a m
theorem found7 {a : Int} {m d n : Nat} {z : Rat} {b : Bool} {N D : Int} {x : Int} (hz : bk a m z b) (hN : (if b then z.num else 0) = N) (hD : (if b then (z.den : Int) else 0) = D) (hd : d ≠ 0) (h1 : 2 * (n * n) < m) (h2 : 2 * (d * d) < m) (hx : x.natAbs = n) (hg : Nat.gcd n d = 1) (hf : fit7 x d a m) : x = N ∧ (d : Int) = D ∧ true = b := by
  have hc : x.natAbs.Coprime d := by rw [hx]; exact hg
  obtain ⟨rfl, rfl⟩ := bk_yes (f := ⟨x, d, hd, hc⟩) hz ((q7_far hd hc).2 ⟨by rw [hx]; exact h1, h2⟩) ((q7_fit hd hc).2 hf)
  exact ⟨hN, hD, rfl⟩
theorem lost7 {a : Int} {m : Nat} {z : Rat} {b : Bool} {N D : Int} (hz : bk a m z b) (hN : (if b then z.num else 0) = N) (hD : (if b then (z.den : Int) else 0) = D) (h : ∀ d, 1 ≤ d → 2 * (d * d) < m → ∀ n, 2 * (n * n) < m → Nat.gcd n d = 1 → ¬ fit7 (n : Int) d a m ∧ ¬ fit7 (-(n : Int)) d a m) : (0 : Int) = N ∧ (0 : Int) = D ∧ false = b := by
  rcases hz with ⟨rfl, h1, h2⟩ | ⟨rfl, _, _⟩
  · exfalso
    obtain ⟨c1, c2⟩ := h z.den z.den_pos h1.2 z.num.natAbs h1.1 z.reduced
    have h2 : fit7 z.num z.den a m := h2
    rcases Int.natAbs_eq z.num with e | e
    · rw [e] at h2; exact c1 h2
    · rw [e] at h2; exact c2 h2
  · exact ⟨hN, hD, rfl⟩
set_option maxHeartbeats 4000000 in
theorem r7back (a : Int) (m : Nat) (z : Rat) (b : Bool) (N D : Int) (w : World) (hz : bk a m z b) (hN : (if b then z.num else 0) = N) (hD : (if b then (z.den : Int) else 0) = D) (ha1 : -3000 ≤ a) (ha2 : a ≤ 3000) (hm : m ≤ 1000) :
    Calls Tryz.prog 25 #[.int .i64 a, .int .i64 (m : Int)] w fun e w' => e = .returned (.tuple #[.int .i64 N, .int .i64 D, .bool b]) ∧ Below w.heap.size w w' := by
  have HZ := Lib.hid hz
  have HN := Lib.hid hN
  have HD := Lib.hid hD
  clear hz hN hD
  go_enter Tryz.func25, Tryz.ntmps25
  go_wp2
  go_loopg [7] 600 (fun k dv wr => ∃ d : Nat, dv = .int .i64 (d : Int) ∧ 1 ≤ d ∧ d ≤ 501 ∧ d + k = 601 ∧ Hid (Below w.heap.size w wr) ∧ Hid (∀ d', 1 ≤ d' → d' < d → 2 * (d' * d') < m → ∀ n, 2 * (n * n) < m → Nat.gcd n d' = 1 → ¬ fit7 (n : Int) d' a m ∧ ¬ fit7 (-(n : Int)) d' a m))
  case atStart => exact ⟨1, rfl, by omega, by omega, by omega, Lib.hid (Below.refl _ _), Lib.hid (fun d' h1 h2 => by omega)⟩
  case round =>
    rename_i J_ K_ h1_ h0_
    obtain ⟨d, rfl, hd1, hd2, hdk, HB, HE⟩ := hrel
    obtain ⟨ko, hko⟩ : ∃ ko, ko = gk := ⟨_, rfl⟩
    have hsq : ((d * d : Nat) : Int) ≤ 501 * 501 := by have := Nat.mul_le_mul hd2 hd2; omega
    have hx : 2 * (d : Int) * (d : Int) = ((2 * (d * d) : Nat) : Int) := by rw [Int.mul_assoc, ← Int.natCast_mul]; omega
    have hw1 : IntKind.i64.wrap (2 * (d : Int)) = 2 * (d : Int) := i64_small (by omega) (by omega)
    have hw2 : IntKind.i64.wrap (2 * (d : Int) * (d : Int)) = 2 * (d : Int) * (d : Int) := i64_small (by omega) (by omega)
    have hw3 : IntKind.i64.wrap ((d : Int) + 1) = (d : Int) + 1 := i64_small (by omega) (by omega)
    by_cases hdm : 2 * (d * d) < m
    · have hd500 := sq_small hdm hm
      have hlt : 2 * (d : Int) * (d : Int) < (m : Int) := by omega
      have HDM := Lib.hid hdm
      clear hx hdm
      go_wp2
      clear hw1 hw2 hlt
      go_loopg [8] 600 (fun k nv wi => ∃ n : Nat, nv = .int .i64 (n : Int) ∧ n ≤ 501 ∧ n + k = 600 ∧ Hid (Below w.heap.size w wi) ∧ Hid (none7 a m d n))
      case atStart => exact ⟨0, rfl, by omega, by omega, HB, Lib.hid (fun n h => absurd h (Nat.not_lt_zero _))⟩
      case round =>
        rename_i J2_ K2_ m1_ m0_
        clear HB
        obtain ⟨n, rfl, hn2, hnk, HB, HNN⟩ := hrel
        have hsq : ((n * n : Nat) : Int) ≤ 501 * 501 := by have := Nat.mul_le_mul hn2 hn2; omega
        have hx : 2 * (n : Int) * (n : Int) = ((2 * (n * n) : Nat) : Int) := by rw [Int.mul_assoc, ← Int.natCast_mul]; omega
        have hw1 : IntKind.i64.wrap (2 * (n : Int)) = 2 * (n : Int) := i64_small (by omega) (by omega)
        have hw2 : IntKind.i64.wrap (2 * (n : Int) * (n : Int)) = 2 * (n : Int) * (n : Int) := i64_small (by omega) (by omega)
        have hw4 : IntKind.i64.wrap ((n : Int) + 1) = (n : Int) + 1 := i64_small (by omega) (by omega)
        have hw5 : IntKind.i64.wrap (-(n : Int)) = -(n : Int) := i64_small (by omega) (by omega)
        by_cases hnm : 2 * (n * n) < m
        · have hn500 := sq_small hnm hm
          have hlt : 2 * (n : Int) * (n : Int) < (m : Int) := by omega
          have HNM := Lib.hid hnm
          clear hx hnm
          obtain ⟨c, HC⟩ : ∃ c, Hid (Nat.gcd n d = c) := ⟨_, Lib.hid rfl⟩
          go_wp2_with fail
          refine (r7gcd n d c _ HC.out (by omega) (by omega) hd1).mono ?_
          rintro e w1 ⟨rfl, hb1⟩
          have HB1 := Lib.hid (HB.out.trans (hb1.mono HB.out.size))
          clear hb1
          by_cases hc : c = 1
          · subst hc
            obtain ⟨b1, HF1⟩ : ∃ b1, Hid (decide (fit7 (n : Int) d a m) = b1) := ⟨_, Lib.hid rfl⟩
            go_wp2_with fail
            refine (r7fits (n : Int) d a m b1 _ HF1.out (by omega) (by omega) ha1 ha2 (by omega) (by omega)).mono ?_
            rintro e w2 ⟨rfl, hb2⟩
            have HB2 := Lib.hid (HB1.out.trans (hb2.mono HB1.out.size))
            clear hb2
            cases b1
            · obtain ⟨b2, HF2⟩ : ∃ b2, Hid (decide (fit7 (-(n : Int)) d a m) = b2) := ⟨_, Lib.hid rfl⟩
              go_wp2_with fail
              refine (r7fits (-(n : Int)) d a m b2 _ HF2.out (by omega) (by omega) ha1 ha2 (by omega) (by omega)).mono ?_
              rintro e w3 ⟨rfl, hb3⟩
              have HB3 := Lib.hid (HB2.out.trans (hb3.mono HB2.out.size))
              clear hb3
              cases b2
              · have HN2 : Hid (none7 a m d (n + 1)) := Lib.hid (fun n' hn' hg' => by
                  rcases Nat.lt_succ_iff_lt_or_eq.1 hn' with h | rfl
                  · exact HNN.out n' h hg'
                  · exact ⟨of_decide_eq_false HF1.out, of_decide_eq_false HF2.out⟩)
                go_wp2
                go_roundg (gk - 1)
                case measure => omega
                case rel => exact ⟨n + 1, by go_num, by omega, by omega, HB3, HN2⟩
              · obtain ⟨e1, e2, e3⟩ := found7 (x := -(n : Int)) HZ.out HN.out HD.out (by omega) HNM.out HDM.out (by omega) HC.out (of_decide_eq_true HF2.out)
                subst e1 e2 e3
                go_wp2
                exact bodyPost_ret (v := .tuple #[.int .i64 (-(n : Int)), .int .i64 (d : Int), .bool true]) (by simp [results, Tryz.results25, go_sem]) rfl ⟨rfl, HB3.out⟩
            · obtain ⟨e1, e2, e3⟩ := found7 (x := (n : Int)) HZ.out HN.out HD.out (by omega) HNM.out HDM.out (by omega) HC.out (of_decide_eq_true HF1.out)
              subst e1 e2 e3
              go_wp2
              exact bodyPost_ret (v := .tuple #[.int .i64 (n : Int), .int .i64 (d : Int), .bool true]) (by simp [results, Tryz.results25, go_sem]) rfl ⟨rfl, HB2.out⟩
          · have hq : ((c : Int) == 1) = false := by simpa using (show ¬ (c : Int) = 1 by omega)
            have hq2 : ¬ (c : Int) = 1 := by omega
            have HN2 : Hid (none7 a m d (n + 1)) := Lib.hid (fun n' hn' hg' => by
              rcases Nat.lt_succ_iff_lt_or_eq.1 hn' with h | rfl
              · exact HNN.out n' h hg'
              · exact absurd (HC.out.symm.trans hg') hc)
            have HCC := Lib.hid hc
            clear hc
            go_wp2
            go_roundg (gk - 1)
            case measure => omega
            case rel => exact ⟨n + 1, by go_num, by omega, by omega, HB1, HN2⟩
        · have hlt : ¬ 2 * (n : Int) * (n : Int) < (m : Int) := by omega
          have HE2 : Hid (∀ d', 1 ≤ d' → d' < d + 1 → 2 * (d' * d') < m → ∀ n, 2 * (n * n) < m → Nat.gcd n d' = 1 → ¬ fit7 (n : Int) d' a m ∧ ¬ fit7 (-(n : Int)) d' a m) := Lib.hid (fun d' h1 h2 h3 n' h4 h5 => by
            rcases Nat.lt_succ_iff_lt_or_eq.1 h2 with h | rfl
            · exact HE.out d' h1 h h3 n' h4 h5
            · refine HNN.out n' ?_ h5
              rcases Nat.lt_or_ge n' n with h | h
              · exact h
              · have := Nat.mul_le_mul h h; omega)
          clear hx hnm
          go_wp2
          go_roundg (ko - 1)
          case measure => omega
          case rel => exact ⟨d + 1, by go_num, by omega, by omega, by omega, HB, HE2⟩
    · have hlt : ¬ 2 * (d : Int) * (d : Int) < (m : Int) := by omega
      obtain ⟨e1, e2, e3⟩ := lost7 HZ.out HN.out HD.out (fun d' h1 h2 n h3 h4 => by
        refine HE.out d' h1 ?_ h2 n h3 h4
        rcases Nat.lt_or_ge d' d with h | h
        · exact h
        · have := Nat.mul_le_mul h h; omega)
      subst e1 e2 e3
      clear hx hdm
      go_wp2
      exact bodyPost_ret (v := .tuple #[.int .i64 0, .int .i64 0, .bool false]) (by simp [results, Tryz.results25, go_sem]) rfl ⟨rfl, HB.out⟩
end Go.Proofs.YtobojnodohjiaaaGreatDoor
