
/- gussetref01: Text. No condition but a bound on lengths. -/
import Derived.Test.YtobojnodohjiaaaGreatDoorPH
import Derived.Test.YtobojnodohjiaaaGreatDoorPE
set_option linter.unusedVariables false
set_option linter.unusedSimpArgs false
namespace Go.Proofs.YtobojnodohjiaaaGreatDoor
open Go.RowKit
theorem hd_digit {y : Nat} (h : y ≠ 0) : hd y = hd (y / 10) ++ [UInt8.ofNat (48 + y % 10)] := by
  unfold hd
  rw [if_neg h]
  by_cases h1 : y < 10
  · rw [if_pos (by omega), Lib.decDigits_one h1, show y % 10 = y by omega]; rfl
  · rw [if_neg (by omega), decDigits_big h1]
def cutd (x i k : Nat) : Nat := x / 10 ^ (4 * i + k)
theorem cutd_zero (x i : Nat) : cutd x (i + 1) 0 = cutd x i 4 := rfl
theorem cutd_succ (x i k : Nat) : cutd x i (k + 1) = cutd x i k / 10 := by
  unfold cutd
  rw [show 4 * i + (k + 1) = 4 * i + k + 1 by omega, Nat.pow_succ, Nat.div_div_eq_div_mul]
theorem tg_cutd (x i : Nat) : tg x i = cutd x i 0 % 10 ^ 4 := by
  unfold tg cutd tp
  rw [Nat.add_zero, Nat.pow_mul]
theorem cutd_big {x i k : Nat} (h : i + 1 < tw x) (hk : k ≤ 4) : 0 < cutd x i k := by
  unfold cutd
  apply Nat.div_pos _ (Nat.pow_pos (by decide))
  have h1 : tp (i + 1) ≤ x := lt_tw.1 (by omega)
  refine Nat.le_trans ?_ h1
  unfold tp
  rw [show (10000 : Nat) = 10 ^ 4 from rfl, ← Nat.pow_mul]
  exact Nat.pow_le_pow_right (by decide) (by omega)
theorem cutd_small {x i k : Nat} (h : tw x ≤ i + 1) (hk : k ≤ 4) : cutd x i k < 10 ^ (4 - k) := by
  unfold cutd
  rw [Nat.div_lt_iff_lt_mul (Nat.pow_pos (by decide)), ← Nat.pow_add]
  have h1 : x < tp (i + 1) := tw_le.1 h
  unfold tp at h1
  rw [show (10000 : Nat) = 10 ^ 4 from rfl, ← Nat.pow_mul] at h1
  exact Nat.lt_of_lt_of_le h1 (Nat.pow_le_pow_right (by decide) (by omega))
theorem rest_step {y k d : Nat} (hk : k < 4) (h : d = y % 10 ^ (4 - k)) : d / 10 = (y / 10) % 10 ^ (4 - (k + 1)) ∧ d % 10 = y % 10 := by
  have e : 10 ^ (4 - k) = 10 * 10 ^ (4 - (k + 1)) := by rw [show 4 - k = (4 - (k + 1)) + 1 by omega, Nat.pow_succ, Nat.mul_comm]
  rw [h, e]
  exact ⟨Nat.mod_mul_right_div_self _ _ _, Nat.mod_mul_right_mod _ _ _⟩
theorem ba_of (s : ByteArray) : (⟨s.data.toList.toArray⟩ : ByteArray) = s := by cases s; simp
theorem enc_digit {e : Nat} (h : e < 10) : Utf8.encode (48 + (e : Int)) = ⟨#[UInt8.ofNat (48 + e)]⟩ := by
  match e, h with
  | 0, _ => rfl
  | 1, _ => rfl
  | 2, _ => rfl
  | 3, _ => rfl
  | 4, _ => rfl
  | 5, _ => rfl
  | 6, _ => rfl
  | 7, _ => rfl
  | 8, _ => rfl
  | 9, _ => rfl
attribute [local irreducible] Utf8.encode
set_option maxRecDepth 100000 in
set_option maxHeartbeats 4000000 in
theorem rtext_any (v : Value) (x : Nat) (w : World) (hx : Rn w v x) (bx : tw x ≤ 10000000) :
    Calls Tryz.prog 177 #[v] w fun e w' => e = .returned (.string ⟨(Lib.decDigits x).toArray⟩) ∧ Below w.heap.size w w' := by
  obtain ⟨n, hn⟩ : ∃ n, tw x = n := ⟨_, rfl⟩
  rw [hn] at bx
  have HNX := Lib.hid hn
  have HX := Lib.hid hx
  rcases Dr.cases hx with ⟨rfl, h0⟩ | ⟨b, c, rfl, _, hbl, hnc, hc, hcell, _⟩
  · have h1 : x = 0 := tw_eq_zero.1 h0
    subst h1
    clear hx
    go_enter Tryz.func177, Tryz.ntmps177
    go_wp2_with fail
    go_ret
    exact ⟨by rw [Lib.decDigits_one (by decide)]; rfl, Below.refl _ _⟩
  · rw [hn] at hcell hnc ⊢
    rw [hn] at hx
    by_cases h0 : n = 0
    · subst h0
      have h1 : x = 0 := tw_eq_zero.1 hn
      subst h1
      clear hx
      go_enter Tryz.func177, Tryz.ntmps177
      go_wp2_with fail
      go_ret
      exact ⟨by rw [Lib.decDigits_one (by decide)]; rfl, Below.refl _ _⟩
    · have hnp : 0 < n := by omega
      have HC := Lib.hid hcell
      have HX0 : Hid (x ≠ 0) := Lib.hid (by intro e; subst e; rw [tw_zero] at hn; omega)
      clear hx hcell hn h0
      go_enter Tryz.func177, Tryz.ntmps177
      go_wp2_with fail
      have hnz : ((n : Int) == 0) = false := by
        rw [beq_eq_false_iff_ne]
        omega
      rw [hnz]
      go_loopg [3, 4] n (fun j S i wr => ∃ (t : Nat) (s : ByteArray), i = .int .i64 (t : Int) ∧ S = .string s ∧ t ≤ n ∧ Hid (t + j = n) ∧ s.size ≤ 4 * t ∧ Hid (Lib.decDigits x = hd (cutd x t 0) ++ s.data.toList) ∧ Hid (Gr w wr))
      case atStart => exact ⟨0, ⟨#[]⟩, rfl, rfl, Nat.zero_le _, Lib.hid (Nat.zero_add _), Nat.zero_le _, Lib.hid (by unfold cutd hd; rw [if_neg (by simpa using HX0.out)]; simp), Lib.hid (Gr.refl _)⟩
      case round =>
        obtain ⟨t, s, rfl, rfl, ht, HT, hs, HD, HG⟩ := hrel
        by_cases htn : t < n
        · have htn2 : (t : Int) < (n : Int) := by omega
          obtain ⟨d, hd⟩ : ∃ d, tg x t = d := ⟨_, rfl⟩
          have hcell : wr.cell? ⟨b, t, none⟩ = some (.int .i64 (d : Int)) := by
            rw [← hd, ← HC.out t htn]
            exact Below.cell HG.out (p := ⟨b, t, none⟩) hbl
          have HDG : Hid (d = cutd x t 0 % 10 ^ (4 - 0)) := Lib.hid (by rw [← hd]; exact tg_cutd x t)
          clear hd
          go_wp2_with fail
          obtain ⟨wo, rfl⟩ : ∃ wo : World, wo = wr := ⟨_, rfl⟩
          obtain ⟨ko, rfl⟩ : ∃ ko : Nat, ko = gk := ⟨_, rfl⟩
          go_loopg [3, 5, 6] 4 (fun j S dd kk wr => ∃ (k d : Nat) (s : ByteArray), kk = .int .i64 (k : Int) ∧ dd = .int .i64 (d : Int) ∧ S = .string s ∧ k ≤ 4 ∧ d < 10000 ∧ Hid (k + j = 4) ∧ s.size ≤ 4 * t + k ∧ Hid (d = cutd x t k % 10 ^ (4 - k)) ∧ Hid (Lib.decDigits x = hd (cutd x t k) ++ s.data.toList) ∧ Hid (Gr w wr))
          case atStart => exact ⟨0, d, s, rfl, rfl, rfl, by omega, by rw [HDG.out]; exact Nat.mod_lt _ (by decide), Lib.hid rfl, hs, HDG, HD, HG⟩
          case round =>
            clear hs HD HG HDG hcell
            obtain ⟨k, d, s, rfl, rfl, rfl, hk, hd4, HK, hs, HDG, HD, HG⟩ := hrel
            have hcase : (k < 4 ∧ (t + 1 < n ∨ 0 < d)) ∨ (k = 4 ∨ (¬ t + 1 < n ∧ d = 0)) := by omega
            rcases hcase with ⟨hk4, hst⟩ | hend
            · have HY : Hid (cutd x t k ≠ 0) := Lib.hid (by
                rcases hst with h | h
                · exact Nat.ne_of_gt (cutd_big (by rw [HNX.out]; exact h) hk)
                · intro e
                  have := HDG.out
                  rw [e, Nat.zero_mod] at this
                  omega)
              have HRS := Lib.hid (rest_step hk4 HDG.out)
              obtain ⟨d', hd'⟩ : ∃ d' : Nat, (d : Int) / 10 = (d' : Int) := ⟨d / 10, by omega⟩
              have hE2 : Utf8.encode (48 + (d : Int) % 10) = ⟨#[UInt8.ofNat (48 + d % 10)]⟩ := by
                rw [show (d : Int) % 10 = ((d % 10 : Nat) : Int) by omega, enc_digit (Nat.mod_lt _ (by decide))]
              have HS1 : Hid ((Utf8.encode (48 + (d : Int) % 10) ++ s).data.toList = [UInt8.ofNat (48 + d % 10)] ++ s.data.toList) := Lib.hid (by rw [hE2]; simp)
              have hE1 : (Utf8.encode (48 + (d : Int) % 10)).size = 1 := by rw [hE2]; rfl
              have HSz : Hid ((Utf8.encode (48 + (d : Int) % 10) ++ s).size ≤ 4 * t + (k + 1)) := Lib.hid (by rw [ByteArray.size_append, hE1]; omega)
              clear hE2
              have HD1 : Hid (Lib.decDigits x = hd (cutd x t (k + 1)) ++ (Utf8.encode (48 + (d : Int) % 10) ++ s).data.toList) := Lib.hid (by
                rw [HD.out, hd_digit HY.out, HS1.out, cutd_succ, HRS.out.2, List.append_assoc])
              have HDG1 : Hid (d' = cutd x t (k + 1) % 10 ^ (4 - (k + 1))) := Lib.hid (by rw [cutd_succ, ← HRS.out.1]; omega)
              have hk2 : (k : Int) < 4 := by omega
              have hd4' : d' < 10000 := by omega
              clear HD HDG HRS HY
              have hst2 : ((t : Int) + 1 < (n : Int)) ∨ (¬ (t : Int) + 1 < (n : Int) ∧ (0 : Int) < (d : Int)) := by omega
              clear hst
              rcases hst2 with hl2 | ⟨hl2, hl3⟩
              all_goals
                go_wp2_with fail
                go_roundg (4 - (k + 1))
                case' measure => have := HK.out; omega
                case' rel => exact ⟨k + 1, d', _, rfl, rfl, rfl, by omega, hd4', Lib.hid (by omega), HSz.out, HDG1, HD1, HG⟩
            · have HD1 : Hid (Lib.decDigits x = hd (cutd x (t + 1) 0) ++ s.data.toList) := Lib.hid (by
                rcases hend with rfl | ⟨h1, h2⟩
                · rw [cutd_zero]; exact HD.out
                · have h3 := cutd_small (x := x) (i := t) (k := 4) (by rw [HNX.out]; omega) (Nat.le_refl _)
                  have h4 := cutd_small (x := x) (i := t) (k := k) (by rw [HNX.out]; omega) hk
                  have h5 := HDG.out
                  rw [Nat.mod_eq_of_lt h4, h2] at h5
                  rw [cutd_zero, show cutd x t 4 = 0 by simpa using h3, HD.out, ← h5])
              have hsz : s.size ≤ 4 * (t + 1) := by omega
              clear HD HDG
              have hend2 : (¬ (k : Int) < 4) ∨ ((k : Int) < 4 ∧ ¬ (t : Int) + 1 < (n : Int) ∧ ¬ (0 : Int) < (d : Int)) := by omega
              clear hend
              rcases hend2 with hk2 | ⟨hk2, hl2, hl3⟩
              all_goals
                go_wp2_with fail
                go_roundg (n - (t + 1))
                case' measure => have := HT.out; omega
                case' rel => exact ⟨t + 1, s, rfl, rfl, by omega, Lib.hid (by omega), hsz, HD1, HG⟩
        · obtain rfl : t = n := by omega
          have hne : ¬ (t : Int) < (t : Int) := by omega
          have HF : Hid (Lib.decDigits x = s.data.toList) := Lib.hid (by
            have h := HD.out
            rw [show cutd x t 0 = 0 from by
              unfold cutd
              apply Nat.div_eq_of_lt
              have h1 : x < tp t := tw_le.1 (by rw [HNX.out]; exact Nat.le_refl _)
              unfold tp at h1
              rw [Nat.add_zero, Nat.pow_mul]
              exact h1] at h
            exact h)
          clear HD
          go_wp2_with fail
          go_ret
          exact ⟨by rw [HF.out, ba_of]; rfl, HG.out⟩
end Go.Proofs.YtobojnodohjiaaaGreatDoor
