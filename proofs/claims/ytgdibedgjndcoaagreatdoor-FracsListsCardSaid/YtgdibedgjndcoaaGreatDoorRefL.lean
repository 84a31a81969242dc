
/- gussetref01: Parse. No condition but a bound on lengths. -/
import Derived.Test.YtgdibedgjndcoaaGreatDoorPH
import Derived.Test.YtgdibedgjndcoaaGreatDoorPP
namespace Go.Proofs.YtgdibedgjndcoaaGreatDoor
open Go.RowKit
set_option linter.unusedSimpArgs false
set_option linter.unusedVariables false

/-- what the reference's Parse does -/
def RParse (s : ByteArray) (w : World) (e : Ending) (w' : World) : Prop :=
  (∃ v', e = .returned (.tuple #[v', .int .i64 (pcode s)]) ∧ Rn w' v' (pnum s)) ∧ Below w.heap.size w w'
theorem pcode_limit {s : ByteArray} (h : 4096 < s.size) : pcode s = 3 ∧ pnum s = 0 := by
  unfold pcode pnum
  rw [if_pos h, if_neg (by omega)]
  exact ⟨rfl, rfl⟩
theorem pcode_bad {s : ByteArray} (h : s.size ≤ 4096) (h2 : ¬ pgood s) : pcode s = 4 ∧ pnum s = 0 := by
  unfold pcode pnum
  rw [if_neg (by omega), if_neg h2, if_neg (fun h => h2 h.2)]
  exact ⟨rfl, rfl⟩
theorem pcode_good {s : ByteArray} (h : s.size ≤ 4096) (h2 : pgood s) : pcode s = 0 ∧ pnum s = pv s s.size := by
  unfold pcode pnum
  rw [if_neg (by omega), if_pos h2, if_pos ⟨h, h2⟩]
  exact ⟨rfl, rfl⟩
theorem rparse_end {s : ByteArray} {w w' : World} {e : Ending} {c : Int} (hc : pcode s = c ∧ pnum s = 0) (he : e = .returned (.tuple #[.slice none 0 0, .int .i64 c])) (hb : Below w.heap.size w w') : RParse s w e w' :=
  ⟨⟨_, by rw [hc.1]; exact he, by rw [hc.2]; exact Rn.nil w'⟩, hb⟩

set_option maxRecDepth 20000 in
set_option maxHeartbeats 4000000 in
theorem rparse_limit (s : ByteArray) (w : World) (h : 4096 < s.size) (hs : s.size ≤ 9223372036854775807) :
    Calls Tryz.prog 196 #[.string s] w (RParse s w) := by
  have HP := Lib.hid (pcode_limit h)
  go_enter Tryz.func196, Tryz.ntmps196
  go_wp2_with fail
  go_ret2
  exact rparse_end HP.out rfl (Below.refl _ _)

set_option maxRecDepth 20000 in
set_option maxHeartbeats 4000000 in
theorem rparse_empty (s : ByteArray) (w : World) (h : s.size = 0) :
    Calls Tryz.prog 196 #[.string s] w (RParse s w) := by
  have HP := Lib.hid (pcode_bad (s := s) (by omega) (fun h' => by have := h'.1; omega))
  go_enter Tryz.func196, Tryz.ntmps196
  go_wp2_with fail
  go_ret2
  exact rparse_end HP.out rfl (Below.refl _ _)

set_option maxRecDepth 20000 in
set_option maxHeartbeats 4000000 in
theorem rparse_lead (s : ByteArray) (w : World) (h : 1 < s.size) (hs : s.size ≤ 4096) (h0 : byt s 0 = 48) :
    Calls Tryz.prog 196 #[.string s] w (RParse s w) := by
  have HP := Lib.hid (pcode_bad (s := s) hs (fun h' => by have := h'.2.1 h0; omega))
  have hb : (s[0]'(by omega)).toNat = 48 := by rw [byt_at (by omega), h0]
  have h00 : 0 < s.size := by omega
  go_enter Tryz.func196, Tryz.ntmps196
  go_wp2_with fail
  go_ret2
  exact rparse_end HP.out rfl (Below.refl _ _)

set_option maxRecDepth 20000 in
set_option maxHeartbeats 8000000 in
theorem rparse_main (s : ByteArray) (w : World) (hs0 : 0 < s.size) (hs : s.size ≤ 4096) (h0 : byt s 0 = 48 → s.size ≤ 1) :
    Calls Tryz.prog 196 #[.string s] w (RParse s w) := by
  obtain ⟨i0, hi, hz0, hz1, hz2⟩ := info_parts info_int
  have HBAD : Hid ((¬ ∀ i, i < s.size → 48 ≤ byt s i ∧ byt s i ≤ 57) → pcode s = 4 ∧ pnum s = 0) := Lib.hid (fun h => pcode_bad hs (fun h' => h h'.2.2))
  have HGOOD : Hid ((∀ i, i < s.size → 48 ≤ byt s i ∧ byt s i ≤ 57) → pcode s = 0 ∧ pnum s = pv s s.size) := Lib.hid (fun h => pcode_good hs ⟨hs0, h0, h⟩)
  obtain ⟨y0, hy0⟩ : ∃ y0, (s[0]'hs0).toNat = y0 := ⟨_, rfl⟩
  have h00 : y0 = 48 → s.size ≤ 1 := by rw [← hy0, byt_at hs0]; exact h0
  obtain ⟨len, hlen⟩ : ∃ len, s.size = len := ⟨_, rfl⟩
  have HL := Lib.hid hlen
  rw [hlen] at hs0 hs h00
  have hq : (y0 : Int) = 48 → ¬ (1 : Int) < (len : Int) := by omega
  clear h00 h0
  go_enter Tryz.func196, Tryz.ntmps196
  go_wp2_with fail
  all_goals
    (first | rename ¬ (y0 : Int) = 48 => hyy | rename (y0 : Int) = 48 => hyy)
    clear hyy hq
    go_loopg [5] len (fun k i wr => ∃ t : Nat, i = .int .i64 (t : Int) ∧ t ≤ len ∧ Hid (t + k = len) ∧ Hid (∀ i, i < t → 48 ≤ byt s i ∧ byt s i ≤ 57) ∧ Hid (wr = w))
    case' atStart => exact ⟨0, rfl, Nat.zero_le _, Lib.hid (Nat.zero_add _), Lib.hid (fun i h => absurd h (Nat.not_lt_zero _)), Lib.hid rfl⟩
    case' round =>
      obtain ⟨t, rfl, ht, HT, HDG, HWW⟩ := hrel
      have ew : wr = w := HWW.out
      subst ew
      by_cases htl : t < len
      · have hlt : t < s.size := by omega
        have htl2 : (t : Int) < (len : Int) := by omega
        obtain ⟨y, hy⟩ : ∃ y, (s[t]'hlt).toNat = y := ⟨_, rfl⟩
        have HYB : Hid (byt s t = y) := Lib.hid (by rw [← hy, byt_at hlt])
        have hy2 : y < 256 := by rw [← HYB.out]; exact byt_lt s t
        by_cases hbad : (y : Int) < 48 ∨ (¬ (y : Int) < 48 ∧ (57 : Int) < y)
        · have HB := Lib.hid (HBAD.out (fun h => by have := h t hlt; rw [HYB.out] at this; omega))
          rcases hbad with hbad | ⟨hbad, hbad2⟩
          all_goals
            go_wp2_with fail
            go_ret2
            exact rparse_end HB.out rfl (Below.refl _ _)
        · have hg1 : ¬ (y : Int) < 48 := by omega
          have hg2 : ¬ (57 : Int) < y := by omega
          clear hbad
          go_wp2_with fail
          go_roundg (len - (t + 1))
          case' measure => have := HT.out; omega
          case' rel => exact ⟨t + 1, rfl, by omega, Lib.hid (by omega), Lib.hid (fun i hi => by
                  rcases Nat.lt_or_ge i t with h | h
                  · exact HDG.out i h
                  · rw [show i = t by omega, HYB.out]; omega), Lib.hid rfl⟩
      · obtain rfl : t = len := by omega
        have hne : ¬ (t : Int) < (t : Int) := by omega
        have HG := Lib.hid (HGOOD.out (fun i hi => HDG.out i (by omega)))
        have hlen2 : (t : Int) ≤ 4096 := by omega
        clear HBAD HGOOD
        go_wp2_with fail
        go_loopg [4, 6] t (fun e out en w2 => ∃ (i : Nat) (z : Int) (g : Nat → Nat), en = .int .i64 z ∧ Hid (0 < z → z = (e : Int)) ∧ Hid (z ≤ 0 → e = 0) ∧ -4 ≤ z ∧ z ≤ 4096 ∧ i + e ≤ t ∧ Hid (∀ j, j < i → g j < 10000) ∧ Hid (Dr w2 wr.heap.size out i g) ∧ Hid (pv s t = pv s e * tp i + tv g i) ∧ Hid (Below wr.heap.size wr w2))
        case' atStart => exact ⟨0, (t : Int), fun _ => 0, rfl, Lib.hid (fun _ => rfl), Lib.hid (fun h => by omega), by omega, hlen2, by omega, Lib.hid (fun j h => absurd h (Nat.not_lt_zero _)), Lib.hid (Dr.nil _ _ _), Lib.hid (by simp [tp, tv]), Lib.hid (Below.refl _ _)⟩
        case' round =>
          obtain ⟨i, z, g, rfl, HZ1, HZ2, hz3, hz4, hie, HGL, HDR, HPV, HB⟩ := hrel
          by_cases hz : 0 < z
          · obtain ⟨e, he⟩ : ∃ e : Nat, z = (e : Int) := ⟨z.toNat, by omega⟩
            have hge : gk = e := by have := HZ1.out hz; omega
            subst hge
            subst he
            have hg0 : (0 : Int) < (gk : Int) := hz
            obtain ⟨b, hb⟩ : ∃ b, gk - 4 = b := ⟨_, rfl⟩
            go_wp2_with fail
            rw [show max 0 ((gk : Int) - 4) = (b : Int) by omega]
            have hbg : b < gk ∧ gk ≤ b + 4 := by omega
            have HB4 : Hid (4 ≤ gk → gk = b + 4) := Lib.hid (by omega)
            have HB0 : Hid (gk < 4 → b = 0) := Lib.hid (by omega)
            clear hb
            obtain ⟨wo, rfl⟩ : ∃ wo : World, wo = wr := ⟨_, rfl⟩
            obtain ⟨ko, rfl⟩ : ∃ ko : Nat, ko = gk := ⟨_, rfl⟩
            go_loopg [7, 8] (ko - b) (fun k dd jj w3 => ∃ d j : Nat, dd = .int .i64 (d : Int) ∧ jj = .int .i64 (j : Int) ∧ b ≤ j ∧ j ≤ ko ∧ Hid (j + k = ko) ∧ Hid (d = pvr s b (j - b)) ∧ Hid (w3 = wo))
            case' atStart => exact ⟨0, b, rfl, rfl, Nat.le_refl _, by omega, Lib.hid (by omega), Lib.hid (by rw [Nat.sub_self]; rfl), Lib.hid rfl⟩
            case' round =>
              obtain ⟨d, j, rfl, rfl, hbj, hjk, HJ, HD, HWW⟩ := hrel
              have ew : wr = wo := HWW.out
              subst ew
              have HDL : Hid (d < 10 ^ (j - b)) := Lib.hid (by rw [HD.out]; exact pvr_lt s b (j - b) (fun i hi => (HDG.out (b + i) (by omega)).2))
              by_cases hjl : j < ko
              · have hjl2 : (j : Int) < (ko : Int) := by omega
                have hlt : j < s.size := by omega
                obtain ⟨y, hy⟩ : ∃ y, (s[j]'hlt).toNat = y := ⟨_, rfl⟩
                have HYB : Hid (byt s j = y) := Lib.hid (by rw [← hy, byt_at hlt])
                have hyr : 48 ≤ y ∧ y ≤ 57 := by rw [← HYB.out]; exact HDG.out j (by omega)
                have hd9 : d < 1000 := Nat.lt_of_lt_of_le HDL.out (Nat.pow_le_pow_right (by decide) (by omega) : 10 ^ (j - b) ≤ 10 ^ 3)
                obtain ⟨d', hd'⟩ : ∃ d' : Nat, (10 : Int) * (d : Int) + ((y : Int) - 48) = (d' : Int) := ⟨10 * d + (y - 48), by omega⟩
                go_wp2_with fail
                go_roundg (ko - (j + 1))
                case' measure => have := HJ.out; omega
                case' rel => exact ⟨d', j + 1, rfl, rfl, by omega, by omega, Lib.hid (by omega), Lib.hid (by
                    rw [show j + 1 - b = (j - b) + 1 by omega]
                    show d' = 10 * pvr s b (j - b) + (byt s (b + (j - b)) - 48)
                    rw [← HD.out, show b + (j - b) = j by omega, HYB.out]
                    omega), Lib.hid rfl⟩
              · obtain rfl : j = ko := by omega
                have hne2 : ¬ (j : Int) < (j : Int) := by omega
                have hd4 : d < 10000 := Nat.lt_of_lt_of_le HDL.out (Nat.pow_le_pow_right (by decide) (by omega) : 10 ^ (j - b) ≤ 10 ^ 4)
                have HPV2 : Hid (pv s t = pv s b * tp (i + 1) + (tv g i + d * tp i)) := Lib.hid (by
                  have h1 : pv s j = pv s b * 10 ^ (j - b) + d := by rw [HD.out, ← pv_add, show b + (j - b) = j by omega]
                  rw [HPV.out, h1, Nat.add_mul, tp_succ]
                  rcases Nat.lt_or_ge j 4 with h4 | h4
                  · rw [HB0.out h4]
                    have : pv s 0 = 0 := rfl
                    rw [this]
                    omega
                  · rw [show j - b = 4 by have := HB4.out h4; omega, show (10 : Nat) ^ 4 = 10000 from rfl, Nat.mul_assoc]
                    omega)
                have hi9 : i ≤ 4096 := by omega
                clear HPV HD HDL
                go_wp2_with (first | (at_builtin; refine wpList_append_own _ rfl (.tmp 63) (.tmp 65) 43 rfl _ 3 i0 (.int .i64 0) 1 8 Tryz.underlying43 hi hz0 hz1 hz2 rfl (by decide) _ _ _ (by simp [Act.eval, Act.put]) (HDR.out.alloc _) ⟨wr.heap.size, 0, none⟩ 1 1 [.int .i64 ((d : Nat) : Int)] (by simp [Act.eval, Act.put]) rfl (new_cell _ _ _) (new_one _ _) (by unfold maxLen; omega) (by omega) (by have := HB.out.size; simp; omega) ?_) | fail)
                intro v' w5 hown' hgrow _
                have R := push_step HB.out HDR.out hown' hgrow
                have H1 := Lib.hid R.1
                have H2 := Lib.hid R.2
                clear R hown' hgrow
                go_wp2_with fail
                go_roundg b
                case' measure => omega
                case' rel => exact ⟨i + 1, (j : Int) - 4, fun q => if q = i then d else g q, rfl, Lib.hid (fun h => by have := HB4.out (by omega); omega), Lib.hid (fun h => by
                      rcases Nat.lt_or_ge j 4 with h4 | h4
                      · exact HB0.out h4
                      · have := HB4.out h4; omega), by omega, by omega, by omega, Lib.hid (fun q hq => by
                      dsimp only
                      split
                      · exact hd4
                      · exact HGL.out q (by omega)), H2, Lib.hid (by rw [tv_succ, if_pos rfl, tv_congr (g := g) (fun q hq => if_neg (by omega))]; exact HPV2.out), H1⟩
          · have he0 : gk = 0 := HZ2.out (by omega)
            have HV : Hid (tv g i = pnum s) := Lib.hid (by
              rw [HG.out.2, hlen, HPV.out, he0]
              have : pv s 0 = 0 := rfl
              rw [this]
              omega)
            have HC : Hid (pcode s = 0) := Lib.hid HG.out.1
            have HTR := Lib.hid (trim_any u4 _ i g wr HDR.out)
            clear HPV HG he0
            go_wp2_with fail
            refine HTR.out.mono ?_
            rintro e w3 ⟨⟨v', rfl, hd⟩, rfl⟩
            have HRN : Hid (Rn wr v' (pnum s)) := Lib.hid (by rw [← HV.out]; exact Rn.of hd HGL.out)
            clear hd
            go_wp2_with fail
            go_ret2
            exact ⟨⟨v', by rw [HC.out]; rfl, HRN.out⟩, HB.out⟩

theorem rparse_any (s : ByteArray) (w : World) (hs : s.size ≤ 9223372036854775807) :
    Calls Tryz.prog 196 #[.string s] w fun e w' => (∃ v', e = .returned (.tuple #[v', .int .i64 (pcode s)]) ∧ Rn w' v' (pnum s)) ∧ Below w.heap.size w w' := by
  show Calls _ _ _ w (RParse s w)
  by_cases h1 : 4096 < s.size
  · exact rparse_limit s w h1 hs
  · by_cases h2 : s.size = 0
    · exact rparse_empty s w h2
    · by_cases h3 : byt s 0 = 48 ∧ 1 < s.size
      · exact rparse_lead s w h3.2 (by omega) h3.1
      · exact rparse_main s w (by omega) (by omega) (fun h => by omega)
end Go.Proofs.YtgdibedgjndcoaaGreatDoor
