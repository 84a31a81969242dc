
/- decimal notations: Parse inverts Text. No condition but those stated. -/
import Derived.Test.YtgdibedgjndcoaaGreatDoorDecR
import Derived.Test.YtgdibedgjndcoaaGreatDoorDecT
import Derived.Test.YtgdibedgjndcoaaGreatDoorDecP
import Derived.Test.YtgdibedgjndcoaaGreatDoorIntParseP
import Derived.Test.YtgdibedgjndcoaaGreatDoorTextQ
namespace Go.Proofs.YtgdibedgjndcoaaGreatDoor
open Go.RowKit
set_option linter.unusedSimpArgs false
set_option linter.unusedVariables false
theorem zpad_list : ∀ (i : Nat) (d : ByteArray), (zpad i d).data.toList = Lib.repeatL [48] i ++ d.data.toList
  | 0, d => rfl
  | i + 1, d => by
    rw [zpad]
    have e : ((⟨#[48]⟩ : ByteArray) ++ zpad i d).data.toList = 48 :: (zpad i d).data.toList := by simp
    rw [e, zpad_list i d]; rfl
theorem lv_zeros : ∀ (i : Nat) (l : List UInt8), lv (Lib.repeatL [48] i ++ l) = lv l
  | 0, l => rfl
  | i + 1, l => by
    have e : Lib.repeatL [48] (i + 1) ++ l = 48 :: (Lib.repeatL [48] i ++ l) := rfl
    rw [e, lv_cons, lv_zeros i l]
    have : (48 : UInt8).toNat - 48 = 0 := by decide
    rw [this]; omega
theorem lv_pad (k r : Nat) : lv (pad k r) = r := by unfold pad; rw [lv_zeros, lv_dec]
theorem pad_len (k r : Nat) (hk : 0 < k) (h : r < 10 ^ k) : (pad k r).length = k := by
  unfold pad
  rw [List.length_append, Lib.repeatL_length, Lib.decDigits_length]
  obtain ⟨j, rfl⟩ : ∃ j, k = j + 1 := ⟨k - 1, by omega⟩
  have := nDigits_le j r h
  simp; omega
theorem zeros_digs : ∀ (i : Nat) (c : UInt8), c ∈ Lib.repeatL [48] i → c = 48
  | 0, c, h => by cases h
  | i + 1, c, h => by
    have e : Lib.repeatL [48] (i + 1) = 48 :: Lib.repeatL [48] i := rfl
    rw [e] at h
    rcases List.mem_cons.1 h with h | h
    · exact h
    · exact zeros_digs i c h
theorem pad_digs (k r : Nat) : ∀ c ∈ pad k r, 48 ≤ c.toNat ∧ c.toNat ≤ 57 := by
  intro c hc
  unfold pad at hc
  rcases List.mem_append.1 hc with h | h
  · rw [zeros_digs _ c h]; decide
  · exact dec_digits r c h
theorem dig_list (n k : Nat) (hk : 0 < k) : (dig n k).data.toList = Lib.decDigits (n / 10 ^ k) ++ pad k (n % 10 ^ k) := by
  have hp : 0 < 10 ^ k := Nat.pow_pos (by decide)
  unfold dig
  rw [zpad_list, size_mk, Lib.decDigits_length]
  show Lib.repeatL [48] _ ++ Lib.decDigits n = _
  by_cases h : 10 ^ k ≤ n
  · have e := dec_split k n hk h
    have hl : Lib.nDigits n = Lib.nDigits (n / 10 ^ k) + k := by
      have := congrArg List.length e
      rwa [List.length_append, Lib.decDigits_length, Lib.decDigits_length, pad_len k _ hk (Nat.mod_lt _ hp)] at this
    have h1 : 0 < Lib.nDigits (n / 10 ^ k) := by
      rw [← Lib.decDigits_length]
      rcases Nat.eq_zero_or_pos (Lib.decDigits (n / 10 ^ k)).length with h | h
      · exact absurd (List.length_eq_zero_iff.1 h) (dec_ne _)
      · exact h
    rw [show ((k : Int) + 1 - (Lib.nDigits n : Int)).toNat = 0 by omega, e]
    rfl
  · have hl : n < 10 ^ k := by omega
    obtain ⟨j, rfl⟩ : ∃ j, k = j + 1 := ⟨k - 1, by omega⟩
    have h1 := nDigits_le j n hl
    have e0 : Lib.decDigits 0 = [48] := by rw [dec_small (show (0 : Nat) < 10 by decide)]; rfl
    rw [Nat.div_eq_of_lt hl, Nat.mod_eq_of_lt hl, e0, show (((j + 1 : Nat) : Int) + 1 - (Lib.nDigits n : Int)).toNat = (j + 1 - Lib.nDigits n) + 1 by omega]
    rfl
theorem ext_take (d : ByteArray) (A B : List UInt8) (h : d.data.toList = A ++ B) : (d.extract 0 A.length).data.toList = A ∧ (d.extract A.length d.size).data.toList = B := by
  have hs : d.size = A.length + B.length := by
    have : d.data.toList.length = d.size := by rw [Array.length_toList]; rfl
    rw [← this, h, List.length_append]
  constructor
  · rw [ByteArray.data_extract, Array.toList_extract, h]; simp [List.extract]
  · rw [ByteArray.data_extract, Array.toList_extract, h, hs]; simp [List.extract]
theorem ext_skip (d : ByteArray) (A B : List UInt8) (c : UInt8) (h : d.data.toList = A ++ c :: B) : (d.extract (A.length + 1) d.size).data.toList = B := by
  have := (ext_take d (A ++ [c]) B (by rw [h]; simp)).2
  simpa using this
theorem ba_ext {a b : ByteArray} (h : a.data.toList = b.data.toList) : a = b := by
  cases a; cases b; congr 1; exact Array.toList_inj.1 h
theorem dtx_list (z : Int) (k : Nat) (hk : 0 < k) : (dtx z k).data.toList = (if z < 0 then [45] else []) ++ (Lib.decDigits (z.natAbs / 10 ^ k) ++ 46 :: pad k (z.natAbs % 10 ^ k)) := by
  have hp : 0 < 10 ^ k := Nat.pow_pos (by decide)
  have hd := dig_list z.natAbs k hk
  obtain ⟨d, hde⟩ : ∃ d, dig z.natAbs k = d := ⟨_, rfl⟩
  have hsz : d.size - k = (Lib.decDigits (z.natAbs / 10 ^ k)).length := by
    have : d.data.toList.length = d.size := by rw [Array.length_toList]; rfl
    rw [hde] at hd
    rw [hd, List.length_append, pad_len k _ hk (Nat.mod_lt _ hp)] at this
    omega
  unfold dtx wrt
  rw [if_neg (by omega), hde, hsz]
  rw [hde] at hd
  obtain ⟨e1, e2⟩ := ext_take d _ _ hd
  have e3 : ∀ a b : ByteArray, (a ++ b).data.toList = a.data.toList ++ b.data.toList := fun a b => by simp
  rw [e3, e3, e3, e1, e2]
  split <;> simp
theorem dtx_list0 (z : Int) : (dtx z 0).data.toList = (if z < 0 then [45] else []) ++ Lib.decDigits z.natAbs := by
  unfold dtx wrt dig
  rw [if_pos rfl, size_mk, Lib.decDigits_length]
  have h1 : 0 < Lib.nDigits z.natAbs := by
    rw [← Lib.decDigits_length]
    rcases Nat.eq_zero_or_pos (Lib.decDigits z.natAbs).length with h | h
    · exact absurd (List.length_eq_zero_iff.1 h) (dec_ne _)
    · exact h
  rw [show (((0 : Nat) : Int) + 1 - (Lib.nDigits z.natAbs : Int)).toNat = 0 by omega]
  have e3 : ∀ a b : ByteArray, (a ++ b).data.toList = a.data.toList ++ b.data.toList := fun a b => by simp
  rw [e3]
  show _ ++ Lib.decDigits z.natAbs = _
  split <;> rfl
theorem dtx_itx (z : Int) : dtx z 0 = itx z := ba_ext (by rw [dtx_list0, itx_data]; split <;> rfl)
theorem dtx_size (z : Int) (k : Nat) (hk : 0 < k) : (dtx z k).size = (if z < 0 then 1 else 0) + (Lib.nDigits (z.natAbs / 10 ^ k) + 1 + k) := by
  have hp : 0 < 10 ^ k := Nat.pow_pos (by decide)
  have : (dtx z k).data.toList.length = (dtx z k).size := by rw [Array.length_toList]; rfl
  rw [← this, dtx_list z k hk, List.length_append, List.length_append, Lib.decDigits_length, List.length_cons, pad_len k _ hk (Nat.mod_lt _ hp)]
  split <;> simp <;> omega
/-- the sign is told by the first byte -/
theorem ineg_list {s : ByteArray} {z : Int} {n : Nat} {r : List UInt8} (h : s.data.toList = (if z < 0 then [45] else []) ++ (Lib.decDigits n ++ r)) : ineg s = decide (z < 0) ∧ (idig s).data.toList = Lib.decDigits n ++ r := by
  unfold ineg idig Lib.trimPrefix Lib.hasPrefix
  rw [h]
  by_cases hz : z < 0
  · rw [if_pos hz, decide_eq_true hz]
    simp [List.isPrefixOf]
  · rw [if_neg hz, decide_eq_false hz]
    obtain ⟨c, l, hc⟩ : ∃ c l, Lib.decDigits n = c :: l := by
      rcases hd : Lib.decDigits n with _ | ⟨c, l⟩
      · exact absurd hd (dec_ne n)
      · exact ⟨c, l, rfl⟩
    have h1 := dec_digits n c (by rw [hc]; exact List.mem_cons_self)
    have h2 : (45 == c) = false := by
      have : ¬ (45 : UInt8) = c := fun e => by rw [← e] at h1; exact absurd h1.1 (by decide)
      simpa using this
    rw [hc]
    simp [List.isPrefixOf, h2]
theorem index_at : ∀ (A B : List UInt8) (c : UInt8), (∀ x ∈ A, x ≠ c) → Lib.indexByte (A ++ c :: B) c = (A.length : Int)
  | [], B, c, _ => by simp [Lib.indexByte]
  | x :: A, B, c, h => by
    have h1 : (x == c) = false := by simpa using h x List.mem_cons_self
    have ih := index_at A B c (fun y hy => h y (List.mem_cons_of_mem _ hy))
    have h2 : ((A.length : Int) == -1) = false := by
      simp
    simp only [List.cons_append, Lib.indexByte, h1, ih, h2, List.length_cons]
    simp
theorem cut_list {t : ByteArray} {A B : List UInt8} (h : t.data.toList = A ++ 46 :: B) (hA : ∀ x ∈ A, x ≠ 46) : (dup t).data.toList = A ∧ (ddn t).data.toList = B ∧ dtwo t = true := by
  have hi : di t = (A.length : Int) := by unfold di; rw [h]; exact index_at A B 46 hA
  refine ⟨?_, ?_, ?_⟩
  · unfold dup; rw [hi, if_pos (by omega)]
    exact (ext_take t A (46 :: B) h).1
  · unfold ddn; rw [hi, if_pos (by omega)]
    exact ext_skip t A B 46 h
  · unfold dtwo; rw [hi]; exact decide_eq_true (by omega)
theorem dig_ne46 {n : Nat} : ∀ x ∈ Lib.decDigits n, x ≠ 46 := fun x hx e => by
  have := dec_digits n x hx; rw [e] at this; exact absurd this.1 (by decide)
/-- a row of digits without a leading zero -/
theorem good_list {s : ByteArray} {c : UInt8} {l : List UInt8} (h : s.data.toList = c :: l) (hd : ∀ x ∈ c :: l, 48 ≤ x.toNat ∧ x.toNat ≤ 57) (h0 : c.toNat ≠ 48) (hs : s.size ≤ 4096) : pcode s = 0 ∧ pnum s = lv (c :: l) := by
  have hl : s.data.toList.length = s.size := by rw [Array.length_toList]; rfl
  have hg : pgood s := by
    refine ⟨by rw [← hl, h]; simp, fun e => ?_, fun i hi => ?_⟩
    · exfalso
      apply h0
      have hp : 0 < s.size := by rw [← hl, h]; simp
      rw [byt_list s 0 hp] at e
      simp only [h] at e
      exact e
    · rw [byt_list s i hi]
      exact hd _ (by rw [← h]; exact List.getElem_mem _)
  refine ⟨by unfold pcode; rw [if_neg (by omega), if_pos hg], ?_⟩
  unfold pnum
  rw [if_pos ⟨hs, hg⟩, pv_lv, h]
/-- Parse inverts Text -/
theorem parse_dtx (z : Int) (k : Nat) (hs : (dtx z k).size ≤ 4000) : dcode (dtx z k) = 0 ∧ dnum (dtx z k) = mkRat z (10 ^ k) := by
  have hp : 0 < 10 ^ k := Nat.pow_pos (by decide)
  have key : pcode (dA (dtx z k)) = 0 ∧ pnum (dA (dtx z k)) = z.natAbs / 10 ^ k ∧ pcode (dO (dtx z k)) = 0 ∧ pnum (dO (dtx z k)) = 10 ^ k + z.natAbs % 10 ^ k ∧ (dB (dtx z k)).size = k ∧ dM (dtx z k) = false ∧ ineg (dtx z k) = decide (z < 0) := by
    have hz : ∀ s : ByteArray, s.size = s.data.toList.length := fun s => by rw [Array.length_toList]; rfl
    have hO : (dO (dtx z k)).data.toList = 49 :: (dB (dtx z k)).data.toList := by unfold dO; simp
    by_cases hk : k = 0
    · subst hk
      have hl := dtx_list0 z
      obtain ⟨e1, e2⟩ := ineg_list (z := z) (n := z.natAbs) (r := []) (s := dtx z 0) (by rw [hl, List.append_nil])
      rw [List.append_nil] at e2
      have hi : di (idig (dtx z 0)) = -1 := by
        rcases di_cases (idig (dtx z 0)) with h | ⟨i, h, _⟩
        · exact h
        · unfold di at h
          rw [e2] at h
          exact absurd rfl (dig_ne46 46 (List.mem_of_getElem? (Lib.indexByte_some h).1))
      have eA : dA (dtx z 0) = idig (dtx z 0) := by unfold dA dup; rw [hi, if_neg (by decide)]
      have eB : dB (dtx z 0) = ⟨#[]⟩ := by unfold dB ddn; rw [hi, if_neg (by decide)]
      have eA2 : dA (dtx z 0) = ⟨(Lib.decDigits z.natAbs).toArray⟩ := by rw [eA]; exact ba_ext (by rw [e2])
      have hn : Lib.nDigits z.natAbs ≤ 4096 := by
        have := idig_size (dtx z 0)
        rw [hz (idig (dtx z 0)), e2, Lib.decDigits_length] at this
        omega
      obtain ⟨p1, p2⟩ := pnum_dec z.natAbs hn
      rw [eB] at hO
      obtain ⟨q1, q2⟩ := good_list (s := dO (dtx z 0)) (c := 49) (l := []) hO (by intro x hx; simp at hx; subst hx; decide) (by decide) (by rw [hz, hO]; decide)
      refine ⟨by rw [eA2]; exact p2, by rw [eA2, p1, Nat.pow_zero, Nat.div_one], q1, ?_, by rw [eB]; rfl, ?_, e1⟩
      · rw [q2, Nat.pow_zero, Nat.mod_one]; decide
      · unfold dM dtwo
        have he : (⟨#[]⟩ : ByteArray).toList.isEmpty = true := by rw [ba_empty]; rfl
        rw [hi, eB, he]; decide
    · have hl := dtx_list z k (by omega)
      obtain ⟨e1, e2⟩ := ineg_list (s := dtx z k) hl
      obtain ⟨c1, c2, c3⟩ := cut_list e2 dig_ne46
      have hn : Lib.nDigits (z.natAbs / 10 ^ k) ≤ 4096 := by
        have := dtx_size z k (by omega); split at this <;> omega
      obtain ⟨p1, p2⟩ := pnum_dec (z.natAbs / 10 ^ k) hn
      have eA2 : dA (dtx z k) = ⟨(Lib.decDigits (z.natAbs / 10 ^ k)).toArray⟩ := ba_ext (by unfold dA; rw [c1])
      have hB : (dB (dtx z k)).data.toList = pad k (z.natAbs % 10 ^ k) := c2
      have hBs : (dB (dtx z k)).size = k := by rw [hz, hB, pad_len k _ (by omega) (Nat.mod_lt _ hp)]
      rw [hB] at hO
      obtain ⟨q1, q2⟩ := good_list (s := dO (dtx z k)) (c := 49) (l := pad k (z.natAbs % 10 ^ k)) hO (by
        intro x hx
        rcases List.mem_cons.1 hx with h | h
        · subst h; decide
        · exact pad_digs _ _ x h) (by decide) (by rw [hz, hO, List.length_cons, ← hB, ← hz, hBs]; have := dtx_size z k (by omega); split at this <;> omega)
      refine ⟨by rw [eA2]; exact p2, by rw [eA2, p1], q1, ?_, hBs, ?_, e1⟩
      · rw [q2, lv_cons, lv_pad, pad_len k _ (by omega) (Nat.mod_lt _ hp), show (49 : UInt8).toNat - 48 = 1 from by decide, Nat.one_mul]
      · unfold dM
        have hne : (dB (dtx z k)).toList.isEmpty = false := by rw [ba_empty]; exact decide_eq_false (by omega)
        rw [c3, hne]; rfl
  obtain ⟨k1, k2, k3, k4, k5, k6, k7⟩ := key
  have hK : dK (dtx z k) = z.natAbs := by
    unfold dK
    rw [k2, k4, k5]
    have := Nat.div_add_mod z.natAbs (10 ^ k)
    rw [Nat.mul_comm] at this
    omega
  have hc : dcode (dtx z k) = 0 := by
    unfold dcode
    rw [if_neg (by omega), if_neg (fun h => h k1), if_neg (fun h => h k3), if_neg (by rw [k6]; decide), if_neg]
    rw [hK, k7]
    rintro ⟨h1, h2⟩
    have := of_decide_eq_true h1
    omega
  refine ⟨hc, ?_⟩
  unfold dnum
  rw [hc, if_pos rfl, k5]
  congr 1
  unfold dZ
  rw [hK, k7]
  by_cases h : z < 0
  · rw [if_pos (decide_eq_true h)]; omega
  · rw [if_neg (by rw [decide_eq_false h]; decide)]; omega
theorem ba_len (s : ByteArray) : s.data.toList.length = s.size := by rw [Array.length_toList]; rfl
theorem byt_list2 {s : ByteArray} {P B : List UInt8} {c : UInt8} (h : s.data.toList = P ++ c :: B) : byt s P.length = c.toNat ∧ P.length < s.size := by
  have hl := ba_len s
  have h1 : P.length < s.size := by rw [← hl, h]; simp
  refine ⟨?_, h1⟩
  rw [byt_list s _ h1]
  simp [h]
theorem dtx_form (z : Int) (k : Nat) : ∃ m r, (dtx z k).data.toList = (if z < 0 then [45] else []) ++ (Lib.decDigits m ++ r) := by
  by_cases hk : k = 0
  · subst hk; exact ⟨z.natAbs, [], by rw [dtx_list0, List.append_nil]⟩
  · exact ⟨_, _, dtx_list z k (by omega)⟩
theorem dtx_head (z : Int) (k : Nat) : 0 < (dtx z k).size ∧ ((z < 0 ∧ byt (dtx z k) 0 = 45) ∨ (¬ z < 0 ∧ byt (dtx z k) 0 ≠ 45)) := by
  obtain ⟨m, r, h⟩ := dtx_form z k
  by_cases hz : z < 0
  · rw [if_pos hz] at h
    obtain ⟨e1, e2⟩ := byt_list2 (P := []) (c := 45) (B := Lib.decDigits m ++ r) h
    exact ⟨e2, .inl ⟨hz, e1⟩⟩
  · rw [if_neg hz] at h
    obtain ⟨c, l, hc⟩ : ∃ c l, Lib.decDigits m = c :: l := by
      rcases hd : Lib.decDigits m with _ | ⟨c, l⟩
      · exact absurd hd (dec_ne m)
      · exact ⟨c, l, rfl⟩
    rw [hc] at h
    obtain ⟨e1, e2⟩ := byt_list2 (P := []) (c := c) (B := l ++ r) h
    refine ⟨e2, .inr ⟨hz, ?_⟩⟩
    have h1 := dec_digits m c (by rw [hc]; exact List.mem_cons_self)
    rw [show (0 : Nat) = ([] : List UInt8).length from rfl, e1]
    omega
theorem mk_neg (z : Int) (k : Nat) : mkRat z (10 ^ k) < 0 ↔ z < 0 := by
  have hp : 0 < 10 ^ k := Nat.pow_pos (by decide)
  rw [← sgQ_lt0, sgQ_mkRat z _ hp]
  by_cases h0 : z = 0
  · rw [if_pos h0]; omega
  · rw [if_neg h0]
    by_cases h : z < 0
    · rw [if_pos h]; omega
    · rw [if_neg h]; omega
theorem back_sign (z : Int) (k : Nat) : (mkRat z (10 ^ k) < 0 ∧ byt (dtx z k) 0 = 45) ∨ (¬ mkRat z (10 ^ k) < 0 ∧ byt (dtx z k) 0 ≠ 45) := by
  rw [mk_neg]; exact (dtx_head z k).2
theorem back_whole (z : Int) : (mkRat z (10 ^ 0)).den = 1 ∧ ftx (mkRat z (10 ^ 0)) = dtx z 0 := by
  rw [Nat.pow_zero, mk_one]
  refine ⟨rfl, ?_⟩
  unfold ftx
  rw [if_pos (show ((z : Rat)).den = 1 from rfl), dtx_itx]
  rfl
theorem back_point (z : Int) (k : Nat) (hk : 0 < k) : k + 1 < (dtx z k).size ∧ byt (dtx z k) ((dtx z k).size - k - 1) = 46 := by
  have hp : 0 < 10 ^ k := Nat.pow_pos (by decide)
  have h := dtx_list z k hk
  rw [← List.append_assoc] at h
  obtain ⟨e1, e2⟩ := byt_list2 h
  have hl := ba_len (dtx z k)
  rw [h, List.length_append, List.length_cons, pad_len k _ hk (Nat.mod_lt _ hp)] at hl
  have hd : 0 < ((if z < 0 then ([45] : List UInt8) else []) ++ Lib.decDigits (z.natAbs / 10 ^ k)).length := by
    rw [List.length_append]
    rcases Nat.eq_zero_or_pos (Lib.decDigits (z.natAbs / 10 ^ k)).length with h | h
    · exact absurd (List.length_eq_zero_iff.1 h) (dec_ne _)
    · omega
  refine ⟨by omega, ?_⟩
  rw [show (dtx z k).size - k - 1 = ((if z < 0 then ([45] : List UInt8) else []) ++ Lib.decDigits (z.natAbs / 10 ^ k)).length by omega, e1]
  decide
theorem dtx_small {z : Int} {k : Nat} (hz : wl z.natAbs ≤ 30) (hk : k ≤ 100) : (dtx z k).size ≤ 4000 := by
  have h1 := nb_wl z.natAbs
  have h2 := nDigits_nb z.natAbs
  by_cases h0 : k = 0
  · subst h0
    rw [dtx_itx, itx_size]
    split <;> omega
  · rw [dtx_size z k (by omega)]
    have h3 := nDigits_mono (Nat.div_le_self z.natAbs (10 ^ k))
    split <;> omega
end Go.Proofs.YtgdibedgjndcoaaGreatDoor
