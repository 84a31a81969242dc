
/- The text of a fraction, read again: plain. No condition but those stated. -/
import Derived.Test.YtpcfncbcpknobaaGreatDoorPW
import Derived.Test.YtpcfncbcpknobaaGreatDoorPS
import Derived.Test.YtpcfncbcpknobaaGreatDoorIntParseP
namespace Go.Proofs.YtpcfncbcpknobaaGreatDoor
open Go.RowKit
set_option linter.unusedSimpArgs false
set_option linter.unusedVariables false
/-- without a slash -/
def noSl (t : ByteArray) : Prop := ∀ c, c ∈ t.data.toList → c ≠ 47
theorem ib_none (l : List UInt8) (h : ∀ c, c ∈ l → c ≠ 47) : Lib.indexByte l 47 = -1 := by
  induction l with
  | nil => rfl
  | cons b l ih =>
    unfold Lib.indexByte
    rw [if_neg (by have := h b (List.mem_cons_self ..); simpa using this), if_pos (by rw [ih (fun c hc => h c (List.mem_cons_of_mem _ hc))]; rfl)]
theorem ib_cat (l m : List UInt8) (h : ∀ c, c ∈ l → c ≠ 47) : Lib.indexByte (l ++ 47 :: m) 47 = (l.length : Int) := by
  induction l with
  | nil => rfl
  | cons b l ih =>
    have e := ih (fun c hc => h c (List.mem_cons_of_mem _ hc))
    rw [List.cons_append]
    unfold Lib.indexByte
    rw [if_neg (by have := h b (List.mem_cons_self ..); simpa using this), e, if_neg (by intro e; have := beq_iff_eq.1 e; omega)]
    rw [List.length_cons]; omega
theorem cut_none (t : ByteArray) (h : noSl t) : fup t = t ∧ ftwo t = false := by
  have e : fi t = -1 := ib_none _ h
  unfold fup ftwo
  rw [e]
  exact ⟨rfl, rfl⟩
theorem ba_ext {a b : ByteArray} (h : a.data.toList = b.data.toList) : a = b := by
  cases a; cases b
  congr 1
  exact Array.toList_inj.1 h
theorem cut_cat (t d : ByteArray) (h : noSl t) : fup (t ++ (⟨#[47]⟩ : ByteArray) ++ d) = t ∧ fdn (t ++ (⟨#[47]⟩ : ByteArray) ++ d) = d ∧ ftwo (t ++ (⟨#[47]⟩ : ByteArray) ++ d) = true := by
  have hl : (t ++ (⟨#[47]⟩ : ByteArray) ++ d).data.toList = t.data.toList ++ 47 :: d.data.toList := by simp
  have e : fi (t ++ (⟨#[47]⟩ : ByteArray) ++ d) = (t.size : Int) := by
    unfold fi
    rw [hl, ib_cat _ _ h]
    simp
  have hn : t.data.toList.length = t.size := by simp
  have hz : (t ++ (⟨#[47]⟩ : ByteArray) ++ d).size = t.size + 1 + d.size := by simp; rfl
  unfold fup fdn ftwo
  rw [e, if_pos (by omega), if_pos (by omega), hz]
  refine ⟨?_, ?_, decide_eq_true (by omega)⟩
  · apply ba_ext
    have h1 : ((t ++ (⟨#[47]⟩ : ByteArray) ++ d).extract 0 ((t.size : Int)).toNat).toList = t.toList := by
      rw [Lib.extract_toList, ← Lib.toList_data] at *
      simp [Lib.toList_data, hl, hn]
    rw [Lib.toList_data, Lib.toList_data] at h1
    exact h1
  · apply ba_ext
    have h1 : ((t ++ (⟨#[47]⟩ : ByteArray) ++ d).extract (((t.size : Int)).toNat + 1) (t.size + 1 + d.size)).toList = d.toList := by
      have hd : t.size + 1 - t.data.toList.length = 1 := by omega
      have hn2 : t.data.toList.drop (t.size + 1) = [] := List.drop_eq_nil_of_le (by omega)
      have hm : d.data.toList.length = d.size := by simp
      rw [Lib.extract_toList, hl, Lib.toList_data]
      show List.take _ (List.drop (t.size + 1) _) = _
      have he : t.size + 1 + d.size - (((t.size : Nat) : Int).toNat + 1) = d.data.toList.length := by omega
      rw [List.drop_append, hd, hn2, he]
      exact List.take_length
    rw [Lib.toList_data, Lib.toList_data] at h1
    exact h1
theorem noSl_dec (n : Nat) : noSl ⟨(Lib.decDigits n).toArray⟩ := fun c hc => by
  have := dec_digits n c (by simpa using hc)
  intro e
  subst e
  exact absurd this.1 (by decide)
theorem noSl_itx (a : Int) : noSl (itx a) := fun c hc => by
  rw [itx_data] at hc
  split at hc
  · rcases List.mem_cons.1 hc with h | h
    · subst h; decide
    · exact noSl_dec a.natAbs c (by simpa using h)
  · exact noSl_dec a.natAbs c (by simpa using hc)
theorem read_ratio (n : Int) (d : Nat) (h1 : Lib.nDigits n.natAbs ≤ 4096) (h2 : Lib.nDigits d ≤ 4096) : fcode (itx n ++ (⟨#[47]⟩ : ByteArray) ++ ⟨(Lib.decDigits d).toArray⟩) = (if d = 0 then 5 else 0) ∧ fnum (itx n ++ (⟨#[47]⟩ : ByteArray) ++ ⟨(Lib.decDigits d).toArray⟩) = mkRat n d := by
  obtain ⟨c1, c2, c3⟩ := cut_cat (itx n) ⟨(Lib.decDigits d).toArray⟩ (noSl_itx n)
  obtain ⟨p1, p2⟩ := parse_itx n h1
  obtain ⟨q1, q2⟩ := pnum_dec d h2
  unfold fcode fnum
  rw [c1, c2, c3, p1, p2, q1, q2]
  by_cases h : d = 0 <;> simp [h]
theorem read_ftx (q : Rat) (h1 : Lib.nDigits q.num.natAbs ≤ 4096) (h2 : Lib.nDigits q.den ≤ 4096) : fcode (ftx q) = 0 ∧ fnum (ftx q) = q := by
  unfold ftx
  by_cases h : q.den = 1
  · rw [if_pos h]
    obtain ⟨c1, c3⟩ := cut_none (itx q.num) (noSl_itx _)
    obtain ⟨p1, p2⟩ := parse_itx q.num h1
    unfold fcode fnum
    rw [c1, c3, p1, p2]
    refine ⟨by simp, ?_⟩
    simp
    exact Rat.ext rfl h.symm
  · rw [if_neg h]
    obtain ⟨e1, e2⟩ := read_ratio q.num q.den h1 h2
    rw [if_neg (Nat.ne_of_gt q.den_pos)] at e1
    exact ⟨e1, e2.trans (Rat.mkRat_self q)⟩
theorem zftext (q : Rat) (s : ByteArray) (w : World) (h : ftx q = s) (hs : sz q ≤ 100000) (HT : Hid (Tab w)) :
    Calls Tryz.prog 68 #[(Value.agg #[.int .u64 ((lo (Int.natAbs ((q).num)) : Nat) : Int), .string (bg (Int.natAbs ((q).num))), .bool (decide (((q).num) < 0)), .int .u64 ((lo ((q).den - 1) : Nat) : Int), .string (bg ((q).den - 1))])] w fun e w' => e = .returned (.string s) ∧ Below w.heap.size w w' := h ▸ ftext_any q w hs HT
theorem dg_small {n k : Nat} (h : wl n ≤ k) : Lib.nDigits n ≤ 32 * k + 1 := by
  have h1 := nDigits_nb n
  have h2 := nb_wl n
  have : 32 * wl n ≤ 32 * k := Nat.mul_le_mul_left _ h
  omega
theorem read_zero (n : Int) (h1 : Lib.nDigits n.natAbs ≤ 4096) : fcode (itx n ++ (⟨#[47, 48]⟩ : ByteArray)) = 5 ∧ fnum (itx n ++ (⟨#[47, 48]⟩ : ByteArray)) = 0 := by
  obtain ⟨e1, e2⟩ := read_ratio n 0 h1 (by decide +kernel)
  have e : itx n ++ (⟨#[47]⟩ : ByteArray) ++ (⟨(Lib.decDigits 0).toArray⟩ : ByteArray) = itx n ++ (⟨#[47, 48]⟩ : ByteArray) := by
    apply ba_ext
    have : Lib.decDigits 0 = [48] := by decide +kernel
    rw [this]
    simp
  rw [e] at e1 e2
  exact ⟨e1, by rw [e2, Rat.mkRat_zero]⟩
theorem itx_sm {a : Int} {k : Nat} (h : wl a.natAbs ≤ k) : (itx a).size ≤ 32 * k + 2 := by
  have h1 := dg_small h
  have h3 := itx_size a
  rw [h3]
  split <;> omega
theorem ftx_sm {q : Rat} {k : Nat} (h : sz q ≤ k) : (ftx q).size ≤ 64 * k + 5 := by
  have h1 := itx_sm (Nat.le_trans (sz_num q) h)
  have h2 := dg_small (Nat.le_trans (sz_den q) h)
  have h3 := Lib.decDigits_length q.den
  unfold ftx
  split
  · omega
  · have : (⟨#[47]⟩ : ByteArray).size = 1 := rfl
    have h5 : (⟨(Lib.decDigits q.den).toArray⟩ : ByteArray).size = Lib.nDigits q.den := by rw [size_mk, h3]
    rw [cat_size, cat_size]
    omega
end Go.Proofs.YtpcfncbcpknobaaGreatDoor
