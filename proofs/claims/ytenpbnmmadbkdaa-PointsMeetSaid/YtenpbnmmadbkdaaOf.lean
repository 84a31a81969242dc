/- nats.of: the number of a row of words. -/
import Derived.Test.YtenpbnmmadbkdaaWords
import Derived.Maps.AppendAt
namespace Go.Proofs.Ytenpbnmmadbkdaa
open Go.RowKit

theorem or64 (x y j : Nat) (hx : x < bp j) (hy : y < 4294967296) (hj : j < 2) :
    bits .or .u64 (x : Int) (IntKind.u64.wrap (IntKind.u64.wrap (y : Int) * 2 ^ (32 * j))) = ((x + y * bp j : Nat) : Int) := by
  rw [IntKind.wrap_u64, IntKind.wrap_u64]
  have e : bp j = 2 ^ (32 * j) := bp_eq j
  have hp : bp j ≤ 4294967296 := by
    have := bp_le (show j ≤ 1 by omega)
    rwa [bp_one] at this
  have hy2 : y * bp j ≤ 4294967295 * 4294967296 := Nat.mul_le_mul (by omega) hp
  have h1 : (y : Int) % 18446744073709551616 * 2 ^ (32 * j) % 18446744073709551616 = ((y * bp j : Nat) : Int) := by
    have h2 : (y : Int) % 18446744073709551616 = (y : Int) := by omega
    rw [h2, e]
    have h3 : ((2 : Int) ^ (32 * j)) = ((2 ^ (32 * j) : Nat) : Int) := by simp
    rw [h3, ← Int.natCast_mul, ← e]
    omega
  rw [h1, u64_or_nat x (y * bp j) (by omega) (by omega)]
  congr 1
  rw [e] at hx ⊢
  have := Nat.two_pow_add_eq_or_of_lt hx y
  rw [Nat.or_comm, Nat.mul_comm y, ← this, Nat.add_comm]

set_option maxRecDepth 100000 in
theorem of_two (b n c : Nat) (f : Nat → Nat) (w : World) (hn : n ≤ c) (hc : c ≤ 9223372036854775807)
    (hcell : ∀ i, i < n → w.cell? ⟨b, i, none⟩ = some (.int .u32 ((f i : Nat) : Int))) (hb : b < w.heap.size) (hf : ∀ i, i < n → f i < 4294967296) (hm : tl f n ≤ 2) :
    Calls Try.prog 60 #[.slice (some ⟨b, 0, none⟩) n c] w fun e w' => e = .returned (Value.agg #[.int .u64 ((lo (vl f n) : Nat) : Int), .string (bg (vl f n))]) ∧ Below w.heap.size w w' := by
  have hval : Hid (vl f (tl f n) = vl f n) := Lib.hid (vl_tl f n)
  have htn := tl_le f n
  go_enter Try.func60, Try.ntmps60
  have HC := Lib.hid hcell
  clear hcell
  go_wp2_with fail
  refine (cut_any b c f _ n hn hc (fun i hi => ?_)).mono ?_
  · rw [World.cell?_alloc_lt _ _ _ hb]
    exact HC.out i hi
  rintro e w1 ⟨rfl, rfl⟩
  obtain ⟨m, HM⟩ : ∃ m, Hid (tl f n = m) := ⟨_, Lib.hid rfl⟩
  rw [HM.out] at hm hval htn
  rw [HM.out]
  go_wp2_with fail
  go_loop [3, 16] (fun x i => ∃ j : Nat, j ≤ m ∧ i = .int .i64 j ∧ x = .int .u64 ((vl f j : Nat) : Int)) (fun _ i => m - (intOf i).toNat)
  case atStart => exact ⟨0, Nat.zero_le _, rfl, rfl⟩
  case round =>
    obtain ⟨j, hj, rfl, rfl⟩ := hrel
    by_cases hjm : j < m
    · have h1 := HC.out j (by omega)
      have h2 := or64 (vl f j) (f j) j (vl_lt fun i hi => hf i (by omega)) (hf j (by omega)) (by omega)
      rw [← vl_succ] at h2
      go_wp2
      go_round
      case rel => exact ⟨j + 1, by omega, by go_num, rfl⟩
      case measure => simp [intOf]; omega
    · obtain rfl : j = m := by omega
      go_wp2
      have hs : vl f n < 18446744073709551616 := by
        have := vl_lt (f := f) (n := j) (fun i hi => hf i (by omega))
        have := bp_le hm
        rw [bp_two] at this
        rw [← hval.out]
        omega
      rw [lo_small hs, bg_small hs]
      exact bodyPost_ret (v := .agg #[.int .u64 ((vl f j : Nat) : Int), .string ⟨#[]⟩]) (by simp [results, Try.results60, go_sem]) rfl ⟨by rw [hval.out], (Below.refl _ _).alloc (Nat.le_refl _) _⟩

theorem info_u8 : (Try.prog.info? 5).map (fun i => (i.zero, i.size, i.bytes)) = some (some (.int .u8 0), 1, 1) := by kernel_rfl

/-- 'make([]T, 0, n)', T of one cell -/
theorem made_cap {P : Program} (t e : TypeId) (i : TypeInfo) (z : Value) (ht : P.underlying t = some (.slice e)) (hi : P.info? e = some i) (hz : i.zero = some z) (h1 : i.size = 1) (hzc : z.cells = #[z])
    (kl kc : IntKind) (c : Int) (n : Nat) (hc : c = (n : Int)) (hbytes : i.bytes * n ≤ 281474976710656) (h63 : n ≤ 9223372036854775807) (w : World) :
    (Instr.makeSlice t (.int kl 0) (.int kc c)).run P w = .ok (.slice (some ⟨w.heap.size, 0, none⟩) 0 n) (w.alloc (.cells (madeCells #[z] n) e)) := by
  subst hc
  have hb : (i.bytes : Int) * (n : Int) ≤ 281474976710656 := by
    have h : ((i.bytes * n : Nat) : Int) ≤ 281474976710656 := by omega
    rwa [Int.natCast_mul] at h
  have hr := run_make (P := P) w t e i z ht hi hz kl kc 0 n (by omega) (by omega) hb (by omega)
  simp only [Int.toNat_natCast, Int.toNat_zero, h1, Nat.mul_one, hzc] at hr
  exact hr

/-- the bytes as cells -/
def cells8 (l : List UInt8) : List Value := l.map fun x => .int .u8 ((x.toNat : Nat) : Int)

theorem cells8_by4 (d : Nat) (h : d < 4294967296) : cells8 (by4 d) = [.int .u8 ((d : Int) % 256), .int .u8 ((d : Int) / 256 % 256), .int .u8 ((d : Int) / 65536 % 256), .int .u8 ((d : Int) / 16777216)] := by
  have : d / 16777216 < 256 := by omega
  simp [cells8, by4]
  omega
theorem cells8_append (l m : List UInt8) : cells8 (l ++ m) = cells8 l ++ cells8 m := by simp [cells8]
theorem length_cells8 (l : List UInt8) : (cells8 l).length = l.length := by simp [cells8]
theorem cells8_at {l : List UInt8} {j : Nat} {u : Value} (h : (cells8 l)[j]? = some u) : ∃ hj : j < l.length, u = .int .u8 ((l[j].toNat : Nat) : Int) := by
  have hj : j < l.length := by
    have := (List.getElem?_eq_some_iff.1 h).1
    simpa [cells8] using this
  refine ⟨hj, ?_⟩
  simp [cells8, List.getElem?_eq_getElem hj] at h
  exact h.symm

set_option maxRecDepth 100000 in
theorem of_big (b n c : Nat) (f : Nat → Nat) (w : World) (hn : n ≤ c) (hc : c ≤ 9223372036854775807) (hn40 : n ≤ 1099511627776)
    (hcell : ∀ i, i < n → w.cell? ⟨b, i, none⟩ = some (.int .u32 ((f i : Nat) : Int))) (hb : b < w.heap.size) (hf : ∀ i, i < n → f i < 4294967296) (hm : 2 < tl f n) :
    Calls Try.prog 60 #[.slice (some ⟨b, 0, none⟩) n c] w fun e w' => e = .returned (Value.agg #[.int .u64 ((lo (vl f n) : Nat) : Int), .string (bg (vl f n))]) ∧ Below w.heap.size w w' := by
  have hval : Hid (vl f (tl f n) = vl f n) := Lib.hid (vl_tl f n)
  have hwl : Hid (tl f n = wl (vl f n)) := Lib.hid (tl_wl hf)
  have htn := tl_le f n
  obtain ⟨i0, hi, hz0, hz1, hz2⟩ := info_parts info_u8
  go_enter Try.func60, Try.ntmps60
  have HC := Lib.hid hcell
  clear hcell
  go_wp2_with fail
  refine (cut_any b c f _ n hn hc (fun i hi => ?_)).mono ?_
  · rw [World.cell?_alloc_lt _ _ _ hb]
    exact HC.out i hi
  rintro e w1 ⟨rfl, rfl⟩
  obtain ⟨m, HM⟩ : ∃ m, Hid (tl f n = m) := ⟨_, Lib.hid rfl⟩
  rw [HM.out] at hm hval htn hwl
  rw [HM.out]
  have hmk := fun W => made_cap (P := Try.prog) 108 5 i0 _ Try.underlying108 hi hz0 hz1 rfl .i64 .i64 (4 * (m : Int)) (4 * m) (by omega) (by rw [hz2]; omega) (by omega) W
  go_wp2_with fail
  have HM2 := Lib.hid hmk
  clear hmk
  obtain ⟨W0, HW⟩ : ∃ W0, Hid (w.alloc (.cells #[.int .u64 0, .string ⟨#[]⟩] 30) = W0) := ⟨_, Lib.hid rfl⟩
  rw [HW.out]
  go_loopw [6, 37] (fun v i wr => ∃ j : Nat, j ≤ m ∧ i = .int .i64 j ∧ v = .slice (some ⟨w.heap.size + 1, 0, none⟩) (4 * j) (4 * m) ∧ wr.ownsRow (w.heap.size + 1) 5 1 (.slice (some ⟨w.heap.size + 1, 0, none⟩) (4 * j) (4 * m)) (4 * j) (cells8 (bys f j)) ∧ Below (w.heap.size + 1) W0 wr) (fun _ i _ => m - (intOf i).toNat)
  case atStart =>
    refine ⟨0, Nat.zero_le _, rfl, rfl, ?_, ?_⟩
    · have := World.ownsRow_made (base := w.heap.size + 1) (e := 5) (size := 1) W0 (madeCells #[.int .u8 0] (4 * m)) (4 * m) (by rw [← HW.out]; simp) (by unfold maxLen; omega) (by simp [size_madeCells])
      rw [show W0.heap.size = w.heap.size + 1 from by rw [← HW.out]; simp] at this
      exact this
    · exact (Below.refl _ _).alloc (by rw [← HW.out]; simp) _
  case round =>
    obtain ⟨j, hj, rfl, rfl, hown, hbel⟩ := hrel
    by_cases hjm : j < m
    · have hcell : wr.cell? ⟨b, j, none⟩ = some (.int .u32 ((f j : Nat) : Int)) := by
        rw [hbel.cell (p := ⟨b, j, none⟩) (by simp; omega), ← HW.out, World.cell?_alloc_lt _ _ _ hb]
        exact HC.out j (by omega)
      have hfj := hf j (by omega)
      have H1 := Lib.hid hown
      have H2 := Lib.hid hbel
      clear hown hbel
      have hnews : ∀ k u, (cells8 (by4 (f j)))[k]? = some u → (wr.alloc (.cells #[.int .u8 ((f j : Nat) % 256 : Int), .int .u8 ((f j : Nat) / 256 % 256 : Int), .int .u8 ((f j : Nat) / 65536 % 256 : Int), .int .u8 ((f j : Nat) / 16777216 : Int)] 5)).cell? ((⟨wr.heap.size, 0, none⟩ : Addr).add k) = some u := by
        intro k u hk
        rw [cells8_by4 _ hfj] at hk
        match k, hk with
        | 0, hk => simpa [Addr.add] using hk
        | 1, hk => simpa [Addr.add] using hk
        | 2, hk => simpa [Addr.add] using hk
        | 3, hk => simpa [Addr.add] using hk
      have HN := Lib.hid hnews
      clear hnews
      go_wp2_with (at_builtin; refine wpList_append_fits _ rfl (.tmp 41) (.tmp 53) _ rfl (w.heap.size + 1) 5 i0 1 Try.underlying108 hi hz1 (w.heap.size + 1) (4 * j) (4 * m) (cells8 (bys f j)) rfl (H1.out.alloc _) ⟨wr.heap.size, 0, none⟩ 4 4 (cells8 (by4 (f j))) rfl rfl HN.out (fun u hu => by obtain ⟨k, hk⟩ := List.getElem?_of_mem hu; obtain ⟨_, rfl⟩ := cells8_at hk; rfl) (by omega) ?_; intro w1 hown1 hg1)
      have H3 := Lib.hid hown1
      have H4 := Lib.hid hg1
      clear hown1 hg1
      go_roundw
      case rel =>
        refine ⟨j + 1, by omega, by go_num, rfl, ?_, ?_⟩
        · rw [bys, cells8_append]
          exact H3.out
        · exact (H2.out.alloc (by have := H2.out.size; rw [← HW.out] at this; simpa using this) _).grown H4.out (by have := H2.out.size; rw [← HW.out] at this; simp at this ⊢; omega) (fun k hk => by simp at hk; omega)
      case measure => simp [intOf]; omega
    · obtain rfl : j = m := by omega
      have hr0 : wr.cell? ⟨w.heap.size, 0, none⟩ = some (.int .u64 0) := by
        rw [hbel.cell (p := ⟨w.heap.size, 0, none⟩) (by simp), ← HW.out]
        simp [go_sem]
      have hr1 : wr.cell? ⟨w.heap.size, 1, none⟩ = some (.string ⟨#[]⟩) := by
        rw [hbel.cell (p := ⟨w.heap.size, 1, none⟩) (by simp), ← HW.out]
        simp [go_sem]
      have hf0 : wr.frozen? ⟨w.heap.size, 0, none⟩ = false := by
        rw [hbel.frozen (p := ⟨w.heap.size, 0, none⟩) (by simp), ← HW.out]
        simp [go_sem]
      have hf1 : wr.frozen? ⟨w.heap.size, 1, none⟩ = false := by
        rw [hbel.frozen (p := ⟨w.heap.size, 1, none⟩) (by simp), ← HW.out]
        simp [go_sem]
      have hcv := run_convert_bytes_back (P := Try.prog) wr 108 9 5 ⟨w.heap.size + 1, 0, none⟩ (4 * j) (bys f j) Try.underlying108 Try.underlying5 Try.underlying9 (fun k hk => by
        have := hown.cells (g := w.heap.size + 1) rfl k
        refine this _ ?_
        simp [cells8, List.getElem?_eq_getElem hk])
      rw [length_bys] at hcv
      have H1 := Lib.hid hown
      have H2 := Lib.hid hbel
      clear hown hbel
      go_wp2
      have hs : ¬ vl f n < 18446744073709551616 := by
        have := @wl_le_two (vl f n)
        have := hwl.out
        omega
      have he : bys (dg (vl f n)) (wl (vl f n)) = bys f j := by
        rw [← hwl.out]
        refine bys_congr fun i hi => ?_
        exact dg_vl hf (by omega)
      rw [lo_big hs, bg_big hs, he]
      exact bodyPost_ret (v := .agg #[.int .u64 0, .string ⟨(bys f j).toArray⟩]) (by simp [results, Try.results60, go_sem, hr0, hr1]) rfl
        ⟨rfl, by
          have h0 : Below w.heap.size w W0 := by rw [← HW.out]; exact (Below.refl _ _).alloc (Nat.le_refl _) _
          exact ((h0.trans (H2.out.mono (Nat.le_succ _))).setCell (by simp) _).setCell (by simp) _⟩
/-- nats.of: the number of the words -/
theorem of_any (b n c : Nat) (f : Nat → Nat) (w : World) (hn : n ≤ c) (hc : c ≤ 9223372036854775807) (hn40 : n ≤ 1099511627776)
    (hcell : ∀ i, i < n → w.cell? ⟨b, i, none⟩ = some (.int .u32 ((f i : Nat) : Int))) (hb : b < w.heap.size) (hf : ∀ i, i < n → f i < 4294967296) :
    Calls Try.prog 60 #[.slice (some ⟨b, 0, none⟩) n c] w fun e w' => e = .returned (Value.agg #[.int .u64 ((lo (vl f n) : Nat) : Int), .string (bg (vl f n))]) ∧ Below w.heap.size w w' := by
  by_cases hm : tl f n ≤ 2
  · exact of_two b n c f w hn hc hcell hb hf hm
  · exact of_big b n c f w hn hc hn40 hcell hb hf (by omega)

/-- Nat.words -/
theorem words_any (n : Nat) (w : World) (hl : wl n ≤ 1099511627776) : Calls Try.prog 61 #[(Value.agg #[.int .u64 ((lo (n) : Nat) : Int), .string (bg (n))])] w (WordsPost n w) := by
  by_cases h : n < 18446744073709551616
  · exact words_small n w h
  · exact words_big n w h hl
end Go.Proofs.Ytenpbnmmadbkdaa
