
/- FracsLists: the law's walk. -/
import Derived.Test.YtgdibedgjndcoaaGreatDoorListP
import Derived.Test.YtgdibedgjndcoaaGreatDoorQs
import Derived.Test.YtgdibedgjndcoaaGreatDoorPL
import Derived.Test.YtgdibedgjndcoaaGreatDoorFMax
import Derived.Test.YtgdibedgjndcoaaGreatDoorSumL
import Derived.Test.YtgdibedgjndcoaaGreatDoorPJ
import Derived.Test.YtgdibedgjndcoaaGreatDoorEqQ
import Derived.Test.YtgdibedgjndcoaaGreatDoorWorksQ
import Derived.Deep.QuietTactic
namespace Go.Proofs.YtgdibedgjndcoaaGreatDoor
open Go.RowKit
set_option linter.unusedSimpArgs false
set_option linter.unusedVariables false
attribute [local go_sem ↓] Go.wp_at_zero Go.wp_at_succ
attribute [local go_sem ↓] eq_frac eq_frac_zero
theorem row_c0 {W : World} {g E n j : Nat} {cur : Array Value} {v : Value} {f : Nat → Rat} {q : Rat} (h : RowV g cur 5 v n (fcs f n)) (hB : Bx W g E cur) (hj : j < n) (hq : f j = q) : W.cell? ⟨g, j * 5, none⟩ = some (.int .u64 ((lo (Int.natAbs (q.num)) : Nat) : Int)) := by
  obtain ⟨cap, rfl, h1, h2, h3, h4, h5⟩ := h
  subst hq
  have hx := fcs_at f n j 0 hj (by decide)
  have hlt : j * 5 + 0 < n * 5 := by omega
  rw [← h4, List.getElem?_take_of_lt hlt, Array.getElem?_toList] at hx
  rw [hB.cells W (Gr.refl _)]
  exact hx
theorem row_c1 {W : World} {g E n j : Nat} {cur : Array Value} {v : Value} {f : Nat → Rat} {q : Rat} (h : RowV g cur 5 v n (fcs f n)) (hB : Bx W g E cur) (hj : j < n) (hq : f j = q) : W.cell? ⟨g, j * 5 + 1, none⟩ = some (.string (bg (Int.natAbs (q.num)))) := by
  obtain ⟨cap, rfl, h1, h2, h3, h4, h5⟩ := h
  subst hq
  have hx := fcs_at f n j 1 hj (by decide)
  have hlt : j * 5 + 1 < n * 5 := by omega
  rw [← h4, List.getElem?_take_of_lt hlt, Array.getElem?_toList] at hx
  rw [hB.cells W (Gr.refl _)]
  exact hx
theorem row_c2 {W : World} {g E n j : Nat} {cur : Array Value} {v : Value} {f : Nat → Rat} {q : Rat} (h : RowV g cur 5 v n (fcs f n)) (hB : Bx W g E cur) (hj : j < n) (hq : f j = q) : W.cell? ⟨g, j * 5 + 2, none⟩ = some (.bool (decide (q.num < 0))) := by
  obtain ⟨cap, rfl, h1, h2, h3, h4, h5⟩ := h
  subst hq
  have hx := fcs_at f n j 2 hj (by decide)
  have hlt : j * 5 + 2 < n * 5 := by omega
  rw [← h4, List.getElem?_take_of_lt hlt, Array.getElem?_toList] at hx
  rw [hB.cells W (Gr.refl _)]
  exact hx
theorem row_c3 {W : World} {g E n j : Nat} {cur : Array Value} {v : Value} {f : Nat → Rat} {q : Rat} (h : RowV g cur 5 v n (fcs f n)) (hB : Bx W g E cur) (hj : j < n) (hq : f j = q) : W.cell? ⟨g, j * 5 + 3, none⟩ = some (.int .u64 ((lo (q.den - 1) : Nat) : Int)) := by
  obtain ⟨cap, rfl, h1, h2, h3, h4, h5⟩ := h
  subst hq
  have hx := fcs_at f n j 3 hj (by decide)
  have hlt : j * 5 + 3 < n * 5 := by omega
  rw [← h4, List.getElem?_take_of_lt hlt, Array.getElem?_toList] at hx
  rw [hB.cells W (Gr.refl _)]
  exact hx
theorem row_c4 {W : World} {g E n j : Nat} {cur : Array Value} {v : Value} {f : Nat → Rat} {q : Rat} (h : RowV g cur 5 v n (fcs f n)) (hB : Bx W g E cur) (hj : j < n) (hq : f j = q) : W.cell? ⟨g, j * 5 + 4, none⟩ = some (.string (bg (q.den - 1))) := by
  obtain ⟨cap, rfl, h1, h2, h3, h4, h5⟩ := h
  subst hq
  have hx := fcs_at f n j 4 hj (by decide)
  have hlt : j * 5 + 4 < n * 5 := by omega
  rw [← h4, List.getElem?_take_of_lt hlt, Array.getElem?_toList] at hx
  rw [hB.cells W (Gr.refl _)]
  exact hx
theorem hit_t {f : Nat → Rat} {j : Nat} {h : Rat} (H : (true = true) ↔ ∃ x, x < j ∧ f x = h) : (true = true) ↔ ∃ x, x < j + 1 ∧ f x = h :=
  ⟨fun _ => by obtain ⟨x, a, b⟩ := H.1 rfl; exact ⟨x, by omega, b⟩, fun _ => rfl⟩
theorem hit_f {f : Nat → Rat} {j : Nat} {h q : Rat} (hq : f j = q) (H : (false = true) ↔ ∃ x, x < j ∧ f x = h) : (decide (q = h) = true) ↔ ∃ x, x < j + 1 ∧ f x = h := by
  rw [decide_eq_true_iff]
  constructor
  · intro e; exact ⟨j, by omega, hq.trans e⟩
  · rintro ⟨x, a, b⟩
    rcases Nat.lt_or_ge x j with hx | hx
    · exact absurd (H.2 ⟨x, hx, b⟩) (by decide)
    · obtain rfl : x = j := by omega
      exact hq.symm.trans b
theorem fmaxz (n : Nat) (f : Nat → Rat) (v : Value) (z : Rat) (w : World) (h : Fs w v n f) (hn : n ≤ 1000000) (hs : ∀ i, i < n → sz (f i) ≤ 1000) (hz : bst mx f n = z) :
    Calls Tryz.prog 23 #[v] w fun e w' => e = .returned (Value.agg #[.int .u64 ((lo (Int.natAbs ((z).num)) : Nat) : Int), .string (bg (Int.natAbs ((z).num))), .bool (decide (((z).num) < 0)), .int .u64 ((lo ((z).den - 1) : Nat) : Int), .string (bg ((z).den - 1))]) ∧ Below w.heap.size w w' := hz ▸ fmax_list n f v w h hn hs
theorem fminz (n : Nat) (f : Nat → Rat) (v : Value) (z : Rat) (w : World) (h : Fs w v n f) (hn : n ≤ 1000000) (hs : ∀ i, i < n → sz (f i) ≤ 1000) (hz : bst mi f n = z) :
    Calls Tryz.prog 24 #[v] w fun e w' => e = .returned (Value.agg #[.int .u64 ((lo (Int.natAbs ((z).num)) : Nat) : Int), .string (bg (Int.natAbs ((z).num))), .bool (decide (((z).num) < 0)), .int .u64 ((lo ((z).den - 1) : Nat) : Int), .string (bg ((z).den - 1))]) ∧ Below w.heap.size w w' := hz ▸ fmin_list n f v w h hn hs
theorem info_Frac : (Tryz.prog.info? 36).map (fun i => (i.zero, i.size, i.bytes)) = some (some (.agg #[.int .u64 0, .string ⟨#[]⟩, .bool false, .int .u64 0, .string ⟨#[]⟩]), 5, 56) := by kernel_rfl
theorem listq_long (v : Value) (n : Nat) (N D : Nat → Int) (t : Int) (w : World) (HQ : Hid (Qs w v n N D)) (hn : 20 < n) (HT : Hid (Tab w)) :
    Calls Tryz.prog 4 #[v, .int .i64 t] w fun e w' => e = .returned (.bool true) ∧ Below w.heap.size w w' := by
  obtain ⟨ao, c, rfl⟩ := HQ.out.slice
  have hn' : (20 : Int) < (n : Int) := by omega
  go_enter Tryz.func4, Tryz.ntmps4
  go_wp2_with fail
  refine (worksq_any w HT).mono ?_
  rintro e V1 ⟨rfl, hb⟩
  have HGf := Lib.hid hb
  clear hb
  go_wp2_with fail
  exact bodyPost_ret (v := .bool true) (by simp [results, Tryz.results4, go_sem]) rfl ⟨rfl, HGf.out⟩
set_option maxRecDepth 100000 in
set_option maxHeartbeats 8000000 in
theorem listq_some (v : Value) (n : Nat) (N D : Nat → Int) (t : Int) (w : World) (HQ : Hid (Qs w v n N D)) (HB : Hid (Qb n N D)) (hn : 0 < n) (hn20 : n ≤ 20) (lt : -9223372036854775808 ≤ t) (ut : t ≤ 9223372036854775807) (HT : Hid (Tab w)) :
    Calls Tryz.prog 4 #[v, .int .i64 t] w fun e w' => e = .returned (.bool true) ∧ Below w.heap.size w w' := by
  obtain ⟨ao, c, rfl⟩ := HQ.out.slice
  obtain ⟨i0, hi, hz0, hz1, hz2⟩ := info_parts info_Frac
  obtain ⟨f, Hf⟩ : ∃ f : Nat → Rat, Hid (∀ i, qv (N i) (D i) = f i) := ⟨fun i => qv (N i) (D i), Lib.hid fun _ => rfl⟩
  have HS : Hid (∀ i, i < n → sz (f i) ≤ 4) := Lib.hid (fun i hi => by rw [← Hf.out]; obtain ⟨a, b, c, d⟩ := HB.out i hi; exact sz_qv _ _ a b c d)
  have hn' : (n : Int) ≤ 20 := by omega
  have hn0 : (0 : Int) < (n : Int) := by omega
  go_enter Tryz.func4, Tryz.ntmps4
  go_wp2_with fail
  refine forgetH (L := [Sum.inl (w.heap.size, 36, #[.int .u64 ((lo (Int.natAbs ((qsum f 0).num)) : Nat) : Int), .string (bg (Int.natAbs ((qsum f 0).num))), .bool (decide (((qsum f 0).num) < 0)), .int .u64 ((lo ((qsum f 0).den - 1) : Nat) : Int), .string (bg ((qsum f 0).den - 1))])]) ((hp0 w).al (b := w.heap.size) rfl (by decide)) fun W1 HF0 => ?_
  obtain ⟨g7, hg7⟩ : ∃ g, Hid (w.heap.size = g) := ⟨_, Lib.hid rfl⟩
  rw [hg7.out] at HF0 ⊢
  go_loopw [5, 8] (fun u i wr => ∃ k : Nat, k ≤ n ∧ i = .int .i64 (k : Int) ∧ Hid (HP w wr [Sum.inl (g7, 36, #[.int .u64 ((lo (Int.natAbs ((qsum f k).num)) : Nat) : Int), .string (bg (Int.natAbs ((qsum f k).num))), .bool (decide (((qsum f k).num) < 0)), .int .u64 ((lo ((qsum f k).den - 1) : Nat) : Int), .string (bg ((qsum f k).den - 1))])]) ∧ Hid (wr.ownsRow w.heap.size 36 5 u k (fcs f k)) ∧ Hid (Apart [Sum.inl (g7, 36, #[.int .u64 ((lo (Int.natAbs ((qsum f k).num)) : Nat) : Int), .string (bg (Int.natAbs ((qsum f k).num))), .bool (decide (((qsum f k).num) < 0)), .int .u64 ((lo ((qsum f k).den - 1) : Nat) : Int), .string (bg ((qsum f k).den - 1))])] u)) (fun _ i _ => n - (intOf i).toNat)
  case atStart => exact ⟨0, by omega, rfl, HF0, Lib.hid (World.ownsRow_nil _ _ _ _), Lib.hid (fun i x hx e => by cases e)⟩
  case round =>
    rename_i hx9 K1 hK1
    obtain ⟨k, hk, rfl, HF, HW, HA⟩ := hrel
    clear HF0
    by_cases hkn : k < n
    · rcases HQ.out with ⟨_, _, _, hz⟩ | ⟨b, o, c', hv, hb, hc⟩
      · omega
      injection hv with hv1 _ hv3
      subst hv1 hv3
      obtain ⟨x, HX⟩ : ∃ x, Hid (N k = x) := ⟨_, Lib.hid rfl⟩
      obtain ⟨y, HY⟩ : ∃ x, Hid (D k = x) := ⟨_, Lib.hid rfl⟩
      obtain ⟨q, HQQ⟩ : ∃ q, Hid (qv x y = q) := ⟨_, Lib.hid rfl⟩
      have HXB := HB.out k hkn
      rw [HX.out, HY.out] at HXB
      obtain ⟨x1, x2, y1, y2⟩ := HXB
      have HFK : Hid (f k = q) := Lib.hid (by rw [← Hf.out, HX.out, HY.out]; exact HQQ.out)
      have HSUM : Hid (qsum f k + q = qsum f (k + 1)) := Lib.hid (by rw [← HFK.out]; rfl)
      have hsq : sz q ≤ 4 := by rw [← HFK.out]; exact HS.out k hkn
      have hss : sz (qsum f k) ≤ 101 := by have := sz_qsum f n 4 HS.out k hk; omega
      have HE0 : Hid (∀ w', Gr w w' → w'.cell? ⟨b, o + k * 2, none⟩ = some (.int .i64 x)) := Lib.hid (fun w' hw => (Below.cell hw (p := ⟨b, o + k * 2, none⟩) hb).trans (by rw [← HX.out]; exact (hc k hkn).1))
      have HE1 : Hid (∀ w', Gr w w' → w'.cell? ⟨b, o + k * 2 + 1, none⟩ = some (.int .u32 y)) := Lib.hid (fun w' hw => (Below.cell hw (p := ⟨b, o + k * 2 + 1, none⟩) hb).trans (by rw [← HY.out]; exact (hc k hkn).2))
      clear hc hb
      have hkn' : (k : Int) < (n : Int) := by omega
      refine wp_seq ?_
      refine kS fun K hK => ?_
      go_wp2
      refine hK.out _ _ ?_; clear hK K
      show Code.wp _ _ _ _ _
      refine wp_cond_true (by rfl) ?_
      refine wp_skip ?_
      show Code.wp _ _ _ _ _
      refine wp_seq ?_
      refine wp_block ?_
      refine kS fun K hK => ?_
      have e0 := HE0.out wr HF.out.1
      have e1 := HE1.out wr HF.out.1
      go_wp2_with fail
      refine (qv_any x y q wr HQQ.out x1 x2 y1 y2).mono ?_
      rintro e w1 ⟨rfl, hb1⟩
      have HF1 := Lib.hid (HF.out.gr hb1)
      have HW1 := Lib.hid (own_gr HW.out hb1)
      clear hb1 e0 e1 HF HW
      have HN := Lib.hid (show ∀ j u, [.int .u64 ((lo (Int.natAbs ((q).num)) : Nat) : Int), .string (bg (Int.natAbs ((q).num))), .bool (decide (((q).num) < 0)), .int .u64 ((lo ((q).den - 1) : Nat) : Int), .string (bg ((q).den - 1))][j]? = some u → (w1.alloc (.cells #[.int .u64 ((lo (Int.natAbs ((q).num)) : Nat) : Int), .string (bg (Int.natAbs ((q).num))), .bool (decide (((q).num) < 0)), .int .u64 ((lo ((q).den - 1) : Nat) : Int), .string (bg ((q).den - 1))] 36)).cell? ((⟨w1.heap.size, 0, none⟩ : Addr).add j) = some u from fun j u hj => by
        match j, hj with
        | 0, hj => simp at hj; subst hj; simp [Addr.add, go_sem]
        | 1, hj => simp at hj; subst hj; simp [Addr.add, go_sem]
        | 2, hj => simp at hj; subst hj; simp [Addr.add, go_sem]
        | 3, hj => simp at hj; subst hj; simp [Addr.add, go_sem]
        | 4, hj => simp at hj; subst hj; simp [Addr.add, go_sem])
      have HF2 := Lib.hid (HF1.out.gr (Gr.alloc _ (.cells #[.int .u64 ((lo (Int.natAbs ((q).num)) : Nat) : Int), .string (bg (Int.natAbs ((q).num))), .bool (decide (((q).num) < 0)), .int .u64 ((lo ((q).den - 1) : Nat) : Int), .string (bg ((q).den - 1))] 36)))
      have HW2 := Lib.hid (own_gr HW1.out (Gr.alloc _ (.cells #[.int .u64 ((lo (Int.natAbs ((q).num)) : Nat) : Int), .string (bg (Int.natAbs ((q).num))), .bool (decide (((q).num) < 0)), .int .u64 ((lo ((q).den - 1) : Nat) : Int), .string (bg ((q).den - 1))] 36)))
      clear HF1 HW1
      go_wp2_with (first | (at_builtin; refine apX HF2 HW2 HA (.tmp 25) (.tmp 31) 57 hi hz0 hz1 hz2 rfl Tryz.underlying57 (m := 1) (c := 1) (ad := ⟨w1.heap.size, 0, none⟩) (news := [.int .u64 ((lo (Int.natAbs ((q).num)) : Nat) : Int), .string (bg (Int.natAbs ((q).num))), .bool (decide (((q).num) < 0)), .int .u64 ((lo ((q).den - 1) : Nat) : Int), .string (bg ((q).den - 1))]) (by unfold maxLen; omega) (by omega) (by intro i v m h; rcases i with _ | i <;> simp at h) (by simp [Act.eval, Act.put]) (by simp [Act.eval, Act.put]) HN rfl ?c1 (by decide) rfl rfl ?_) | fail)
      case c1 => intro u hu; simp at hu; rcases hu with rfl | rfl | rfl | rfl | rfl <;> rfl
      intro u' w3 HF3 HW3 HA3
      obtain ⟨gR, cur, HF, HR⟩ : ∃ gR cur, Hid (HP w w3 [Sum.inl (g7, 36, #[.int .u64 ((lo (Int.natAbs ((qsum f k).num)) : Nat) : Int), .string (bg (Int.natAbs ((qsum f k).num))), .bool (decide (((qsum f k).num) < 0)), .int .u64 ((lo ((qsum f k).den - 1) : Nat) : Int), .string (bg ((qsum f k).den - 1))]), Sum.inl (gR, 36, cur)]) ∧ Hid (RowV gR cur 5 u' (k + 1) (fcs f k ++ [.int .u64 ((lo (Int.natAbs ((q).num)) : Nat) : Int), .string (bg (Int.natAbs ((q).num))), .bool (decide (((q).num) < 0)), .int .u64 ((lo ((q).den - 1) : Nat) : Int), .string (bg ((q).den - 1))])) := by
        obtain ⟨gR, cur, h1, h2⟩ := own_hp HF3.out HW3.out HA3.out (by omega) (by decide)
        exact ⟨gR, cur, Lib.hid h1, Lib.hid h2⟩
      clear HF2 HW2 HA HN HF3 HW3 HA3
      go_wp2_with fail
      refine hK.out _ _ ?_; clear hK K
      show Code.wp _ _ _ _ _
      -- region 9
      have HZ1 : Hid (qv (x) (y) = q) := Lib.hid (HQQ.out)
      have su1 : sz (q) ≤ 4 := by have e := HZ1.out; first | omega | (rw [← e]; exact sz_qv (x) (y) om om om om)
      have HZ2 : Hid ((qsum f k) + (q) = qsum f (k + 1)) := Lib.hid (HSUM.out)
      have su2 : sz (qsum f (k + 1)) ≤ 106 := by have e := HZ2.out; first | omega | (rw [← e]; have := sz_add (qsum f k) (q); omega)
      have lx0 := HF.out.c 0 rfl
      have lx9_0 := fun w' (h : Gr _ w') => HE0.out w' (Gr.trans HF.out.1 h)
      have lx9_1 := fun w' (h : Gr _ w') => HE1.out w' (Gr.trans HF.out.1 h)
      refine kL fun K hK => ?_
      refine pd 7 [(true, 0), (true, 1), (true, 2), (true, 3), (true, 4), (true, 5), (true, 6)] fun T hT => ?_
      iterate 5 refine tk ?_
      refine ck Tryz.call21 (fun w' hw => qv_any (x) (y) (q) _ HZ1.out om om om om) ?_
      refine ck Tryz.call22 (fun w' hw => fadd_any (qsum f k) (q) (qsum f (k + 1)) _ HZ2.out om om) ?_
      refine nlD hT HF fun vw1 HG => ?_
      clear hT T HF lx0 lx9_0 lx9_1
      have lx0 := HG.out.c 0 rfl; have fx0 := HG.out.f 0 rfl
      have r0 := Gr.refl vw1
      go_wp2
      refine hK.out _ _ ?_; clear hK K
      show Code.wp _ _ _ _ _
      clear r0 lx0 fx0
      refine fH ((((HG.out).put2 0 0 rfl).put2 0 2 rfl).put 0 4 _ rfl) fun Wx9 HF => ?_
      clear HG
      -- region 7
      have hwi : IntKind.i64.wrap ((k : Int) + 1) = (k : Int) + 1 := by rw [IntKind.wrap_i64]; omega
      refine kL fun K hK => ?_
      refine sq 3 [(true, 0), (true, 1), (true, 2)] fun T hT => ?_
      iterate 3 refine tk ?_
      refine nlS hT HF fun vw2 HG => ?_
      clear hT T HF
      go_wp2
      refine hK.out _ _ ?_; clear hK K
      try simp only [Exit.then, Exit.inBlock]
      have HF := HG; clear HG
      clear hwi
      obtain ⟨h1, h2, h3⟩ := hp_own (L := [Sum.inl (g7, 36, #[.int .u64 ((lo (Int.natAbs ((qsum f (k + 1)).num)) : Nat) : Int), .string (bg (Int.natAbs ((qsum f (k + 1)).num))), .bool (decide (((qsum f (k + 1)).num) < 0)), .int .u64 ((lo ((qsum f (k + 1)).den - 1) : Nat) : Int), .string (bg ((qsum f (k + 1)).den - 1))])]) HF.out HR.out
      go_roundw
      case rel => exact ⟨k + 1, by omega, by go_num, Lib.hid h1, Lib.hid (by rw [fcs, HFK.out]; exact h2), Lib.hid h3⟩
      case measure => simp [intOf]; omega
    · obtain rfl : k = n := by omega
      obtain ⟨gR, cur, HF, HR⟩ : ∃ gR cur, Hid (HP w wr [Sum.inl (g7, 36, #[.int .u64 ((lo (Int.natAbs ((qsum f k).num)) : Nat) : Int), .string (bg (Int.natAbs ((qsum f k).num))), .bool (decide (((qsum f k).num) < 0)), .int .u64 ((lo ((qsum f k).den - 1) : Nat) : Int), .string (bg ((qsum f k).den - 1))]), Sum.inl (gR, 36, cur)]) ∧ Hid (RowV gR cur 5 u5 k (fcs f k)) := by
        obtain ⟨gR, cur, h1, h2⟩ := own_hp HF.out HW.out HA.out hn (by decide)
        exact ⟨gR, cur, Lib.hid h1, Lib.hid h2⟩
      clear HW HA
      obtain ⟨cap, rfl, hcap⟩ : ∃ cap, u5 = .slice (some ⟨gR, 0, none⟩) k cap ∧ k ≤ cap := by
        obtain ⟨cap, e, h, _⟩ := HR.out
        exact ⟨cap, e, h⟩
      obtain ⟨su, HSU⟩ : ∃ s, Hid (qsum f k = s) := ⟨_, Lib.hid rfl⟩
      have hssu : sz su ≤ 101 := by have := sz_qsum f k 4 HS.out k (Nat.le_refl _); rw [HSU.out] at this; omega
      rw [HSU.out] at HF
      obtain ⟨kk, hkk, HKK⟩ : ∃ kk : Nat, kk < k ∧ Hid (Int.tmod (IntKind.u64.wrap t) (k : Int) = (kk : Int)) := by
        have h0 : 0 ≤ IntKind.u64.wrap t := by rw [IntKind.wrap_u64]; omega
        obtain ⟨m, hm⟩ : ∃ m : Nat, IntKind.u64.wrap t = (m : Int) := ⟨_, (Int.toNat_of_nonneg h0).symm⟩
        exact ⟨m % k, Nat.mod_lt _ hn, Lib.hid (by rw [hm]; rfl)⟩
      have hkn' : ¬ (k : Int) < (k : Int) := by omega
      obtain ⟨hgh, HHI⟩ : ∃ s, Hid (bst mx f k = s) := ⟨_, Lib.hid rfl⟩
      obtain ⟨lw, HLO⟩ : ∃ s, Hid (bst mi f k = s) := ⟨_, Lib.hid rfl⟩
      have HHI2 : Hid (bst mx (rot f kk k) k = hgh) := Lib.hid (by rw [rot_max f kk k hkk]; exact HHI.out)
      have HLO2 : Hid (bst mi (rot f kk k) k = lw) := Lib.hid (by rw [rot_min f kk k hkk]; exact HLO.out)
      have HSU2 : Hid (qsum (rot f kk k) k = su) := Lib.hid (by rw [rot_sum f kk k hkk]; exact HSU.out)
      have HSa : Hid (∀ i, i < k → sz (f i) ≤ 1000) := Lib.hid (fun i hi => Nat.le_trans (HS.out i hi) (by decide))
      have HSb : Hid (∀ i, i < k → sz (rot f kk k i) ≤ 1000) := Lib.hid (fun i hi => by obtain ⟨j, hj, e⟩ := rot_in f kk k i hkk hi; rw [e]; exact HSa.out j hj)
      have hshg : sz hgh ≤ 4 := by rw [← HHI.out]; exact sz_bst _ f k 4 (by decide) HS.out k (Nat.le_refl _)
      have hslw : sz lw ≤ 4 := by rw [← HLO.out]; exact sz_bst _ f k 4 (by decide) HS.out k (Nat.le_refl _)
      refine wp_seq ?_
      refine kS fun K hK => ?_
      go_wp2
      refine hK.out _ _ ?_; clear hK K
      show Code.wp _ _ _ _ _
      refine wp_cond_false (by rfl) ?_
      refine wp_exit ?_
      try simp only [Exit.then, Exit.inBlock]
      refine hK1 _ _ ?_
      clear hK1
      show Code.wp _ _ _ _ _
      -- region 10
      refine kS fun K hK => ?_
      refine wp_region_lit ?_
      go_wp2
      refine hK.out _ _ ?_; clear hK K
      show Code.wp _ _ _ _ _
      refine fH (HF.out) fun Wx10 HG => ?_
      clear HF; have HF := HG; clear HG
      refine wp_seq ?_
      refine kS fun K hK => ?_
      go_wp2
      refine hK.out _ _ ?_; clear hK K
      show Code.wp _ _ _ _ _
      refine wp_cond_true (by rfl) ?_
      refine kL fun K hK => ?_
      have c1 : IntKind.u64.wrap (k : Int) = (k : Int) := by rw [IntKind.wrap_u64]; omega
      have c2 : Int.tmod (IntKind.u64.wrap t) (k : Int) = (kk : Int) := HKK.out
      have c3 : IntKind.i64.wrap (kk : Int) = (kk : Int) := by rw [IntKind.wrap_i64]; omega
      have c4 : ¬ ((k : Int) = 0) := by omega
      go_wp2
      refine hK.out _ _ ?_; clear hK K
      clear c1 c2 c3 c4
      show Code.wp _ _ _ _ _
      refine kS fun K hK => ?_
      have c1 : (0 : Int) ≤ (kk : Int) := by omega
      have c2 : (kk : Int) ≤ (k : Int) := by omega
      have c3 : (k : Int) ≤ (cap : Int) := by omega
      have HA0 : Hid (Apart [Sum.inl (g7, 36, #[.int .u64 ((lo (Int.natAbs ((su).num)) : Nat) : Int), .string (bg (Int.natAbs ((su).num))), .bool (decide (((su).num) < 0)), .int .u64 ((lo ((su).den - 1) : Nat) : Int), .string (bg ((su).den - 1))]), Sum.inl (gR, 36, cur)] (.slice none 0 0)) := Lib.hid (fun i x hx e => by cases e)
      have HN := Lib.hid (row_part HR.out (HF.out.bx 1 rfl) kk (k - kk) (by omega))
      go_wp2_with (first | (at_builtin; refine apX HF (Lib.hid (World.ownsRow_nil _ _ _ _)) HA0 (.tmp 50) (.tmp 53) 57 hi hz0 hz1 hz2 rfl Tryz.underlying57 (m := k - kk) (c := cap - kk) (ad := ⟨gR, kk * 5, none⟩) (news := fcs (fun i => f (kk + i)) (k - kk)) (by unfold maxLen; omega) (by omega) (by intro i v m h; rcases i with _ | _ | i <;> simp at h) (by simp [Act.eval, Act.put]) (by simp [Act.eval, Act.put]) HN (fcs_len _ _) (fcs_one _ _) (by decide) rfl rfl ?_) | fail)
      intro v3 W3 HF3 HW3 HA3
      clear HA0 HN HF
      go_wp2_with fail
      refine hK.out _ _ ?_; clear hK K
      clear c1 c2 c3
      show Code.wp _ _ _ _ _
      refine kS fun K hK => ?_
      have c1 : (0 : Int) ≤ (kk : Int) := by omega
      have c2 : (kk : Int) ≤ (cap : Int) := by omega
      have HN : Hid (∀ j u, (fcs f kk)[j]? = some u → W3.cell? ((⟨gR, 0, none⟩ : Addr).add j) = some u) := Lib.hid (by have := row_part HR.out (HF3.out.bx 1 rfl) 0 kk (by omega); simpa using this)
      go_wp2_with (first | (at_builtin; refine apX HF3 HW3 HA3 (.tmp 55) (.tmp 58) 57 hi hz0 hz1 hz2 rfl Tryz.underlying57 (m := kk) (c := cap) (ad := ⟨gR, 0, none⟩) (news := fcs f kk) (by unfold maxLen; omega) (by omega) (by intro i v m h; rcases i with _ | _ | i <;> simp at h) (by simp [Act.eval, Act.put]) (by simp [Act.eval, Act.put]) HN (fcs_len _ _) (fcs_one _ _) (by decide) rfl rfl ?_) | fail)
      intro v4 W4 HF4 HW4 HA4
      obtain ⟨gT, curT, HF, HR2⟩ : ∃ gT curT, Hid (HP w W4 ([Sum.inl (g7, 36, #[.int .u64 ((lo (Int.natAbs ((su).num)) : Nat) : Int), .string (bg (Int.natAbs ((su).num))), .bool (decide (((su).num) < 0)), .int .u64 ((lo ((su).den - 1) : Nat) : Int), .string (bg ((su).den - 1))]), Sum.inl (gR, 36, cur)] ++ [Sum.inl (gT, 36, curT)])) ∧ Hid (RowV gT curT 5 v4 k (fcs (rot f kk k) k)) := by
        have h0 := HW4.out
        try simp only [List.nil_append, Nat.zero_add] at h0
        rw [rot_cells f kk k hkk, show k - kk + kk = k by omega] at h0
        obtain ⟨gT, curT, h1, h2⟩ := own_hp HF4.out h0 HA4.out hn (by decide)
        exact ⟨gT, curT, Lib.hid h1, Lib.hid h2⟩
      simp only [List.cons_append, List.nil_append] at HF
      clear HN HF3 HW3 HA3 HF4 HW4 HA4
      go_wp2_with fail
      refine hK.out _ _ ?_; clear hK K
      clear c1 c2
      show Code.wp _ _ _ _ _
      -- region 15
      refine kS fun K hK => ?_
      refine sq 4 [(true, 0), (true, 1), (true, 2), (true, 3)] fun T hT => ?_
      refine tk ?_
      refine ck Tryz.call23 (fun w' hw => fmaxz k f _ hgh _ (rowv_fs HR.out ((HF.out.bx 1 rfl).gr hw)) (by omega) HSa.out HHI.out) ?_
      refine tk ?_
      refine ck Tryz.call24 (fun w' hw => fminz k f _ lw _ (rowv_fs HR.out ((HF.out.bx 1 rfl).gr hw)) (by omega) HSa.out HLO.out) ?_
      refine nlS hT HF fun vw1 HG => ?_
      clear hT T HF
      go_wp2
      refine hK.out _ _ ?_; clear hK K
      show Code.wp _ _ _ _ _
      refine fH (((HG.out).al (b := vw1.heap.size) (by first | rfl | simp) (by decide)).al (b := vw1.heap.size + 1) (by first | rfl | simp) (by decide)) fun Wx15 HF => ?_
      clear HG
      generalize vw1.heap.size + 1 = gx16 at *
      generalize vw1.heap.size = gx15 at *
      refine wp_seq ?_
      -- region 16
      have lx0 := HF.out.c 0 rfl
      have lx15 := HF.out.c 3 rfl
      have lx16 := HF.out.c 4 rfl
      refine kS fun K hK => ?_
      refine pd 21 [(true, 0), (true, 2), (true, 1), (true, 3), (true, 4), (true, 5), (true, 7), (true, 6), (true, 8), (true, 9), (true, 10), (true, 11), (true, 13), (true, 12), (true, 14), (true, 15), (true, 16), (true, 17), (true, 19), (true, 18), (true, 20)] fun T hT => ?_
      iterate 2 refine tk ?_
      refine ck Tryz.call25 (fun w' hw => fsum_list k f _ su _ (rowv_fs HR.out ((HF.out.bx 1 rfl).gr hw)) (by omega) HSa.out HSU.out) ?_
      iterate 4 refine tk ?_
      refine ck Tryz.call25 (fun w' hw => fsum_list k (rot f kk k) _ su _ (rowv_fs HR2.out ((HF.out.bx 2 rfl).gr hw)) (by omega) HSb.out HSU2.out) ?_
      iterate 5 refine tk ?_
      refine ck Tryz.call23 (fun w' hw => fmaxz k (rot f kk k) _ hgh _ (rowv_fs HR2.out ((HF.out.bx 2 rfl).gr hw)) (by omega) HSb.out HHI2.out) ?_
      iterate 5 refine tk ?_
      refine ck Tryz.call24 (fun w' hw => fminz k (rot f kk k) _ lw _ (rowv_fs HR2.out ((HF.out.bx 2 rfl).gr hw)) (by omega) HSb.out HLO2.out) ?_
      refine tk ?_
      refine nlD hT HF fun vw2 HG => ?_
      clear hT T HF lx0 lx15 lx16
      go_wp2
      refine hK.out _ _ ?_; clear hK K
      show Code.wp _ _ _ _ _
      have HF := HG; clear HG
      refine wp_cond_false (by rfl) ?_
      refine wp_skip ?_
      show Code.wp _ _ _ _ _
      refine wp_seq ?_
      -- region 18
      have hd1 : (((k : Int)) == (0)) = false := by have : ¬ ((k : Int) = 0) := (ok); simpa using this
      refine kS fun K hK => ?_
      refine sq 3 [(true, 0), (true, 1), (true, 2)] fun T hT => ?_
      iterate 3 refine tk ?_
      refine nlS hT HF fun vw3 HG => ?_
      clear hT T HF
      go_wp2
      refine hK.out _ _ ?_; clear hK K
      show Code.wp _ _ _ _ _
      have HF := HG; clear HG
      clear hd1
      refine wp_cond_false (by rfl) ?_
      refine wp_skip ?_
      show Code.wp _ _ _ _ _
      -- region 20
      refine kS fun K hK => ?_
      refine wp_region_lit ?_
      go_wp2
      refine hK.out _ _ ?_; clear hK K
      show Code.wp _ _ _ _ _
      refine fH ((HF.out).er 0) fun Wx20 HG => ?_
      clear HF; have HF := HG; clear HG
      refine wp_seq ?_
      go_wp2_with fail
      go_loopw [12, 13, 14] (fun a b i wr => ∃ (j : Nat) (p1 p2 : Bool), j ≤ k ∧ i = .int .i64 (j : Int) ∧ a = .bool p1 ∧ b = .bool p2 ∧ Hid (p1 = true ↔ ∃ x, x < j ∧ f x = hgh) ∧ Hid (p2 = true ↔ ∃ x, x < j ∧ f x = lw) ∧ Hid (HP w wr [Sum.inl (gR, 36, cur), Sum.inl (gT, 36, curT), Sum.inl (gx15, 36, #[.int .u64 ((lo (Int.natAbs ((hgh).num)) : Nat) : Int), .string (bg (Int.natAbs ((hgh).num))), .bool (decide (((hgh).num) < 0)), .int .u64 ((lo ((hgh).den - 1) : Nat) : Int), .string (bg ((hgh).den - 1))]), Sum.inl (gx16, 36, #[.int .u64 ((lo (Int.natAbs ((lw).num)) : Nat) : Int), .string (bg (Int.natAbs ((lw).num))), .bool (decide (((lw).num) < 0)), .int .u64 ((lo ((lw).den - 1) : Nat) : Int), .string (bg ((lw).den - 1))])])) (fun _ _ i _ => k - (intOf i).toNat)
      case atStart => exact ⟨0, false, false, by omega, rfl, rfl, rfl, Lib.hid (by simp), Lib.hid (by simp), HF⟩
      case round =>
        clear HF
        obtain ⟨j, p1, p2, hj, rfl, rfl, rfl, H1, H2, HF⟩ := hrel
        by_cases hjk : j < k
        · obtain ⟨q, HQJ⟩ : ∃ q, Hid (f j = q) := ⟨_, Lib.hid rfl⟩
          have hsq : sz q ≤ 4 := by rw [← HQJ.out]; exact HS.out j hjk
          obtain ⟨cm, HCM⟩ : ∃ c, Hid (sgQ (q - hgh) = c) := ⟨_, Lib.hid rfl⟩
          obtain ⟨cn, HCN⟩ : ∃ c, Hid (sgQ (q - lw) = c) := ⟨_, Lib.hid rfl⟩
          have hcm : Hid (¬ 0 < cm) := Lib.hid (fun h => by
            have h1 := (mx_iff q hgh).1 (by rw [HCM.out]; exact decide_eq_true h)
            have h2 := bmax_le f k j hjk
            rw [HQJ.out, HHI.out] at h2
            exact absurd h1 (Rat.not_lt.2 h2))
          have hcn : Hid (¬ cn < 0) := Lib.hid (fun h => by
            have h1 := (mi_iff q lw).1 (by rw [HCN.out]; exact decide_eq_true h)
            have h2 := bmin_le f k j hjk
            rw [HQJ.out, HLO.out] at h2
            exact absurd h1 (Rat.not_lt.2 h2))
          have hjk' : (j : Int) < (k : Int) := by omega
          rcases p1 with _ | _ <;> rcases p2 with _ | _
          · skip
            refine wp_seq ?_
            refine kS fun K hK => ?_
            go_wp2
            refine hK.out _ _ ?_; clear hK K
            show Code.wp _ _ _ _ _
            refine wp_cond_true (by rfl) ?_
            refine wp_skip ?_
            show Code.wp _ _ _ _ _
            refine wp_seq ?_
            refine wp_block ?_
            -- region 24
            have lx15 := HF.out.c 2 rfl
            have lx9_0 := fun w' (h : Gr _ w') => row_c0 HR.out ((HF.out.bx 0 rfl).gr h) hjk HQJ.out
            have lx9_1 := fun w' (h : Gr _ w') => row_c1 HR.out ((HF.out.bx 0 rfl).gr h) hjk HQJ.out
            have lx9_2 := fun w' (h : Gr _ w') => row_c2 HR.out ((HF.out.bx 0 rfl).gr h) hjk HQJ.out
            have lx9_3 := fun w' (h : Gr _ w') => row_c3 HR.out ((HF.out.bx 0 rfl).gr h) hjk HQJ.out
            have lx9_4 := fun w' (h : Gr _ w') => row_c4 HR.out ((HF.out.bx 0 rfl).gr h) hjk HQJ.out
            refine kS fun K hK => ?_
            refine pd 9 [(true, 0), (true, 1), (true, 2), (true, 3), (true, 4), (true, 5), (true, 6), (true, 7), (true, 8)] fun T hT => ?_
            iterate 9 refine tk ?_
            refine nlD hT HF fun vw1 HG => ?_
            clear hT T HF lx15 lx9_0 lx9_1 lx9_2 lx9_3 lx9_4
            go_wp2
            refine hK.out _ _ ?_; clear hK K
            show Code.wp _ _ _ _ _
            have HF := HG; clear HG
            -- region 25
            have lx16 := HF.out.c 3 rfl
            have lx9_0 := fun w' (h : Gr _ w') => row_c0 HR.out ((HF.out.bx 0 rfl).gr h) hjk HQJ.out
            have lx9_1 := fun w' (h : Gr _ w') => row_c1 HR.out ((HF.out.bx 0 rfl).gr h) hjk HQJ.out
            have lx9_2 := fun w' (h : Gr _ w') => row_c2 HR.out ((HF.out.bx 0 rfl).gr h) hjk HQJ.out
            have lx9_3 := fun w' (h : Gr _ w') => row_c3 HR.out ((HF.out.bx 0 rfl).gr h) hjk HQJ.out
            have lx9_4 := fun w' (h : Gr _ w') => row_c4 HR.out ((HF.out.bx 0 rfl).gr h) hjk HQJ.out
            refine kS fun K hK => ?_
            refine pd 9 [(true, 0), (true, 1), (true, 2), (true, 3), (true, 4), (true, 5), (true, 6), (true, 7), (true, 8)] fun T hT => ?_
            iterate 9 refine tk ?_
            refine nlD hT HF fun vw2 HG => ?_
            clear hT T HF lx16 lx9_0 lx9_1 lx9_2 lx9_3 lx9_4
            go_wp2
            refine hK.out _ _ ?_; clear hK K
            show Code.wp _ _ _ _ _
            have HF := HG; clear HG
            -- region 26
            have hc1 : ¬ 0 < cm := by have h9 := hcm.out; omega
            have hc2 : ¬ cn < 0 := by have h9 := hcn.out; omega
            have lx15 := HF.out.c 2 rfl
            have lx16 := HF.out.c 3 rfl
            have lx9_0 := fun w' (h : Gr _ w') => row_c0 HR.out ((HF.out.bx 0 rfl).gr h) hjk HQJ.out
            have lx9_1 := fun w' (h : Gr _ w') => row_c1 HR.out ((HF.out.bx 0 rfl).gr h) hjk HQJ.out
            have lx9_2 := fun w' (h : Gr _ w') => row_c2 HR.out ((HF.out.bx 0 rfl).gr h) hjk HQJ.out
            have lx9_3 := fun w' (h : Gr _ w') => row_c3 HR.out ((HF.out.bx 0 rfl).gr h) hjk HQJ.out
            have lx9_4 := fun w' (h : Gr _ w') => row_c4 HR.out ((HF.out.bx 0 rfl).gr h) hjk HQJ.out
            refine kS fun K hK => ?_
            refine pd 15 [(true, 0), (true, 1), (true, 2), (true, 3), (true, 4), (true, 5), (true, 6), (true, 7), (true, 8), (true, 9), (true, 10), (true, 11), (true, 12), (true, 13), (true, 14)] fun T hT => ?_
            iterate 5 refine tk ?_
            refine ck Tryz.call26 (fun w' hw => fcmp_any (q) (hgh) (cm) _ (HCM.out) om om) ?_
            iterate 7 refine tk ?_
            refine ck Tryz.call26 (fun w' hw => fcmp_any (q) (lw) (cn) _ (HCN.out) om om) ?_
            refine tk ?_
            refine nlD hT HF fun vw3 HG => ?_
            clear hT T HF lx15 lx16 lx9_0 lx9_1 lx9_2 lx9_3 lx9_4
            go_wp2
            refine hK.out _ _ ?_; clear hK K
            show Code.wp _ _ _ _ _
            have HF := HG; clear HG
            clear hc1 hc2
            refine wp_cond_false (by rfl) ?_
            refine wp_skip ?_
            show Code.wp _ _ _ _ _
            -- region 23
            have hwi : IntKind.i64.wrap ((j : Int) + 1) = (j : Int) + 1 := by rw [IntKind.wrap_i64]; omega
            refine kL fun K hK => ?_
            refine sq 3 [(true, 0), (true, 1), (true, 2)] fun T hT => ?_
            iterate 3 refine tk ?_
            refine nlS hT HF fun vw4 HG => ?_
            clear hT T HF
            go_wp2
            refine hK.out _ _ ?_; clear hK K
            try simp only [Exit.then, Exit.inBlock]
            have HF := HG; clear HG
            clear hwi
            go_roundw
            case rel => exact ⟨j + 1, _, _, by omega, by go_num, rfl, rfl, Lib.hid (hit_f HQJ.out (by have h9 := H1.out; simpa using h9)), Lib.hid (hit_f HQJ.out (by have h9 := H2.out; simpa using h9)), HF⟩
            case measure => simp [intOf]; omega
          · skip
            refine wp_seq ?_
            refine kS fun K hK => ?_
            go_wp2
            refine hK.out _ _ ?_; clear hK K
            show Code.wp _ _ _ _ _
            refine wp_cond_true (by rfl) ?_
            refine wp_skip ?_
            show Code.wp _ _ _ _ _
            refine wp_seq ?_
            refine wp_block ?_
            -- region 24
            have lx15 := HF.out.c 2 rfl
            have lx9_0 := fun w' (h : Gr _ w') => row_c0 HR.out ((HF.out.bx 0 rfl).gr h) hjk HQJ.out
            have lx9_1 := fun w' (h : Gr _ w') => row_c1 HR.out ((HF.out.bx 0 rfl).gr h) hjk HQJ.out
            have lx9_2 := fun w' (h : Gr _ w') => row_c2 HR.out ((HF.out.bx 0 rfl).gr h) hjk HQJ.out
            have lx9_3 := fun w' (h : Gr _ w') => row_c3 HR.out ((HF.out.bx 0 rfl).gr h) hjk HQJ.out
            have lx9_4 := fun w' (h : Gr _ w') => row_c4 HR.out ((HF.out.bx 0 rfl).gr h) hjk HQJ.out
            refine kS fun K hK => ?_
            refine pd 9 [(true, 0), (true, 1), (true, 2), (true, 3), (true, 4), (true, 5), (true, 6), (true, 7), (true, 8)] fun T hT => ?_
            iterate 9 refine tk ?_
            refine nlD hT HF fun vw1 HG => ?_
            clear hT T HF lx15 lx9_0 lx9_1 lx9_2 lx9_3 lx9_4
            go_wp2
            refine hK.out _ _ ?_; clear hK K
            show Code.wp _ _ _ _ _
            have HF := HG; clear HG
            -- region 25
            have lx16 := HF.out.c 3 rfl
            refine kS fun K hK => ?_
            refine pd 9 [(true, 0), (true, 1), (true, 2), (true, 3), (true, 4), (true, 5), (true, 6), (true, 7), (true, 8)] fun T hT => ?_
            iterate 2 refine tk ?_
            iterate 6 refine sk ?_
            refine tk ?_
            refine nlD hT HF fun vw2 HG => ?_
            clear hT T HF lx16
            go_wp2
            refine hK.out _ _ ?_; clear hK K
            show Code.wp _ _ _ _ _
            have HF := HG; clear HG
            -- region 26
            have hc1 : ¬ 0 < cm := by have h9 := hcm.out; omega
            have hc2 : ¬ cn < 0 := by have h9 := hcn.out; omega
            have lx15 := HF.out.c 2 rfl
            have lx16 := HF.out.c 3 rfl
            have lx9_0 := fun w' (h : Gr _ w') => row_c0 HR.out ((HF.out.bx 0 rfl).gr h) hjk HQJ.out
            have lx9_1 := fun w' (h : Gr _ w') => row_c1 HR.out ((HF.out.bx 0 rfl).gr h) hjk HQJ.out
            have lx9_2 := fun w' (h : Gr _ w') => row_c2 HR.out ((HF.out.bx 0 rfl).gr h) hjk HQJ.out
            have lx9_3 := fun w' (h : Gr _ w') => row_c3 HR.out ((HF.out.bx 0 rfl).gr h) hjk HQJ.out
            have lx9_4 := fun w' (h : Gr _ w') => row_c4 HR.out ((HF.out.bx 0 rfl).gr h) hjk HQJ.out
            refine kS fun K hK => ?_
            refine pd 15 [(true, 0), (true, 1), (true, 2), (true, 3), (true, 4), (true, 5), (true, 6), (true, 7), (true, 8), (true, 9), (true, 10), (true, 11), (true, 12), (true, 13), (true, 14)] fun T hT => ?_
            iterate 5 refine tk ?_
            refine ck Tryz.call26 (fun w' hw => fcmp_any (q) (hgh) (cm) _ (HCM.out) om om) ?_
            iterate 7 refine tk ?_
            refine ck Tryz.call26 (fun w' hw => fcmp_any (q) (lw) (cn) _ (HCN.out) om om) ?_
            refine tk ?_
            refine nlD hT HF fun vw3 HG => ?_
            clear hT T HF lx15 lx16 lx9_0 lx9_1 lx9_2 lx9_3 lx9_4
            go_wp2
            refine hK.out _ _ ?_; clear hK K
            show Code.wp _ _ _ _ _
            have HF := HG; clear HG
            clear hc1 hc2
            refine wp_cond_false (by rfl) ?_
            refine wp_skip ?_
            show Code.wp _ _ _ _ _
            -- region 23
            have hwi : IntKind.i64.wrap ((j : Int) + 1) = (j : Int) + 1 := by rw [IntKind.wrap_i64]; omega
            refine kL fun K hK => ?_
            refine sq 3 [(true, 0), (true, 1), (true, 2)] fun T hT => ?_
            iterate 3 refine tk ?_
            refine nlS hT HF fun vw4 HG => ?_
            clear hT T HF
            go_wp2
            refine hK.out _ _ ?_; clear hK K
            try simp only [Exit.then, Exit.inBlock]
            have HF := HG; clear HG
            clear hwi
            go_roundw
            case rel => exact ⟨j + 1, _, true, by omega, by go_num, rfl, rfl, Lib.hid (hit_f HQJ.out (by have h9 := H1.out; simpa using h9)), Lib.hid (hit_t (by have h9 := H2.out; simpa using h9)), HF⟩
            case measure => simp [intOf]; omega
          · skip
            refine wp_seq ?_
            refine kS fun K hK => ?_
            go_wp2
            refine hK.out _ _ ?_; clear hK K
            show Code.wp _ _ _ _ _
            refine wp_cond_true (by rfl) ?_
            refine wp_skip ?_
            show Code.wp _ _ _ _ _
            refine wp_seq ?_
            refine wp_block ?_
            -- region 24
            have lx15 := HF.out.c 2 rfl
            refine kS fun K hK => ?_
            refine pd 9 [(true, 0), (true, 1), (true, 2), (true, 3), (true, 4), (true, 5), (true, 6), (true, 7), (true, 8)] fun T hT => ?_
            iterate 2 refine tk ?_
            iterate 6 refine sk ?_
            refine tk ?_
            refine nlD hT HF fun vw1 HG => ?_
            clear hT T HF lx15
            go_wp2
            refine hK.out _ _ ?_; clear hK K
            show Code.wp _ _ _ _ _
            have HF := HG; clear HG
            -- region 25
            have lx16 := HF.out.c 3 rfl
            have lx9_0 := fun w' (h : Gr _ w') => row_c0 HR.out ((HF.out.bx 0 rfl).gr h) hjk HQJ.out
            have lx9_1 := fun w' (h : Gr _ w') => row_c1 HR.out ((HF.out.bx 0 rfl).gr h) hjk HQJ.out
            have lx9_2 := fun w' (h : Gr _ w') => row_c2 HR.out ((HF.out.bx 0 rfl).gr h) hjk HQJ.out
            have lx9_3 := fun w' (h : Gr _ w') => row_c3 HR.out ((HF.out.bx 0 rfl).gr h) hjk HQJ.out
            have lx9_4 := fun w' (h : Gr _ w') => row_c4 HR.out ((HF.out.bx 0 rfl).gr h) hjk HQJ.out
            refine kS fun K hK => ?_
            refine pd 9 [(true, 0), (true, 1), (true, 2), (true, 3), (true, 4), (true, 5), (true, 6), (true, 7), (true, 8)] fun T hT => ?_
            iterate 9 refine tk ?_
            refine nlD hT HF fun vw2 HG => ?_
            clear hT T HF lx16 lx9_0 lx9_1 lx9_2 lx9_3 lx9_4
            go_wp2
            refine hK.out _ _ ?_; clear hK K
            show Code.wp _ _ _ _ _
            have HF := HG; clear HG
            -- region 26
            have hc1 : ¬ 0 < cm := by have h9 := hcm.out; omega
            have hc2 : ¬ cn < 0 := by have h9 := hcn.out; omega
            have lx15 := HF.out.c 2 rfl
            have lx16 := HF.out.c 3 rfl
            have lx9_0 := fun w' (h : Gr _ w') => row_c0 HR.out ((HF.out.bx 0 rfl).gr h) hjk HQJ.out
            have lx9_1 := fun w' (h : Gr _ w') => row_c1 HR.out ((HF.out.bx 0 rfl).gr h) hjk HQJ.out
            have lx9_2 := fun w' (h : Gr _ w') => row_c2 HR.out ((HF.out.bx 0 rfl).gr h) hjk HQJ.out
            have lx9_3 := fun w' (h : Gr _ w') => row_c3 HR.out ((HF.out.bx 0 rfl).gr h) hjk HQJ.out
            have lx9_4 := fun w' (h : Gr _ w') => row_c4 HR.out ((HF.out.bx 0 rfl).gr h) hjk HQJ.out
            refine kS fun K hK => ?_
            refine pd 15 [(true, 0), (true, 1), (true, 2), (true, 3), (true, 4), (true, 5), (true, 6), (true, 7), (true, 8), (true, 9), (true, 10), (true, 11), (true, 12), (true, 13), (true, 14)] fun T hT => ?_
            iterate 5 refine tk ?_
            refine ck Tryz.call26 (fun w' hw => fcmp_any (q) (hgh) (cm) _ (HCM.out) om om) ?_
            iterate 7 refine tk ?_
            refine ck Tryz.call26 (fun w' hw => fcmp_any (q) (lw) (cn) _ (HCN.out) om om) ?_
            refine tk ?_
            refine nlD hT HF fun vw3 HG => ?_
            clear hT T HF lx15 lx16 lx9_0 lx9_1 lx9_2 lx9_3 lx9_4
            go_wp2
            refine hK.out _ _ ?_; clear hK K
            show Code.wp _ _ _ _ _
            have HF := HG; clear HG
            clear hc1 hc2
            refine wp_cond_false (by rfl) ?_
            refine wp_skip ?_
            show Code.wp _ _ _ _ _
            -- region 23
            have hwi : IntKind.i64.wrap ((j : Int) + 1) = (j : Int) + 1 := by rw [IntKind.wrap_i64]; omega
            refine kL fun K hK => ?_
            refine sq 3 [(true, 0), (true, 1), (true, 2)] fun T hT => ?_
            iterate 3 refine tk ?_
            refine nlS hT HF fun vw4 HG => ?_
            clear hT T HF
            go_wp2
            refine hK.out _ _ ?_; clear hK K
            try simp only [Exit.then, Exit.inBlock]
            have HF := HG; clear HG
            clear hwi
            go_roundw
            case rel => exact ⟨j + 1, true, _, by omega, by go_num, rfl, rfl, Lib.hid (hit_t (by have h9 := H1.out; simpa using h9)), Lib.hid (hit_f HQJ.out (by have h9 := H2.out; simpa using h9)), HF⟩
            case measure => simp [intOf]; omega
          · skip
            refine wp_seq ?_
            refine kS fun K hK => ?_
            go_wp2
            refine hK.out _ _ ?_; clear hK K
            show Code.wp _ _ _ _ _
            refine wp_cond_true (by rfl) ?_
            refine wp_skip ?_
            show Code.wp _ _ _ _ _
            refine wp_seq ?_
            refine wp_block ?_
            -- region 24
            have lx15 := HF.out.c 2 rfl
            refine kS fun K hK => ?_
            refine pd 9 [(true, 0), (true, 1), (true, 2), (true, 3), (true, 4), (true, 5), (true, 6), (true, 7), (true, 8)] fun T hT => ?_
            iterate 2 refine tk ?_
            iterate 6 refine sk ?_
            refine tk ?_
            refine nlD hT HF fun vw1 HG => ?_
            clear hT T HF lx15
            go_wp2
            refine hK.out _ _ ?_; clear hK K
            show Code.wp _ _ _ _ _
            have HF := HG; clear HG
            -- region 25
            have lx16 := HF.out.c 3 rfl
            refine kS fun K hK => ?_
            refine pd 9 [(true, 0), (true, 1), (true, 2), (true, 3), (true, 4), (true, 5), (true, 6), (true, 7), (true, 8)] fun T hT => ?_
            iterate 2 refine tk ?_
            iterate 6 refine sk ?_
            refine tk ?_
            refine nlD hT HF fun vw2 HG => ?_
            clear hT T HF lx16
            go_wp2
            refine hK.out _ _ ?_; clear hK K
            show Code.wp _ _ _ _ _
            have HF := HG; clear HG
            -- region 26
            have hc1 : ¬ 0 < cm := by have h9 := hcm.out; omega
            have hc2 : ¬ cn < 0 := by have h9 := hcn.out; omega
            have lx15 := HF.out.c 2 rfl
            have lx16 := HF.out.c 3 rfl
            have lx9_0 := fun w' (h : Gr _ w') => row_c0 HR.out ((HF.out.bx 0 rfl).gr h) hjk HQJ.out
            have lx9_1 := fun w' (h : Gr _ w') => row_c1 HR.out ((HF.out.bx 0 rfl).gr h) hjk HQJ.out
            have lx9_2 := fun w' (h : Gr _ w') => row_c2 HR.out ((HF.out.bx 0 rfl).gr h) hjk HQJ.out
            have lx9_3 := fun w' (h : Gr _ w') => row_c3 HR.out ((HF.out.bx 0 rfl).gr h) hjk HQJ.out
            have lx9_4 := fun w' (h : Gr _ w') => row_c4 HR.out ((HF.out.bx 0 rfl).gr h) hjk HQJ.out
            refine kS fun K hK => ?_
            refine pd 15 [(true, 0), (true, 1), (true, 2), (true, 3), (true, 4), (true, 5), (true, 6), (true, 7), (true, 8), (true, 9), (true, 10), (true, 11), (true, 12), (true, 13), (true, 14)] fun T hT => ?_
            iterate 5 refine tk ?_
            refine ck Tryz.call26 (fun w' hw => fcmp_any (q) (hgh) (cm) _ (HCM.out) om om) ?_
            iterate 7 refine tk ?_
            refine ck Tryz.call26 (fun w' hw => fcmp_any (q) (lw) (cn) _ (HCN.out) om om) ?_
            refine tk ?_
            refine nlD hT HF fun vw3 HG => ?_
            clear hT T HF lx15 lx16 lx9_0 lx9_1 lx9_2 lx9_3 lx9_4
            go_wp2
            refine hK.out _ _ ?_; clear hK K
            show Code.wp _ _ _ _ _
            have HF := HG; clear HG
            clear hc1 hc2
            refine wp_cond_false (by rfl) ?_
            refine wp_skip ?_
            show Code.wp _ _ _ _ _
            -- region 23
            have hwi : IntKind.i64.wrap ((j : Int) + 1) = (j : Int) + 1 := by rw [IntKind.wrap_i64]; omega
            refine kL fun K hK => ?_
            refine sq 3 [(true, 0), (true, 1), (true, 2)] fun T hT => ?_
            iterate 3 refine tk ?_
            refine nlS hT HF fun vw4 HG => ?_
            clear hT T HF
            go_wp2
            refine hK.out _ _ ?_; clear hK K
            try simp only [Exit.then, Exit.inBlock]
            have HF := HG; clear HG
            clear hwi
            go_roundw
            case rel => exact ⟨j + 1, true, true, by omega, by go_num, rfl, rfl, Lib.hid (hit_t (by have h9 := H1.out; simpa using h9)), Lib.hid (hit_t (by have h9 := H2.out; simpa using h9)), HF⟩
            case measure => simp [intOf]; omega
        · have HFF := HF
          obtain rfl : j = k := by omega
          have e1 := H1.out.2 (by obtain ⟨x, a, b⟩ := bst_mem mx f j hn; exact ⟨x, a, b.trans HHI.out⟩)
          have e2 := H2.out.2 (by obtain ⟨x, a, b⟩ := bst_mem mi f j hn; exact ⟨x, a, b.trans HLO.out⟩)
          subst e1 e2
          have hjk' : ¬ (j : Int) < (j : Int) := by omega
          go_wp2_with fail
          refine (worksq_any _ (Lib.hid (HT.out.gr HFF.out.1))).mono ?_
          rintro e V1 ⟨rfl, hb⟩
          have HGf := Lib.hid (Gr.trans HFF.out.1 hb)
          clear hb
          go_wp2_with fail
          exact bodyPost_ret (v := .bool true) (by simp [results, Tryz.results4, go_sem]) rfl ⟨rfl, HGf.out⟩
set_option maxRecDepth 100000 in
set_option maxHeartbeats 8000000 in
theorem listq_nil (v : Value) (N D : Nat → Int) (t : Int) (w : World) (HQ : Hid (Qs w v 0 N D)) (HT : Hid (Tab w)) :
    Calls Tryz.prog 4 #[v, .int .i64 t] w fun e w' => e = .returned (.bool true) ∧ Below w.heap.size w w' := by
  obtain ⟨ao, c, rfl⟩ := HQ.out.slice
  go_enter Tryz.func4, Tryz.ntmps4
  go_wp2_with fail
  obtain ⟨z, HZ⟩ : ∃ z : Rat, Hid ((0 : Rat) = z) := ⟨_, Lib.hid rfl⟩
  have hsz : sz z ≤ 1 := by rw [← HZ.out]; exact sz_of (wl_le.2 (by decide)) (wl_le.2 (by decide))
  refine forgetH (L := [Sum.inl (w.heap.size, 36, #[.int .u64 ((lo (Int.natAbs ((z).num)) : Nat) : Int), .string (bg (Int.natAbs ((z).num))), .bool (decide (((z).num) < 0)), .int .u64 ((lo ((z).den - 1) : Nat) : Int), .string (bg ((z).den - 1))])]) (by rw [← HZ.out]; exact (hp0 w).al (b := w.heap.size) rfl (by decide)) fun W1 HF0 => ?_
  obtain ⟨g7, hg7⟩ : ∃ g, Hid (w.heap.size = g) := ⟨_, Lib.hid rfl⟩
  rw [hg7.out] at HF0 ⊢
  go_loopw [5, 8] (fun u i wr => u = .slice none 0 0 ∧ i = .int .i64 0 ∧ Hid (wr = W1)) (fun _ i _ => 0)
  case atStart => exact ⟨rfl, rfl, Lib.hid rfl⟩
  case round =>
    rename_i K1 hK1
    obtain ⟨rfl, rfl, hw⟩ := hrel
    obtain rfl := hw.out
    clear hw
    have HF := HF0; clear HF0
    refine wp_seq ?_
    refine kS fun K hK => ?_
    go_wp2
    refine hK.out _ _ ?_; clear hK K
    show Code.wp _ _ _ _ _
    refine wp_cond_false (by rfl) ?_
    refine wp_exit ?_
    try simp only [Exit.then, Exit.inBlock]
    refine hK1 _ _ ?_
    clear hK1
    show Code.wp _ _ _ _ _
    refine kS fun K hK => ?_
    go_wp2
    refine hK.out _ _ ?_; clear hK K
    show Code.wp _ _ _ _ _
    refine wp_seq ?_
    refine kS fun K hK => ?_
    go_wp2
    refine hK.out _ _ ?_; clear hK K
    show Code.wp _ _ _ _ _
    refine wp_cond_false (by rfl) ?_
    refine wp_skip ?_
    show Code.wp _ _ _ _ _
    refine kS fun K hK => ?_
    go_wp2
    refine hK.out _ _ ?_; clear hK K
    show Code.wp _ _ _ _ _
    refine kS fun K hK => ?_
    go_wp2
    refine hK.out _ _ ?_; clear hK K
    show Code.wp _ _ _ _ _
    -- region 15
    refine kS fun K hK => ?_
    refine sq 4 [(true, 0), (true, 1), (true, 2), (true, 3)] fun T hT => ?_
    refine tk ?_
    refine ck Tryz.call23 (fun w' hw => fmaxz 0 (fun _ => 0) _ z _ (.inl ⟨_, _, rfl, rfl⟩) (by decide) (fun i hi => absurd hi (Nat.not_lt_zero _)) HZ.out) ?_
    refine tk ?_
    refine ck Tryz.call24 (fun w' hw => fminz 0 (fun _ => 0) _ z _ (.inl ⟨_, _, rfl, rfl⟩) (by decide) (fun i hi => absurd hi (Nat.not_lt_zero _)) HZ.out) ?_
    refine nlS hT HF fun vw1 HG => ?_
    clear hT T HF
    go_wp2
    refine hK.out _ _ ?_; clear hK K
    show Code.wp _ _ _ _ _
    refine fH (((HG.out).al (b := vw1.heap.size) (by first | rfl | simp) (by decide)).al (b := vw1.heap.size + 1) (by first | rfl | simp) (by decide)) fun Wx15 HF => ?_
    clear HG
    generalize vw1.heap.size + 1 = gx3 at *
    generalize vw1.heap.size = gx2 at *
    refine wp_seq ?_
    -- region 16
    have lx0 := HF.out.c 0 rfl
    have lx2 := HF.out.c 1 rfl
    have lx3 := HF.out.c 2 rfl
    refine kS fun K hK => ?_
    refine pd 21 [(true, 0), (true, 2), (true, 1), (true, 3), (true, 4), (true, 5), (true, 7), (true, 6), (true, 8), (true, 9), (true, 10), (true, 11), (true, 13), (true, 12), (true, 14), (true, 15), (true, 16), (true, 17), (true, 19), (true, 18), (true, 20)] fun T hT => ?_
    iterate 2 refine tk ?_
    refine ck Tryz.call25 (fun w' hw => fsum_list 0 (fun _ => 0) _ z _ (.inl ⟨_, _, rfl, rfl⟩) (by decide) (fun i hi => absurd hi (Nat.not_lt_zero _)) HZ.out) ?_
    iterate 4 refine tk ?_
    refine ck Tryz.call25 (fun w' hw => fsum_list 0 (fun _ => 0) _ z _ (.inl ⟨_, _, rfl, rfl⟩) (by decide) (fun i hi => absurd hi (Nat.not_lt_zero _)) HZ.out) ?_
    iterate 5 refine tk ?_
    refine ck Tryz.call23 (fun w' hw => fmaxz 0 (fun _ => 0) _ z _ (.inl ⟨_, _, rfl, rfl⟩) (by decide) (fun i hi => absurd hi (Nat.not_lt_zero _)) HZ.out) ?_
    iterate 5 refine tk ?_
    refine ck Tryz.call24 (fun w' hw => fminz 0 (fun _ => 0) _ z _ (.inl ⟨_, _, rfl, rfl⟩) (by decide) (fun i hi => absurd hi (Nat.not_lt_zero _)) HZ.out) ?_
    refine tk ?_
    refine nlD hT HF fun vw2 HG => ?_
    clear hT T HF lx0 lx2 lx3
    go_wp2
    refine hK.out _ _ ?_; clear hK K
    show Code.wp _ _ _ _ _
    have HF := HG; clear HG
    refine wp_cond_false (by rfl) ?_
    refine wp_skip ?_
    show Code.wp _ _ _ _ _
    refine wp_seq ?_
    refine kS fun K hK => ?_
    go_wp2
    refine hK.out _ _ ?_; clear hK K
    show Code.wp _ _ _ _ _
    refine wp_cond_true (by rfl) ?_
    -- region 19
    have hz9 : decide (z = 0) = true := decide_eq_true HZ.out.symm
    have lx0 := HF.out.c 0 rfl
    have lx2 := HF.out.c 1 rfl
    have lx3 := HF.out.c 2 rfl
    refine kS fun K hK => ?_
    refine sq 17 [(true, 0), (true, 1), (true, 2), (true, 3), (true, 4), (true, 5), (true, 6), (true, 7), (true, 8), (true, 9), (true, 10), (true, 11), (true, 12), (true, 13), (true, 14), (true, 15), (true, 16)] fun T hT => ?_
    iterate 14 refine tk ?_
    refine ck Tryz.call20 (fun w' hw => worksq_any _ (Lib.hid (HT.out.gr (Gr.trans HF.out.1 hw)))) ?_
    iterate 2 refine tk ?_
    refine nlS hT HF fun vw3 HG => ?_
    clear hT T HF lx0 lx2 lx3
    go_wp2
    refine hK.out _ _ ?_; clear hK K
    show Code.wp _ _ _ _ _
    refine fH ((HG.out).er 0) fun Wx19 HF => ?_
    clear HG
    clear hz9
    refine wp_ret ?_
    try simp only [Exit.then, Exit.inBlock]
    exact bodyPost_ret (v := .bool true) (by simp [results, Tryz.results4, go_sem]) rfl ⟨rfl, HF.out.1⟩
theorem listq_law (v : Value) (n : Nat) (N D : Nat → Int) (t : Int) (w : World) (HQ : Hid (Qs w v n N D)) (HB : Hid (Qb n N D)) (lt : -9223372036854775808 ≤ t) (ut : t ≤ 9223372036854775807) (HT : Hid (Tab w)) :
    Calls Tryz.prog 4 #[v, .int .i64 t] w fun e w' => e = .returned (.bool true) ∧ Below w.heap.size w w' := by
  rcases Nat.eq_zero_or_pos n with h | h
  · subst h; exact listq_nil v N D t w HQ HT
  · by_cases h20 : n ≤ 20
    · exact listq_some v n N D t w HQ HB h h20 lt ut HT
    · exact listq_long v n N D t w HQ (by omega) HT
end Go.Proofs.YtgdibedgjndcoaaGreatDoor
