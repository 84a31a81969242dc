
/- gussetref04.Cycle. -/
import Derived.Test.YtobojnodohjiaaaGreatDoorOwnR
import Derived.Test.YtobojnodohjiaaaGreatDoorRDec0
import Derived.Test.YtobojnodohjiaaaGreatDoorFieldP
import Derived.Test.YtobojnodohjiaaaGreatDoorPJ
namespace Go.Proofs.YtobojnodohjiaaaGreatDoor
open Go.RowKit
set_option linter.unusedSimpArgs false
set_option linter.unusedVariables false
attribute [local go_sem ↓] Go.wp_at_zero Go.wp_at_succ
attribute [local go_sem ↓] eq_nat eq_nat_zero eq_int
/-- the text of a number -/
abbrev dtt (n : Nat) : ByteArray := ⟨(Lib.decDigits n).toArray⟩
theorem dtt_inj {a b : Nat} (h : dtt a = dtt b) : a = b := by
  have e := congrArg (fun x : ByteArray => x.data.toList) h
  exact dec_inj (by simpa using e)
/-- the texts of the first k remainders -/
def scs (p d : Nat) : Nat → List Value
  | 0 => []
  | k + 1 => scs p d k ++ [.string (dtt (rmd p d k))]
theorem scs_len (p d n : Nat) : (scs p d n).length = n := by
  induction n with
  | zero => rfl
  | succ n ih => rw [scs, List.length_append, ih]; rfl
theorem scs_at (p d n i : Nat) (hi : i < n) : (scs p d n)[i]? = some (.string (dtt (rmd p d i))) := by
  induction n with
  | zero => omega
  | succ n ih =>
    have hl := scs_len p d n
    rcases Nat.lt_or_ge i n with h | h
    · rw [scs, List.getElem?_append_left (by omega)]
      exact ih h
    · obtain rfl : i = n := by omega
      rw [scs, List.getElem?_append_right (by omega), hl, Nat.sub_self]; rfl
theorem own_slice {W : World} {B E k n : Nat} {v : Value} {xs : List Value} (h : W.ownsRow B E k v n xs) : ∃ ao c, v = .slice ao n c := by
  obtain ⟨hl, ⟨rfl, rfl⟩ | ⟨b, cap, cur, rfl, _⟩⟩ := h
  · exact ⟨none, 0, rfl⟩
  · exact ⟨_, cap, rfl⟩
theorem own_str {w0 W : World} {E p d n : Nat} {v : Value} (h : W.ownsRow w0.heap.size E 1 v n (scs p d n)) (hn : 0 < n) : ∃ b o c, v = .slice (some ⟨b, o, none⟩) n c ∧ b < W.heap.size ∧ ∀ i, i < n → W.cell? ⟨b, o + i, none⟩ = some (.string (dtt (rmd p d i))) := by
  obtain ⟨b, cap, rfl, hb, hc⟩ := own_cell h hn
  exact ⟨b, 0, cap, rfl, hb, fun i hi => by rw [Nat.zero_add, hc i hi, scs_at p d n i hi]⟩
theorem apart_rr {v1 v2 v : Value} {n1 n2 : Nat} : Apart [Sum.inr (v1, n1), Sum.inr (v2, n2)] v := fun i x hx e => by
  rcases i with _ | _ | i <;> simp at hx
theorem cyc_out {a b c x y z : Int} {n : Nat} (h : cyc n = (a, b, c)) (g : cyc n = (x, y, z)) : a = x ∧ b = y ∧ c = z := by
  rw [h] at g
  injection g with g1 g
  injection g with g2 g3
  exact ⟨g1, g2, g3⟩
theorem ba_tl {t s : ByteArray} (h : ¬ t = s) : ¬ t.toList = s.toList := fun e => h (Go.WideShapes.bytes_inj (by rw [← ByteArray.toList_eq, ← ByteArray.toList_eq, e]))
theorem nameA {P : Program} {c : Code} {Q : Exit → Act → World → Prop} {a : Act} {w : World} (h : ∀ b : Act, b = a → c.wp P Q b w) : c.wp P Q a w := h a rfl
theorem rmd_lt {a n j : Nat} (h : 0 < n) : rmd a n j < n := Nat.mod_lt _ h

set_option maxRecDepth 50000 in
set_option maxHeartbeats 8000000 in
theorem rcycle0 (a : Rat) (d r0 : Nat) (c1 c2 c3 : Int) (va1 va2 : Value) (w : World) (HD : Hid ((a).den = d)) (HDP : Hid (0 < d)) (HCO : Hid (Nat.Coprime (Int.natAbs ((a).num)) d)) (HR0 : Hid (rmd (Int.natAbs ((a).num)) d 0 = r0)) (HC : Hid (cyc d = (c1, c2, c3))) (hs : rz a ≤ 900) (hwd : tw d ≤ 900) (bx21 : Rn w va1 (Int.natAbs ((a).num))) (bx22 : Rn w va2 ((a).den - 1)) :
    Calls Tryz.prog 68 #[(Value.agg #[.bool (decide ((a).num < 0)), va1, va2])] w fun e w' => e = .returned ((.tuple #[.int .i64 c1, .int .i64 c2, .int .i64 c3])) ∧ Below w.heap.size w w' := by
  have hn_a : tw (Int.natAbs ((a).num)) ≤ 900 := Nat.le_trans (Nat.le_max_left _ _) hs
  obtain ⟨ao_va1, n_va1, c_va1, rfl⟩ := Rn.sl bx21
  obtain ⟨ao_va2, n_va2, c_va2, rfl⟩ := Rn.sl bx22
  go_enter Tryz.func68, Tryz.ntmps68
  have HF := Lib.hid (hp0 w)
  replace HF := Lib.hid ((HF.out.ar bx21).ar bx22)
  simp only [lF, lG] at HF
  clear bx21 bx22
  refine kS fun K hK => ?_
  refine wp_region_lit ?_
  go_wp2
  refine hK.out _ _ ?_; clear hK K
  show Code.wp _ _ _ _ _
  refine fH ((HF.out).al (b := w.heap.size) (by first | rfl | simp) (by decide)) fun Wx0 HG => ?_
  clear HF; have HF := HG; clear HG
  have HZ1 : Hid ((a).den = d) := Lib.hid (HD.out)
  have su1 : tw (d) ≤ 900 := by have e := HZ1.out; first | omega | (rw [← e]; exact Nat.le_trans (rz_den _) (by omega))
  have lx23 := HF.out.c 2 rfl
  refine kS fun K hK => ?_
  have HG0 : Hid (Gr Wx0 Wx0) := Lib.hid (Gr.refl _)
  refine sq 3 [(true, 0), (false, 1), (true, 2)] fun T hT => ?_
  refine tk ?_
  refine wpPlan_callE rfl (by rfl) Tryz.call150 (by rfl) (fun w' hw => (qDen_any (a) (d) _ _ _ HZ1.out (by omega) (HF.out.r 0 rfl (HG0.out.trans hw)) (HF.out.r 1 rfl (HG0.out.trans hw))).mono ?_)
  rintro e vv25 ⟨⟨rv1, rfl, bx25⟩, hg0⟩
  obtain ⟨ao1, nn1, cc1, rfl⟩ := Rn.sl bx25
  refine ⟨_, rfl, hg0, ?_⟩
  replace hg0 := Gr.trans hw hg0; clear hw
  replace HG0 := Lib.hid (HG0.out.trans hg0)
  have HGS := Lib.hid hg0; clear hg0
  clear HGS
  have RN25 := Lib.hid bx25; clear bx25
  clear lx23; have lx23 := fun w' (h : Gr _ w') => HF.out.c 2 rfl w' (HG0.out.trans h)
  simp only [Act.put, lA, lB, lC]
  refine tk ?_
  refine wpPlan_nil (hT.out _ _ ?_)
  intro vw1 hg
  simp only [puts, Act.put, lA, lB, lC, lD, lE, ↓reduceIte, Nat.reduceEqDiff]
  have HG := Lib.hid ((HF.out.gr (HG0.out.trans hg)).ar (RN25.out.gr hg))
  simp only [List.zip_cons_cons, List.zip_nil_right, List.map_cons, List.map_nil, lF, lG] at HG
  clear hT T HF hg HG0 RN25 lx23
  go_wp2
  refine hK.out _ _ ?_; clear hK K
  show Code.wp _ _ _ _ _
  have HF := HG; clear HG
  obtain ⟨u2, HZ2⟩ : ∃ z, Hid ((Int.natAbs ((a).num)) / (d) = z) := ⟨_, Lib.hid rfl⟩
  have su2 : tw (u2) ≤ 900 := by rw [← HZ2.out]; have := tw_div (Int.natAbs ((a).num)) (d); omega
  have HZ3 : Hid ((Int.natAbs ((a).num)) % (d) = r0) := Lib.hid (by rw [← HR0.out, rmd_zero])
  have su3 : tw (r0) ≤ 900 := by have e := HZ3.out; first | omega | (rw [← e]; have := tw_mod (Int.natAbs ((a).num)) (d); omega)
  have lx23 := HF.out.c 2 rfl
  refine kS fun K hK => ?_
  have HG0 : Hid (Gr vw1 vw1) := Lib.hid (Gr.refl _)
  refine sq 10 [(true, 0), (true, 1), (true, 2), (true, 3), (false, 4), (true, 5), (true, 6), (true, 7), (true, 8), (true, 9)] fun T hT => ?_
  iterate 4 refine tk ?_
  refine wpPlan_callE rfl (by rfl) Tryz.call176 (by rfl) (fun w' hw => (zrdiv _ _ (Int.natAbs ((a).num)) (d) (u2) (r0) _ HZ2.out HZ3.out (HF.out.r 0 rfl (HG0.out.trans hw)) (HF.out.r 3 rfl (HG0.out.trans hw)) (by exact HDP.out) (by omega) (by omega)).mono ?_)
  rintro e vv26 ⟨⟨rv2, rv3, rfl, bx26, bx27⟩, hg0⟩
  obtain ⟨ao2, nn2, cc2, rfl⟩ := Rn.sl bx26
  obtain ⟨ao3, nn3, cc3, rfl⟩ := Rn.sl bx27
  refine ⟨_, rfl, hg0, ?_⟩
  replace hg0 := Gr.trans hw hg0; clear hw
  replace HG0 := Lib.hid (HG0.out.trans hg0)
  have HGS := Lib.hid hg0; clear hg0
  clear HGS
  have RN26 := Lib.hid bx26; clear bx26
  have RN27 := Lib.hid bx27; clear bx27
  clear lx23; have lx23 := fun w' (h : Gr _ w') => HF.out.c 2 rfl w' (HG0.out.trans h)
  simp only [Act.put, lA, lB, lC]
  iterate 5 refine tk ?_
  refine wpPlan_nil (hT.out _ _ ?_)
  intro vw2 hg
  simp only [puts, Act.put, lA, lB, lC, lD, lE, ↓reduceIte, Nat.reduceEqDiff]
  have HG := Lib.hid (((HF.out.gr (HG0.out.trans hg)).ar (RN26.out.gr hg)).ar (RN27.out.gr hg))
  simp only [List.zip_cons_cons, List.zip_nil_right, List.map_cons, List.map_nil, lF, lG] at HG
  clear hT T HF hg HG0 RN26 RN27 lx23
  go_wp2
  refine hK.out _ _ ?_; clear hK K
  show Code.wp _ _ _ _ _
  refine fH (((((HG.out).er 4).er 2).er 1).er 0) fun Wx2 HF => ?_
  clear HG
  refine kS fun K hK => ?_
  refine wp_region_lit ?_
  go_wp2
  refine hK.out _ _ ?_; clear hK K
  show Code.wp _ _ _ _ _
  refine fH (HF.out) fun Wx3 HG => ?_
  clear HF; have HF := HG; clear HG
  refine wp_seq ?_
  refine kS fun K hK => ?_
  refine wp_region_lit ?_
  go_wp2
  refine hK.out _ _ ?_; clear hK K
  show Code.wp _ _ _ _ _
  refine fH (HF.out) fun Wx4 HG => ?_
  clear HF; have HF := HG; clear HG
  refine wp_block ?_

  go_loopg [7, 8, 9] 102 (fun kk rv sv kv wr => ∃ k r : Nat, kv = .int .i64 ((k : Nat) : Int) ∧ k + kk = 102 ∧ Hid (rmd (Int.natAbs ((a).num)) d k = r) ∧ Hid (nst (Int.natAbs ((a).num)) d k) ∧ Hid (HP w wr [Sum.inr ((.slice ao1 nn1 cc1), d), Sum.inr (rv, r)]) ∧ Hid (wr.ownsRow w.heap.size 9 1 sv k (scs (Int.natAbs ((a).num)) d k)))
  case atStart => exact ⟨0, r0, rfl, by omega, HR0, Lib.hid (nst_zero _ _), HF, Lib.hid (World.ownsRow_nil _ _ _ _)⟩
  case round =>
    rename_i J_ K_ hj1_ hj0_
    clear HF
    obtain ⟨k, r, rfl, hkk, HR, HN, HF, HO⟩ := hrel
    obtain ⟨ao9, nn9, cc9, rfl⟩ := Rn.sl (HF.out.rn 1 rfl)
    obtain ⟨aoS, cS, rfl⟩ := own_slice HO.out
    have hwk : IntKind.i64.wrap ((k : Int) + 1) = (k : Int) + 1 := by rw [IntKind.wrap_i64]; omega
    rcases gk with _ | kk
    · obtain ⟨rfl, rfl, rfl⟩ := cyc_out (cyc_end2 HDP.out HCO.out HN.out (by omega)) HC.out
      have hk5 : ¬ ((k : Nat) : Int) ≤ 101 := by omega
      refine wp_seq ?_
      refine kS fun K hK => ?_
      go_wp2
      refine hK.out _ _ ?_; clear hK K
      show Code.wp _ _ _ _ _
      refine wp_cond_false (by rfl) ?_
      refine wp_exit ?_
      show Code.wp _ _ _ _ _
      refine kS fun K hK => ?_
      refine wp_region_lit ?_
      go_wp2
      refine hK.out _ _ ?_; clear hK K
      show Code.wp _ _ _ _ _
      refine fH (((HF.out).er 1).er 0) fun Wx17 HG => ?_
      clear HF; have HF := HG; clear HG
      refine wp_ret ?_
      try simp only [Exit.then, Exit.inBlock]
      exact bodyPost_ret (v := .tuple #[.int .i64 0, .int .i64 0, .int .i64 3]) (by simp [results, Tryz.results68, go_sem]) rfl ⟨rfl, HF.out.1⟩
    · have hk5 : ((k : Nat) : Int) ≤ 101 := by omega
      have HLN : Hid (nn9 = tw r) := Lib.hid (Rn.len (HF.out.rn 1 rfl))
      have hwr : tw r ≤ 900 := Nat.le_trans (tw_mono (Nat.le_of_lt (by rw [← HR.out]; exact rmd_lt HDP.out))) hwd
      by_cases hA : r = 0 ∧ k ≤ 100
      · obtain ⟨rfl, rfl, rfl⟩ := cyc_out (cyc_end0 HDP.out HCO.out HN.out hA.2 (HR.out.trans hA.1)) HC.out
        have hn0 : nn9 = 0 := by rw [HLN.out]; exact tw_eq_zero.2 hA.1
        have hz7 : ((nn9 : Int) == 0) = true := by rw [hn0]; rfl
        have hz8 : (nn9 == 0) = true := by rw [hn0]; rfl
        clear hn0
        have hk7 : (k : Int) ≤ 100 := by omega
        clear hA
        refine wp_seq ?_
        refine kS fun K hK => ?_
        go_wp2
        refine hK.out _ _ ?_; clear hK K
        show Code.wp _ _ _ _ _
        refine wp_cond_true (by rfl) ?_
        refine wp_skip ?_
        show Code.wp _ _ _ _ _
        refine wp_seq ?_
        refine wp_block ?_
        refine wp_seq ?_
        refine kS fun K hK => ?_
        refine sq 7 [(true, 0), (true, 1), (true, 2), (true, 3), (true, 4), (true, 5), (true, 6)] fun T hT => ?_
        iterate 7 refine tk ?_
        refine nlS hT HF fun vw3 HG => ?_
        clear hT T HF
        go_wp2
        refine hK.out _ _ ?_; clear hK K
        show Code.wp _ _ _ _ _
        have HF := HG; clear HG
        refine wp_cond_true (by rfl) ?_
        refine kS fun K hK => ?_
        refine sq 4 [(true, 0), (true, 1), (true, 2), (true, 3)] fun T hT => ?_
        iterate 4 refine tk ?_
        refine nlS hT HF fun vw4 HG => ?_
        clear hT T HF
        go_wp2
        refine hK.out _ _ ?_; clear hK K
        show Code.wp _ _ _ _ _
        have HF := HG; clear HG
        refine wp_ret ?_
        try simp only [Exit.then, Exit.inBlock]
        exact bodyPost_ret (v := .tuple #[.int .i64 (((k : Nat) : Int)), .int .i64 0, .int .i64 0]) (by simp [results, Tryz.results68, go_sem]) rfl ⟨rfl, HF.out.1⟩
      · have HA := Lib.hid hA
        obtain ⟨s, HS⟩ : ∃ s, Hid (dtt r = s) := ⟨_, Lib.hid rfl⟩
        obtain ⟨m10, HM10⟩ : ∃ x, Hid (r * 10 = x) := ⟨_, Lib.hid rfl⟩
        obtain ⟨qt, HQT⟩ : ∃ x, Hid (m10 / d = x) := ⟨_, Lib.hid rfl⟩
        have ht10 : tw 10 ≤ 1 := tw_le.2 (by decide +kernel)
        obtain ⟨r2, HR2⟩ : ∃ x, Hid (rmd (Int.natAbs ((a).num)) d (k + 1) = x) := ⟨_, Lib.hid rfl⟩
        clear hA
        refine wp_seq ?_
        refine kS fun K hK => ?_
        go_wp2
        refine hK.out _ _ ?_; clear hK K
        show Code.wp _ _ _ _ _
        refine wp_cond_true (by rfl) ?_
        refine wp_skip ?_
        show Code.wp _ _ _ _ _
        refine wp_seq ?_
        refine wp_block ?_
        refine wp_seq ?_
        refine kS fun K hK => ?_
        refine nameA fun A9 HA9 => ?_
        suffices HJ : Hid (∀ (x26 x27 x28 x29 x30 x31 : Value), K (((((((A9.put (some 26) x26).put (some 27) x27).put (some 28) x28).put (some 29) x29).put (some 30) x30).put (some 31) x31).put (some 32) (.bool false)) wr) by
          have HJ2 := HJ.out; clear HJ; subst HA9; simp only [Act.put, lA, lB, lC] at HJ2; replace HJ2 := Lib.hid HJ2
          by_cases h9 : r = 0
          · have hn0 : nn9 = 0 := by rw [HLN.out]; exact tw_eq_zero.2 h9
            have hz7 : ((nn9 : Int) == 0) = true := by rw [hn0]; rfl
            have hz8 : (nn9 == 0) = true := by rw [hn0]; rfl
            clear hn0
            have hk7 : ¬ (k : Int) ≤ 100 := by have e9 := HA.out; omega
            clear h9
            go_wp2
            exact HJ2.out _ _ _ _ _ _
          · have hn0 : ¬ nn9 = 0 := fun e => h9 (tw_eq_zero.1 (HLN.out.symm.trans e))
            have hz7 : ((nn9 : Int) == 0) = false := by rw [beq_eq_false_iff_ne]; omega
            have hz8 : ¬ (nn9 : Int) = 0 := by omega
            clear h9
            go_wp2
            exact HJ2.out _ _ _ _ _ _
        refine Lib.hid ?_
        intro x26 x27 x28 x29 x30 x31
        subst HA9; simp only [Act.put, lA, lB, lC]
        refine hK.out _ _ ?_; clear hK K
        show Code.wp _ _ _ _ _
        refine wp_cond_false (by rfl) ?_
        refine wp_skip ?_
        show Code.wp _ _ _ _ _
        refine kS fun K hK => ?_
        go_wp2_with fail
        refine (zrtext _ r s wr HS.out (HF.out.rn 1 rfl) (by omega)).mono ?_
        rintro e wa ⟨rfl, hb1⟩
        have HF1 := Lib.hid (HF.out.gr hb1)
        have HO1 := Lib.hid (own_gr HO.out hb1)
        clear hb1 HF HO
        have HF := HF1
        have HO := HO1
        clear HF1 HO1
        go_wp2_with fail
        refine hK.out _ _ ?_; clear hK K
        show Code.wp _ _ _ _ _
        refine wp_seq ?_
        refine kS fun K hK => ?_
        go_wp2
        refine hK.out _ _ ?_; clear hK K
        show Code.wp _ _ _ _ _
        refine wp_block ?_
        go_loopg [11] k (fun k2 iv wr2 => ∃ i : Nat, iv = .int .i64 ((i : Nat) : Int) ∧ i + k2 = k ∧ Hid (k ≤ 100 → ∀ i', i' < i → ¬ rmd (Int.natAbs ((a).num)) d i' = r) ∧ wa = wr2)
        case atStart => exact ⟨0, rfl, by omega, Lib.hid (fun _ i' h => absurd h (Nat.not_lt_zero _)), rfl⟩
        case round =>
          rename_i Jb_ Kb_ hb1_ hb0_
          obtain ⟨i, rfl, hik, HNE, rfl⟩ := hrel
          rcases gk with _ | k2
          · obtain rfl : k = i := by omega
            have HN2 : Hid (nst (Int.natAbs ((a).num)) d (k + 1)) := Lib.hid (nst_succ HN.out fun h9 => ⟨fun e => HA.out ⟨HR.out.symm.trans e, h9⟩, fun i' hi' => by rw [HR.out]; exact HNE.out h9 i' hi'⟩)
            obtain ⟨i0, hi, hz0, hz1, hz2⟩ := info_parts info_str
            refine wp_seq ?_
            refine kS fun K hK => ?_
            go_wp2
            refine hK.out _ _ ?_; clear hK K
            show Code.wp _ _ _ _ _
            refine wp_cond_false (by rfl) ?_
            refine wp_exit ?_
            show Code.wp _ _ _ _ _
            refine kS fun K hK => ?_
            have HN5 := Lib.hid (show ∀ j u, [Value.string s][j]? = some u → (wa.alloc (.cells #[.string s] 9)).cell? ((⟨wa.heap.size, 0, none⟩ : Addr).add j) = some u from fun j u hj => by
              match j, hj with
              | 0, hj => simp at hj; subst hj; simp [Addr.add, go_sem])
            have HF2 := Lib.hid (HF.out.gr (Gr.alloc _ (.cells #[.string s] 9)))
            have HO2 := Lib.hid (own_gr HO.out (Gr.alloc _ (.cells #[.string s] 9)))
            have HAP := Lib.hid (apart_rr (v1 := (.slice ao1 nn1 cc1)) (v2 := .slice ao9 nn9 cc9) (v := .slice aoS k cS) (n1 := d) (n2 := r))
            clear HF HO
            go_wp2_with (first | (at_builtin; refine apZ HF2 HO2 HAP (.tmp 56) (.tmp 58) 125 hi hz0 hz1 hz2 rfl Tryz.underlying125 (by decide) (m := 1) (c := 1) (ad := ⟨wa.heap.size, 0, none⟩) (news := [.string s]) (by unfold maxLen; omega) (by omega) (by simp [Act.eval, Act.put]) (by simp [Act.eval, Act.put]) HN5 rfl ?c1 (by decide) rfl rfl ?_) | fail)
            case c1 => intro u hu; simp at hu; rcases hu with rfl; rfl
            intro sv2 wb HF HO HAP2
            clear HF2 HO2 HN5 HAP HAP2
            go_wp2_with fail
            refine hK.out _ _ ?_; clear hK K
            show Code.wp _ _ _ _ _
            have HZ4 : Hid ((r) * (10) = m10) := Lib.hid (HM10.out)
            have su4 : tw (m10) ≤ 901 := by have e := HZ4.out; first | omega | (rw [← e]; have := tw_mul (r) (10); omega)
            have HZ5 : Hid ((m10) / (d) = qt) := Lib.hid (HQT.out)
            have su5 : tw (qt) ≤ 901 := by have e := HZ5.out; first | omega | (rw [← e]; have := tw_div (m10) (d); omega)
            have HZ6 : Hid ((m10) % (d) = r2) := Lib.hid (by rw [← HR2.out, rmd_succ, HR.out, HM10.out])
            have su6 : tw (r2) ≤ 901 := by have e := HZ6.out; first | omega | (rw [← e]; have := tw_mod (m10) (d); omega)
            refine kL fun K hK => ?_
            have HG0 : Hid (Gr wb wb) := Lib.hid (Gr.refl _)
            refine sq 9 [(true, 0), (false, 1), (false, 2), (true, 3), (false, 4), (true, 5), (true, 6), (true, 7), (true, 8)] fun T hT => ?_
            refine tk ?_
            refine wpPlan_callE rfl (by rfl) Tryz.call179 (by rfl) (fun w' hw => (rof_any 10 _ (by decide)).mono ?_)
            rintro e vv28 ⟨⟨rv4, rfl, bx28⟩, hg0⟩
            obtain ⟨ao4, nn4, cc4, rfl⟩ := Rn.sl bx28
            refine ⟨_, rfl, hg0, ?_⟩
            replace hg0 := Gr.trans hw hg0; clear hw
            replace HG0 := Lib.hid (HG0.out.trans hg0)
            have HGS := Lib.hid hg0; clear hg0
            clear HGS
            have RN28 := Lib.hid bx28; clear bx28
            simp only [Act.put, lA, lB, lC]
            refine wpPlan_callE rfl (by rfl) Tryz.call178 (by rfl) (fun w' hw => (zrmul _ _ (r) (10) (m10) _ HZ4.out (HF.out.r 1 rfl (HG0.out.trans hw)) (RN28.out.gr hw) (by omega) (by omega)).mono ?_)
            rintro e vv29 ⟨⟨rv5, rfl, bx29⟩, hg0⟩
            obtain ⟨ao5, nn5, cc5, rfl⟩ := Rn.sl bx29
            refine ⟨_, rfl, hg0, ?_⟩
            replace hg0 := Gr.trans hw hg0; clear hw
            replace HG0 := Lib.hid (HG0.out.trans hg0)
            have HGS := Lib.hid hg0; clear hg0
            replace RN28 := Lib.hid (RN28.out.gr HGS.out)
            clear HGS
            have RN29 := Lib.hid bx29; clear bx29
            simp only [Act.put, lA, lB, lC]
            refine tk ?_
            refine wpPlan_callE rfl (by rfl) Tryz.call176 (by rfl) (fun w' hw => (zrdiv _ _ (m10) (d) (qt) (r2) _ HZ5.out HZ6.out (RN29.out.gr hw) (HF.out.r 0 rfl (HG0.out.trans hw)) (by exact HDP.out) (by omega) (by omega)).mono ?_)
            rintro e vv30 ⟨⟨rv6, rv7, rfl, bx30, bx31⟩, hg0⟩
            obtain ⟨ao6, nn6, cc6, rfl⟩ := Rn.sl bx30
            obtain ⟨ao7, nn7, cc7, rfl⟩ := Rn.sl bx31
            refine ⟨_, rfl, hg0, ?_⟩
            replace hg0 := Gr.trans hw hg0; clear hw
            replace HG0 := Lib.hid (HG0.out.trans hg0)
            have HGS := Lib.hid hg0; clear hg0
            replace RN28 := Lib.hid (RN28.out.gr HGS.out)
            replace RN29 := Lib.hid (RN29.out.gr HGS.out)
            clear HGS
            have RN30 := Lib.hid bx30; clear bx30
            have RN31 := Lib.hid bx31; clear bx31
            simp only [Act.put, lA, lB, lC]
            iterate 4 refine tk ?_
            refine wpPlan_nil (hT.out _ _ ?_)
            intro vw3 hg
            replace HO := Lib.hid (own_gr HO.out (HG0.out.trans hg))
            simp only [puts, Act.put, lA, lB, lC, lD, lE, ↓reduceIte, Nat.reduceEqDiff]
            have HG := Lib.hid (((((HF.out.gr (HG0.out.trans hg)).ar (RN28.out.gr hg)).ar (RN29.out.gr hg)).ar (RN30.out.gr hg)).ar (RN31.out.gr hg))
            simp only [List.zip_cons_cons, List.zip_nil_right, List.map_cons, List.map_nil, lF, lG] at HG
            clear hT T HF hg HG0 RN28 RN29 RN30 RN31
            go_wp2
            refine hK.out _ _ ?_; clear hK K
            show Code.wp _ _ _ _ _
            have HF := HG; clear HG
            refine kL fun K hK => ?_
            go_wp2
            refine hK.out _ _ ?_; clear hK K
            try simp only [Exit.then, Exit.inBlock]
            refine hj0_ _ _ ?_
            go_roundg kk
            case measure => omega
            case rel => exact ⟨k + 1, r2, by go_num, by omega, HR2, HN2, Lib.hid (((((HF.out).er 4).er 3).er 2).er 1), Lib.hid (by rw [scs, HR.out, HS.out]; exact HO.out)⟩
          · obtain ⟨b9, o9, c9, hv, hb, hc⟩ := own_str HO.out (by omega)
            injection hv with hv1 _ hv3
            subst hv1 hv3
            obtain ⟨t, HTX⟩ : ∃ t, Hid (dtt (rmd (Int.natAbs ((a).num)) d i) = t) := ⟨_, Lib.hid rfl⟩
            have hcell : wa.cell? ⟨b9, o9 + i, none⟩ = some (.string t) := by rw [← HTX.out]; exact hc i (by omega)
            have HE0 : Hid (∀ w', Gr wa w' → w'.cell? ⟨b9, o9 + i, none⟩ = some (.string t)) := Lib.hid (fun w' hw => (Below.cell hw (p := ⟨b9, o9 + i, none⟩) hb).trans hcell)
            clear hc hb
            have hil : (i : Int) < (k : Int) := by omega
            have hiln : i < k := by omega
            have hwi : IntKind.i64.wrap ((i : Int) + 1) = (i : Int) + 1 := by rw [IntKind.wrap_i64]; omega
            by_cases hE : t = s ∧ k ≤ 100
            · have h0 : ¬ rmd (Int.natAbs ((a).num)) d k = 0 := fun e => HA.out ⟨HR.out.symm.trans e, hE.2⟩
              have h1 : rmd (Int.natAbs ((a).num)) d i = rmd (Int.natAbs ((a).num)) d k := by rw [HR.out]; exact dtt_inj (HTX.out.trans (hE.1.trans HS.out.symm))
              obtain ⟨rfl, rfl, rfl⟩ := cyc_out (cyc_end1 HDP.out HCO.out HN.out hE.2 hiln h0 h1) HC.out
              have hk7 : (k : Int) ≤ 100 := by omega
              have hws : IntKind.i64.wrap ((k : Int) - (i : Int)) = (k : Int) - (i : Int) := by rw [IntKind.wrap_i64]; omega
              have hts := hE.1.symm
              clear hE h0 h1 hcell
              subst hts
              refine wp_seq ?_
              refine kS fun K hK => ?_
              go_wp2
              refine hK.out _ _ ?_; clear hK K
              show Code.wp _ _ _ _ _
              refine wp_cond_true (by rfl) ?_
              refine wp_skip ?_
              show Code.wp _ _ _ _ _
              refine wp_seq ?_
              refine wp_block ?_
              have lx90_0 := HE0.out
              refine kS fun K hK => ?_
              refine sq 10 [(true, 0), (true, 1), (true, 2), (true, 3), (true, 4), (true, 5), (true, 6), (true, 7), (true, 8), (true, 9)] fun T hT => ?_
              iterate 10 refine tk ?_
              refine nlS hT HF fun vw3 HG => ?_
              clear hT T HF lx90_0
              go_wp2
              refine hK.out _ _ ?_; clear hK K
              show Code.wp _ _ _ _ _
              have HF := HG; clear HG
              refine wp_cond_true (by rfl) ?_
              refine kS fun K hK => ?_
              refine sq 7 [(true, 0), (true, 1), (true, 2), (true, 3), (true, 4), (true, 5), (true, 6)] fun T hT => ?_
              iterate 7 refine tk ?_
              refine nlS hT HF fun vw4 HG => ?_
              clear hT T HF
              go_wp2
              refine hK.out _ _ ?_; clear hK K
              show Code.wp _ _ _ _ _
              have HF := HG; clear HG
              refine wp_ret ?_
              try simp only [Exit.then, Exit.inBlock]
              exact bodyPost_ret (v := .tuple #[.int .i64 (((i : Nat) : Int)), .int .i64 ((k : Int) - (i : Int)), .int .i64 0]) (by simp [results, Tryz.results68, go_sem]) rfl ⟨rfl, HF.out.1⟩
            · have HNE2 : Hid (k ≤ 100 → ∀ i', i' < i + 1 → ¬ rmd (Int.natAbs ((a).num)) d i' = r) := Lib.hid (fun h i' hi' => by
                rcases Nat.lt_succ_iff_lt_or_eq.1 hi' with h1 | rfl
                · exact HNE.out h i' h1
                · intro e
                  exact hE ⟨by rw [← HTX.out, e, HS.out], h⟩)
              have HE := Lib.hid hE
              clear hE
              refine wp_seq ?_
              refine kS fun K hK => ?_
              go_wp2
              refine hK.out _ _ ?_; clear hK K
              show Code.wp _ _ _ _ _
              refine wp_cond_true (by rfl) ?_
              refine wp_skip ?_
              show Code.wp _ _ _ _ _
              refine wp_seq ?_
              refine wp_block ?_
              refine kS fun K hK => ?_
              refine nameA fun A9 HA9 => ?_
              suffices HJ : Hid (∀ (x42 x43 x44 x45 x46 x47 x48 x49 x50 : Value), K ((((((((((A9.put (some 42) x42).put (some 43) x43).put (some 44) x44).put (some 45) x45).put (some 46) x46).put (some 47) x47).put (some 48) x48).put (some 49) x49).put (some 50) x50).put (some 51) (.bool false)) wa) by
                have HJ2 := HJ.out; clear HJ; subst HA9; simp only [Act.put, lA, lB, lC] at HJ2; replace HJ2 := Lib.hid HJ2
                by_cases h9 : s = t
                · have hk7 : ¬ (k : Int) ≤ 100 := by have e9 := HE.out; intro h; exact e9 ⟨h9.symm, by omega⟩
                  subst h9
                  go_wp2
                  exact HJ2.out _ _ _ _ _ _ _ _ _
                · have hts2 : ¬ t.toList = s.toList := ba_tl (fun e => h9 e.symm)
                  clear h9
                  go_wp2
                  exact HJ2.out _ _ _ _ _ _ _ _ _
              refine Lib.hid ?_
              intro x42 x43 x44 x45 x46 x47 x48 x49 x50
              subst HA9; simp only [Act.put, lA, lB, lC]
              refine hK.out _ _ ?_; clear hK K
              show Code.wp _ _ _ _ _
              refine wp_cond_false (by rfl) ?_
              refine wp_skip ?_
              show Code.wp _ _ _ _ _
              refine kL fun K hK => ?_
              go_wp2
              refine hK.out _ _ ?_; clear hK K
              try simp only [Exit.then, Exit.inBlock]
              refine hb0_ _ _ ?_
              go_roundg k2
              case measure => omega
              case rel => exact ⟨i + 1, by go_num, by omega, HNE2, rfl⟩

theorem rcycle04 (a : Rat) (c1 c2 c3 : Int) (va1 va2 : Value) (w : World) (h : cyc (a).den = (c1, c2, c3)) (hs : rz a ≤ 900) (bx21 : Rn w va1 (Int.natAbs ((a).num))) (bx22 : Rn w va2 ((a).den - 1)) :
    Calls Tryz.prog 68 #[.agg #[.bool (decide ((a).num < 0)), va1, va2]] w fun e w' => e = .returned (.tuple #[.int .i64 c1, .int .i64 c2, .int .i64 c3]) ∧ Below w.heap.size w w' :=
  rcycle0 a _ _ c1 c2 c3 va1 va2 w (Lib.hid rfl) (Lib.hid a.den_pos) (Lib.hid a.reduced) (Lib.hid rfl) (Lib.hid h) hs (Nat.le_trans (rz_den a) hs) bx21 bx22

end Go.Proofs.YtobojnodohjiaaaGreatDoor
