
/- fracs.Max, fracs.Min of a slice. No condition but those stated. -/
import Derived.Test.YtgdibedgjndcoaaGreatDoorFs
import Derived.Test.YtgdibedgjndcoaaGreatDoorPV
import Derived.Deep.QuietTactic
namespace Go.Proofs.YtgdibedgjndcoaaGreatDoor
open Go.RowKit
set_option linter.unusedSimpArgs false
set_option linter.unusedVariables false
attribute [local go_sem ↓] Go.wp_at_zero Go.wp_at_succ
set_option maxRecDepth 20000 in
set_option maxHeartbeats 4000000 in
theorem min1_any (c : Int) (r : Bool) (w : World) (HR : Hid (decide (c < 0) = r)) :
    Calls Tryz.prog 96 #[.int .i64 (c)] w fun e w' => e = .returned ((.bool r)) ∧ Below w.heap.size w w' := by
  go_enter Tryz.func96, Tryz.ntmps96
  have HF := Lib.hid (hp0 w)
  -- region 0
  refine kS fun K hK => ?_
  refine wp_region_lit ?_
  go_wp2
  refine hK.out _ _ ?_; clear hK K
  show Code.wp _ _ _ _ _
  refine fH (HF.out) fun Wx0 HG => ?_
  clear HF; have HF := HG; clear HG
  -- region 1
  have hdr : decide (c < 0) = r := HR.out
  refine kS fun K hK => ?_
  refine sq 3 [(true, 0), (true, 1), (true, 2)] fun T hT => ?_
  iterate 3 refine tk ?_
  refine nlS hT HF fun vw1 HG => ?_
  clear hT T HF
  go_wp2
  refine hK.out _ _ ?_; clear hK K
  show Code.wp _ _ _ _ _
  have HF := HG; clear HG
  clear hdr
  refine wp_ret ?_
  try simp only [Exit.then, Exit.inBlock]
  exact bodyPost_ret (v := .bool (r)) (by simp [results, Tryz.results96, go_sem]) rfl ⟨rfl, HF.out.1⟩

theorem callsM {P : Program} {f : FuncId} {ar : Array Value} {Q : Ending → World → Prop} {w0 W : World} {L : List Fk} (h : HP w0 W L) (k : ∀ W', Hid (HP w0 W' L) → Calls P f ar W' Q) : Calls P f ar W Q := k W (Lib.hid h)
theorem bst_first (t : Int → Bool) (f : Nat → Rat) (i : Nat) (h : i = 0) : bst t f (i + 1) = f i := by subst h; rfl
theorem bst_next (t : Int → Bool) (f : Nat → Rat) (i : Nat) (h : ¬ i = 0) : bst t f (i + 1) = if t (sgQ (f i - bst t f i)) then f i else bst t f i := by rw [bst, if_neg h]
set_option maxHeartbeats 4000000 in
set_option maxRecDepth 100000 in
theorem choice_max (n : Nat) (f : Nat → Rat) (v : Value) (w : World) (h : Fs w v n f) (hn : n ≤ 1000000) (hs : ∀ i, i < n → sz (f i) ≤ 1000) :
    Calls Tryz.prog 95 #[.agg #[.func (.func 94) #[] #[]], v] w fun e w' => e = .returned (Value.agg #[.int .u64 ((lo (Int.natAbs ((bst (fun c => decide (0 < c)) f n).num)) : Nat) : Int), .string (bg (Int.natAbs ((bst (fun c => decide (0 < c)) f n).num))), .bool (decide (((bst (fun c => decide (0 < c)) f n).num) < 0)), .int .u64 ((lo ((bst (fun c => decide (0 < c)) f n).den - 1) : Nat) : Int), .string (bg ((bst (fun c => decide (0 < c)) f n).den - 1))]) ∧ Below w.heap.size w w' := by
  obtain ⟨ao, c, rfl⟩ := h.slice
  have HS := Lib.hid hs
  have HX := Lib.hid h
  clear hs h
  obtain ⟨W0, HW⟩ : ∃ W0, Hid ((w.alloc (.cells #[.func (.func 94) #[] #[]] 140)).alloc (.cells #[.int .u64 0, .string ⟨#[]⟩, .bool false, .int .u64 0, .string ⟨#[]⟩] 36) = W0) := ⟨_, Lib.hid rfl⟩
  obtain ⟨gx1, hgx⟩ : ∃ g, w.heap.size + 1 = g := ⟨_, rfl⟩
  have HF0 : Hid (HP w W0 [Sum.inl (w.heap.size, 140, #[.func (.func 94) #[] #[]]), Sum.inl (gx1, 36, #[.int .u64 ((lo (Int.natAbs ((bst (fun c => decide (0 < c)) f 0).num)) : Nat) : Int), .string (bg (Int.natAbs ((bst (fun c => decide (0 < c)) f 0).num))), .bool (decide (((bst (fun c => decide (0 < c)) f 0).num) < 0)), .int .u64 ((lo ((bst (fun c => decide (0 < c)) f 0).den - 1) : Nat) : Int), .string (bg ((bst (fun c => decide (0 < c)) f 0).den - 1))])]) := Lib.hid (by rw [← HW.out, ← hgx]; exact ((hp0 w).al rfl (by decide)).al (by simp) (by decide))
  go_enter Tryz.func95, Tryz.ntmps95
  go_wp2_with fail
  rw [HW.out]
  try rw [hgx]
  clear hgx
  go_loopg [9] n (fun k iv wr => ∃ i : Nat, iv = .int .i64 (i : Int) ∧ i + k = n ∧ Hid (HP w wr [Sum.inl (w.heap.size, 140, #[.func (.func 94) #[] #[]]), Sum.inl (gx1, 36, #[.int .u64 ((lo (Int.natAbs ((bst (fun c => decide (0 < c)) f i).num)) : Nat) : Int), .string (bg (Int.natAbs ((bst (fun c => decide (0 < c)) f i).num))), .bool (decide (((bst (fun c => decide (0 < c)) f i).num) < 0)), .int .u64 ((lo ((bst (fun c => decide (0 < c)) f i).den - 1) : Nat) : Int), .string (bg ((bst (fun c => decide (0 < c)) f i).den - 1))])]))
  case atStart => exact ⟨0, rfl, by omega, HF0⟩
  case round =>
    rename_i K1 hK1 J_ K_ h1_ h0_
    obtain ⟨i, rfl, hik, HF⟩ := hrel
    clear HF0 HW
    by_cases h0 : gk = 0
    · subst h0
      obtain rfl : n = i := by omega
      clear HX HS
      -- region 2
      have hlt9 : ¬ (n : Int) < (n : Int) := by omega
      refine kS fun K hK => ?_
      refine sq 1 [(true, 0)] fun T hT => ?_
      refine tk ?_
      refine nlS hT HF fun vw1 HG => ?_
      clear hT T HF
      go_wp2
      refine hK.out _ _ ?_; clear hK K
      show Code.wp _ _ _ _ _
      have HF := HG; clear HG
      clear hlt9
      refine wp_seq ?_
      refine wp_cond_false (by rfl) ?_
      refine wp_exit ?_
      try simp only [Exit.then, Exit.inBlock]
      refine hK1 _ _ ?_
      show Code.wp _ _ _ _ _
      -- region 7
      have lx1 := HF.out.c 1 rfl
      refine kS fun K hK => ?_
      refine sq 1 [(true, 0)] fun T hT => ?_
      refine tk ?_
      refine nlS hT HF fun vw2 HG => ?_
      clear hT T HF lx1
      have lx1 := HG.out.c 1 rfl; have fx1 := HG.out.f 1 rfl
      have r0 := Gr.refl vw2
      go_wp2
      refine hK.out _ _ ?_; clear hK K
      show Code.wp _ _ _ _ _
      clear r0 lx1 fx1
      refine fH (((((HG.out).put2 1 0 rfl).put2 1 2 rfl).put 1 4 _ rfl).er 0) fun Wx7 HF => ?_
      clear HG
      refine wp_ret ?_
      try simp only [Exit.then, Exit.inBlock]
      have lx1 := HF.out.c 0 rfl
      have r0 := Gr.refl Wx7
      exact bodyPost_ret (v := .agg #[.int .u64 ((lo (Int.natAbs ((bst (fun c => decide (0 < c)) f n).num)) : Nat) : Int), .string (bg (Int.natAbs ((bst (fun c => decide (0 < c)) f n).num))), .bool (decide (((bst (fun c => decide (0 < c)) f n).num) < 0)), .int .u64 ((lo ((bst (fun c => decide (0 < c)) f n).den - 1) : Nat) : Int), .string (bg ((bst (fun c => decide (0 < c)) f n).den - 1))]) (by simp [results, Tryz.results95, go_sem, lx1 _ r0]) rfl ⟨rfl, HF.out.1⟩
    · obtain ⟨k, rfl⟩ : ∃ k, gk = k + 1 := ⟨gk - 1, by omega⟩
      have hin : i < n := by omega
      rcases HX.out with ⟨_, _, _, hz⟩ | ⟨b, o, c', hv, hb, hc⟩
      · omega
      injection hv with hv1 _ hv3
      subst hv1 hv3
      obtain ⟨q, HQ⟩ : ∃ q, Hid (f i = q) := ⟨_, Lib.hid rfl⟩
      obtain ⟨p, HPP⟩ : ∃ p, Hid (bst (fun c => decide (0 < c)) f i = p) := ⟨_, Lib.hid rfl⟩
      have hsq : sz q ≤ 1000 := by rw [← HQ.out]; exact HS.out i hin
      have hsp : sz p ≤ 1000 := by rw [← HPP.out]; exact sz_bst _ f n 1000 (by decide) HS.out i (by omega)
      have HC9 : Hid (∀ w', Gr w w' → ∀ j, j < 5 → w'.cell? ⟨b, o + i * 5 + j, none⟩ = (fcl q)[j]?) := Lib.hid (fun w' hw j hj => (Below.cell hw (p := ⟨b, o + i * 5 + j, none⟩) hb).trans (by rw [← HQ.out]; exact hc i hin j hj))
      have HE0 : Hid (∀ w', Gr w w' → w'.cell? ⟨b, o + i * 5, none⟩ = some (.int .u64 ((lo (Int.natAbs ((q).num)) : Nat) : Int))) := Lib.hid (fun w' hw => HC9.out w' hw 0 (by decide))
      have HE1 : Hid (∀ w', Gr w w' → w'.cell? ⟨b, o + i * 5 + 1, none⟩ = some (.string (bg (Int.natAbs ((q).num))))) := Lib.hid (fun w' hw => HC9.out w' hw 1 (by decide))
      have HE2 : Hid (∀ w', Gr w w' → w'.cell? ⟨b, o + i * 5 + 2, none⟩ = some (.bool (decide ((q).num < 0)))) := Lib.hid (fun w' hw => HC9.out w' hw 2 (by decide))
      have HE3 : Hid (∀ w', Gr w w' → w'.cell? ⟨b, o + i * 5 + 3, none⟩ = some (.int .u64 ((lo ((q).den - 1) : Nat) : Int))) := Lib.hid (fun w' hw => HC9.out w' hw 3 (by decide))
      have HE4 : Hid (∀ w', Gr w w' → w'.cell? ⟨b, o + i * 5 + 4, none⟩ = some (.string (bg ((q).den - 1)))) := Lib.hid (fun w' hw => HC9.out w' hw 4 (by decide))
      rw [HPP.out] at HF
      clear HC9 hc hb HX
      by_cases hi0 : i = 0
      · have HI := Lib.hid hi0
        clear hi0
        -- region 2
        have hlt9 : (i : Int) < (n : Int) := by omega
        refine kS fun K hK => ?_
        refine sq 1 [(true, 0)] fun T hT => ?_
        refine tk ?_
        refine nlS hT HF fun vw1 HG => ?_
        clear hT T HF
        go_wp2
        refine hK.out _ _ ?_; clear hK K
        show Code.wp _ _ _ _ _
        have HF := HG; clear HG
        clear hlt9
        refine wp_seq ?_
        refine wp_cond_true (by rfl) ?_
        refine wp_skip ?_
        show Code.wp _ _ _ _ _
        refine wp_seq ?_
        refine wp_block ?_
        -- region 3
        have lx9_0 := fun w' (h : Gr _ w') => HE0.out w' (Gr.trans HF.out.1 h)
        have lx9_1 := fun w' (h : Gr _ w') => HE1.out w' (Gr.trans HF.out.1 h)
        have lx9_2 := fun w' (h : Gr _ w') => HE2.out w' (Gr.trans HF.out.1 h)
        have lx9_3 := fun w' (h : Gr _ w') => HE3.out w' (Gr.trans HF.out.1 h)
        have lx9_4 := fun w' (h : Gr _ w') => HE4.out w' (Gr.trans HF.out.1 h)
        refine kS fun K hK => ?_
        refine sq 3 [(true, 0), (true, 1), (true, 2)] fun T hT => ?_
        iterate 3 refine tk ?_
        refine nlS hT HF fun vw2 HG => ?_
        clear hT T HF lx9_0 lx9_1 lx9_2 lx9_3 lx9_4
        go_wp2
        refine hK.out _ _ ?_; clear hK K
        show Code.wp _ _ _ _ _
        refine fH ((HG.out).al (b := vw2.heap.size) (by first | rfl | simp) (by decide)) fun Wx3 HF => ?_
        clear HG
        generalize vw2.heap.size = gx11 at *
        -- region 4
        have hi0 : ((i : Int) == 0) = true := by have h9 := HI.out; simp [h9]
        have lx1 := HF.out.c 1 rfl
        have lx11 := HF.out.c 2 rfl
        refine kS fun K hK => ?_
        refine pd 9 [(true, 0), (true, 1), (true, 2), (true, 3), (true, 4), (true, 5), (true, 6), (true, 7), (true, 8)] fun T hT => ?_
        iterate 3 refine tk ?_
        iterate 6 refine sk ?_
        refine nlD hT HF fun vw3 HG => ?_
        clear hT T HF lx1 lx11
        go_wp2
        refine hK.out _ _ ?_; clear hK K
        show Code.wp _ _ _ _ _
        have HF := HG; clear HG
        clear hi0
        refine wp_cond_true (by rfl) ?_
        -- region 5
        have lx11 := HF.out.c 2 rfl
        refine kL fun K hK => ?_
        refine sq 1 [(true, 0)] fun T hT => ?_
        refine tk ?_
        refine nlS hT HF fun vw4 HG => ?_
        clear hT T HF lx11
        have lx1 := HG.out.c 1 rfl; have fx1 := HG.out.f 1 rfl
        have r0 := Gr.refl vw4
        go_wp2
        refine hK.out _ _ ?_; clear hK K
        show Code.wp _ _ _ _ _
        clear r0 lx1 fx1
        refine fH ((((HG.out).put2 1 0 rfl).put2 1 2 rfl).put 1 4 _ rfl) fun Wx5 HF => ?_
        clear HG
        -- region 6
        have hwi : IntKind.i64.wrap ((i : Int) + 1) = (i : Int) + 1 := by rw [IntKind.wrap_i64]; omega
        refine kL fun K hK => ?_
        refine sq 2 [(true, 0), (true, 1)] fun T hT => ?_
        iterate 2 refine tk ?_
        refine nlS hT HF fun vw5 HG => ?_
        clear hT T HF
        go_wp2
        refine hK.out _ _ ?_; clear hK K
        try simp only [Exit.then, Exit.inBlock]
        have HF := HG; clear HG
        clear hwi
        refine h0_ _ _ ?_
        go_roundg k
        case measure => omega
        case rel => exact ⟨i + 1, by go_num, by omega, by rw [bst_first _ f i HI.out, HQ.out]; exact Lib.hid (HF.out.er 2)⟩
      · have HI := Lib.hid hi0
        clear hi0
        obtain ⟨cm, HCM⟩ : ∃ cm, Hid (sgQ (q - p) = cm) := ⟨_, Lib.hid rfl⟩
        by_cases hr : 0 < cm
        · have HR := Lib.hid (decide_eq_true hr)
          clear hr
          -- region 2
          have hlt9 : (i : Int) < (n : Int) := by omega
          refine kS fun K hK => ?_
          refine sq 1 [(true, 0)] fun T hT => ?_
          refine tk ?_
          refine nlS hT HF fun vw1 HG => ?_
          clear hT T HF
          go_wp2
          refine hK.out _ _ ?_; clear hK K
          show Code.wp _ _ _ _ _
          have HF := HG; clear HG
          clear hlt9
          refine wp_seq ?_
          refine wp_cond_true (by rfl) ?_
          refine wp_skip ?_
          show Code.wp _ _ _ _ _
          refine wp_seq ?_
          refine wp_block ?_
          -- region 3
          have lx9_0 := fun w' (h : Gr _ w') => HE0.out w' (Gr.trans HF.out.1 h)
          have lx9_1 := fun w' (h : Gr _ w') => HE1.out w' (Gr.trans HF.out.1 h)
          have lx9_2 := fun w' (h : Gr _ w') => HE2.out w' (Gr.trans HF.out.1 h)
          have lx9_3 := fun w' (h : Gr _ w') => HE3.out w' (Gr.trans HF.out.1 h)
          have lx9_4 := fun w' (h : Gr _ w') => HE4.out w' (Gr.trans HF.out.1 h)
          refine kS fun K hK => ?_
          refine sq 3 [(true, 0), (true, 1), (true, 2)] fun T hT => ?_
          iterate 3 refine tk ?_
          refine nlS hT HF fun vw2 HG => ?_
          clear hT T HF lx9_0 lx9_1 lx9_2 lx9_3 lx9_4
          go_wp2
          refine hK.out _ _ ?_; clear hK K
          show Code.wp _ _ _ _ _
          refine fH ((HG.out).al (b := vw2.heap.size) (by first | rfl | simp) (by decide)) fun Wx3 HF => ?_
          clear HG
          generalize vw2.heap.size = gx11 at *
          -- region 4
          have hi0 : ((i : Int) == 0) = false := by have h9 : ¬ ((i : Int) = 0) := (by have h8 := HI.out; omega); simpa using h9
          have lx0 := HF.out.c 0 rfl
          have lx1 := HF.out.c 1 rfl
          have lx11 := HF.out.c 2 rfl
          refine kS fun K hK => ?_
          refine pd 9 [(true, 0), (true, 1), (true, 2), (true, 3), (true, 4), (true, 5), (true, 6), (true, 7), (true, 8)] fun T hT => ?_
          iterate 7 refine tk ?_
          refine ck Tryz.call26 (fun w' hw => fcmp_any (q) (p) (cm) _ (HCM.out) om om) ?_
          refine wpPlan_callV rfl (by rfl) (by rfl) Tryz.call94 (fun w' hw => max1_any (cm) true _ (HR)) (by rfl) ?_
          simp only [Act.put, lA, lB, lC]
          refine nlD hT HF fun vw3 HG => ?_
          clear hT T HF lx0 lx1 lx11
          go_wp2
          refine hK.out _ _ ?_; clear hK K
          show Code.wp _ _ _ _ _
          have HF := HG; clear HG
          clear hi0
          refine wp_cond_true (by rfl) ?_
          -- region 5
          have lx11 := HF.out.c 2 rfl
          refine kL fun K hK => ?_
          refine sq 1 [(true, 0)] fun T hT => ?_
          refine tk ?_
          refine nlS hT HF fun vw4 HG => ?_
          clear hT T HF lx11
          have lx1 := HG.out.c 1 rfl; have fx1 := HG.out.f 1 rfl
          have r0 := Gr.refl vw4
          go_wp2
          refine hK.out _ _ ?_; clear hK K
          show Code.wp _ _ _ _ _
          clear r0 lx1 fx1
          refine fH ((((HG.out).put2 1 0 rfl).put2 1 2 rfl).put 1 4 _ rfl) fun Wx5 HF => ?_
          clear HG
          -- region 6
          have hwi : IntKind.i64.wrap ((i : Int) + 1) = (i : Int) + 1 := by rw [IntKind.wrap_i64]; omega
          refine kL fun K hK => ?_
          refine sq 2 [(true, 0), (true, 1)] fun T hT => ?_
          iterate 2 refine tk ?_
          refine nlS hT HF fun vw5 HG => ?_
          clear hT T HF
          go_wp2
          refine hK.out _ _ ?_; clear hK K
          try simp only [Exit.then, Exit.inBlock]
          have HF := HG; clear HG
          clear hwi
          refine h0_ _ _ ?_
          go_roundg k
          case measure => omega
          case rel => exact ⟨i + 1, by go_num, by omega, by rw [bst_next _ f i HI.out, HPP.out, HQ.out, HCM.out, HR.out, if_pos rfl]; exact Lib.hid (HF.out.er 2)⟩
        · have HR := Lib.hid (decide_eq_false hr)
          clear hr
          -- region 2
          have hlt9 : (i : Int) < (n : Int) := by omega
          refine kS fun K hK => ?_
          refine sq 1 [(true, 0)] fun T hT => ?_
          refine tk ?_
          refine nlS hT HF fun vw1 HG => ?_
          clear hT T HF
          go_wp2
          refine hK.out _ _ ?_; clear hK K
          show Code.wp _ _ _ _ _
          have HF := HG; clear HG
          clear hlt9
          refine wp_seq ?_
          refine wp_cond_true (by rfl) ?_
          refine wp_skip ?_
          show Code.wp _ _ _ _ _
          refine wp_seq ?_
          refine wp_block ?_
          -- region 3
          have lx9_0 := fun w' (h : Gr _ w') => HE0.out w' (Gr.trans HF.out.1 h)
          have lx9_1 := fun w' (h : Gr _ w') => HE1.out w' (Gr.trans HF.out.1 h)
          have lx9_2 := fun w' (h : Gr _ w') => HE2.out w' (Gr.trans HF.out.1 h)
          have lx9_3 := fun w' (h : Gr _ w') => HE3.out w' (Gr.trans HF.out.1 h)
          have lx9_4 := fun w' (h : Gr _ w') => HE4.out w' (Gr.trans HF.out.1 h)
          refine kS fun K hK => ?_
          refine sq 3 [(true, 0), (true, 1), (true, 2)] fun T hT => ?_
          iterate 3 refine tk ?_
          refine nlS hT HF fun vw2 HG => ?_
          clear hT T HF lx9_0 lx9_1 lx9_2 lx9_3 lx9_4
          go_wp2
          refine hK.out _ _ ?_; clear hK K
          show Code.wp _ _ _ _ _
          refine fH ((HG.out).al (b := vw2.heap.size) (by first | rfl | simp) (by decide)) fun Wx3 HF => ?_
          clear HG
          generalize vw2.heap.size = gx11 at *
          -- region 4
          have hi0 : ((i : Int) == 0) = false := by have h9 : ¬ ((i : Int) = 0) := (by have h8 := HI.out; omega); simpa using h9
          have lx0 := HF.out.c 0 rfl
          have lx1 := HF.out.c 1 rfl
          have lx11 := HF.out.c 2 rfl
          refine kS fun K hK => ?_
          refine pd 9 [(true, 0), (true, 1), (true, 2), (true, 3), (true, 4), (true, 5), (true, 6), (true, 7), (true, 8)] fun T hT => ?_
          iterate 7 refine tk ?_
          refine ck Tryz.call26 (fun w' hw => fcmp_any (q) (p) (cm) _ (HCM.out) om om) ?_
          refine wpPlan_callV rfl (by rfl) (by rfl) Tryz.call94 (fun w' hw => max1_any (cm) false _ (HR)) (by rfl) ?_
          simp only [Act.put, lA, lB, lC]
          refine nlD hT HF fun vw3 HG => ?_
          clear hT T HF lx0 lx1 lx11
          go_wp2
          refine hK.out _ _ ?_; clear hK K
          show Code.wp _ _ _ _ _
          have HF := HG; clear HG
          clear hi0
          refine wp_cond_false (by rfl) ?_
          refine wp_skip ?_
          show Code.wp _ _ _ _ _
          -- region 6
          have hwi : IntKind.i64.wrap ((i : Int) + 1) = (i : Int) + 1 := by rw [IntKind.wrap_i64]; omega
          refine kL fun K hK => ?_
          refine sq 2 [(true, 0), (true, 1)] fun T hT => ?_
          iterate 2 refine tk ?_
          refine nlS hT HF fun vw4 HG => ?_
          clear hT T HF
          go_wp2
          refine hK.out _ _ ?_; clear hK K
          try simp only [Exit.then, Exit.inBlock]
          have HF := HG; clear HG
          clear hwi
          refine h0_ _ _ ?_
          go_roundg k
          case measure => omega
          case rel => exact ⟨i + 1, by go_num, by omega, by rw [bst_next _ f i HI.out, HPP.out, HQ.out, HCM.out, HR.out, if_neg (by decide)]; exact Lib.hid (HF.out.er 2)⟩
set_option maxHeartbeats 4000000 in
set_option maxRecDepth 100000 in
theorem choice_min (n : Nat) (f : Nat → Rat) (v : Value) (w : World) (h : Fs w v n f) (hn : n ≤ 1000000) (hs : ∀ i, i < n → sz (f i) ≤ 1000) :
    Calls Tryz.prog 95 #[.agg #[.func (.func 96) #[] #[]], v] w fun e w' => e = .returned (Value.agg #[.int .u64 ((lo (Int.natAbs ((bst (fun c => decide (c < 0)) f n).num)) : Nat) : Int), .string (bg (Int.natAbs ((bst (fun c => decide (c < 0)) f n).num))), .bool (decide (((bst (fun c => decide (c < 0)) f n).num) < 0)), .int .u64 ((lo ((bst (fun c => decide (c < 0)) f n).den - 1) : Nat) : Int), .string (bg ((bst (fun c => decide (c < 0)) f n).den - 1))]) ∧ Below w.heap.size w w' := by
  obtain ⟨ao, c, rfl⟩ := h.slice
  have HS := Lib.hid hs
  have HX := Lib.hid h
  clear hs h
  obtain ⟨W0, HW⟩ : ∃ W0, Hid ((w.alloc (.cells #[.func (.func 96) #[] #[]] 140)).alloc (.cells #[.int .u64 0, .string ⟨#[]⟩, .bool false, .int .u64 0, .string ⟨#[]⟩] 36) = W0) := ⟨_, Lib.hid rfl⟩
  obtain ⟨gx1, hgx⟩ : ∃ g, w.heap.size + 1 = g := ⟨_, rfl⟩
  have HF0 : Hid (HP w W0 [Sum.inl (w.heap.size, 140, #[.func (.func 96) #[] #[]]), Sum.inl (gx1, 36, #[.int .u64 ((lo (Int.natAbs ((bst (fun c => decide (c < 0)) f 0).num)) : Nat) : Int), .string (bg (Int.natAbs ((bst (fun c => decide (c < 0)) f 0).num))), .bool (decide (((bst (fun c => decide (c < 0)) f 0).num) < 0)), .int .u64 ((lo ((bst (fun c => decide (c < 0)) f 0).den - 1) : Nat) : Int), .string (bg ((bst (fun c => decide (c < 0)) f 0).den - 1))])]) := Lib.hid (by rw [← HW.out, ← hgx]; exact ((hp0 w).al rfl (by decide)).al (by simp) (by decide))
  go_enter Tryz.func95, Tryz.ntmps95
  go_wp2_with fail
  rw [HW.out]
  try rw [hgx]
  clear hgx
  go_loopg [9] n (fun k iv wr => ∃ i : Nat, iv = .int .i64 (i : Int) ∧ i + k = n ∧ Hid (HP w wr [Sum.inl (w.heap.size, 140, #[.func (.func 96) #[] #[]]), Sum.inl (gx1, 36, #[.int .u64 ((lo (Int.natAbs ((bst (fun c => decide (c < 0)) f i).num)) : Nat) : Int), .string (bg (Int.natAbs ((bst (fun c => decide (c < 0)) f i).num))), .bool (decide (((bst (fun c => decide (c < 0)) f i).num) < 0)), .int .u64 ((lo ((bst (fun c => decide (c < 0)) f i).den - 1) : Nat) : Int), .string (bg ((bst (fun c => decide (c < 0)) f i).den - 1))])]))
  case atStart => exact ⟨0, rfl, by omega, HF0⟩
  case round =>
    rename_i K1 hK1 J_ K_ h1_ h0_
    obtain ⟨i, rfl, hik, HF⟩ := hrel
    clear HF0 HW
    by_cases h0 : gk = 0
    · subst h0
      obtain rfl : n = i := by omega
      clear HX HS
      -- region 2
      have hlt9 : ¬ (n : Int) < (n : Int) := by omega
      refine kS fun K hK => ?_
      refine sq 1 [(true, 0)] fun T hT => ?_
      refine tk ?_
      refine nlS hT HF fun vw1 HG => ?_
      clear hT T HF
      go_wp2
      refine hK.out _ _ ?_; clear hK K
      show Code.wp _ _ _ _ _
      have HF := HG; clear HG
      clear hlt9
      refine wp_seq ?_
      refine wp_cond_false (by rfl) ?_
      refine wp_exit ?_
      try simp only [Exit.then, Exit.inBlock]
      refine hK1 _ _ ?_
      show Code.wp _ _ _ _ _
      -- region 7
      have lx1 := HF.out.c 1 rfl
      refine kS fun K hK => ?_
      refine sq 1 [(true, 0)] fun T hT => ?_
      refine tk ?_
      refine nlS hT HF fun vw2 HG => ?_
      clear hT T HF lx1
      have lx1 := HG.out.c 1 rfl; have fx1 := HG.out.f 1 rfl
      have r0 := Gr.refl vw2
      go_wp2
      refine hK.out _ _ ?_; clear hK K
      show Code.wp _ _ _ _ _
      clear r0 lx1 fx1
      refine fH (((((HG.out).put2 1 0 rfl).put2 1 2 rfl).put 1 4 _ rfl).er 0) fun Wx7 HF => ?_
      clear HG
      refine wp_ret ?_
      try simp only [Exit.then, Exit.inBlock]
      have lx1 := HF.out.c 0 rfl
      have r0 := Gr.refl Wx7
      exact bodyPost_ret (v := .agg #[.int .u64 ((lo (Int.natAbs ((bst (fun c => decide (c < 0)) f n).num)) : Nat) : Int), .string (bg (Int.natAbs ((bst (fun c => decide (c < 0)) f n).num))), .bool (decide (((bst (fun c => decide (c < 0)) f n).num) < 0)), .int .u64 ((lo ((bst (fun c => decide (c < 0)) f n).den - 1) : Nat) : Int), .string (bg ((bst (fun c => decide (c < 0)) f n).den - 1))]) (by simp [results, Tryz.results95, go_sem, lx1 _ r0]) rfl ⟨rfl, HF.out.1⟩
    · obtain ⟨k, rfl⟩ : ∃ k, gk = k + 1 := ⟨gk - 1, by omega⟩
      have hin : i < n := by omega
      rcases HX.out with ⟨_, _, _, hz⟩ | ⟨b, o, c', hv, hb, hc⟩
      · omega
      injection hv with hv1 _ hv3
      subst hv1 hv3
      obtain ⟨q, HQ⟩ : ∃ q, Hid (f i = q) := ⟨_, Lib.hid rfl⟩
      obtain ⟨p, HPP⟩ : ∃ p, Hid (bst (fun c => decide (c < 0)) f i = p) := ⟨_, Lib.hid rfl⟩
      have hsq : sz q ≤ 1000 := by rw [← HQ.out]; exact HS.out i hin
      have hsp : sz p ≤ 1000 := by rw [← HPP.out]; exact sz_bst _ f n 1000 (by decide) HS.out i (by omega)
      have HC9 : Hid (∀ w', Gr w w' → ∀ j, j < 5 → w'.cell? ⟨b, o + i * 5 + j, none⟩ = (fcl q)[j]?) := Lib.hid (fun w' hw j hj => (Below.cell hw (p := ⟨b, o + i * 5 + j, none⟩) hb).trans (by rw [← HQ.out]; exact hc i hin j hj))
      have HE0 : Hid (∀ w', Gr w w' → w'.cell? ⟨b, o + i * 5, none⟩ = some (.int .u64 ((lo (Int.natAbs ((q).num)) : Nat) : Int))) := Lib.hid (fun w' hw => HC9.out w' hw 0 (by decide))
      have HE1 : Hid (∀ w', Gr w w' → w'.cell? ⟨b, o + i * 5 + 1, none⟩ = some (.string (bg (Int.natAbs ((q).num))))) := Lib.hid (fun w' hw => HC9.out w' hw 1 (by decide))
      have HE2 : Hid (∀ w', Gr w w' → w'.cell? ⟨b, o + i * 5 + 2, none⟩ = some (.bool (decide ((q).num < 0)))) := Lib.hid (fun w' hw => HC9.out w' hw 2 (by decide))
      have HE3 : Hid (∀ w', Gr w w' → w'.cell? ⟨b, o + i * 5 + 3, none⟩ = some (.int .u64 ((lo ((q).den - 1) : Nat) : Int))) := Lib.hid (fun w' hw => HC9.out w' hw 3 (by decide))
      have HE4 : Hid (∀ w', Gr w w' → w'.cell? ⟨b, o + i * 5 + 4, none⟩ = some (.string (bg ((q).den - 1)))) := Lib.hid (fun w' hw => HC9.out w' hw 4 (by decide))
      rw [HPP.out] at HF
      clear HC9 hc hb HX
      by_cases hi0 : i = 0
      · have HI := Lib.hid hi0
        clear hi0
        -- region 2
        have hlt9 : (i : Int) < (n : Int) := by omega
        refine kS fun K hK => ?_
        refine sq 1 [(true, 0)] fun T hT => ?_
        refine tk ?_
        refine nlS hT HF fun vw1 HG => ?_
        clear hT T HF
        go_wp2
        refine hK.out _ _ ?_; clear hK K
        show Code.wp _ _ _ _ _
        have HF := HG; clear HG
        clear hlt9
        refine wp_seq ?_
        refine wp_cond_true (by rfl) ?_
        refine wp_skip ?_
        show Code.wp _ _ _ _ _
        refine wp_seq ?_
        refine wp_block ?_
        -- region 3
        have lx9_0 := fun w' (h : Gr _ w') => HE0.out w' (Gr.trans HF.out.1 h)
        have lx9_1 := fun w' (h : Gr _ w') => HE1.out w' (Gr.trans HF.out.1 h)
        have lx9_2 := fun w' (h : Gr _ w') => HE2.out w' (Gr.trans HF.out.1 h)
        have lx9_3 := fun w' (h : Gr _ w') => HE3.out w' (Gr.trans HF.out.1 h)
        have lx9_4 := fun w' (h : Gr _ w') => HE4.out w' (Gr.trans HF.out.1 h)
        refine kS fun K hK => ?_
        refine sq 3 [(true, 0), (true, 1), (true, 2)] fun T hT => ?_
        iterate 3 refine tk ?_
        refine nlS hT HF fun vw2 HG => ?_
        clear hT T HF lx9_0 lx9_1 lx9_2 lx9_3 lx9_4
        go_wp2
        refine hK.out _ _ ?_; clear hK K
        show Code.wp _ _ _ _ _
        refine fH ((HG.out).al (b := vw2.heap.size) (by first | rfl | simp) (by decide)) fun Wx3 HF => ?_
        clear HG
        generalize vw2.heap.size = gx11 at *
        -- region 4
        have hi0 : ((i : Int) == 0) = true := by have h9 := HI.out; simp [h9]
        have lx1 := HF.out.c 1 rfl
        have lx11 := HF.out.c 2 rfl
        refine kS fun K hK => ?_
        refine pd 9 [(true, 0), (true, 1), (true, 2), (true, 3), (true, 4), (true, 5), (true, 6), (true, 7), (true, 8)] fun T hT => ?_
        iterate 3 refine tk ?_
        iterate 6 refine sk ?_
        refine nlD hT HF fun vw3 HG => ?_
        clear hT T HF lx1 lx11
        go_wp2
        refine hK.out _ _ ?_; clear hK K
        show Code.wp _ _ _ _ _
        have HF := HG; clear HG
        clear hi0
        refine wp_cond_true (by rfl) ?_
        -- region 5
        have lx11 := HF.out.c 2 rfl
        refine kL fun K hK => ?_
        refine sq 1 [(true, 0)] fun T hT => ?_
        refine tk ?_
        refine nlS hT HF fun vw4 HG => ?_
        clear hT T HF lx11
        have lx1 := HG.out.c 1 rfl; have fx1 := HG.out.f 1 rfl
        have r0 := Gr.refl vw4
        go_wp2
        refine hK.out _ _ ?_; clear hK K
        show Code.wp _ _ _ _ _
        clear r0 lx1 fx1
        refine fH ((((HG.out).put2 1 0 rfl).put2 1 2 rfl).put 1 4 _ rfl) fun Wx5 HF => ?_
        clear HG
        -- region 6
        have hwi : IntKind.i64.wrap ((i : Int) + 1) = (i : Int) + 1 := by rw [IntKind.wrap_i64]; omega
        refine kL fun K hK => ?_
        refine sq 2 [(true, 0), (true, 1)] fun T hT => ?_
        iterate 2 refine tk ?_
        refine nlS hT HF fun vw5 HG => ?_
        clear hT T HF
        go_wp2
        refine hK.out _ _ ?_; clear hK K
        try simp only [Exit.then, Exit.inBlock]
        have HF := HG; clear HG
        clear hwi
        refine h0_ _ _ ?_
        go_roundg k
        case measure => omega
        case rel => exact ⟨i + 1, by go_num, by omega, by rw [bst_first _ f i HI.out, HQ.out]; exact Lib.hid (HF.out.er 2)⟩
      · have HI := Lib.hid hi0
        clear hi0
        obtain ⟨cm, HCM⟩ : ∃ cm, Hid (sgQ (q - p) = cm) := ⟨_, Lib.hid rfl⟩
        by_cases hr : cm < 0
        · have HR := Lib.hid (decide_eq_true hr)
          clear hr
          -- region 2
          have hlt9 : (i : Int) < (n : Int) := by omega
          refine kS fun K hK => ?_
          refine sq 1 [(true, 0)] fun T hT => ?_
          refine tk ?_
          refine nlS hT HF fun vw1 HG => ?_
          clear hT T HF
          go_wp2
          refine hK.out _ _ ?_; clear hK K
          show Code.wp _ _ _ _ _
          have HF := HG; clear HG
          clear hlt9
          refine wp_seq ?_
          refine wp_cond_true (by rfl) ?_
          refine wp_skip ?_
          show Code.wp _ _ _ _ _
          refine wp_seq ?_
          refine wp_block ?_
          -- region 3
          have lx9_0 := fun w' (h : Gr _ w') => HE0.out w' (Gr.trans HF.out.1 h)
          have lx9_1 := fun w' (h : Gr _ w') => HE1.out w' (Gr.trans HF.out.1 h)
          have lx9_2 := fun w' (h : Gr _ w') => HE2.out w' (Gr.trans HF.out.1 h)
          have lx9_3 := fun w' (h : Gr _ w') => HE3.out w' (Gr.trans HF.out.1 h)
          have lx9_4 := fun w' (h : Gr _ w') => HE4.out w' (Gr.trans HF.out.1 h)
          refine kS fun K hK => ?_
          refine sq 3 [(true, 0), (true, 1), (true, 2)] fun T hT => ?_
          iterate 3 refine tk ?_
          refine nlS hT HF fun vw2 HG => ?_
          clear hT T HF lx9_0 lx9_1 lx9_2 lx9_3 lx9_4
          go_wp2
          refine hK.out _ _ ?_; clear hK K
          show Code.wp _ _ _ _ _
          refine fH ((HG.out).al (b := vw2.heap.size) (by first | rfl | simp) (by decide)) fun Wx3 HF => ?_
          clear HG
          generalize vw2.heap.size = gx11 at *
          -- region 4
          have hi0 : ((i : Int) == 0) = false := by have h9 : ¬ ((i : Int) = 0) := (by have h8 := HI.out; omega); simpa using h9
          have lx0 := HF.out.c 0 rfl
          have lx1 := HF.out.c 1 rfl
          have lx11 := HF.out.c 2 rfl
          refine kS fun K hK => ?_
          refine pd 9 [(true, 0), (true, 1), (true, 2), (true, 3), (true, 4), (true, 5), (true, 6), (true, 7), (true, 8)] fun T hT => ?_
          iterate 7 refine tk ?_
          refine ck Tryz.call26 (fun w' hw => fcmp_any (q) (p) (cm) _ (HCM.out) om om) ?_
          refine wpPlan_callV rfl (by rfl) (by rfl) Tryz.call96 (fun w' hw => min1_any (cm) true _ (HR)) (by rfl) ?_
          simp only [Act.put, lA, lB, lC]
          refine nlD hT HF fun vw3 HG => ?_
          clear hT T HF lx0 lx1 lx11
          go_wp2
          refine hK.out _ _ ?_; clear hK K
          show Code.wp _ _ _ _ _
          have HF := HG; clear HG
          clear hi0
          refine wp_cond_true (by rfl) ?_
          -- region 5
          have lx11 := HF.out.c 2 rfl
          refine kL fun K hK => ?_
          refine sq 1 [(true, 0)] fun T hT => ?_
          refine tk ?_
          refine nlS hT HF fun vw4 HG => ?_
          clear hT T HF lx11
          have lx1 := HG.out.c 1 rfl; have fx1 := HG.out.f 1 rfl
          have r0 := Gr.refl vw4
          go_wp2
          refine hK.out _ _ ?_; clear hK K
          show Code.wp _ _ _ _ _
          clear r0 lx1 fx1
          refine fH ((((HG.out).put2 1 0 rfl).put2 1 2 rfl).put 1 4 _ rfl) fun Wx5 HF => ?_
          clear HG
          -- region 6
          have hwi : IntKind.i64.wrap ((i : Int) + 1) = (i : Int) + 1 := by rw [IntKind.wrap_i64]; omega
          refine kL fun K hK => ?_
          refine sq 2 [(true, 0), (true, 1)] fun T hT => ?_
          iterate 2 refine tk ?_
          refine nlS hT HF fun vw5 HG => ?_
          clear hT T HF
          go_wp2
          refine hK.out _ _ ?_; clear hK K
          try simp only [Exit.then, Exit.inBlock]
          have HF := HG; clear HG
          clear hwi
          refine h0_ _ _ ?_
          go_roundg k
          case measure => omega
          case rel => exact ⟨i + 1, by go_num, by omega, by rw [bst_next _ f i HI.out, HPP.out, HQ.out, HCM.out, HR.out, if_pos rfl]; exact Lib.hid (HF.out.er 2)⟩
        · have HR := Lib.hid (decide_eq_false hr)
          clear hr
          -- region 2
          have hlt9 : (i : Int) < (n : Int) := by omega
          refine kS fun K hK => ?_
          refine sq 1 [(true, 0)] fun T hT => ?_
          refine tk ?_
          refine nlS hT HF fun vw1 HG => ?_
          clear hT T HF
          go_wp2
          refine hK.out _ _ ?_; clear hK K
          show Code.wp _ _ _ _ _
          have HF := HG; clear HG
          clear hlt9
          refine wp_seq ?_
          refine wp_cond_true (by rfl) ?_
          refine wp_skip ?_
          show Code.wp _ _ _ _ _
          refine wp_seq ?_
          refine wp_block ?_
          -- region 3
          have lx9_0 := fun w' (h : Gr _ w') => HE0.out w' (Gr.trans HF.out.1 h)
          have lx9_1 := fun w' (h : Gr _ w') => HE1.out w' (Gr.trans HF.out.1 h)
          have lx9_2 := fun w' (h : Gr _ w') => HE2.out w' (Gr.trans HF.out.1 h)
          have lx9_3 := fun w' (h : Gr _ w') => HE3.out w' (Gr.trans HF.out.1 h)
          have lx9_4 := fun w' (h : Gr _ w') => HE4.out w' (Gr.trans HF.out.1 h)
          refine kS fun K hK => ?_
          refine sq 3 [(true, 0), (true, 1), (true, 2)] fun T hT => ?_
          iterate 3 refine tk ?_
          refine nlS hT HF fun vw2 HG => ?_
          clear hT T HF lx9_0 lx9_1 lx9_2 lx9_3 lx9_4
          go_wp2
          refine hK.out _ _ ?_; clear hK K
          show Code.wp _ _ _ _ _
          refine fH ((HG.out).al (b := vw2.heap.size) (by first | rfl | simp) (by decide)) fun Wx3 HF => ?_
          clear HG
          generalize vw2.heap.size = gx11 at *
          -- region 4
          have hi0 : ((i : Int) == 0) = false := by have h9 : ¬ ((i : Int) = 0) := (by have h8 := HI.out; omega); simpa using h9
          have lx0 := HF.out.c 0 rfl
          have lx1 := HF.out.c 1 rfl
          have lx11 := HF.out.c 2 rfl
          refine kS fun K hK => ?_
          refine pd 9 [(true, 0), (true, 1), (true, 2), (true, 3), (true, 4), (true, 5), (true, 6), (true, 7), (true, 8)] fun T hT => ?_
          iterate 7 refine tk ?_
          refine ck Tryz.call26 (fun w' hw => fcmp_any (q) (p) (cm) _ (HCM.out) om om) ?_
          refine wpPlan_callV rfl (by rfl) (by rfl) Tryz.call96 (fun w' hw => min1_any (cm) false _ (HR)) (by rfl) ?_
          simp only [Act.put, lA, lB, lC]
          refine nlD hT HF fun vw3 HG => ?_
          clear hT T HF lx0 lx1 lx11
          go_wp2
          refine hK.out _ _ ?_; clear hK K
          show Code.wp _ _ _ _ _
          have HF := HG; clear HG
          clear hi0
          refine wp_cond_false (by rfl) ?_
          refine wp_skip ?_
          show Code.wp _ _ _ _ _
          -- region 6
          have hwi : IntKind.i64.wrap ((i : Int) + 1) = (i : Int) + 1 := by rw [IntKind.wrap_i64]; omega
          refine kL fun K hK => ?_
          refine sq 2 [(true, 0), (true, 1)] fun T hT => ?_
          iterate 2 refine tk ?_
          refine nlS hT HF fun vw4 HG => ?_
          clear hT T HF
          go_wp2
          refine hK.out _ _ ?_; clear hK K
          try simp only [Exit.then, Exit.inBlock]
          have HF := HG; clear HG
          clear hwi
          refine h0_ _ _ ?_
          go_roundg k
          case measure => omega
          case rel => exact ⟨i + 1, by go_num, by omega, by rw [bst_next _ f i HI.out, HPP.out, HQ.out, HCM.out, HR.out, if_neg (by decide)]; exact Lib.hid (HF.out.er 2)⟩
set_option maxHeartbeats 1000000 in
theorem fmax_list (n : Nat) (f : Nat → Rat) (v : Value) (w : World) (h : Fs w v n f) (hn : n ≤ 1000000) (hs : ∀ i, i < n → sz (f i) ≤ 1000) :
    Calls Tryz.prog 23 #[v] w fun e w' => e = .returned (Value.agg #[.int .u64 ((lo (Int.natAbs ((bst (fun c => decide (0 < c)) f n).num)) : Nat) : Int), .string (bg (Int.natAbs ((bst (fun c => decide (0 < c)) f n).num))), .bool (decide (((bst (fun c => decide (0 < c)) f n).num) < 0)), .int .u64 ((lo ((bst (fun c => decide (0 < c)) f n).den - 1) : Nat) : Int), .string (bg ((bst (fun c => decide (0 < c)) f n).den - 1))]) ∧ Below w.heap.size w w' := by
  obtain ⟨ao, c, rfl⟩ := h.slice
  have HS := Lib.hid hs
  have HX := Lib.hid h
  clear hs h
  go_enter Tryz.func23, Tryz.ntmps23
  go_wp2_with fail
  refine callsM ((hp0 w).al (b := w.heap.size) rfl (by decide)) fun W1 HF => ?_
  refine (choice_max n f _ W1 (HX.out.gr HF.out.1) hn HS.out).mono ?_
  rintro e w2 ⟨rfl, hb⟩
  have HF2 := Lib.hid (HF.out.gr hb)
  clear hb HF
  have l0 := HF2.out.c 0 rfl
  have f0 := HF2.out.f 0 rfl
  have r0 := Gr.refl w2
  go_wp2_with fail
  exact bodyPost_ret (v := .agg #[.int .u64 ((lo (Int.natAbs ((bst (fun c => decide (0 < c)) f n).num)) : Nat) : Int), .string (bg (Int.natAbs ((bst (fun c => decide (0 < c)) f n).num))), .bool (decide (((bst (fun c => decide (0 < c)) f n).num) < 0)), .int .u64 ((lo ((bst (fun c => decide (0 < c)) f n).den - 1) : Nat) : Int), .string (bg ((bst (fun c => decide (0 < c)) f n).den - 1))]) (by simp [results, Tryz.results23, go_sem, l0 _ r0]) rfl ⟨rfl, (HF2.out.put2 0 0 rfl |>.put2 0 2 rfl |>.put 0 4 _ rfl).1⟩
set_option maxHeartbeats 1000000 in
theorem fmin_list (n : Nat) (f : Nat → Rat) (v : Value) (w : World) (h : Fs w v n f) (hn : n ≤ 1000000) (hs : ∀ i, i < n → sz (f i) ≤ 1000) :
    Calls Tryz.prog 24 #[v] w fun e w' => e = .returned (Value.agg #[.int .u64 ((lo (Int.natAbs ((bst (fun c => decide (c < 0)) f n).num)) : Nat) : Int), .string (bg (Int.natAbs ((bst (fun c => decide (c < 0)) f n).num))), .bool (decide (((bst (fun c => decide (c < 0)) f n).num) < 0)), .int .u64 ((lo ((bst (fun c => decide (c < 0)) f n).den - 1) : Nat) : Int), .string (bg ((bst (fun c => decide (c < 0)) f n).den - 1))]) ∧ Below w.heap.size w w' := by
  obtain ⟨ao, c, rfl⟩ := h.slice
  have HS := Lib.hid hs
  have HX := Lib.hid h
  clear hs h
  go_enter Tryz.func24, Tryz.ntmps24
  go_wp2_with fail
  refine callsM ((hp0 w).al (b := w.heap.size) rfl (by decide)) fun W1 HF => ?_
  refine (choice_min n f _ W1 (HX.out.gr HF.out.1) hn HS.out).mono ?_
  rintro e w2 ⟨rfl, hb⟩
  have HF2 := Lib.hid (HF.out.gr hb)
  clear hb HF
  have l0 := HF2.out.c 0 rfl
  have f0 := HF2.out.f 0 rfl
  have r0 := Gr.refl w2
  go_wp2_with fail
  exact bodyPost_ret (v := .agg #[.int .u64 ((lo (Int.natAbs ((bst (fun c => decide (c < 0)) f n).num)) : Nat) : Int), .string (bg (Int.natAbs ((bst (fun c => decide (c < 0)) f n).num))), .bool (decide (((bst (fun c => decide (c < 0)) f n).num) < 0)), .int .u64 ((lo ((bst (fun c => decide (c < 0)) f n).den - 1) : Nat) : Int), .string (bg ((bst (fun c => decide (c < 0)) f n).den - 1))]) (by simp [results, Tryz.results24, go_sem, l0 _ r0]) rfl ⟨rfl, (HF2.out.put2 0 0 rfl |>.put2 0 2 rfl |>.put 0 4 _ rfl).1⟩
end Go.Proofs.YtgdibedgjndcoaaGreatDoor
