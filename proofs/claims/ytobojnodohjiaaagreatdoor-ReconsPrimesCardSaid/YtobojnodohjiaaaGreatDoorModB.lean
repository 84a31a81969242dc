
/- mods: OfInt, OfFrac. -/
import Derived.Test.YtobojnodohjiaaaGreatDoorModP
import Derived.Test.YtobojnodohjiaaaGreatDoorRecA
import Derived.Test.YtobojnodohjiaaaGreatDoorPJ
import Derived.Test.YtobojnodohjiaaaGreatDoorHp
namespace Go.Proofs.YtobojnodohjiaaaGreatDoor
open Go.RowKit
set_option linter.unusedSimpArgs false
set_option linter.unusedVariables false
attribute [local go_sem ↓] Go.wp_at_zero Go.wp_at_succ
attribute [local go_sem ↓] eq_nat eq_nat_zero eq_int
attribute [local go_sem ↓] eq_nat eq_nat_zero eq_frac eq_frac_zero
theorem zabs_any (n : Int) (z : Nat) (w : World) (hz : n.natAbs = z) :
    Calls Tryz.prog 100 #[(Value.agg #[.int .u64 ((lo (Int.natAbs (n)) : Nat) : Int), .string (bg (Int.natAbs (n))), .bool (decide ((n) < 0))])] w fun e w' => e = .returned (Value.agg #[.int .u64 ((lo (z) : Nat) : Int), .string (bg (z))]) ∧ Below w.heap.size w w' := hz ▸ abs_any n w

set_option maxRecDepth 20000 in
set_option maxHeartbeats 4000000 in
theorem mofint (a r : Int) (p z : Nat) (w : World) (HR : Hid (a % ((p : Nat) : Int) = r)) (HZ : Hid (Int.natAbs r = z)) (hz : z < 4294967296) (hp : 0 < p) (hp2 : p < 4294967296) (hwp : wl p ≤ 1) (hwa : wl a.natAbs ≤ 500) :
    Calls Tryz.prog 125 #[(Value.agg #[.int .u64 ((lo (Int.natAbs (a)) : Nat) : Int), .string (bg (Int.natAbs (a))), .bool (decide ((a) < 0))]), .int .u32 (((p : Nat) : Int))] w fun e w' => e = .returned ((.int .u32 ((z : Nat) : Int))) ∧ Below w.heap.size w w' := by
  have hwp6 : IntKind.u64.wrap ((p : Nat) : Int) = ((p : Nat) : Int) := u64_small (by omega)
  have hwz : IntKind.u32.wrap ((z : Nat) : Int) = ((z : Nat) : Int) := u32_small hz
  go_enter Tryz.func125, Tryz.ntmps125
  have HF := Lib.hid (hp0 w)
  refine kS fun K hK => ?_
  refine wp_region_lit ?_
  go_wp2
  refine hK.out _ _ ?_; clear hK K
  show Code.wp _ _ _ _ _
  refine fH ((HF.out).al (b := w.heap.size) (by first | rfl | simp) (by decide)) fun Wx0 HG => ?_
  clear HF; have HF := HG; clear HG
  have HZ1 : Hid ((if false then -((p : Nat) : Int) else ((p : Nat) : Int)) = ((p : Nat) : Int)) := Lib.hid (by rfl)
  have su1 : wl (Int.natAbs (((p : Nat) : Int))) ≤ 1 := by have e := HZ1.out; first | omega | (rw [← e]; split <;> simp <;> omega)
  obtain ⟨u2, HZ2⟩ : ∃ z, Hid ((a) / (((p : Nat) : Int)) = z) := ⟨_, Lib.hid rfl⟩
  have su2 : wl (Int.natAbs (u2)) ≤ 501 := by rw [← HZ2.out]; have := wl_idiv (a) (((p : Nat) : Int)); omega
  have HZ3 : Hid ((a) % (((p : Nat) : Int)) = r) := Lib.hid (HR.out)
  have su3 : wl (Int.natAbs (r)) ≤ 500 := by have e := HZ3.out; first | omega | (rw [← e]; have := wl_imod (a) (((p : Nat) : Int)) (by omega); omega)
  have lx0 := HF.out.c 0 rfl
  refine kS fun K hK => ?_
  refine wp_region_plan 12 [10, 11] [8, 9] (fun i => if i = 10 then 5 else 6) (fun i => if i = 10 then .cells #[.int .u64 0, .string ⟨#[]⟩, .bool false] 34 else .cells #[.int .u64 0, .string ⟨#[]⟩, .bool false] 34) [(true, 0), (true, 1), (true, 2), (true, 3), (true, 4), (true, 5), (true, 6), (true, 7), (true, 8), (true, 9)] (by kernel_rfl) (by kernel_rfl) (by intro i hi; simp only [List.mem_cons, List.not_mem_nil, or_false] at hi; rcases hi with rfl | rfl <;> exact ⟨_, rfl, rfl, rfl, by simp, fun ρ w => by kernel_rfl⟩) (by intro i hi; simp only [List.mem_cons, List.not_mem_nil, or_false] at hi; rcases hi with rfl | rfl <;> exact ⟨_, rfl, pure_extract⟩) (fun _ _ _ _ _ h => h) (fun T hT => ?_)
  iterate 3 refine tk ?_
  refine ck Tryz.call24 (fun w' hw => nzof (p) _ (ok)) ?_
  refine ck Tryz.call37 (fun w' hw => from_any false (p) (((p : Nat) : Int)) _ HZ1.out) ?_
  refine ck Tryz.call42 (fun w' hw => zidiv (a) (((p : Nat) : Int)) (u2) (r) _ HZ2.out HZ3.out (by omega) om om) ?_
  iterate 4 refine tk ?_
  refine wpPlan_nil (hT.out _ _ ?_)
  intro G vw1 hg hf
  simp only [puts, Act.put, lA, lB, lC, lD, lE, ↓reduceIte, Nat.reduceEqDiff]
  have HG := Lib.hid (HF.out.fr hg hf (zs := [(#[.int .u64 0, .string ⟨#[]⟩, .bool false], 34), (#[.int .u64 0, .string ⟨#[]⟩, .bool false], 34)]) rfl (by decide) (by decide))
  simp only [List.zip_cons_cons, List.zip_nil_right, List.map_cons, List.map_nil, lF, lG] at HG
  clear hT T HF hg hf lx0
  generalize G 10 = gx2 at *
  generalize G 11 = gx3 at *
  have lx2 := HG.out.c 1 rfl; have fx2 := HG.out.f 1 rfl
  have lx3 := HG.out.c 2 rfl; have fx3 := HG.out.f 2 rfl
  have r0 := Gr.refl vw1
  obtain ⟨d2_3, d3_2⟩ := HG.out.ne 1 2 rfl rfl (by decide)
  go_wp2
  refine hK.out _ _ ?_; clear hK K
  show Code.wp _ _ _ _ _
  clear r0 lx2 fx2 lx3 fx3 d2_3 d3_2
  refine fH (((((((HG.out).put2 1 0 rfl).put 1 2 _ rfl).put2 2 0 rfl).put 2 2 _ rfl).er 1).er 0) fun Wx1 HF => ?_
  clear HG
  have lx3 := HF.out.c 0 rfl
  refine kS fun K hK => ?_
  refine sq 8 [(true, 0), (true, 1), (true, 2), (true, 3), (true, 4), (true, 5), (true, 6), (true, 7)] fun T hT => ?_
  refine tk ?_
  refine ck Tryz.call100 (fun w' hw => zabs_any (r) z _ (HZ.out)) ?_
  refine ck Tryz.call47 (fun w' hw => nzu64 (z) (z) _ rfl (by first | exact ok | (simp only [← HZ2.out] <;> first | exact ok))) ?_
  iterate 5 refine tk ?_
  refine nlS hT HF fun vw2 HG => ?_
  clear hT T HF lx3
  go_wp2
  refine hK.out _ _ ?_; clear hK K
  show Code.wp _ _ _ _ _
  refine fH ((HG.out).er 0) fun Wx2 HF => ?_
  clear HG
  refine wp_seq ?_
  refine kS fun K hK => ?_
  refine sq 2 [(true, 0), (true, 1)] fun T hT => ?_
  iterate 2 refine tk ?_
  refine nlS hT HF fun vw3 HG => ?_
  clear hT T HF
  go_wp2
  refine hK.out _ _ ?_; clear hK K
  show Code.wp _ _ _ _ _
  have HF := HG; clear HG
  refine wp_cond_false (by rfl) ?_
  refine wp_skip ?_
  show Code.wp _ _ _ _ _
  refine kS fun K hK => ?_
  refine sq 3 [(true, 0), (true, 1), (true, 2)] fun T hT => ?_
  iterate 3 refine tk ?_
  refine nlS hT HF fun vw4 HG => ?_
  clear hT T HF
  go_wp2
  refine hK.out _ _ ?_; clear hK K
  show Code.wp _ _ _ _ _
  have HF := HG; clear HG
  refine wp_ret ?_
  try simp only [Exit.then, Exit.inBlock]
  exact bodyPost_ret (v := .int .u32 (((z : Nat) : Int))) (by simp [results, Tryz.results125, go_sem]) rfl ⟨rfl, HF.out.1⟩

set_option maxRecDepth 20000 in
set_option maxHeartbeats 4000000 in
theorem mof_y (q : Rat) (p d i n v : Nat) (w : World) (HD : Hid (Int.natAbs (((q.den : Nat) : Int) % ((p : Nat) : Int)) = d)) (hd : d < 4294967296) (HI : Hid (invs d p i true)) (hi : i < 4294967296) (HN : Hid (Int.natAbs (q.num % ((p : Nat) : Int)) = n)) (hn : n < 4294967296) (HV : Hid ((n * i) % p = v)) (hp : 0 < p) (hp2 : p < 4294967296) (hwp : wl p ≤ 1) (hs : sz q ≤ 400) :
    Calls Tryz.prog 52 #[(Value.agg #[.int .u64 ((lo (Int.natAbs ((q).num)) : Nat) : Int), .string (bg (Int.natAbs ((q).num))), .bool (decide (((q).num) < 0)), .int .u64 ((lo ((q).den - 1) : Nat) : Int), .string (bg ((q).den - 1))]), .int .u32 (((p : Nat) : Int))] w fun e w' => e = .returned ((.tuple #[.int .u32 ((v : Nat) : Int), .bool true])) ∧ Below w.heap.size w w' := by
  go_enter Tryz.func52, Tryz.ntmps52
  have HF := Lib.hid (hp0 w)
  refine kS fun K hK => ?_
  refine wp_region_lit ?_
  go_wp2
  refine hK.out _ _ ?_; clear hK K
  show Code.wp _ _ _ _ _
  refine fH ((HF.out).al (b := w.heap.size) (by first | rfl | simp) (by decide)) fun Wx0 HG => ?_
  clear HF; have HF := HG; clear HG
  have su1 : wl ((q).den) ≤ 400 := Nat.le_trans (sz_den _) om
  have sp1 : 0 < (q).den := (q).den_pos
  have HZ2 : Hid ((if false then -(((q).den : Nat) : Int) else (((q).den : Nat) : Int)) = ((q.den : Nat) : Int)) := Lib.hid (by rfl)
  have su2 : wl (Int.natAbs (((q.den : Nat) : Int))) ≤ 400 := by have e := HZ2.out; first | omega | (rw [← e]; split <;> simp <;> omega)
  have lx0 := HF.out.c 0 rfl
  refine kS fun K hK => ?_
  refine sq 12 [(true, 0), (true, 1), (true, 2), (true, 3), (true, 4), (true, 5), (true, 6), (true, 7), (true, 8), (true, 9), (true, 10), (true, 11)] fun T hT => ?_
  refine tk ?_
  refine ck Tryz.call38 (fun w' hw => fDen_any (q) _ om) ?_
  refine ck Tryz.call37 (fun w' hw => from_any false ((q).den) (((q.den : Nat) : Int)) _ HZ2.out) ?_
  refine tk ?_
  refine ck Tryz.call125 (fun w' hw => mofint (((q.den : Nat) : Int)) _ p d _ (Lib.hid rfl) (Lib.hid (HD.out)) hd hp hp2 hwp om) ?_
  refine tk ?_
  refine ck Tryz.call124 (fun w' hw => minv d p i true _ (HI.out) (by omega) hp hp2) ?_
  iterate 5 refine tk ?_
  refine nlS hT HF fun vw1 HG => ?_
  clear hT T HF lx0
  go_wp2
  refine hK.out _ _ ?_; clear hK K
  show Code.wp _ _ _ _ _
  have HF := HG; clear HG
  refine wp_seq ?_
  refine kS fun K hK => ?_
  refine sq 2 [(true, 0), (true, 1)] fun T hT => ?_
  iterate 2 refine tk ?_
  refine nlS hT HF fun vw2 HG => ?_
  clear hT T HF
  go_wp2
  refine hK.out _ _ ?_; clear hK K
  show Code.wp _ _ _ _ _
  have HF := HG; clear HG
  refine wp_cond_false (by rfl) ?_
  refine wp_skip ?_
  show Code.wp _ _ _ _ _
  have su3 : wl (Int.natAbs ((q).num)) ≤ 400 := Nat.le_trans (sz_num _) om
  have lx0 := HF.out.c 0 rfl
  refine kS fun K hK => ?_
  refine sq 9 [(true, 0), (true, 1), (true, 2), (true, 3), (true, 4), (true, 5), (true, 6), (true, 7), (true, 8)] fun T hT => ?_
  refine tk ?_
  refine ck Tryz.call40 (fun w' hw => fnum_any (q) _) ?_
  refine tk ?_
  refine ck Tryz.call125 (fun w' hw => mofint ((q).num) _ p n _ (Lib.hid rfl) (Lib.hid (HN.out)) hn hp hp2 hwp om) ?_
  iterate 2 refine tk ?_
  refine ck Tryz.call126 (fun w' hw => mmul n i p v _ (HV.out) (by omega) (by omega) hp hp2) ?_
  iterate 2 refine tk ?_
  refine nlS hT HF fun vw3 HG => ?_
  clear hT T HF lx0
  go_wp2
  refine hK.out _ _ ?_; clear hK K
  show Code.wp _ _ _ _ _
  refine fH ((HG.out).er 0) fun Wx4 HF => ?_
  clear HG
  refine wp_ret ?_
  try simp only [Exit.then, Exit.inBlock]
  exact bodyPost_ret (v := .tuple #[.int .u32 (((v : Nat) : Int)), .bool true]) (by simp [results, Tryz.results52, go_sem]) rfl ⟨rfl, HF.out.1⟩

set_option maxRecDepth 20000 in
set_option maxHeartbeats 4000000 in
theorem mof_n (q : Rat) (p d : Nat) (w : World) (HD : Hid (Int.natAbs (((q.den : Nat) : Int) % ((p : Nat) : Int)) = d)) (hd : d < 4294967296) (HI : Hid (invs d p 0 false)) (hp : 0 < p) (hp2 : p < 4294967296) (hwp : wl p ≤ 1) (hs : sz q ≤ 400) :
    Calls Tryz.prog 52 #[(Value.agg #[.int .u64 ((lo (Int.natAbs ((q).num)) : Nat) : Int), .string (bg (Int.natAbs ((q).num))), .bool (decide (((q).num) < 0)), .int .u64 ((lo ((q).den - 1) : Nat) : Int), .string (bg ((q).den - 1))]), .int .u32 (((p : Nat) : Int))] w fun e w' => e = .returned ((.tuple #[.int .u32 0, .bool false])) ∧ Below w.heap.size w w' := by
  go_enter Tryz.func52, Tryz.ntmps52
  have HF := Lib.hid (hp0 w)
  refine kS fun K hK => ?_
  refine wp_region_lit ?_
  go_wp2
  refine hK.out _ _ ?_; clear hK K
  show Code.wp _ _ _ _ _
  refine fH ((HF.out).al (b := w.heap.size) (by first | rfl | simp) (by decide)) fun Wx0 HG => ?_
  clear HF; have HF := HG; clear HG
  have su1 : wl ((q).den) ≤ 400 := Nat.le_trans (sz_den _) om
  have sp1 : 0 < (q).den := (q).den_pos
  have HZ2 : Hid ((if false then -(((q).den : Nat) : Int) else (((q).den : Nat) : Int)) = ((q.den : Nat) : Int)) := Lib.hid (by rfl)
  have su2 : wl (Int.natAbs (((q.den : Nat) : Int))) ≤ 400 := by have e := HZ2.out; first | omega | (rw [← e]; split <;> simp <;> omega)
  have lx0 := HF.out.c 0 rfl
  refine kS fun K hK => ?_
  refine sq 12 [(true, 0), (true, 1), (true, 2), (true, 3), (true, 4), (true, 5), (true, 6), (true, 7), (true, 8), (true, 9), (true, 10), (true, 11)] fun T hT => ?_
  refine tk ?_
  refine ck Tryz.call38 (fun w' hw => fDen_any (q) _ om) ?_
  refine ck Tryz.call37 (fun w' hw => from_any false ((q).den) (((q.den : Nat) : Int)) _ HZ2.out) ?_
  refine tk ?_
  refine ck Tryz.call125 (fun w' hw => mofint (((q.den : Nat) : Int)) _ p d _ (Lib.hid rfl) (Lib.hid (HD.out)) hd hp hp2 hwp om) ?_
  refine tk ?_
  refine ck Tryz.call124 (fun w' hw => minv d p 0 false _ (HI.out) (by omega) hp hp2) ?_
  iterate 5 refine tk ?_
  refine nlS hT HF fun vw1 HG => ?_
  clear hT T HF lx0
  go_wp2
  refine hK.out _ _ ?_; clear hK K
  show Code.wp _ _ _ _ _
  have HF := HG; clear HG
  refine wp_seq ?_
  refine kS fun K hK => ?_
  refine sq 2 [(true, 0), (true, 1)] fun T hT => ?_
  iterate 2 refine tk ?_
  refine nlS hT HF fun vw2 HG => ?_
  clear hT T HF
  go_wp2
  refine hK.out _ _ ?_; clear hK K
  show Code.wp _ _ _ _ _
  have HF := HG; clear HG
  refine wp_cond_true (by rfl) ?_
  refine kS fun K hK => ?_
  refine wp_region_lit ?_
  go_wp2
  refine hK.out _ _ ?_; clear hK K
  show Code.wp _ _ _ _ _
  refine fH (HF.out) fun Wx3 HG => ?_
  clear HF; have HF := HG; clear HG
  refine wp_ret ?_
  try simp only [Exit.then, Exit.inBlock]
  exact bodyPost_ret (v := .tuple #[.int .u32 0, .bool false]) (by simp [results, Tryz.results52, go_sem]) rfl ⟨rfl, HF.out.1⟩

theorem mof (q : Rat) (p v : Nat) (b : Bool) (w : World) (h : ofs q p v b) (hp : 0 < p) (hp2 : p < 4294967296) (hs : sz q ≤ 400) :
    Calls Tryz.prog 52 #[(Value.agg #[.int .u64 ((lo (Int.natAbs ((q).num)) : Nat) : Int), .string (bg (Int.natAbs ((q).num))), .bool (decide (((q).num) < 0)), .int .u64 ((lo ((q).den - 1) : Nat) : Int), .string (bg ((q).den - 1))]), .int .u32 ((p : Nat) : Int)] w fun e w' => e = .returned (.tuple #[.int .u32 ((v : Nat) : Int), .bool b]) ∧ Below w.heap.size w w' := by
  have hwp : wl p ≤ 1 := wl_small hp2
  have e1 := Int.emod_nonneg ((q.den : Nat) : Int) (show ((p : Nat) : Int) ≠ 0 by omega)
  have e2 := Int.emod_lt_of_pos ((q.den : Nat) : Int) (show (0 : Int) < ((p : Nat) : Int) by omega)
  have e3 := Int.emod_nonneg q.num (show ((p : Nat) : Int) ≠ 0 by omega)
  have e4 := Int.emod_lt_of_pos q.num (show (0 : Int) < ((p : Nat) : Int) by omega)
  have hdm : Int.natAbs (((q.den : Nat) : Int) % ((p : Nat) : Int)) = q.den % p := rfl
  obtain ⟨i, b', hi⟩ := invs_ex (q.den % p) p hp
  rcases hi with ⟨rfl, h1, h2⟩ | ⟨rfl, rfl, h2⟩
  · have hg := inv_gcd h2
    rw [gcd_mod_den] at hg
    obtain rfl : b = true := by rcases h with ⟨hb, _⟩ | ⟨_, _, hn⟩; exact hb; exact absurd hg hn
    have hv := ofs_val h hp rfl hdm h2
    exact mof_y q p _ i _ v w (Lib.hid hdm) (by omega) (Lib.hid (.inl ⟨rfl, h1, h2⟩)) (by omega) (Lib.hid rfl) (by omega) (Lib.hid hv) hp hp2 hwp hs
  · have hg := h2
    rw [gcd_mod_den] at hg
    obtain ⟨rfl, rfl⟩ : 0 = v ∧ false = b := by rcases h with ⟨_, hn, _⟩ | ⟨hb, hv, _⟩; exact absurd hn hg; exact ⟨hv.symm, hb.symm⟩
    exact mof_n q p _ w (Lib.hid hdm) (by omega) (Lib.hid (.inr ⟨rfl, rfl, h2⟩)) hp hp2 hwp hs

end Go.Proofs.YtobojnodohjiaaaGreatDoor
