/- A pack of texts: Low, Frac1, Frac2, Frac3, QOf, POf. No condition but those stated. -/
import Derived.Test.YtobojnodohjiaaaGreatDoorIntZ
import Derived.Test.YtobojnodohjiaaaGreatDoorHp
set_option linter.unusedVariables false
set_option linter.unusedSimpArgs false
/- fracs.lowest. -/
namespace Go.Proofs.YtobojnodohjiaaaGreatDoor
open Go.RowKit
attribute [local go_sem ↓] Go.wp_at_zero Go.wp_at_succ
set_option maxHeartbeats 1000000 in
theorem lowest_any (n : Int) (d : Nat) (q : Rat) (hq : Hid (mkRat n d = q)) (hd : 0 < d) (h1 : wl n.natAbs ≤ 274877906944) (h2 : wl d ≤ 274877906944) (w : World) :
    Calls Tryz.prog 189 #[(Value.agg #[.int .u64 ((lo (Int.natAbs (n)) : Nat) : Int), .string (bg (Int.natAbs (n))), .bool (decide ((n) < 0))]), (Value.agg #[.int .u64 ((lo (d) : Nat) : Int), .string (bg (d))])] w fun e w' => e = .returned (.agg #[.int .u64 ((lo (Int.natAbs ((q).num)) : Nat) : Int), .string (bg (Int.natAbs ((q).num))), .bool (decide (((q).num) < 0)), .int .u64 ((lo ((q).den - 1) : Nat) : Int), .string (bg ((q).den - 1))]) ∧ Below w.heap.size w w' := by
  have hqd : wl q.den ≤ 274877906944 := by rw [← hq.out, ← low_den n d hd]; have := wl_div d (Nat.gcd n.natAbs d); omega
  have hqp : 0 < q.den := q.den_pos
  go_enter Tryz.func189, Tryz.ntmps189
  have HF := Lib.hid (hp0 w)
  refine kS fun K hK => ?_
  refine wp_region_lit ?_
  go_wp2
  refine kO hK ?_; clear hK K
  refine fH ((((HF.out).aL (w.heap.size)).aL (w.heap.size + 1)).aL (w.heap.size + 1 + 1)) fun Wx0 HG => ?_
  clear HF; have HF := HG; clear HG
  generalize w.heap.size + 1 + 1 = gx2 at *
  generalize w.heap.size + 1 = gx1 at *
  obtain ⟨u1, HZ1⟩ : ∃ z, Hid (Nat.gcd (Int.natAbs (n)) (d) = z) := ⟨_, Lib.hid rfl⟩
  have su1 : wl u1 ≤ 274877906944 := by rw [← HZ1.out]; have := wl_gcd (Int.natAbs (n)) (d); omega
  have lx0 := HF.out.c 0 rfl
  have lx1 := HF.out.c 1 rfl
  refine kS fun K hK => ?_
  refine wp_region_plan 5 [4] [] (fun _ => 5) (fun _ => .cells #[.int .u64 0, .string ⟨#[]⟩] 30) [(true, 0), (true, 2), (true, 1), (true, 3)] (by kernel_rfl) (by kernel_rfl) (by intro i hi; simp only [List.mem_cons, List.not_mem_nil, or_false] at hi; rcases hi with rfl <;> exact ⟨_, rfl, rfl, rfl, by simp, fun ρ w => by kernel_rfl⟩) (fun i hi => by cases hi) (fun _ _ _ _ _ h => h) (fun T hT => ?_)
  iterate 2 refine tk ?_
  refine ck Tryz.call100 (fun w' hw => abs_any (n) _) ?_
  refine ck Tryz.call111 (fun w' hw => zgcd (Int.natAbs (n)) (d) (u1) _ HZ1.out om om) ?_
  refine wpPlan_nil (hT.out _ _ ?_)
  intro G vw1 hg hf
  simp only [puts, Act.put, lA, lB, lC, lD, lE, ↓reduceIte, Nat.reduceEqDiff]
  have HG := Lib.hid (HF.out.fr hg hf (zs := [(#[.int .u64 0, .string ⟨#[]⟩], 30)]) rfl (by decide) (by decide))
  simp only [zq1_, zq2_, zq3_, zq4_, lF, lG] at HG
  clear hT T HF hg hf lx0 lx1
  generalize G 4 = gx4 at *
  have lx4 := HG.out.c 3 rfl; have fx4 := HG.out.f 3 rfl
  have r0 := Gr.refl vw1
  go_wp2
  refine kO hK ?_; clear hK K
  clear r0 lx4 fx4
  refine fH ((HG.out).put2 3 0 rfl) fun Wx1 HF => ?_
  clear HG
  obtain ⟨u2, HZ2⟩ : ∃ z, Hid ((Int.natAbs (n)) / (u1) = z) := ⟨_, Lib.hid rfl⟩
  have su2 : wl u2 ≤ 274877906944 := by rw [← HZ2.out]; have := wl_div (Int.natAbs (n)) (u1); omega
  obtain ⟨u3, HZ3⟩ : ∃ z, Hid ((Int.natAbs (n)) % (u1) = z) := ⟨_, Lib.hid rfl⟩
  have su3 : wl u3 ≤ 274877906944 := by rw [← HZ3.out]; have := wl_mod (Int.natAbs (n)) (u1); omega
  have lx0 := HF.out.c 0 rfl
  have lx4 := HF.out.c 3 rfl
  refine kS fun K hK => ?_
  refine wp_region_plan 10 [8, 9] [6, 7] (fun i => if i = 8 then 6 else 7) (fun i => if i = 8 then .cells #[.int .u64 0, .string ⟨#[]⟩] 30 else .cells #[.int .u64 0, .string ⟨#[]⟩] 30) [(true, 0), (true, 2), (true, 1), (true, 3), (true, 4), (true, 5), (true, 6), (true, 7)] (by kernel_rfl) (by kernel_rfl) (by intro i hi; simp only [List.mem_cons, List.not_mem_nil, or_false] at hi; rcases hi with rfl | rfl <;> exact ⟨_, rfl, rfl, rfl, by simp, fun ρ w => by kernel_rfl⟩) (by intro i hi; simp only [List.mem_cons, List.not_mem_nil, or_false] at hi; rcases hi with rfl | rfl <;> exact ⟨_, rfl, pure_extract⟩) (fun _ _ _ _ _ h => h) (fun T hT => ?_)
  iterate 2 refine tk ?_
  refine ck Tryz.call100 (fun w' hw => abs_any (n) _) ?_
  refine ck Tryz.call43 (fun w' hw => zdiv (Int.natAbs (n)) (u1) (u2) (u3) _ HZ2.out HZ3.out (by rw [← HZ1.out]; exact Nat.gcd_pos_of_pos_right _ hd) om om) ?_
  iterate 4 refine tk ?_
  refine wpPlan_nil (hT.out _ _ ?_)
  intro G vw2 hg hf
  simp only [puts, Act.put, lA, lB, lC, lD, lE, ↓reduceIte, Nat.reduceEqDiff]
  have HG := Lib.hid (HF.out.fr hg hf (zs := [(#[.int .u64 0, .string ⟨#[]⟩], 30), (#[.int .u64 0, .string ⟨#[]⟩], 30)]) rfl (by decide) (by decide))
  simp only [zq1_, zq2_, zq3_, zq4_, lF, lG] at HG
  clear hT T HF hg hf lx0 lx4
  generalize G 8 = gx5 at *
  generalize G 9 = gx6 at *
  have lx5 := HG.out.c 4 rfl; have fx5 := HG.out.f 4 rfl
  have lx6 := HG.out.c 5 rfl; have fx6 := HG.out.f 5 rfl
  have r0 := Gr.refl vw2
  obtain ⟨d5_6, d6_5⟩ := HG.out.ne 4 5 rfl rfl (by decide)
  go_wp2
  refine kO hK ?_; clear hK K
  clear r0 lx5 fx5 lx6 fx6 d5_6 d6_5
  refine fH ((((HG.out).put2 4 0 rfl).put2 5 0 rfl).er 5) fun Wx2 HF => ?_
  clear HG
  have HZ4 : Hid ((d) / (u1) = q.den) := Lib.hid (by rw [← HZ1.out, ← hq.out]; exact low_den n d hd)
  obtain ⟨u5, HZ5⟩ : ∃ z, Hid ((d) % (u1) = z) := ⟨_, Lib.hid rfl⟩
  have su5 : wl u5 ≤ 274877906944 := by rw [← HZ5.out]; have := wl_mod (d) (u1); omega
  have lx1 := HF.out.c 1 rfl
  have lx4 := HF.out.c 3 rfl
  refine kS fun K hK => ?_
  refine sq 7 [(true, 0), (true, 1), (true, 2), (true, 3), (true, 4), (true, 5), (true, 6)] fun T hT => ?_
  iterate 2 refine tk ?_
  refine ck Tryz.call43 (fun w' hw => zdiv (d) (u1) (q.den) (u5) _ HZ4.out HZ5.out (by rw [← HZ1.out]; exact Nat.gcd_pos_of_pos_right _ hd) om om) ?_
  iterate 4 refine tk ?_
  refine nlS hT HF fun vw3 HG => ?_
  clear hT T HF lx1 lx4
  go_wp2
  refine kO hK ?_; clear hK K
  refine fH ((((((HG.out).aL (vw3.heap.size)).aL (vw3.heap.size + 1)).er 6).er 3).er 1) fun Wx3 HF => ?_
  clear HG
  generalize vw3.heap.size + 1 = gx8 at *
  generalize vw3.heap.size = gx7 at *
  have HZ6 : Hid ((q.den) - (1) = (q).den - 1) := Lib.hid (rfl)
  have lx7 := HF.out.c 3 rfl
  refine kS fun K hK => ?_
  refine wp_region_plan 6 [] [5] (fun _ => 0) (fun _ => .cells #[] 0) [(true, 0), (true, 1), (true, 2), (true, 3), (true, 4), (true, 5)] (by kernel_rfl) (by kernel_rfl) (fun i hi => by cases hi) (by intro i hi; simp only [List.mem_cons, List.not_mem_nil, or_false] at hi; rcases hi with rfl <;> exact ⟨_, rfl, pure_extract⟩) (fun _ _ _ _ _ h => h) (fun T hT => ?_)
  refine tk ?_
  refine ck Tryz.call24 (fun w' hw => zof 1 _ (by decide)) ?_
  refine ck Tryz.call165 (fun w' hw => zsub (q.den) (1) ((q).den - 1) _ HZ6.out om om om) ?_
  iterate 3 refine tk ?_
  refine wpPlan_nil (hT.out _ _ ?_)
  intro G vw4 hg hf
  simp only [puts, Act.put, lA, lB, lC, lD, lE, ↓reduceIte, Nat.reduceEqDiff]
  have HG := Lib.hid (HF.out.gr hg)
  clear hT T HF hg hf lx7
  have lx7 := HG.out.c 3 rfl; have fx7 := HG.out.f 3 rfl
  have r0 := Gr.refl vw4
  go_wp2
  refine kO hK ?_; clear hK K
  clear r0 lx7 fx7
  refine fH ((HG.out).put2 3 0 rfl) fun Wx4 HF => ?_
  clear HG
  have HZ7 : Hid ((if decide (sgI (n) < 0) then -((u2 : Nat) : Int) else ((u2 : Nat) : Int)) = (q).num) := Lib.hid (by rw [← HZ2.out, ← HZ1.out, ← hq.out, ← low_num n d hd]; simp only [sgI_neg, decide_eq_true_eq])
  have lx0 := HF.out.c 0 rfl
  have lx5 := HF.out.c 2 rfl
  have lx7 := HF.out.c 3 rfl
  refine kS fun K hK => ?_
  refine pd 7 [(true, 0), (true, 3), (true, 5), (true, 1), (true, 2), (true, 4), (true, 6)] fun T hT => ?_
  iterate 3 refine tk ?_
  refine ck Tryz.call101 (fun w' hw => sign_int (n) _) ?_
  refine tk ?_
  refine ck Tryz.call37 (fun w' hw => from_any (decide (sgI (n) < 0)) (u2) ((q).num) _ HZ7.out) ?_
  refine tk ?_
  refine nlD hT HF fun vw5 HG => ?_
  clear hT T HF lx0 lx5 lx7
  have lx2 := HG.out.c 1 rfl; have fx2 := HG.out.f 1 rfl
  have r0 := Gr.refl vw5
  go_wp2
  refine kO hK ?_; clear hK K
  clear r0 lx2 fx2
  refine fH (((((((HG.out).put2 1 0 rfl).put2 1 2 rfl).put 1 4 _ rfl).er 3).er 2).er 0) fun Wx5 HF => ?_
  clear HG
  refine wp_ret ?_
  try simp only [Exit.then, Exit.inBlock]
  have lx2 := HF.out.c 0 rfl
  have r0 := Gr.refl Wx5
  exact bodyPost_ret (v := .agg #[.int .u64 ((lo (Int.natAbs ((q).num)) : Nat) : Int), .string (bg (Int.natAbs ((q).num))), .bool (decide (((q).num) < 0)), .int .u64 ((lo ((q).den - 1) : Nat) : Int), .string (bg ((q).den - 1))]) (by simp [results, Tryz.results189, go_sem, lx2 _ r0]) rfl ⟨rfl, HF.out.1⟩
end Go.Proofs.YtobojnodohjiaaaGreatDoor
/- fracs: den, signed, whole, Whole, Sign, Neg. -/
namespace Go.Proofs.YtobojnodohjiaaaGreatDoor
open Go.RowKit
attribute [local go_sem ↓] Go.wp_at_zero Go.wp_at_succ
attribute [local go_sem ↓] eq_nat eq_nat_zero
set_option maxHeartbeats 1000000 in
theorem fden_any (q : Rat) (hs_q : sz q ≤ 274877906944) (w : World) :
    Calls Tryz.prog 114 #[(Value.agg #[.int .u64 ((lo (Int.natAbs ((q).num)) : Nat) : Int), .string (bg (Int.natAbs ((q).num))), .bool (decide (((q).num) < 0)), .int .u64 ((lo ((q).den - 1) : Nat) : Int), .string (bg ((q).den - 1))])] w fun e w' => e = .returned (.agg #[.int .u64 ((lo ((q).den) : Nat) : Int), .string (bg ((q).den))]) ∧ Below w.heap.size w w' := by
  have hn_q := Nat.le_trans (sz_num q) hs_q
  have hd_q := Nat.le_trans (sz_den q) hs_q
  have he_q := Nat.le_trans (wl_mono (Nat.sub_le q.den 1)) hd_q
  have hp_q : 0 < q.den := q.den_pos
  go_enter Tryz.func114, Tryz.ntmps114
  have HF := Lib.hid (hp0 w)
  refine kS fun K hK => ?_
  refine wp_region_lit ?_
  go_wp2
  refine kO hK ?_; clear hK K
  refine fH (((HF.out).aL (w.heap.size)).aL (w.heap.size + 1)) fun Wx0 HG => ?_
  clear HF; have HF := HG; clear HG
  generalize w.heap.size + 1 = gx1 at *
  have HZ1 : Hid (((q).den - 1) + (1) = (q).den) := Lib.hid (Nat.sub_add_cancel hp_q)
  have lx0 := HF.out.c 0 rfl
  refine kS fun K hK => ?_
  refine pd 4 [(true, 0), (true, 1), (true, 2), (true, 3)] fun T hT => ?_
  iterate 2 refine tk ?_
  refine ck Tryz.call24 (fun w' hw => zof 1 _ (by decide)) ?_
  refine ck Tryz.call109 (fun w' hw => zadd ((q).den - 1) (1) ((q).den) _ HZ1.out om om) ?_
  refine nlD hT HF fun vw1 HG => ?_
  clear hT T HF lx0
  have lx1 := HG.out.c 1 rfl; have fx1 := HG.out.f 1 rfl
  have r0 := Gr.refl vw1
  go_wp2
  refine kO hK ?_; clear hK K
  clear r0 lx1 fx1
  refine fH (((HG.out).put2 1 0 rfl).er 0) fun Wx1 HF => ?_
  clear HG
  refine wp_ret ?_
  try simp only [Exit.then, Exit.inBlock]
  have lx1 := HF.out.c 0 rfl
  have r0 := Gr.refl Wx1
  exact bodyPost_ret (v := .agg #[.int .u64 ((lo ((q).den) : Nat) : Int), .string (bg ((q).den))]) (by simp [results, Tryz.results114, go_sem, lx1 _ r0]) rfl ⟨rfl, HF.out.1⟩
set_option maxHeartbeats 1000000 in
theorem fsigned_any (q : Rat) (z : Int) (w : World) (hz : ((q.den : Nat) : Int) = z) (hs_q : sz q ≤ 274877906944) :
    Calls Tryz.prog 213 #[(Value.agg #[.int .u64 ((lo (Int.natAbs ((q).num)) : Nat) : Int), .string (bg (Int.natAbs ((q).num))), .bool (decide (((q).num) < 0)), .int .u64 ((lo ((q).den - 1) : Nat) : Int), .string (bg ((q).den - 1))])] w fun e w' => e = .returned (.agg #[.int .u64 ((lo (Int.natAbs (z)) : Nat) : Int), .string (bg (Int.natAbs (z))), .bool (decide ((z) < 0))]) ∧ Below w.heap.size w w' := by
  have hn_q := Nat.le_trans (sz_num q) hs_q
  have hd_q := Nat.le_trans (sz_den q) hs_q
  have he_q := Nat.le_trans (wl_mono (Nat.sub_le q.den 1)) hd_q
  have hp_q : 0 < q.den := q.den_pos
  replace hz := Lib.hid hz
  go_enter Tryz.func213, Tryz.ntmps213
  have HF := Lib.hid (hp0 w)
  refine kS fun K hK => ?_
  refine wp_region_lit ?_
  go_wp2
  refine kO hK ?_; clear hK K
  refine fH (((HF.out).aL (w.heap.size)).aL (w.heap.size + 1)) fun Wx0 HG => ?_
  clear HF; have HF := HG; clear HG
  generalize w.heap.size + 1 = gx1 at *
  have HZ1 : Hid ((if false then -(((q).den : Nat) : Int) else (((q).den : Nat) : Int)) = z) := Lib.hid (hz.out)
  have lx0 := HF.out.c 0 rfl
  refine kS fun K hK => ?_
  refine sq 3 [(true, 0), (true, 1), (true, 2)] fun T hT => ?_
  refine tk ?_
  refine ck Tryz.call114 (fun w' hw => fden_any (q) om _) ?_
  refine ck Tryz.call37 (fun w' hw => from_any false ((q).den) (z) _ HZ1.out) ?_
  refine nlS hT HF fun vw1 HG => ?_
  clear hT T HF lx0
  have lx1 := HG.out.c 1 rfl; have fx1 := HG.out.f 1 rfl
  have r0 := Gr.refl vw1
  go_wp2
  refine kO hK ?_; clear hK K
  clear r0 lx1 fx1
  refine fH ((((HG.out).put2 1 0 rfl).put 1 2 _ rfl).er 0) fun Wx1 HF => ?_
  clear HG
  refine wp_ret ?_
  try simp only [Exit.then, Exit.inBlock]
  have lx1 := HF.out.c 0 rfl
  have r0 := Gr.refl Wx1
  exact bodyPost_ret (v := .agg #[.int .u64 ((lo (Int.natAbs (z)) : Nat) : Int), .string (bg (Int.natAbs (z))), .bool (decide ((z) < 0))]) (by simp [results, Tryz.results213, go_sem, lx1 _ r0]) rfl ⟨rfl, HF.out.1⟩
set_option maxHeartbeats 1000000 in
theorem fwhole_raw (n : Int) (w : World) :
    Calls Tryz.prog 212 #[(Value.agg #[.int .u64 ((lo (Int.natAbs (n)) : Nat) : Int), .string (bg (Int.natAbs (n))), .bool (decide ((n) < 0))])] w fun e w' => e = .returned (.agg #[.int .u64 ((lo (Int.natAbs (n)) : Nat) : Int), .string (bg (Int.natAbs (n))), .bool (decide ((n) < 0)), .int .u64 0, .string ⟨#[]⟩]) ∧ Below w.heap.size w w' := by
  go_enter Tryz.func212, Tryz.ntmps212
  have HF := Lib.hid (hp0 w)
  refine kS fun K hK => ?_
  refine wp_region_lit ?_
  go_wp2
  refine kO hK ?_; clear hK K
  refine fH (((HF.out).aL (w.heap.size)).aL (w.heap.size + 1)) fun Wx0 HG => ?_
  clear HF; have HF := HG; clear HG
  generalize w.heap.size + 1 = gx1 at *
  have lx0 := HF.out.c 0 rfl
  refine kS fun K hK => ?_
  refine sq 2 [(true, 0), (true, 1)] fun T hT => ?_
  iterate 2 refine tk ?_
  refine nlS hT HF fun vw1 HG => ?_
  clear hT T HF lx0
  have lx1 := HG.out.c 1 rfl; have fx1 := HG.out.f 1 rfl
  have r0 := Gr.refl vw1
  go_wp2
  refine kO hK ?_; clear hK K
  clear r0 lx1 fx1
  refine fH (((((HG.out).put2 1 0 rfl).put2 1 2 rfl).put 1 4 _ rfl).er 0) fun Wx1 HF => ?_
  clear HG
  refine wp_ret ?_
  try simp only [Exit.then, Exit.inBlock]
  have lx1 := HF.out.c 0 rfl
  have r0 := Gr.refl Wx1
  exact bodyPost_ret (v := .agg #[.int .u64 ((lo (Int.natAbs (n)) : Nat) : Int), .string (bg (Int.natAbs (n))), .bool (decide ((n) < 0)), .int .u64 0, .string ⟨#[]⟩]) (by simp [results, Tryz.results212, go_sem, lx1 _ r0]) rfl ⟨rfl, HF.out.1⟩
theorem fwhole_any (n : Int) (q : Rat) (w : World) (hq : (n : Rat) = q) :
    Calls Tryz.prog 212 #[(Value.agg #[.int .u64 ((lo (Int.natAbs (n)) : Nat) : Int), .string (bg (Int.natAbs (n))), .bool (decide ((n) < 0))])] w fun e w' => e = .returned (Value.agg #[.int .u64 ((lo (Int.natAbs ((q).num)) : Nat) : Int), .string (bg (Int.natAbs ((q).num))), .bool (decide (((q).num) < 0)), .int .u64 ((lo ((q).den - 1) : Nat) : Int), .string (bg ((q).den - 1))]) ∧ Below w.heap.size w w' := by
  subst hq
  exact fwhole_raw n w
set_option maxHeartbeats 1000000 in
theorem fiswhole_raw (q : Rat) (w : World) :
    Calls Tryz.prog 146 #[(Value.agg #[.int .u64 ((lo (Int.natAbs ((q).num)) : Nat) : Int), .string (bg (Int.natAbs ((q).num))), .bool (decide (((q).num) < 0)), .int .u64 ((lo ((q).den - 1) : Nat) : Int), .string (bg ((q).den - 1))])] w fun e w' => e = .returned (.bool (decide ((q).den - 1 = 0))) ∧ Below w.heap.size w w' := by
  go_enter Tryz.func146, Tryz.ntmps146
  have HF := Lib.hid (hp0 w)
  refine kS fun K hK => ?_
  refine wp_region_lit ?_
  go_wp2
  refine kO hK ?_; clear hK K
  refine fH ((HF.out).aL (w.heap.size)) fun Wx0 HG => ?_
  clear HF; have HF := HG; clear HG
  have lx0 := HF.out.c 0 rfl
  refine kS fun K hK => ?_
  refine sq 5 [(true, 0), (true, 1), (true, 2), (true, 3), (true, 4)] fun T hT => ?_
  iterate 5 refine tk ?_
  refine nlS hT HF fun vw1 HG => ?_
  clear hT T HF lx0
  go_wp2
  refine kO hK ?_; clear hK K
  refine fH ((HG.out).er 0) fun Wx1 HF => ?_
  clear HG
  refine wp_ret ?_
  try simp only [Exit.then, Exit.inBlock]
  exact bodyPost_ret (v := .bool (decide ((q).den - 1 = 0))) (by simp [results, Tryz.results146, go_sem]) rfl ⟨rfl, HF.out.1⟩
theorem fiswhole_any (q : Rat) (b : Bool) (w : World) (hb : decide (q.den = 1) = b) :
    Calls Tryz.prog 146 #[(Value.agg #[.int .u64 ((lo (Int.natAbs ((q).num)) : Nat) : Int), .string (bg (Int.natAbs ((q).num))), .bool (decide (((q).num) < 0)), .int .u64 ((lo ((q).den - 1) : Nat) : Int), .string (bg ((q).den - 1))])] w fun e w' => e = .returned (.bool b) ∧ Below w.heap.size w w' := by
  have e : decide (q.den - 1 = 0) = b := by
    rw [← hb]
    have := q.den_pos
    exact decide_eq_decide.2 (by omega)
  rw [← e]
  exact fiswhole_raw q w
set_option maxHeartbeats 1000000 in
theorem fsign_any (q : Rat) (t : Int) (w : World) (ht : sgQ q = t) :
    Calls Tryz.prog 139 #[(Value.agg #[.int .u64 ((lo (Int.natAbs ((q).num)) : Nat) : Int), .string (bg (Int.natAbs ((q).num))), .bool (decide (((q).num) < 0)), .int .u64 ((lo ((q).den - 1) : Nat) : Int), .string (bg ((q).den - 1))])] w fun e w' => e = .returned (.int .i64 (t)) ∧ Below w.heap.size w w' := by
  replace ht : Hid (sgI q.num = t) := by rw [← ht, sgQ_num]; rfl
  go_enter Tryz.func139, Tryz.ntmps139
  have HF := Lib.hid (hp0 w)
  refine kS fun K hK => ?_
  refine wp_region_lit ?_
  go_wp2
  refine kO hK ?_; clear hK K
  refine fH ((HF.out).aL (w.heap.size)) fun Wx0 HG => ?_
  clear HF; have HF := HG; clear HG
  have lx0 := HF.out.c 0 rfl
  refine kS fun K hK => ?_
  refine sq 4 [(true, 0), (true, 1), (true, 2), (true, 3)] fun T hT => ?_
  iterate 2 refine tk ?_
  refine ck Tryz.call101 (fun w' hw => zisign ((q).num) (t) _ (ht.out)) ?_
  refine tk ?_
  refine nlS hT HF fun vw1 HG => ?_
  clear hT T HF lx0
  go_wp2
  refine kO hK ?_; clear hK K
  refine fH ((HG.out).er 0) fun Wx1 HF => ?_
  clear HG
  refine wp_ret ?_
  try simp only [Exit.then, Exit.inBlock]
  exact bodyPost_ret (v := .int .i64 (t)) (by simp [results, Tryz.results139, go_sem]) rfl ⟨rfl, HF.out.1⟩
set_option maxHeartbeats 1000000 in
theorem fneg_raw (q r : Rat) (hr : Hid (-q = r)) (w : World) :
    Calls Tryz.prog 45 #[(Value.agg #[.int .u64 ((lo (Int.natAbs ((q).num)) : Nat) : Int), .string (bg (Int.natAbs ((q).num))), .bool (decide (((q).num) < 0)), .int .u64 ((lo ((q).den - 1) : Nat) : Int), .string (bg ((q).den - 1))])] w fun e w' => e = .returned (.agg #[.int .u64 ((lo (Int.natAbs ((r).num)) : Nat) : Int), .string (bg (Int.natAbs ((r).num))), .bool (decide (((r).num) < 0)), .int .u64 ((lo ((q).den - 1) : Nat) : Int), .string (bg ((q).den - 1))]) ∧ Below w.heap.size w w' := by
  go_enter Tryz.func45, Tryz.ntmps45
  have HF := Lib.hid (hp0 w)
  refine kS fun K hK => ?_
  refine wp_region_lit ?_
  go_wp2
  refine kO hK ?_; clear hK K
  refine fH (((HF.out).aL (w.heap.size)).aL (w.heap.size + 1)) fun Wx0 HG => ?_
  clear HF; have HF := HG; clear HG
  generalize w.heap.size + 1 = gx1 at *
  have HZ1 : Hid (-((q).num) = (r).num) := Lib.hid (by rw [← hr.out]; rfl)
  have lx0 := HF.out.c 0 rfl
  refine kS fun K hK => ?_
  refine pd 6 [(true, 0), (true, 1), (true, 3), (true, 4), (true, 2), (true, 5)] fun T hT => ?_
  iterate 4 refine tk ?_
  refine ck Tryz.call44 (fun w' hw => zineg ((q).num) ((r).num) _ HZ1.out) ?_
  refine tk ?_
  refine nlD hT HF fun vw1 HG => ?_
  clear hT T HF lx0
  have lx1 := HG.out.c 1 rfl; have fx1 := HG.out.f 1 rfl
  have r0 := Gr.refl vw1
  go_wp2
  refine kO hK ?_; clear hK K
  clear r0 lx1 fx1
  refine fH (((((HG.out).put2 1 0 rfl).put2 1 2 rfl).put 1 4 _ rfl).er 0) fun Wx1 HF => ?_
  clear HG
  refine wp_ret ?_
  try simp only [Exit.then, Exit.inBlock]
  have lx1 := HF.out.c 0 rfl
  have r0 := Gr.refl Wx1
  exact bodyPost_ret (v := .agg #[.int .u64 ((lo (Int.natAbs ((r).num)) : Nat) : Int), .string (bg (Int.natAbs ((r).num))), .bool (decide (((r).num) < 0)), .int .u64 ((lo ((q).den - 1) : Nat) : Int), .string (bg ((q).den - 1))]) (by simp [results, Tryz.results45, go_sem, lx1 _ r0]) rfl ⟨rfl, HF.out.1⟩
theorem fneg_any (q r : Rat) (w : World) (hr : -q = r) :
    Calls Tryz.prog 45 #[(Value.agg #[.int .u64 ((lo (Int.natAbs ((q).num)) : Nat) : Int), .string (bg (Int.natAbs ((q).num))), .bool (decide (((q).num) < 0)), .int .u64 ((lo ((q).den - 1) : Nat) : Int), .string (bg ((q).den - 1))])] w fun e w' => e = .returned (Value.agg #[.int .u64 ((lo (Int.natAbs ((r).num)) : Nat) : Int), .string (bg (Int.natAbs ((r).num))), .bool (decide (((r).num) < 0)), .int .u64 ((lo ((r).den - 1) : Nat) : Int), .string (bg ((r).den - 1))]) ∧ Below w.heap.size w w' := by
  have e : q.den = r.den := by rw [← hr]; rfl
  refine (fneg_raw q r (Lib.hid hr) w).mono ?_
  rintro _ w' ⟨rfl, hb⟩
  exact ⟨by rw [e], hb⟩
end Go.Proofs.YtobojnodohjiaaaGreatDoor
/- fracs: Int, Add, Mul, Sub. -/
namespace Go.Proofs.YtobojnodohjiaaaGreatDoor
open Go.RowKit
attribute [local go_sem ↓] Go.wp_at_zero Go.wp_at_succ
attribute [local go_sem ↓] eq_nat eq_nat_zero
theorem iof_any (n : Int) (w : World) (h1 : -9223372036854775808 ≤ n) (h2 : n ≤ 9223372036854775807) :
    Calls Tryz.prog 23 #[.int .i64 n] w fun e w' => e = .returned (Value.agg #[.int .u64 ((lo (Int.natAbs (n)) : Nat) : Int), .string (bg (Int.natAbs (n))), .bool (decide ((n) < 0))]) ∧ Below w.heap.size w w' := by
  obtain ⟨W0, HW⟩ : ∃ W0, Hid ((w.alloc (.cells #[.int .u64 0, .string ⟨#[]⟩, .bool false] 34)) = W0) := ⟨_, Lib.hid rfl⟩
  have HS := Lib.hid (show w.heap.size + 1 = W0.heap.size by rw [← HW.out]; simp)
  have z0 : w.heap.size < W0.heap.size := by rw [← HS.out]; omega
  have c0_0 : W0.cell? ⟨w.heap.size, 0, none⟩ = some (.int .u64 0) := by rw [← HW.out]; simp [go_sem]
  have c0_1 : W0.cell? ⟨w.heap.size, 1, none⟩ = some (.string ⟨#[]⟩) := by rw [← HW.out]; simp [go_sem]
  have c0_2 : W0.cell? ⟨w.heap.size, 2, none⟩ = some (.bool false) := by rw [← HW.out]; simp [go_sem]
  have f_0 : W0.frozen? ⟨w.heap.size, 0, none⟩ = false := by rw [← HW.out]; simp [go_sem]
  have f_1 : W0.frozen? ⟨w.heap.size, 1, none⟩ = false := by rw [← HW.out]; simp [go_sem]
  have f_2 : W0.frozen? ⟨w.heap.size, 2, none⟩ = false := by rw [← HW.out]; simp [go_sem]
  have hbw : Below w.heap.size w W0 := by rw [← HW.out]; exact (Below.refl _ _).alloc (Nat.le_refl _) _
  have HR : Hid (∀ w1 : World, Below W0.heap.size W0 w1 → w1.cell? ⟨w.heap.size, 0, none⟩ = some (.int .u64 0) ∧ w1.cell? ⟨w.heap.size, 1, none⟩ = some (.string ⟨#[]⟩) ∧ w1.cell? ⟨w.heap.size, 2, none⟩ = some (.bool false) ∧ w1.frozen? ⟨w.heap.size, 0, none⟩ = false ∧ w1.frozen? ⟨w.heap.size, 1, none⟩ = false ∧ w1.frozen? ⟨w.heap.size, 2, none⟩ = false ∧ Below w.heap.size w w1) := fun w1 hb => ⟨(held W0 w1 hb _ _ z0).trans c0_0, (held W0 w1 hb _ _ z0).trans c0_1, (held W0 w1 hb _ _ z0).trans c0_2, (heldf W0 w1 hb _ _ z0).trans f_0, (heldf W0 w1 hb _ _ z0).trans f_1, (heldf W0 w1 hb _ _ z0).trans f_2, grow hbw hb⟩
  have HBW := Lib.hid hbw
  clear hbw
  by_cases hn : n < 0
  · have hd : decide (n < 0) = true := decide_eq_true hn
    obtain ⟨m, HM⟩ : ∃ m : Nat, Hid (n = -(m : Int)) := ⟨n.natAbs, Lib.hid (by omega)⟩
    have hm : m < 18446744073709551616 := by have := HM.out; omega
    have e0 : IntKind.u64.wrap (-IntKind.u64.wrap n) = (m : Int) := by rw [IntKind.wrap_u64, IntKind.wrap_u64, HM.out]; have := HM.out; omega
    have HZ : (if true then -((m : Nat) : Int) else ((m : Nat) : Int)) = n := by rw [HM.out]; rfl
    have H3 := Lib.hid HZ
    clear HZ
    clear hn
    go_enter Tryz.func23, Tryz.ntmps23
    go_wp2_with fail
    clear hd
    rw [HW.out]
    refine (zof m W0 hm).mono ?_
    rintro e w1 ⟨rfl, hb1⟩
    clear c0_0 c0_1 c0_2 f_0 f_1 f_2 HBW; obtain ⟨c0_0, c0_1, c0_2, f_0, f_1, f_2, hbw⟩ := HR.out w1 (hb1); have HBW := Lib.hid hbw; clear hbw
    have HB1 := Lib.hid hb1
    clear hb1
    go_wp2_with fail
    refine (from_any true m n w1 H3.out).mono ?_
    rintro e w2 ⟨rfl, hb2⟩
    clear c0_0 c0_1 c0_2 f_0 f_1 f_2 HBW; obtain ⟨c0_0, c0_1, c0_2, f_0, f_1, f_2, hbw⟩ := HR.out w2 (grow HB1.out hb2); have HBW := Lib.hid hbw; clear hbw
    clear hb2
    go_wp2_with fail
    exact bodyPost_ret (v := (Value.agg #[.int .u64 ((lo (Int.natAbs (n)) : Nat) : Int), .string (bg (Int.natAbs (n))), .bool (decide ((n) < 0))])) (by simp [results, Tryz.results23, go_sem, c0_0, c0_1, c0_2]) rfl ⟨rfl, by first | exact (((HBW.out).setCell (by show w.heap.size ≤ w.heap.size; omega) _).setCell (by show w.heap.size ≤ w.heap.size; omega) _).setCell (by show w.heap.size ≤ w.heap.size; omega) _ | exact ((((HBW.out).setCell (by show w.heap.size ≤ w.heap.size; omega) _).setCell (by show w.heap.size ≤ w.heap.size; omega) _).setCell (by show w.heap.size ≤ w.heap.size; omega) _).drew⟩
  · have hd : decide (n < 0) = false := decide_eq_false hn
    obtain ⟨m, HM⟩ : ∃ m : Nat, Hid (n = (m : Int)) := ⟨n.natAbs, Lib.hid (by omega)⟩
    have hm : m < 18446744073709551616 := by have := HM.out; omega
    have e0 : IntKind.u64.wrap n = (m : Int) := by rw [IntKind.wrap_u64]; have := HM.out; omega
    have H3 : Hid ((if false then -((m : Nat) : Int) else ((m : Nat) : Int)) = n) := by show _ = n; rw [HM.out]; rfl
    clear hn
    go_enter Tryz.func23, Tryz.ntmps23
    go_wp2_with fail
    clear hd
    rw [HW.out]
    refine (zof m W0 hm).mono ?_
    rintro e w1 ⟨rfl, hb1⟩
    clear c0_0 c0_1 c0_2 f_0 f_1 f_2 HBW; obtain ⟨c0_0, c0_1, c0_2, f_0, f_1, f_2, hbw⟩ := HR.out w1 (hb1); have HBW := Lib.hid hbw; clear hbw
    have HB1 := Lib.hid hb1
    clear hb1
    go_wp2_with fail
    refine (from_any false m n w1 H3.out).mono ?_
    rintro e w2 ⟨rfl, hb2⟩
    clear c0_0 c0_1 c0_2 f_0 f_1 f_2 HBW; obtain ⟨c0_0, c0_1, c0_2, f_0, f_1, f_2, hbw⟩ := HR.out w2 (grow HB1.out hb2); have HBW := Lib.hid hbw; clear hbw
    clear hb2
    go_wp2_with fail
    exact bodyPost_ret (v := (Value.agg #[.int .u64 ((lo (Int.natAbs (n)) : Nat) : Int), .string (bg (Int.natAbs (n))), .bool (decide ((n) < 0))])) (by simp [results, Tryz.results23, go_sem, c0_0, c0_1, c0_2]) rfl ⟨rfl, by first | exact (((HBW.out).setCell (by show w.heap.size ≤ w.heap.size; omega) _).setCell (by show w.heap.size ≤ w.heap.size; omega) _).setCell (by show w.heap.size ≤ w.heap.size; omega) _ | exact ((((HBW.out).setCell (by show w.heap.size ≤ w.heap.size; omega) _).setCell (by show w.heap.size ≤ w.heap.size; omega) _).setCell (by show w.heap.size ≤ w.heap.size; omega) _).drew⟩
set_option maxHeartbeats 1000000 in
theorem fint_any (n : Int) (q : Rat) (w : World) (hq : (n : Rat) = q) (h1 : -9223372036854775808 ≤ n) (h2 : n ≤ 9223372036854775807) :
    Calls Tryz.prog 147 #[.int .i64 (n)] w fun e w' => e = .returned (.agg #[.int .u64 ((lo (Int.natAbs ((q).num)) : Nat) : Int), .string (bg (Int.natAbs ((q).num))), .bool (decide (((q).num) < 0)), .int .u64 ((lo ((q).den - 1) : Nat) : Int), .string (bg ((q).den - 1))]) ∧ Below w.heap.size w w' := by
  replace hq := Lib.hid hq
  go_enter Tryz.func147, Tryz.ntmps147
  have HF := Lib.hid (hp0 w)
  refine kS fun K hK => ?_
  refine wp_region_lit ?_
  go_wp2
  refine kO hK ?_; clear hK K
  refine fH ((HF.out).aL (w.heap.size)) fun Wx0 HG => ?_
  clear HF; have HF := HG; clear HG
  have HZ1 : Hid (((n : Int) : Rat) = q) := Lib.hid (hq.out)
  refine kS fun K hK => ?_
  refine sq 3 [(true, 0), (true, 1), (true, 2)] fun T hT => ?_
  refine tk ?_
  refine ck Tryz.call23 (fun w' hw => iof_any (n) _ om om) ?_
  refine ck Tryz.call212 (fun w' hw => fwhole_any (n) (q) _ HZ1.out) ?_
  refine nlS hT HF fun vw1 HG => ?_
  clear hT T HF
  have lx0 := HG.out.c 0 rfl; have fx0 := HG.out.f 0 rfl
  have r0 := Gr.refl vw1
  go_wp2
  refine kO hK ?_; clear hK K
  clear r0 lx0 fx0
  refine fH ((((HG.out).put2 0 0 rfl).put2 0 2 rfl).put 0 4 _ rfl) fun Wx1 HF => ?_
  clear HG
  refine wp_ret ?_
  try simp only [Exit.then, Exit.inBlock]
  have lx0 := HF.out.c 0 rfl
  have r0 := Gr.refl Wx1
  exact bodyPost_ret (v := .agg #[.int .u64 ((lo (Int.natAbs ((q).num)) : Nat) : Int), .string (bg (Int.natAbs ((q).num))), .bool (decide (((q).num) < 0)), .int .u64 ((lo ((q).den - 1) : Nat) : Int), .string (bg ((q).den - 1))]) (by simp [results, Tryz.results147, go_sem, lx0 _ r0]) rfl ⟨rfl, HF.out.1⟩
set_option maxHeartbeats 1000000 in
theorem fadd_int (a b z : Rat) (hz : a + b = z) (hs_a : sz a ≤ 100000000000) (hs_b : sz b ≤ 100000000000) (h1 : decide (a.den = 1) = true) (h2 : decide (b.den = 1) = true) (w : World) :
    Calls Tryz.prog 130 #[(Value.agg #[.int .u64 ((lo (Int.natAbs ((a).num)) : Nat) : Int), .string (bg (Int.natAbs ((a).num))), .bool (decide (((a).num) < 0)), .int .u64 ((lo ((a).den - 1) : Nat) : Int), .string (bg ((a).den - 1))]), (Value.agg #[.int .u64 ((lo (Int.natAbs ((b).num)) : Nat) : Int), .string (bg (Int.natAbs ((b).num))), .bool (decide (((b).num) < 0)), .int .u64 ((lo ((b).den - 1) : Nat) : Int), .string (bg ((b).den - 1))])] w fun e w' => e = .returned (.agg #[.int .u64 ((lo (Int.natAbs ((z).num)) : Nat) : Int), .string (bg (Int.natAbs ((z).num))), .bool (decide (((z).num) < 0)), .int .u64 ((lo ((z).den - 1) : Nat) : Int), .string (bg ((z).den - 1))]) ∧ Below w.heap.size w w' := by
  have hn_a := Nat.le_trans (sz_num a) hs_a
  have hd_a := Nat.le_trans (sz_den a) hs_a
  have he_a := Nat.le_trans (wl_mono (Nat.sub_le a.den 1)) hd_a
  have hp_a : 0 < a.den := a.den_pos
  have hn_b := Nat.le_trans (sz_num b) hs_b
  have hd_b := Nat.le_trans (sz_den b) hs_b
  have he_b := Nat.le_trans (wl_mono (Nat.sub_le b.den 1)) hd_b
  have hp_b : 0 < b.den := b.den_pos
  replace hz := Lib.hid hz
  go_enter Tryz.func130, Tryz.ntmps130
  have HF := Lib.hid (hp0 w)
  refine kS fun K hK => ?_
  refine wp_region_lit ?_
  go_wp2
  refine kO hK ?_; clear hK K
  refine fH ((((HF.out).aL (w.heap.size)).aL (w.heap.size + 1)).aL (w.heap.size + 1 + 1)) fun Wx0 HG => ?_
  clear HF; have HF := HG; clear HG
  generalize w.heap.size + 1 + 1 = gx2 at *
  generalize w.heap.size + 1 = gx1 at *
  refine wp_seq ?_
  refine wp_block ?_
  have lx0 := HF.out.c 0 rfl
  have lx1 := HF.out.c 1 rfl
  refine kS fun K hK => ?_
  refine sq 7 [(true, 0), (true, 1), (true, 2), (true, 3), (true, 4), (true, 5), (true, 6)] fun T hT => ?_
  refine tk ?_
  refine ck Tryz.call146 (fun w' hw => fiswhole_any (a) true _ h1) ?_
  iterate 2 refine tk ?_
  refine ck Tryz.call146 (fun w' hw => fiswhole_any (b) true _ h2) ?_
  iterate 2 refine tk ?_
  refine nlS hT HF fun vw1 HG => ?_
  clear hT T HF lx0 lx1
  go_wp2
  refine kO hK ?_; clear hK K
  have HF := HG; clear HG
  refine wp_cond_true (by rfl) ?_
  obtain ⟨u1, HZ1⟩ : ∃ z, Hid (((a).num) + ((b).num) = z) := ⟨_, Lib.hid rfl⟩
  have su1 : wl (Int.natAbs u1) ≤ 100000000001 := by rw [← HZ1.out]; have := wl_iadd ((a).num) ((b).num); omega
  have HZ2 : Hid (((u1 : Int) : Rat) = z) := Lib.hid (by rw [← HZ1.out, ← hz.out]; exact add_int a b (of_decide_eq_true h1) (of_decide_eq_true h2))
  have lx0 := HF.out.c 0 rfl
  have lx1 := HF.out.c 1 rfl
  refine kS fun K hK => ?_
  refine sq 6 [(true, 0), (true, 1), (true, 2), (true, 3), (true, 4), (true, 5)] fun T hT => ?_
  iterate 4 refine tk ?_
  refine ck Tryz.call41 (fun w' hw => ziadd ((a).num) ((b).num) (u1) _ HZ1.out om om) ?_
  refine ck Tryz.call212 (fun w' hw => fwhole_any (u1) (z) _ HZ2.out) ?_
  refine nlS hT HF fun vw2 HG => ?_
  clear hT T HF lx0 lx1
  have lx2 := HG.out.c 2 rfl; have fx2 := HG.out.f 2 rfl
  have r0 := Gr.refl vw2
  go_wp2
  refine kO hK ?_; clear hK K
  clear r0 lx2 fx2
  refine fH ((((HG.out).put2 2 0 rfl).put2 2 2 rfl).put 2 4 _ rfl) fun Wx2 HF => ?_
  clear HG
  refine wp_ret ?_
  try simp only [Exit.then, Exit.inBlock]
  have lx2 := HF.out.c 2 rfl
  have r0 := Gr.refl Wx2
  exact bodyPost_ret (v := .agg #[.int .u64 ((lo (Int.natAbs ((z).num)) : Nat) : Int), .string (bg (Int.natAbs ((z).num))), .bool (decide (((z).num) < 0)), .int .u64 ((lo ((z).den - 1) : Nat) : Int), .string (bg ((z).den - 1))]) (by simp [results, Tryz.results130, go_sem, lx2 _ r0]) rfl ⟨rfl, HF.out.1⟩
set_option maxHeartbeats 1000000 in
theorem fadd_same1 (a b z : Rat) (hz : a + b = z) (hs_a : sz a ≤ 100000000000) (hs_b : sz b ≤ 100000000000) (h1 : decide (a.den = 1) = true) (h2 : decide (b.den = 1) = false) (h3 : decide (a.den - 1 = b.den - 1) = false) (w : World) :
    Calls Tryz.prog 130 #[(Value.agg #[.int .u64 ((lo (Int.natAbs ((a).num)) : Nat) : Int), .string (bg (Int.natAbs ((a).num))), .bool (decide (((a).num) < 0)), .int .u64 ((lo ((a).den - 1) : Nat) : Int), .string (bg ((a).den - 1))]), (Value.agg #[.int .u64 ((lo (Int.natAbs ((b).num)) : Nat) : Int), .string (bg (Int.natAbs ((b).num))), .bool (decide (((b).num) < 0)), .int .u64 ((lo ((b).den - 1) : Nat) : Int), .string (bg ((b).den - 1))])] w fun e w' => e = .returned (.agg #[.int .u64 ((lo (Int.natAbs ((z).num)) : Nat) : Int), .string (bg (Int.natAbs ((z).num))), .bool (decide (((z).num) < 0)), .int .u64 ((lo ((z).den - 1) : Nat) : Int), .string (bg ((z).den - 1))]) ∧ Below w.heap.size w w' := by
  have hn_a := Nat.le_trans (sz_num a) hs_a
  have hd_a := Nat.le_trans (sz_den a) hs_a
  have he_a := Nat.le_trans (wl_mono (Nat.sub_le a.den 1)) hd_a
  have hp_a : 0 < a.den := a.den_pos
  have hn_b := Nat.le_trans (sz_num b) hs_b
  have hd_b := Nat.le_trans (sz_den b) hs_b
  have he_b := Nat.le_trans (wl_mono (Nat.sub_le b.den 1)) hd_b
  have hp_b : 0 < b.den := b.den_pos
  replace hz := Lib.hid hz
  go_enter Tryz.func130, Tryz.ntmps130
  have HF := Lib.hid (hp0 w)
  refine kS fun K hK => ?_
  refine wp_region_lit ?_
  go_wp2
  refine kO hK ?_; clear hK K
  refine fH ((((HF.out).aL (w.heap.size)).aL (w.heap.size + 1)).aL (w.heap.size + 1 + 1)) fun Wx0 HG => ?_
  clear HF; have HF := HG; clear HG
  generalize w.heap.size + 1 + 1 = gx2 at *
  generalize w.heap.size + 1 = gx1 at *
  refine wp_seq ?_
  refine wp_block ?_
  have lx0 := HF.out.c 0 rfl
  have lx1 := HF.out.c 1 rfl
  refine kS fun K hK => ?_
  refine sq 7 [(true, 0), (true, 1), (true, 2), (true, 3), (true, 4), (true, 5), (true, 6)] fun T hT => ?_
  refine tk ?_
  refine ck Tryz.call146 (fun w' hw => fiswhole_any (a) true _ h1) ?_
  iterate 2 refine tk ?_
  refine ck Tryz.call146 (fun w' hw => fiswhole_any (b) false _ h2) ?_
  iterate 2 refine tk ?_
  refine nlS hT HF fun vw1 HG => ?_
  clear hT T HF lx0 lx1
  go_wp2
  refine kO hK ?_; clear hK K
  have HF := HG; clear HG
  refine wp_cond_false (by rfl) ?_
  have lx0 := HF.out.c 0 rfl
  have lx1 := HF.out.c 1 rfl
  refine kS fun K hK => ?_
  refine sq 6 [(true, 0), (true, 1), (true, 2), (true, 3), (true, 4), (true, 5)] fun T hT => ?_
  iterate 6 refine tk ?_
  refine nlS hT HF fun vw2 HG => ?_
  clear hT T HF lx0 lx1
  go_wp2
  refine kO hK ?_; clear hK K
  have HF := HG; clear HG
  refine wp_cond_false (by rfl) ?_
  refine wp_skip ?_
  show Code.wp _ _ _ _ _
  obtain ⟨u1, HZ1⟩ : ∃ z, Hid (((b).den : Int) = z) := ⟨_, Lib.hid rfl⟩
  have su1 : wl (Int.natAbs u1) ≤ 100000000000 := by rw [← HZ1.out]; rw [Int.natAbs_natCast]; omega
  obtain ⟨u2, HZ2⟩ : ∃ z, Hid (((a).num) * (u1) = z) := ⟨_, Lib.hid rfl⟩
  have su2 : wl (Int.natAbs u2) ≤ 200000000000 := by rw [← HZ2.out]; have := wl_imul ((a).num) (u1); omega
  obtain ⟨u3, HZ3⟩ : ∃ z, Hid (((a).den : Int) = z) := ⟨_, Lib.hid rfl⟩
  have su3 : wl (Int.natAbs u3) ≤ 100000000000 := by rw [← HZ3.out]; rw [Int.natAbs_natCast]; omega
  obtain ⟨u4, HZ4⟩ : ∃ z, Hid (((b).num) * (u3) = z) := ⟨_, Lib.hid rfl⟩
  have su4 : wl (Int.natAbs u4) ≤ 200000000000 := by rw [← HZ4.out]; have := wl_imul ((b).num) (u3); omega
  obtain ⟨u5, HZ5⟩ : ∃ z, Hid ((u2) + (u4) = z) := ⟨_, Lib.hid rfl⟩
  have su5 : wl (Int.natAbs u5) ≤ 200000000001 := by rw [← HZ5.out]; have := wl_iadd (u2) (u4); omega
  obtain ⟨u6, HZ6⟩ : ∃ z, Hid (((a).den) * ((b).den) = z) := ⟨_, Lib.hid rfl⟩
  have su6 : wl u6 ≤ 200000000000 := by rw [← HZ6.out]; have := wl_mul ((a).den) ((b).den); omega
  have HZ7 : Hid (mkRat (u5) (u6) = z) := Lib.hid (by rw [← HZ5.out, ← HZ2.out, ← HZ4.out, ← HZ6.out, ← HZ1.out, ← HZ3.out, ← hz.out]; exact (Rat.add_def' a b).symm)
  have lx0 := HF.out.c 0 rfl
  have lx1 := HF.out.c 1 rfl
  refine kS fun K hK => ?_
  refine pd 17 [(true, 0), (true, 1), (true, 2), (true, 5), (true, 6), (true, 7), (true, 11), (true, 13), (true, 3), (true, 4), (true, 8), (true, 9), (true, 10), (true, 12), (true, 14), (true, 15), (true, 16)] fun T hT => ?_
  iterate 8 refine tk ?_
  refine ck Tryz.call213 (fun w' hw => fsigned_any (b) (u1) _ HZ1.out om) ?_
  refine ck Tryz.call39 (fun w' hw => zimul ((a).num) (u1) (u2) _ HZ2.out om om) ?_
  refine ck Tryz.call213 (fun w' hw => fsigned_any (a) (u3) _ HZ3.out om) ?_
  refine ck Tryz.call39 (fun w' hw => zimul ((b).num) (u3) (u4) _ HZ4.out om om) ?_
  refine ck Tryz.call41 (fun w' hw => ziadd (u2) (u4) (u5) _ HZ5.out om om) ?_
  refine ck Tryz.call114 (fun w' hw => fden_any (a) om _) ?_
  refine ck Tryz.call114 (fun w' hw => fden_any (b) om _) ?_
  refine ck Tryz.call110 (fun w' hw => zmul ((a).den) ((b).den) (u6) _ HZ6.out om om) ?_
  refine ck Tryz.call189 (fun w' hw => lowest_any (u5) (u6) (z) HZ7 (by rw [← HZ6.out]; exact Nat.mul_pos hp_a hp_b) om om _) ?_
  refine nlD hT HF fun vw3 HG => ?_
  clear hT T HF lx0 lx1
  have lx2 := HG.out.c 2 rfl; have fx2 := HG.out.f 2 rfl
  have r0 := Gr.refl vw3
  go_wp2
  refine kO hK ?_; clear hK K
  clear r0 lx2 fx2
  refine fH ((((((HG.out).put2 2 0 rfl).put2 2 2 rfl).put 2 4 _ rfl).er 1).er 0) fun Wx5 HF => ?_
  clear HG
  refine wp_ret ?_
  try simp only [Exit.then, Exit.inBlock]
  have lx2 := HF.out.c 0 rfl
  have r0 := Gr.refl Wx5
  exact bodyPost_ret (v := .agg #[.int .u64 ((lo (Int.natAbs ((z).num)) : Nat) : Int), .string (bg (Int.natAbs ((z).num))), .bool (decide (((z).num) < 0)), .int .u64 ((lo ((z).den - 1) : Nat) : Int), .string (bg ((z).den - 1))]) (by simp [results, Tryz.results130, go_sem, lx2 _ r0]) rfl ⟨rfl, HF.out.1⟩
set_option maxHeartbeats 1000000 in
theorem fadd_same (a b z : Rat) (hz : a + b = z) (hs_a : sz a ≤ 100000000000) (hs_b : sz b ≤ 100000000000) (h1 : decide (a.den = 1) = false) (h3 : decide (a.den - 1 = b.den - 1) = true) (w : World) :
    Calls Tryz.prog 130 #[(Value.agg #[.int .u64 ((lo (Int.natAbs ((a).num)) : Nat) : Int), .string (bg (Int.natAbs ((a).num))), .bool (decide (((a).num) < 0)), .int .u64 ((lo ((a).den - 1) : Nat) : Int), .string (bg ((a).den - 1))]), (Value.agg #[.int .u64 ((lo (Int.natAbs ((b).num)) : Nat) : Int), .string (bg (Int.natAbs ((b).num))), .bool (decide (((b).num) < 0)), .int .u64 ((lo ((b).den - 1) : Nat) : Int), .string (bg ((b).den - 1))])] w fun e w' => e = .returned (.agg #[.int .u64 ((lo (Int.natAbs ((z).num)) : Nat) : Int), .string (bg (Int.natAbs ((z).num))), .bool (decide (((z).num) < 0)), .int .u64 ((lo ((z).den - 1) : Nat) : Int), .string (bg ((z).den - 1))]) ∧ Below w.heap.size w w' := by
  have hn_a := Nat.le_trans (sz_num a) hs_a
  have hd_a := Nat.le_trans (sz_den a) hs_a
  have he_a := Nat.le_trans (wl_mono (Nat.sub_le a.den 1)) hd_a
  have hp_a : 0 < a.den := a.den_pos
  have hn_b := Nat.le_trans (sz_num b) hs_b
  have hd_b := Nat.le_trans (sz_den b) hs_b
  have he_b := Nat.le_trans (wl_mono (Nat.sub_le b.den 1)) hd_b
  have hp_b : 0 < b.den := b.den_pos
  replace hz := Lib.hid hz
  go_enter Tryz.func130, Tryz.ntmps130
  have HF := Lib.hid (hp0 w)
  refine kS fun K hK => ?_
  refine wp_region_lit ?_
  go_wp2
  refine kO hK ?_; clear hK K
  refine fH ((((HF.out).aL (w.heap.size)).aL (w.heap.size + 1)).aL (w.heap.size + 1 + 1)) fun Wx0 HG => ?_
  clear HF; have HF := HG; clear HG
  generalize w.heap.size + 1 + 1 = gx2 at *
  generalize w.heap.size + 1 = gx1 at *
  refine wp_seq ?_
  refine wp_block ?_
  have lx0 := HF.out.c 0 rfl
  have lx1 := HF.out.c 1 rfl
  refine kS fun K hK => ?_
  refine sq 7 [(true, 0), (true, 1), (true, 2), (true, 3), (true, 4), (true, 5), (true, 6)] fun T hT => ?_
  refine tk ?_
  refine ck Tryz.call146 (fun w' hw => fiswhole_any (a) false _ h1) ?_
  refine tk ?_
  iterate 2 refine sk ?_
  iterate 2 refine tk ?_
  refine nlS hT HF fun vw1 HG => ?_
  clear hT T HF lx0 lx1
  go_wp2
  refine kO hK ?_; clear hK K
  have HF := HG; clear HG
  refine wp_cond_false (by rfl) ?_
  have lx0 := HF.out.c 0 rfl
  have lx1 := HF.out.c 1 rfl
  refine kS fun K hK => ?_
  refine sq 6 [(true, 0), (true, 1), (true, 2), (true, 3), (true, 4), (true, 5)] fun T hT => ?_
  iterate 6 refine tk ?_
  refine nlS hT HF fun vw2 HG => ?_
  clear hT T HF lx0 lx1
  go_wp2
  refine kO hK ?_; clear hK K
  have HF := HG; clear HG
  refine wp_cond_true (by rfl) ?_
  obtain ⟨u1, HZ1⟩ : ∃ z, Hid (((a).num) + ((b).num) = z) := ⟨_, Lib.hid rfl⟩
  have su1 : wl (Int.natAbs u1) ≤ 100000000001 := by rw [← HZ1.out]; have := wl_iadd ((a).num) ((b).num); omega
  have HZ2 : Hid (mkRat (u1) ((a).den) = z) := Lib.hid (by rw [← HZ1.out, ← hz.out]; exact add_same a b (by have := of_decide_eq_true h3; omega))
  have lx0 := HF.out.c 0 rfl
  have lx1 := HF.out.c 1 rfl
  refine kS fun K hK => ?_
  refine pd 8 [(true, 0), (true, 1), (true, 2), (true, 3), (true, 5), (true, 4), (true, 6), (true, 7)] fun T hT => ?_
  iterate 5 refine tk ?_
  refine ck Tryz.call41 (fun w' hw => ziadd ((a).num) ((b).num) (u1) _ HZ1.out om om) ?_
  refine ck Tryz.call114 (fun w' hw => fden_any (a) om _) ?_
  refine ck Tryz.call189 (fun w' hw => lowest_any (u1) ((a).den) (z) HZ2 (by omega) om om _) ?_
  refine nlD hT HF fun vw3 HG => ?_
  clear hT T HF lx0 lx1
  have lx2 := HG.out.c 2 rfl; have fx2 := HG.out.f 2 rfl
  have r0 := Gr.refl vw3
  go_wp2
  refine kO hK ?_; clear hK K
  clear r0 lx2 fx2
  refine fH ((((HG.out).put2 2 0 rfl).put2 2 2 rfl).put 2 4 _ rfl) fun Wx4 HF => ?_
  clear HG
  refine wp_ret ?_
  try simp only [Exit.then, Exit.inBlock]
  have lx2 := HF.out.c 2 rfl
  have r0 := Gr.refl Wx4
  exact bodyPost_ret (v := .agg #[.int .u64 ((lo (Int.natAbs ((z).num)) : Nat) : Int), .string (bg (Int.natAbs ((z).num))), .bool (decide (((z).num) < 0)), .int .u64 ((lo ((z).den - 1) : Nat) : Int), .string (bg ((z).den - 1))]) (by simp [results, Tryz.results130, go_sem, lx2 _ r0]) rfl ⟨rfl, HF.out.1⟩
set_option maxHeartbeats 1000000 in
theorem fadd_other (a b z : Rat) (hz : a + b = z) (hs_a : sz a ≤ 100000000000) (hs_b : sz b ≤ 100000000000) (h1 : decide (a.den = 1) = false) (h3 : decide (a.den - 1 = b.den - 1) = false) (w : World) :
    Calls Tryz.prog 130 #[(Value.agg #[.int .u64 ((lo (Int.natAbs ((a).num)) : Nat) : Int), .string (bg (Int.natAbs ((a).num))), .bool (decide (((a).num) < 0)), .int .u64 ((lo ((a).den - 1) : Nat) : Int), .string (bg ((a).den - 1))]), (Value.agg #[.int .u64 ((lo (Int.natAbs ((b).num)) : Nat) : Int), .string (bg (Int.natAbs ((b).num))), .bool (decide (((b).num) < 0)), .int .u64 ((lo ((b).den - 1) : Nat) : Int), .string (bg ((b).den - 1))])] w fun e w' => e = .returned (.agg #[.int .u64 ((lo (Int.natAbs ((z).num)) : Nat) : Int), .string (bg (Int.natAbs ((z).num))), .bool (decide (((z).num) < 0)), .int .u64 ((lo ((z).den - 1) : Nat) : Int), .string (bg ((z).den - 1))]) ∧ Below w.heap.size w w' := by
  have hn_a := Nat.le_trans (sz_num a) hs_a
  have hd_a := Nat.le_trans (sz_den a) hs_a
  have he_a := Nat.le_trans (wl_mono (Nat.sub_le a.den 1)) hd_a
  have hp_a : 0 < a.den := a.den_pos
  have hn_b := Nat.le_trans (sz_num b) hs_b
  have hd_b := Nat.le_trans (sz_den b) hs_b
  have he_b := Nat.le_trans (wl_mono (Nat.sub_le b.den 1)) hd_b
  have hp_b : 0 < b.den := b.den_pos
  replace hz := Lib.hid hz
  go_enter Tryz.func130, Tryz.ntmps130
  have HF := Lib.hid (hp0 w)
  refine kS fun K hK => ?_
  refine wp_region_lit ?_
  go_wp2
  refine kO hK ?_; clear hK K
  refine fH ((((HF.out).aL (w.heap.size)).aL (w.heap.size + 1)).aL (w.heap.size + 1 + 1)) fun Wx0 HG => ?_
  clear HF; have HF := HG; clear HG
  generalize w.heap.size + 1 + 1 = gx2 at *
  generalize w.heap.size + 1 = gx1 at *
  refine wp_seq ?_
  refine wp_block ?_
  have lx0 := HF.out.c 0 rfl
  have lx1 := HF.out.c 1 rfl
  refine kS fun K hK => ?_
  refine sq 7 [(true, 0), (true, 1), (true, 2), (true, 3), (true, 4), (true, 5), (true, 6)] fun T hT => ?_
  refine tk ?_
  refine ck Tryz.call146 (fun w' hw => fiswhole_any (a) false _ h1) ?_
  refine tk ?_
  iterate 2 refine sk ?_
  iterate 2 refine tk ?_
  refine nlS hT HF fun vw1 HG => ?_
  clear hT T HF lx0 lx1
  go_wp2
  refine kO hK ?_; clear hK K
  have HF := HG; clear HG
  refine wp_cond_false (by rfl) ?_
  have lx0 := HF.out.c 0 rfl
  have lx1 := HF.out.c 1 rfl
  refine kS fun K hK => ?_
  refine sq 6 [(true, 0), (true, 1), (true, 2), (true, 3), (true, 4), (true, 5)] fun T hT => ?_
  iterate 6 refine tk ?_
  refine nlS hT HF fun vw2 HG => ?_
  clear hT T HF lx0 lx1
  go_wp2
  refine kO hK ?_; clear hK K
  have HF := HG; clear HG
  refine wp_cond_false (by rfl) ?_
  refine wp_skip ?_
  show Code.wp _ _ _ _ _
  obtain ⟨u1, HZ1⟩ : ∃ z, Hid (((b).den : Int) = z) := ⟨_, Lib.hid rfl⟩
  have su1 : wl (Int.natAbs u1) ≤ 100000000000 := by rw [← HZ1.out]; rw [Int.natAbs_natCast]; omega
  obtain ⟨u2, HZ2⟩ : ∃ z, Hid (((a).num) * (u1) = z) := ⟨_, Lib.hid rfl⟩
  have su2 : wl (Int.natAbs u2) ≤ 200000000000 := by rw [← HZ2.out]; have := wl_imul ((a).num) (u1); omega
  obtain ⟨u3, HZ3⟩ : ∃ z, Hid (((a).den : Int) = z) := ⟨_, Lib.hid rfl⟩
  have su3 : wl (Int.natAbs u3) ≤ 100000000000 := by rw [← HZ3.out]; rw [Int.natAbs_natCast]; omega
  obtain ⟨u4, HZ4⟩ : ∃ z, Hid (((b).num) * (u3) = z) := ⟨_, Lib.hid rfl⟩
  have su4 : wl (Int.natAbs u4) ≤ 200000000000 := by rw [← HZ4.out]; have := wl_imul ((b).num) (u3); omega
  obtain ⟨u5, HZ5⟩ : ∃ z, Hid ((u2) + (u4) = z) := ⟨_, Lib.hid rfl⟩
  have su5 : wl (Int.natAbs u5) ≤ 200000000001 := by rw [← HZ5.out]; have := wl_iadd (u2) (u4); omega
  obtain ⟨u6, HZ6⟩ : ∃ z, Hid (((a).den) * ((b).den) = z) := ⟨_, Lib.hid rfl⟩
  have su6 : wl u6 ≤ 200000000000 := by rw [← HZ6.out]; have := wl_mul ((a).den) ((b).den); omega
  have HZ7 : Hid (mkRat (u5) (u6) = z) := Lib.hid (by rw [← HZ5.out, ← HZ2.out, ← HZ4.out, ← HZ6.out, ← HZ1.out, ← HZ3.out, ← hz.out]; exact (Rat.add_def' a b).symm)
  have lx0 := HF.out.c 0 rfl
  have lx1 := HF.out.c 1 rfl
  refine kS fun K hK => ?_
  refine pd 17 [(true, 0), (true, 1), (true, 2), (true, 5), (true, 6), (true, 7), (true, 11), (true, 13), (true, 3), (true, 4), (true, 8), (true, 9), (true, 10), (true, 12), (true, 14), (true, 15), (true, 16)] fun T hT => ?_
  iterate 8 refine tk ?_
  refine ck Tryz.call213 (fun w' hw => fsigned_any (b) (u1) _ HZ1.out om) ?_
  refine ck Tryz.call39 (fun w' hw => zimul ((a).num) (u1) (u2) _ HZ2.out om om) ?_
  refine ck Tryz.call213 (fun w' hw => fsigned_any (a) (u3) _ HZ3.out om) ?_
  refine ck Tryz.call39 (fun w' hw => zimul ((b).num) (u3) (u4) _ HZ4.out om om) ?_
  refine ck Tryz.call41 (fun w' hw => ziadd (u2) (u4) (u5) _ HZ5.out om om) ?_
  refine ck Tryz.call114 (fun w' hw => fden_any (a) om _) ?_
  refine ck Tryz.call114 (fun w' hw => fden_any (b) om _) ?_
  refine ck Tryz.call110 (fun w' hw => zmul ((a).den) ((b).den) (u6) _ HZ6.out om om) ?_
  refine ck Tryz.call189 (fun w' hw => lowest_any (u5) (u6) (z) HZ7 (by rw [← HZ6.out]; exact Nat.mul_pos hp_a hp_b) om om _) ?_
  refine nlD hT HF fun vw3 HG => ?_
  clear hT T HF lx0 lx1
  have lx2 := HG.out.c 2 rfl; have fx2 := HG.out.f 2 rfl
  have r0 := Gr.refl vw3
  go_wp2
  refine kO hK ?_; clear hK K
  clear r0 lx2 fx2
  refine fH ((((((HG.out).put2 2 0 rfl).put2 2 2 rfl).put 2 4 _ rfl).er 1).er 0) fun Wx5 HF => ?_
  clear HG
  refine wp_ret ?_
  try simp only [Exit.then, Exit.inBlock]
  have lx2 := HF.out.c 0 rfl
  have r0 := Gr.refl Wx5
  exact bodyPost_ret (v := .agg #[.int .u64 ((lo (Int.natAbs ((z).num)) : Nat) : Int), .string (bg (Int.natAbs ((z).num))), .bool (decide (((z).num) < 0)), .int .u64 ((lo ((z).den - 1) : Nat) : Int), .string (bg ((z).den - 1))]) (by simp [results, Tryz.results130, go_sem, lx2 _ r0]) rfl ⟨rfl, HF.out.1⟩
theorem fadd_any (a b z : Rat) (w : World) (hz : a + b = z) (hs_a : sz a ≤ 100000000000) (hs_b : sz b ≤ 100000000000) :
    Calls Tryz.prog 130 #[(Value.agg #[.int .u64 ((lo (Int.natAbs ((a).num)) : Nat) : Int), .string (bg (Int.natAbs ((a).num))), .bool (decide (((a).num) < 0)), .int .u64 ((lo ((a).den - 1) : Nat) : Int), .string (bg ((a).den - 1))]), (Value.agg #[.int .u64 ((lo (Int.natAbs ((b).num)) : Nat) : Int), .string (bg (Int.natAbs ((b).num))), .bool (decide (((b).num) < 0)), .int .u64 ((lo ((b).den - 1) : Nat) : Int), .string (bg ((b).den - 1))])] w fun e w' => e = .returned (Value.agg #[.int .u64 ((lo (Int.natAbs ((z).num)) : Nat) : Int), .string (bg (Int.natAbs ((z).num))), .bool (decide (((z).num) < 0)), .int .u64 ((lo ((z).den - 1) : Nat) : Int), .string (bg ((z).den - 1))]) ∧ Below w.heap.size w w' := by
  cases h1 : decide (a.den = 1)
  · cases h3 : decide (a.den - 1 = b.den - 1)
    · exact fadd_other a b z hz hs_a hs_b h1 h3 w
    · exact fadd_same a b z hz hs_a hs_b h1 h3 w
  · cases h2 : decide (b.den = 1)
    · refine fadd_same1 a b z hz hs_a hs_b h1 h2 ?_ w
      have := a.den_pos
      have := b.den_pos
      have := of_decide_eq_true h1
      have := of_decide_eq_false h2
      exact decide_eq_false (by omega)
    · exact fadd_int a b z hz hs_a hs_b h1 h2 w
set_option maxHeartbeats 1000000 in
theorem fmul_int (a b z : Rat) (hz : a * b = z) (hs_a : sz a ≤ 100000000000) (hs_b : sz b ≤ 100000000000) (h1 : decide (a.den = 1) = true) (h2 : decide (b.den = 1) = true) (w : World) :
    Calls Tryz.prog 134 #[(Value.agg #[.int .u64 ((lo (Int.natAbs ((a).num)) : Nat) : Int), .string (bg (Int.natAbs ((a).num))), .bool (decide (((a).num) < 0)), .int .u64 ((lo ((a).den - 1) : Nat) : Int), .string (bg ((a).den - 1))]), (Value.agg #[.int .u64 ((lo (Int.natAbs ((b).num)) : Nat) : Int), .string (bg (Int.natAbs ((b).num))), .bool (decide (((b).num) < 0)), .int .u64 ((lo ((b).den - 1) : Nat) : Int), .string (bg ((b).den - 1))])] w fun e w' => e = .returned (.agg #[.int .u64 ((lo (Int.natAbs ((z).num)) : Nat) : Int), .string (bg (Int.natAbs ((z).num))), .bool (decide (((z).num) < 0)), .int .u64 ((lo ((z).den - 1) : Nat) : Int), .string (bg ((z).den - 1))]) ∧ Below w.heap.size w w' := by
  have hn_a := Nat.le_trans (sz_num a) hs_a
  have hd_a := Nat.le_trans (sz_den a) hs_a
  have he_a := Nat.le_trans (wl_mono (Nat.sub_le a.den 1)) hd_a
  have hp_a : 0 < a.den := a.den_pos
  have hn_b := Nat.le_trans (sz_num b) hs_b
  have hd_b := Nat.le_trans (sz_den b) hs_b
  have he_b := Nat.le_trans (wl_mono (Nat.sub_le b.den 1)) hd_b
  have hp_b : 0 < b.den := b.den_pos
  replace hz := Lib.hid hz
  go_enter Tryz.func134, Tryz.ntmps134
  have HF := Lib.hid (hp0 w)
  refine kS fun K hK => ?_
  refine wp_region_lit ?_
  go_wp2
  refine kO hK ?_; clear hK K
  refine fH ((((HF.out).aL (w.heap.size)).aL (w.heap.size + 1)).aL (w.heap.size + 1 + 1)) fun Wx0 HG => ?_
  clear HF; have HF := HG; clear HG
  generalize w.heap.size + 1 + 1 = gx2 at *
  generalize w.heap.size + 1 = gx1 at *
  refine wp_seq ?_
  have lx0 := HF.out.c 0 rfl
  have lx1 := HF.out.c 1 rfl
  refine kS fun K hK => ?_
  refine sq 6 [(true, 0), (true, 1), (true, 2), (true, 3), (true, 4), (true, 5)] fun T hT => ?_
  refine tk ?_
  refine ck Tryz.call146 (fun w' hw => fiswhole_any (a) true _ h1) ?_
  iterate 2 refine tk ?_
  refine ck Tryz.call146 (fun w' hw => fiswhole_any (b) true _ h2) ?_
  refine tk ?_
  refine nlS hT HF fun vw1 HG => ?_
  clear hT T HF lx0 lx1
  go_wp2
  refine kO hK ?_; clear hK K
  have HF := HG; clear HG
  refine wp_cond_true (by rfl) ?_
  obtain ⟨u1, HZ1⟩ : ∃ z, Hid (((a).num) * ((b).num) = z) := ⟨_, Lib.hid rfl⟩
  have su1 : wl (Int.natAbs u1) ≤ 200000000000 := by rw [← HZ1.out]; have := wl_imul ((a).num) ((b).num); omega
  have HZ2 : Hid (((u1 : Int) : Rat) = z) := Lib.hid (by rw [← HZ1.out, ← hz.out]; exact mul_int a b (of_decide_eq_true h1) (of_decide_eq_true h2))
  have lx0 := HF.out.c 0 rfl
  have lx1 := HF.out.c 1 rfl
  refine kS fun K hK => ?_
  refine sq 6 [(true, 0), (true, 1), (true, 2), (true, 3), (true, 4), (true, 5)] fun T hT => ?_
  iterate 4 refine tk ?_
  refine ck Tryz.call39 (fun w' hw => zimul ((a).num) ((b).num) (u1) _ HZ1.out om om) ?_
  refine ck Tryz.call212 (fun w' hw => fwhole_any (u1) (z) _ HZ2.out) ?_
  refine nlS hT HF fun vw2 HG => ?_
  clear hT T HF lx0 lx1
  have lx2 := HG.out.c 2 rfl; have fx2 := HG.out.f 2 rfl
  have r0 := Gr.refl vw2
  go_wp2
  refine kO hK ?_; clear hK K
  clear r0 lx2 fx2
  refine fH ((((HG.out).put2 2 0 rfl).put2 2 2 rfl).put 2 4 _ rfl) fun Wx2 HF => ?_
  clear HG
  refine wp_ret ?_
  try simp only [Exit.then, Exit.inBlock]
  have lx2 := HF.out.c 2 rfl
  have r0 := Gr.refl Wx2
  exact bodyPost_ret (v := .agg #[.int .u64 ((lo (Int.natAbs ((z).num)) : Nat) : Int), .string (bg (Int.natAbs ((z).num))), .bool (decide (((z).num) < 0)), .int .u64 ((lo ((z).den - 1) : Nat) : Int), .string (bg ((z).den - 1))]) (by simp [results, Tryz.results134, go_sem, lx2 _ r0]) rfl ⟨rfl, HF.out.1⟩
set_option maxHeartbeats 1000000 in
theorem fmul_other1 (a b z : Rat) (hz : a * b = z) (hs_a : sz a ≤ 100000000000) (hs_b : sz b ≤ 100000000000) (h1 : decide (a.den = 1) = true) (h2 : decide (b.den = 1) = false) (w : World) :
    Calls Tryz.prog 134 #[(Value.agg #[.int .u64 ((lo (Int.natAbs ((a).num)) : Nat) : Int), .string (bg (Int.natAbs ((a).num))), .bool (decide (((a).num) < 0)), .int .u64 ((lo ((a).den - 1) : Nat) : Int), .string (bg ((a).den - 1))]), (Value.agg #[.int .u64 ((lo (Int.natAbs ((b).num)) : Nat) : Int), .string (bg (Int.natAbs ((b).num))), .bool (decide (((b).num) < 0)), .int .u64 ((lo ((b).den - 1) : Nat) : Int), .string (bg ((b).den - 1))])] w fun e w' => e = .returned (.agg #[.int .u64 ((lo (Int.natAbs ((z).num)) : Nat) : Int), .string (bg (Int.natAbs ((z).num))), .bool (decide (((z).num) < 0)), .int .u64 ((lo ((z).den - 1) : Nat) : Int), .string (bg ((z).den - 1))]) ∧ Below w.heap.size w w' := by
  have hn_a := Nat.le_trans (sz_num a) hs_a
  have hd_a := Nat.le_trans (sz_den a) hs_a
  have he_a := Nat.le_trans (wl_mono (Nat.sub_le a.den 1)) hd_a
  have hp_a : 0 < a.den := a.den_pos
  have hn_b := Nat.le_trans (sz_num b) hs_b
  have hd_b := Nat.le_trans (sz_den b) hs_b
  have he_b := Nat.le_trans (wl_mono (Nat.sub_le b.den 1)) hd_b
  have hp_b : 0 < b.den := b.den_pos
  replace hz := Lib.hid hz
  go_enter Tryz.func134, Tryz.ntmps134
  have HF := Lib.hid (hp0 w)
  refine kS fun K hK => ?_
  refine wp_region_lit ?_
  go_wp2
  refine kO hK ?_; clear hK K
  refine fH ((((HF.out).aL (w.heap.size)).aL (w.heap.size + 1)).aL (w.heap.size + 1 + 1)) fun Wx0 HG => ?_
  clear HF; have HF := HG; clear HG
  generalize w.heap.size + 1 + 1 = gx2 at *
  generalize w.heap.size + 1 = gx1 at *
  refine wp_seq ?_
  have lx0 := HF.out.c 0 rfl
  have lx1 := HF.out.c 1 rfl
  refine kS fun K hK => ?_
  refine sq 6 [(true, 0), (true, 1), (true, 2), (true, 3), (true, 4), (true, 5)] fun T hT => ?_
  refine tk ?_
  refine ck Tryz.call146 (fun w' hw => fiswhole_any (a) true _ h1) ?_
  iterate 2 refine tk ?_
  refine ck Tryz.call146 (fun w' hw => fiswhole_any (b) false _ h2) ?_
  refine tk ?_
  refine nlS hT HF fun vw1 HG => ?_
  clear hT T HF lx0 lx1
  go_wp2
  refine kO hK ?_; clear hK K
  have HF := HG; clear HG
  refine wp_cond_false (by rfl) ?_
  refine wp_skip ?_
  show Code.wp _ _ _ _ _
  obtain ⟨u1, HZ1⟩ : ∃ z, Hid (((a).num) * ((b).num) = z) := ⟨_, Lib.hid rfl⟩
  have su1 : wl (Int.natAbs u1) ≤ 200000000000 := by rw [← HZ1.out]; have := wl_imul ((a).num) ((b).num); omega
  obtain ⟨u2, HZ2⟩ : ∃ z, Hid (((a).den) * ((b).den) = z) := ⟨_, Lib.hid rfl⟩
  have su2 : wl u2 ≤ 200000000000 := by rw [← HZ2.out]; have := wl_mul ((a).den) ((b).den); omega
  have HZ3 : Hid (mkRat (u1) (u2) = z) := Lib.hid (by rw [← HZ1.out, ← HZ2.out, ← hz.out]; exact (Rat.mul_def' a b).symm)
  have lx0 := HF.out.c 0 rfl
  have lx1 := HF.out.c 1 rfl
  refine kS fun K hK => ?_
  refine pd 11 [(true, 0), (true, 1), (true, 2), (true, 3), (true, 5), (true, 7), (true, 4), (true, 6), (true, 8), (true, 9), (true, 10)] fun T hT => ?_
  iterate 6 refine tk ?_
  refine ck Tryz.call39 (fun w' hw => zimul ((a).num) ((b).num) (u1) _ HZ1.out om om) ?_
  refine ck Tryz.call114 (fun w' hw => fden_any (a) om _) ?_
  refine ck Tryz.call114 (fun w' hw => fden_any (b) om _) ?_
  refine ck Tryz.call110 (fun w' hw => zmul ((a).den) ((b).den) (u2) _ HZ2.out om om) ?_
  refine ck Tryz.call189 (fun w' hw => lowest_any (u1) (u2) (z) HZ3 (by rw [← HZ2.out]; exact Nat.mul_pos hp_a hp_b) om om _) ?_
  refine nlD hT HF fun vw2 HG => ?_
  clear hT T HF lx0 lx1
  have lx2 := HG.out.c 2 rfl; have fx2 := HG.out.f 2 rfl
  have r0 := Gr.refl vw2
  go_wp2
  refine kO hK ?_; clear hK K
  clear r0 lx2 fx2
  refine fH ((((((HG.out).put2 2 0 rfl).put2 2 2 rfl).put 2 4 _ rfl).er 1).er 0) fun Wx3 HF => ?_
  clear HG
  refine wp_ret ?_
  try simp only [Exit.then, Exit.inBlock]
  have lx2 := HF.out.c 0 rfl
  have r0 := Gr.refl Wx3
  exact bodyPost_ret (v := .agg #[.int .u64 ((lo (Int.natAbs ((z).num)) : Nat) : Int), .string (bg (Int.natAbs ((z).num))), .bool (decide (((z).num) < 0)), .int .u64 ((lo ((z).den - 1) : Nat) : Int), .string (bg ((z).den - 1))]) (by simp [results, Tryz.results134, go_sem, lx2 _ r0]) rfl ⟨rfl, HF.out.1⟩
set_option maxHeartbeats 1000000 in
theorem fmul_other (a b z : Rat) (hz : a * b = z) (hs_a : sz a ≤ 100000000000) (hs_b : sz b ≤ 100000000000) (h1 : decide (a.den = 1) = false) (w : World) :
    Calls Tryz.prog 134 #[(Value.agg #[.int .u64 ((lo (Int.natAbs ((a).num)) : Nat) : Int), .string (bg (Int.natAbs ((a).num))), .bool (decide (((a).num) < 0)), .int .u64 ((lo ((a).den - 1) : Nat) : Int), .string (bg ((a).den - 1))]), (Value.agg #[.int .u64 ((lo (Int.natAbs ((b).num)) : Nat) : Int), .string (bg (Int.natAbs ((b).num))), .bool (decide (((b).num) < 0)), .int .u64 ((lo ((b).den - 1) : Nat) : Int), .string (bg ((b).den - 1))])] w fun e w' => e = .returned (.agg #[.int .u64 ((lo (Int.natAbs ((z).num)) : Nat) : Int), .string (bg (Int.natAbs ((z).num))), .bool (decide (((z).num) < 0)), .int .u64 ((lo ((z).den - 1) : Nat) : Int), .string (bg ((z).den - 1))]) ∧ Below w.heap.size w w' := by
  have hn_a := Nat.le_trans (sz_num a) hs_a
  have hd_a := Nat.le_trans (sz_den a) hs_a
  have he_a := Nat.le_trans (wl_mono (Nat.sub_le a.den 1)) hd_a
  have hp_a : 0 < a.den := a.den_pos
  have hn_b := Nat.le_trans (sz_num b) hs_b
  have hd_b := Nat.le_trans (sz_den b) hs_b
  have he_b := Nat.le_trans (wl_mono (Nat.sub_le b.den 1)) hd_b
  have hp_b : 0 < b.den := b.den_pos
  replace hz := Lib.hid hz
  go_enter Tryz.func134, Tryz.ntmps134
  have HF := Lib.hid (hp0 w)
  refine kS fun K hK => ?_
  refine wp_region_lit ?_
  go_wp2
  refine kO hK ?_; clear hK K
  refine fH ((((HF.out).aL (w.heap.size)).aL (w.heap.size + 1)).aL (w.heap.size + 1 + 1)) fun Wx0 HG => ?_
  clear HF; have HF := HG; clear HG
  generalize w.heap.size + 1 + 1 = gx2 at *
  generalize w.heap.size + 1 = gx1 at *
  refine wp_seq ?_
  have lx0 := HF.out.c 0 rfl
  have lx1 := HF.out.c 1 rfl
  refine kS fun K hK => ?_
  refine sq 6 [(true, 0), (true, 1), (true, 2), (true, 3), (true, 4), (true, 5)] fun T hT => ?_
  refine tk ?_
  refine ck Tryz.call146 (fun w' hw => fiswhole_any (a) false _ h1) ?_
  refine tk ?_
  iterate 2 refine sk ?_
  refine tk ?_
  refine nlS hT HF fun vw1 HG => ?_
  clear hT T HF lx0 lx1
  go_wp2
  refine kO hK ?_; clear hK K
  have HF := HG; clear HG
  refine wp_cond_false (by rfl) ?_
  refine wp_skip ?_
  show Code.wp _ _ _ _ _
  obtain ⟨u1, HZ1⟩ : ∃ z, Hid (((a).num) * ((b).num) = z) := ⟨_, Lib.hid rfl⟩
  have su1 : wl (Int.natAbs u1) ≤ 200000000000 := by rw [← HZ1.out]; have := wl_imul ((a).num) ((b).num); omega
  obtain ⟨u2, HZ2⟩ : ∃ z, Hid (((a).den) * ((b).den) = z) := ⟨_, Lib.hid rfl⟩
  have su2 : wl u2 ≤ 200000000000 := by rw [← HZ2.out]; have := wl_mul ((a).den) ((b).den); omega
  have HZ3 : Hid (mkRat (u1) (u2) = z) := Lib.hid (by rw [← HZ1.out, ← HZ2.out, ← hz.out]; exact (Rat.mul_def' a b).symm)
  have lx0 := HF.out.c 0 rfl
  have lx1 := HF.out.c 1 rfl
  refine kS fun K hK => ?_
  refine pd 11 [(true, 0), (true, 1), (true, 2), (true, 3), (true, 5), (true, 7), (true, 4), (true, 6), (true, 8), (true, 9), (true, 10)] fun T hT => ?_
  iterate 6 refine tk ?_
  refine ck Tryz.call39 (fun w' hw => zimul ((a).num) ((b).num) (u1) _ HZ1.out om om) ?_
  refine ck Tryz.call114 (fun w' hw => fden_any (a) om _) ?_
  refine ck Tryz.call114 (fun w' hw => fden_any (b) om _) ?_
  refine ck Tryz.call110 (fun w' hw => zmul ((a).den) ((b).den) (u2) _ HZ2.out om om) ?_
  refine ck Tryz.call189 (fun w' hw => lowest_any (u1) (u2) (z) HZ3 (by rw [← HZ2.out]; exact Nat.mul_pos hp_a hp_b) om om _) ?_
  refine nlD hT HF fun vw2 HG => ?_
  clear hT T HF lx0 lx1
  have lx2 := HG.out.c 2 rfl; have fx2 := HG.out.f 2 rfl
  have r0 := Gr.refl vw2
  go_wp2
  refine kO hK ?_; clear hK K
  clear r0 lx2 fx2
  refine fH ((((((HG.out).put2 2 0 rfl).put2 2 2 rfl).put 2 4 _ rfl).er 1).er 0) fun Wx3 HF => ?_
  clear HG
  refine wp_ret ?_
  try simp only [Exit.then, Exit.inBlock]
  have lx2 := HF.out.c 0 rfl
  have r0 := Gr.refl Wx3
  exact bodyPost_ret (v := .agg #[.int .u64 ((lo (Int.natAbs ((z).num)) : Nat) : Int), .string (bg (Int.natAbs ((z).num))), .bool (decide (((z).num) < 0)), .int .u64 ((lo ((z).den - 1) : Nat) : Int), .string (bg ((z).den - 1))]) (by simp [results, Tryz.results134, go_sem, lx2 _ r0]) rfl ⟨rfl, HF.out.1⟩
theorem fmul_any (a b z : Rat) (w : World) (hz : a * b = z) (hs_a : sz a ≤ 100000000000) (hs_b : sz b ≤ 100000000000) :
    Calls Tryz.prog 134 #[(Value.agg #[.int .u64 ((lo (Int.natAbs ((a).num)) : Nat) : Int), .string (bg (Int.natAbs ((a).num))), .bool (decide (((a).num) < 0)), .int .u64 ((lo ((a).den - 1) : Nat) : Int), .string (bg ((a).den - 1))]), (Value.agg #[.int .u64 ((lo (Int.natAbs ((b).num)) : Nat) : Int), .string (bg (Int.natAbs ((b).num))), .bool (decide (((b).num) < 0)), .int .u64 ((lo ((b).den - 1) : Nat) : Int), .string (bg ((b).den - 1))])] w fun e w' => e = .returned (Value.agg #[.int .u64 ((lo (Int.natAbs ((z).num)) : Nat) : Int), .string (bg (Int.natAbs ((z).num))), .bool (decide (((z).num) < 0)), .int .u64 ((lo ((z).den - 1) : Nat) : Int), .string (bg ((z).den - 1))]) ∧ Below w.heap.size w w' := by
  cases h1 : decide (a.den = 1)
  · exact fmul_other a b z hz hs_a hs_b h1 w
  · cases h2 : decide (b.den = 1)
    · exact fmul_other1 a b z hz hs_a hs_b h1 h2 w
    · exact fmul_int a b z hz hs_a hs_b h1 h2 w
set_option maxHeartbeats 1000000 in
theorem fsub_any (a b z : Rat) (w : World) (hz : a - b = z) (hs_a : sz a ≤ 100000000000) (hs_b : sz b ≤ 100000000000) :
    Calls Tryz.prog 132 #[(Value.agg #[.int .u64 ((lo (Int.natAbs ((a).num)) : Nat) : Int), .string (bg (Int.natAbs ((a).num))), .bool (decide (((a).num) < 0)), .int .u64 ((lo ((a).den - 1) : Nat) : Int), .string (bg ((a).den - 1))]), (Value.agg #[.int .u64 ((lo (Int.natAbs ((b).num)) : Nat) : Int), .string (bg (Int.natAbs ((b).num))), .bool (decide (((b).num) < 0)), .int .u64 ((lo ((b).den - 1) : Nat) : Int), .string (bg ((b).den - 1))])] w fun e w' => e = .returned (.agg #[.int .u64 ((lo (Int.natAbs ((z).num)) : Nat) : Int), .string (bg (Int.natAbs ((z).num))), .bool (decide (((z).num) < 0)), .int .u64 ((lo ((z).den - 1) : Nat) : Int), .string (bg ((z).den - 1))]) ∧ Below w.heap.size w w' := by
  replace hz := Lib.hid hz
  go_enter Tryz.func132, Tryz.ntmps132
  have HF := Lib.hid (hp0 w)
  refine kS fun K hK => ?_
  refine wp_region_lit ?_
  go_wp2
  refine kO hK ?_; clear hK K
  refine fH ((((HF.out).aL (w.heap.size)).aL (w.heap.size + 1)).aL (w.heap.size + 1 + 1)) fun Wx0 HG => ?_
  clear HF; have HF := HG; clear HG
  generalize w.heap.size + 1 + 1 = gx2 at *
  generalize w.heap.size + 1 = gx1 at *
  obtain ⟨u1, HZ1⟩ : ∃ z, Hid (-(b) = z) := ⟨_, Lib.hid rfl⟩
  have su1 : sz u1 ≤ 100000000000 := by rw [← HZ1.out]; rw [sz_neg]; omega
  have HZ2 : Hid ((a) + (u1) = z) := Lib.hid (by rw [← HZ1.out, ← hz.out, Rat.sub_eq_add_neg])
  have lx0 := HF.out.c 0 rfl
  have lx1 := HF.out.c 1 rfl
  refine kS fun K hK => ?_
  refine pd 4 [(true, 0), (true, 1), (true, 2), (true, 3)] fun T hT => ?_
  iterate 2 refine tk ?_
  refine ck Tryz.call45 (fun w' hw => fneg_any (b) (u1) _ HZ1.out) ?_
  refine ck Tryz.call130 (fun w' hw => fadd_any (a) (u1) (z) _ HZ2.out om om) ?_
  refine nlD hT HF fun vw1 HG => ?_
  clear hT T HF lx0 lx1
  have lx2 := HG.out.c 2 rfl; have fx2 := HG.out.f 2 rfl
  have r0 := Gr.refl vw1
  go_wp2
  refine kO hK ?_; clear hK K
  clear r0 lx2 fx2
  refine fH ((((((HG.out).put2 2 0 rfl).put2 2 2 rfl).put 2 4 _ rfl).er 1).er 0) fun Wx1 HF => ?_
  clear HG
  refine wp_ret ?_
  try simp only [Exit.then, Exit.inBlock]
  have lx2 := HF.out.c 0 rfl
  have r0 := Gr.refl Wx1
  exact bodyPost_ret (v := .agg #[.int .u64 ((lo (Int.natAbs ((z).num)) : Nat) : Int), .string (bg (Int.natAbs ((z).num))), .bool (decide (((z).num) < 0)), .int .u64 ((lo ((z).den - 1) : Nat) : Int), .string (bg ((z).den - 1))]) (by simp [results, Tryz.results132, go_sem, lx2 _ r0]) rfl ⟨rfl, HF.out.1⟩
end Go.Proofs.YtobojnodohjiaaaGreatDoor
/- fracs: Cmp, Div, Of. -/
namespace Go.Proofs.YtobojnodohjiaaaGreatDoor
open Go.RowKit
attribute [local go_sem ↓] Go.wp_at_zero Go.wp_at_succ
attribute [local go_sem ↓] eq_nat eq_nat_zero
set_option maxHeartbeats 1000000 in
theorem fcmp_same (a b : Rat) (t : Int) (ht : sgQ (a - b) = t) (hs_a : sz a ≤ 100000000000) (hs_b : sz b ≤ 100000000000) (h3 : decide (a.den - 1 = b.den - 1) = true) (w : World) :
    Calls Tryz.prog 140 #[(Value.agg #[.int .u64 ((lo (Int.natAbs ((a).num)) : Nat) : Int), .string (bg (Int.natAbs ((a).num))), .bool (decide (((a).num) < 0)), .int .u64 ((lo ((a).den - 1) : Nat) : Int), .string (bg ((a).den - 1))]), (Value.agg #[.int .u64 ((lo (Int.natAbs ((b).num)) : Nat) : Int), .string (bg (Int.natAbs ((b).num))), .bool (decide (((b).num) < 0)), .int .u64 ((lo ((b).den - 1) : Nat) : Int), .string (bg ((b).den - 1))])] w fun e w' => e = .returned (.int .i64 (t)) ∧ Below w.heap.size w w' := by
  have hn_a := Nat.le_trans (sz_num a) hs_a
  have hd_a := Nat.le_trans (sz_den a) hs_a
  have he_a := Nat.le_trans (wl_mono (Nat.sub_le a.den 1)) hd_a
  have hp_a : 0 < a.den := a.den_pos
  have hn_b := Nat.le_trans (sz_num b) hs_b
  have hd_b := Nat.le_trans (sz_den b) hs_b
  have he_b := Nat.le_trans (wl_mono (Nat.sub_le b.den 1)) hd_b
  have hp_b : 0 < b.den := b.den_pos
  replace ht := Lib.hid ht
  go_enter Tryz.func140, Tryz.ntmps140
  have HF := Lib.hid (hp0 w)
  refine kS fun K hK => ?_
  refine wp_region_lit ?_
  go_wp2
  refine kO hK ?_; clear hK K
  refine fH (((HF.out).aL (w.heap.size)).aL (w.heap.size + 1)) fun Wx0 HG => ?_
  clear HF; have HF := HG; clear HG
  generalize w.heap.size + 1 = gx1 at *
  refine wp_seq ?_
  have lx0 := HF.out.c 0 rfl
  have lx1 := HF.out.c 1 rfl
  refine kS fun K hK => ?_
  refine sq 5 [(true, 0), (true, 1), (true, 2), (true, 3), (true, 4)] fun T hT => ?_
  iterate 5 refine tk ?_
  refine nlS hT HF fun vw1 HG => ?_
  clear hT T HF lx0 lx1
  go_wp2
  refine kO hK ?_; clear hK K
  have HF := HG; clear HG
  refine wp_cond_true (by rfl) ?_
  have lx0 := HF.out.c 0 rfl
  have lx1 := HF.out.c 1 rfl
  refine kS fun K hK => ?_
  refine sq 6 [(true, 0), (true, 1), (true, 2), (true, 3), (true, 4), (true, 5)] fun T hT => ?_
  iterate 4 refine tk ?_
  refine ck Tryz.call217 (fun w' hw => zicmp ((a).num) ((b).num) (t) _ (by rw [← ht.out]; exact sgQ_sub_same a b (by have := of_decide_eq_true h3; omega)) om om) ?_
  refine tk ?_
  refine nlS hT HF fun vw2 HG => ?_
  clear hT T HF lx0 lx1
  go_wp2
  refine kO hK ?_; clear hK K
  have HF := HG; clear HG
  refine wp_ret ?_
  try simp only [Exit.then, Exit.inBlock]
  exact bodyPost_ret (v := .int .i64 (t)) (by simp [results, Tryz.results140, go_sem]) rfl ⟨rfl, HF.out.1⟩
set_option maxHeartbeats 1000000 in
theorem fcmp_other (a b : Rat) (t : Int) (ht : sgQ (a - b) = t) (hs_a : sz a ≤ 100000000000) (hs_b : sz b ≤ 100000000000) (h3 : decide (a.den - 1 = b.den - 1) = false) (w : World) :
    Calls Tryz.prog 140 #[(Value.agg #[.int .u64 ((lo (Int.natAbs ((a).num)) : Nat) : Int), .string (bg (Int.natAbs ((a).num))), .bool (decide (((a).num) < 0)), .int .u64 ((lo ((a).den - 1) : Nat) : Int), .string (bg ((a).den - 1))]), (Value.agg #[.int .u64 ((lo (Int.natAbs ((b).num)) : Nat) : Int), .string (bg (Int.natAbs ((b).num))), .bool (decide (((b).num) < 0)), .int .u64 ((lo ((b).den - 1) : Nat) : Int), .string (bg ((b).den - 1))])] w fun e w' => e = .returned (.int .i64 (t)) ∧ Below w.heap.size w w' := by
  have hn_a := Nat.le_trans (sz_num a) hs_a
  have hd_a := Nat.le_trans (sz_den a) hs_a
  have he_a := Nat.le_trans (wl_mono (Nat.sub_le a.den 1)) hd_a
  have hp_a : 0 < a.den := a.den_pos
  have hn_b := Nat.le_trans (sz_num b) hs_b
  have hd_b := Nat.le_trans (sz_den b) hs_b
  have he_b := Nat.le_trans (wl_mono (Nat.sub_le b.den 1)) hd_b
  have hp_b : 0 < b.den := b.den_pos
  replace ht := Lib.hid ht
  go_enter Tryz.func140, Tryz.ntmps140
  have HF := Lib.hid (hp0 w)
  refine kS fun K hK => ?_
  refine wp_region_lit ?_
  go_wp2
  refine kO hK ?_; clear hK K
  refine fH (((HF.out).aL (w.heap.size)).aL (w.heap.size + 1)) fun Wx0 HG => ?_
  clear HF; have HF := HG; clear HG
  generalize w.heap.size + 1 = gx1 at *
  refine wp_seq ?_
  have lx0 := HF.out.c 0 rfl
  have lx1 := HF.out.c 1 rfl
  refine kS fun K hK => ?_
  refine sq 5 [(true, 0), (true, 1), (true, 2), (true, 3), (true, 4)] fun T hT => ?_
  iterate 5 refine tk ?_
  refine nlS hT HF fun vw1 HG => ?_
  clear hT T HF lx0 lx1
  go_wp2
  refine kO hK ?_; clear hK K
  have HF := HG; clear HG
  refine wp_cond_false (by rfl) ?_
  refine wp_skip ?_
  show Code.wp _ _ _ _ _
  obtain ⟨u1, HZ1⟩ : ∃ z, Hid (((b).den : Int) = z) := ⟨_, Lib.hid rfl⟩
  have su1 : wl (Int.natAbs u1) ≤ 100000000000 := by rw [← HZ1.out]; rw [Int.natAbs_natCast]; omega
  obtain ⟨u2, HZ2⟩ : ∃ z, Hid (((a).num) * (u1) = z) := ⟨_, Lib.hid rfl⟩
  have su2 : wl (Int.natAbs u2) ≤ 200000000000 := by rw [← HZ2.out]; have := wl_imul ((a).num) (u1); omega
  obtain ⟨u3, HZ3⟩ : ∃ z, Hid (((a).den : Int) = z) := ⟨_, Lib.hid rfl⟩
  have su3 : wl (Int.natAbs u3) ≤ 100000000000 := by rw [← HZ3.out]; rw [Int.natAbs_natCast]; omega
  obtain ⟨u4, HZ4⟩ : ∃ z, Hid (((b).num) * (u3) = z) := ⟨_, Lib.hid rfl⟩
  have su4 : wl (Int.natAbs u4) ≤ 200000000000 := by rw [← HZ4.out]; have := wl_imul ((b).num) (u3); omega
  have lx0 := HF.out.c 0 rfl
  have lx1 := HF.out.c 1 rfl
  refine kS fun K hK => ?_
  refine pd 11 [(true, 0), (true, 1), (true, 2), (true, 5), (true, 6), (true, 7), (true, 3), (true, 4), (true, 8), (true, 9), (true, 10)] fun T hT => ?_
  iterate 6 refine tk ?_
  refine ck Tryz.call213 (fun w' hw => fsigned_any (b) (u1) _ HZ1.out om) ?_
  refine ck Tryz.call39 (fun w' hw => zimul ((a).num) (u1) (u2) _ HZ2.out om om) ?_
  refine ck Tryz.call213 (fun w' hw => fsigned_any (a) (u3) _ HZ3.out om) ?_
  refine ck Tryz.call39 (fun w' hw => zimul ((b).num) (u3) (u4) _ HZ4.out om om) ?_
  refine ck Tryz.call217 (fun w' hw => zicmp (u2) (u4) (t) _ (by rw [← ht.out, ← HZ2.out, ← HZ4.out, ← HZ1.out, ← HZ3.out]; exact sgQ_sub a b) om om) ?_
  refine nlD hT HF fun vw2 HG => ?_
  clear hT T HF lx0 lx1
  go_wp2
  refine kO hK ?_; clear hK K
  refine fH (((HG.out).er 1).er 0) fun Wx3 HF => ?_
  clear HG
  refine wp_ret ?_
  try simp only [Exit.then, Exit.inBlock]
  exact bodyPost_ret (v := .int .i64 (t)) (by simp [results, Tryz.results140, go_sem]) rfl ⟨rfl, HF.out.1⟩
theorem fcmp_any (a b : Rat) (t : Int) (w : World) (ht : sgQ (a - b) = t) (hs_a : sz a ≤ 100000000000) (hs_b : sz b ≤ 100000000000) :
    Calls Tryz.prog 140 #[(Value.agg #[.int .u64 ((lo (Int.natAbs ((a).num)) : Nat) : Int), .string (bg (Int.natAbs ((a).num))), .bool (decide (((a).num) < 0)), .int .u64 ((lo ((a).den - 1) : Nat) : Int), .string (bg ((a).den - 1))]), (Value.agg #[.int .u64 ((lo (Int.natAbs ((b).num)) : Nat) : Int), .string (bg (Int.natAbs ((b).num))), .bool (decide (((b).num) < 0)), .int .u64 ((lo ((b).den - 1) : Nat) : Int), .string (bg ((b).den - 1))])] w fun e w' => e = .returned (.int .i64 t) ∧ Below w.heap.size w w' := by
  cases h3 : decide (a.den - 1 = b.den - 1)
  · exact fcmp_other a b t ht hs_a hs_b h3 w
  · exact fcmp_same a b t ht hs_a hs_b h3 w
set_option maxHeartbeats 1000000 in
theorem fdiv_yes (a b z r : Rat) (t : Int) (hz : Hid (a * r = z)) (hr : Hid (b⁻¹ = r)) (ht : Hid (sgQ b = t)) (h0 : (t == 0) = false) (hb0 : 0 < Int.natAbs b.num) (hs_r : sz r ≤ 100000000000) (hs_a : sz a ≤ 100000000000) (hs_b : sz b ≤ 100000000000) (w : World) :
    Calls Tryz.prog 79 #[(Value.agg #[.int .u64 ((lo (Int.natAbs ((a).num)) : Nat) : Int), .string (bg (Int.natAbs ((a).num))), .bool (decide (((a).num) < 0)), .int .u64 ((lo ((a).den - 1) : Nat) : Int), .string (bg ((a).den - 1))]), (Value.agg #[.int .u64 ((lo (Int.natAbs ((b).num)) : Nat) : Int), .string (bg (Int.natAbs ((b).num))), .bool (decide (((b).num) < 0)), .int .u64 ((lo ((b).den - 1) : Nat) : Int), .string (bg ((b).den - 1))])] w fun e w' => e = .returned (.tuple #[(.agg #[.int .u64 ((lo (Int.natAbs ((z).num)) : Nat) : Int), .string (bg (Int.natAbs ((z).num))), .bool (decide (((z).num) < 0)), .int .u64 ((lo ((z).den - 1) : Nat) : Int), .string (bg ((z).den - 1))]), .int .i64 0]) ∧ Below w.heap.size w w' := by
  have hn_a := Nat.le_trans (sz_num a) hs_a
  have hd_a := Nat.le_trans (sz_den a) hs_a
  have he_a := Nat.le_trans (wl_mono (Nat.sub_le a.den 1)) hd_a
  have hp_a : 0 < a.den := a.den_pos
  have hn_b := Nat.le_trans (sz_num b) hs_b
  have hd_b := Nat.le_trans (sz_den b) hs_b
  have he_b := Nat.le_trans (wl_mono (Nat.sub_le b.den 1)) hd_b
  have hp_b : 0 < b.den := b.den_pos
  go_enter Tryz.func79, Tryz.ntmps79
  have HF := Lib.hid (hp0 w)
  refine kS fun K hK => ?_
  refine wp_region_lit ?_
  go_wp2
  refine kO hK ?_; clear hK K
  refine fH ((((HF.out).aL (w.heap.size)).aL (w.heap.size + 1)).aL (w.heap.size + 1 + 1)) fun Wx0 HG => ?_
  clear HF; have HF := HG; clear HG
  generalize w.heap.size + 1 + 1 = gx2 at *
  generalize w.heap.size + 1 = gx1 at *
  refine wp_seq ?_
  have lx1 := HF.out.c 1 rfl
  refine kS fun K hK => ?_
  refine sq 3 [(true, 0), (true, 1), (true, 2)] fun T hT => ?_
  refine tk ?_
  refine ck Tryz.call139 (fun w' hw => fsign_any (b) (t) _ (ht.out)) ?_
  refine tk ?_
  refine nlS hT HF fun vw1 HG => ?_
  clear hT T HF lx1
  go_wp2
  refine kO hK ?_; clear hK K
  have HF := HG; clear HG
  refine wp_cond_false (by rfl) ?_
  refine wp_skip ?_
  show Code.wp _ _ _ _ _
  obtain ⟨u1, HZ1⟩ : ∃ z, Hid ((if decide (t < 0) then -(((b).den : Nat) : Int) else (((b).den : Nat) : Int)) = z) := ⟨_, Lib.hid rfl⟩
  have su1 : wl (Int.natAbs u1) ≤ 100000000000 := by rw [← HZ1.out]; split <;> simp <;> omega
  have HZ2 : Hid (mkRat (u1) (Int.natAbs ((b).num)) = r) := Lib.hid (by rw [← HZ1.out, ← ht.out, ← hr.out]; exact inv_mk b (by omega))
  have lx1 := HF.out.c 1 rfl
  refine kS fun K hK => ?_
  refine wp_region_plan 11 [10] [] (fun _ => 6) (fun _ => .cells #[.int .u64 0, .string ⟨#[]⟩, .bool false, .int .u64 0, .string ⟨#[]⟩] 36) [(true, 0), (true, 3), (true, 6), (true, 7), (true, 1), (true, 2), (true, 4), (true, 5), (true, 8), (true, 9)] (by kernel_rfl) (by kernel_rfl) (by intro i hi; simp only [List.mem_cons, List.not_mem_nil, or_false] at hi; rcases hi with rfl <;> exact ⟨_, rfl, rfl, rfl, by simp, fun ρ w => by kernel_rfl⟩) (fun i hi => by cases hi) (fun _ _ _ _ _ h => h) (fun T hT => ?_)
  iterate 4 refine tk ?_
  refine ck Tryz.call139 (fun w' hw => fsign_any (b) (t) _ (ht.out)) ?_
  refine tk ?_
  refine ck Tryz.call114 (fun w' hw => fden_any (b) om _) ?_
  refine ck Tryz.call37 (fun w' hw => from_any (decide (t < 0)) ((b).den) (u1) _ HZ1.out) ?_
  refine ck Tryz.call100 (fun w' hw => abs_any ((b).num) _) ?_
  refine ck Tryz.call189 (fun w' hw => lowest_any (u1) (Int.natAbs ((b).num)) (r) HZ2 (by omega) om om _) ?_
  refine wpPlan_nil (hT.out _ _ ?_)
  intro G vw2 hg hf
  simp only [puts, Act.put, lA, lB, lC, lD, lE, ↓reduceIte, Nat.reduceEqDiff]
  have HG := Lib.hid (HF.out.fr hg hf (zs := [(#[.int .u64 0, .string ⟨#[]⟩, .bool false, .int .u64 0, .string ⟨#[]⟩], 36)]) rfl (by decide) (by decide))
  simp only [zq1_, zq2_, zq3_, zq4_, lF, lG] at HG
  clear hT T HF hg hf lx1
  generalize G 10 = gx4 at *
  have lx4 := HG.out.c 3 rfl; have fx4 := HG.out.f 3 rfl
  have r0 := Gr.refl vw2
  go_wp2
  refine kO hK ?_; clear hK K
  clear r0 lx4 fx4
  refine fH (((((HG.out).put2 3 0 rfl).put2 3 2 rfl).put 3 4 _ rfl).er 1) fun Wx3 HF => ?_
  clear HG
  have HZ3 : Hid ((a) * (r) = z) := Lib.hid (hz.out)
  have lx0 := HF.out.c 0 rfl
  have lx4 := HF.out.c 2 rfl
  refine kS fun K hK => ?_
  refine sq 3 [(true, 0), (true, 1), (true, 2)] fun T hT => ?_
  iterate 2 refine tk ?_
  refine ck Tryz.call134 (fun w' hw => fmul_any (a) (r) (z) _ HZ3.out om om) ?_
  refine nlS hT HF fun vw3 HG => ?_
  clear hT T HF lx0 lx4
  have lx2 := HG.out.c 1 rfl; have fx2 := HG.out.f 1 rfl
  have r0 := Gr.refl vw3
  go_wp2
  refine kO hK ?_; clear hK K
  clear r0 lx2 fx2
  refine fH ((((((HG.out).put2 1 0 rfl).put2 1 2 rfl).put 1 4 _ rfl).er 2).er 0) fun Wx4 HF => ?_
  clear HG
  refine wp_ret ?_
  try simp only [Exit.then, Exit.inBlock]
  have lx2 := HF.out.c 0 rfl
  have r0 := Gr.refl Wx4
  exact bodyPost_ret (v := .tuple #[(.agg #[.int .u64 ((lo (Int.natAbs ((z).num)) : Nat) : Int), .string (bg (Int.natAbs ((z).num))), .bool (decide (((z).num) < 0)), .int .u64 ((lo ((z).den - 1) : Nat) : Int), .string (bg ((z).den - 1))]), .int .i64 0]) (by simp [results, Tryz.results79, go_sem, lx2 _ r0]) rfl ⟨rfl, HF.out.1⟩
theorem fdiv_any (a b z : Rat) (w : World) (hz : a / b = z) (hb : b ≠ 0) (hs_a : sz a ≤ 100000000000) (hs_b : sz b ≤ 100000000000) :
    Calls Tryz.prog 79 #[(Value.agg #[.int .u64 ((lo (Int.natAbs ((a).num)) : Nat) : Int), .string (bg (Int.natAbs ((a).num))), .bool (decide (((a).num) < 0)), .int .u64 ((lo ((a).den - 1) : Nat) : Int), .string (bg ((a).den - 1))]), (Value.agg #[.int .u64 ((lo (Int.natAbs ((b).num)) : Nat) : Int), .string (bg (Int.natAbs ((b).num))), .bool (decide (((b).num) < 0)), .int .u64 ((lo ((b).den - 1) : Nat) : Int), .string (bg ((b).den - 1))])] w fun e w' => e = .returned (.tuple #[(Value.agg #[.int .u64 ((lo (Int.natAbs ((z).num)) : Nat) : Int), .string (bg (Int.natAbs ((z).num))), .bool (decide (((z).num) < 0)), .int .u64 ((lo ((z).den - 1) : Nat) : Int), .string (bg ((z).den - 1))]), .int .i64 0]) ∧ Below w.heap.size w w' := by
  have hn : b.num ≠ 0 := fun h => hb (num_zero.1 h)
  refine fdiv_yes a b z b⁻¹ (sgQ b) (Lib.hid (by rw [← hz, Rat.div_def])) (Lib.hid rfl) (Lib.hid rfl) ?_ (by omega) (Nat.le_trans (sz_inv b) hs_b) hs_a hs_b w
  have : sgQ b ≠ 0 := by unfold sgQ; rw [if_neg hb]; split <;> decide
  simpa using this
set_option maxHeartbeats 1000000 in
theorem fof_any (n d : Int) (z : Rat) (w : World) (hz : (n : Rat) / (d : Rat) = z) (hd : d ≠ 0) (h1 : -9223372036854775808 ≤ n) (h2 : n ≤ 9223372036854775807) (h3 : -9223372036854775808 ≤ d) (h4 : d ≤ 9223372036854775807) :
    Calls Tryz.prog 104 #[.int .i64 (n), .int .i64 (d)] w fun e w' => e = .returned (.tuple #[(.agg #[.int .u64 ((lo (Int.natAbs ((z).num)) : Nat) : Int), .string (bg (Int.natAbs ((z).num))), .bool (decide (((z).num) < 0)), .int .u64 ((lo ((z).den - 1) : Nat) : Int), .string (bg ((z).den - 1))]), .int .i64 0]) ∧ Below w.heap.size w w' := by
  replace hz := Lib.hid hz
  go_enter Tryz.func104, Tryz.ntmps104
  have HF := Lib.hid (hp0 w)
  refine kS fun K hK => ?_
  refine wp_region_lit ?_
  go_wp2
  refine kO hK ?_; clear hK K
  refine fH ((HF.out).aL (w.heap.size)) fun Wx0 HG => ?_
  clear HF; have HF := HG; clear HG
  obtain ⟨u1, HZ1⟩ : ∃ z, Hid (((n : Int) : Rat) = z) := ⟨_, Lib.hid rfl⟩
  have su1 : sz u1 ≤ 2 := by rw [← HZ1.out]; exact sz_int64 om om
  obtain ⟨u2, HZ2⟩ : ∃ z, Hid (((d : Int) : Rat) = z) := ⟨_, Lib.hid rfl⟩
  have su2 : sz u2 ≤ 2 := by rw [← HZ2.out]; exact sz_int64 om om
  have HZ3 : Hid ((u1) / (u2) = z) := Lib.hid (by rw [← HZ1.out, ← HZ2.out, ← hz.out])
  refine kS fun K hK => ?_
  refine sq 7 [(true, 0), (true, 1), (true, 2), (true, 3), (true, 4), (true, 5), (true, 6)] fun T hT => ?_
  refine tk ?_
  refine ck Tryz.call147 (fun w' hw => fint_any (n) (u1) _ HZ1.out om om) ?_
  refine tk ?_
  refine ck Tryz.call147 (fun w' hw => fint_any (d) (u2) _ HZ2.out om om) ?_
  refine ck Tryz.call79 (fun w' hw => fdiv_any (u1) (u2) (z) _ HZ3.out (by rw [← HZ2.out]; exact fun h => hd (Rat.intCast_inj.1 h)) om om) ?_
  iterate 2 refine tk ?_
  refine nlS hT HF fun vw1 HG => ?_
  clear hT T HF
  have lx0 := HG.out.c 0 rfl; have fx0 := HG.out.f 0 rfl
  have r0 := Gr.refl vw1
  go_wp2
  refine kO hK ?_; clear hK K
  clear r0 lx0 fx0
  refine fH ((((HG.out).put2 0 0 rfl).put2 0 2 rfl).put 0 4 _ rfl) fun Wx1 HF => ?_
  clear HG
  refine wp_ret ?_
  try simp only [Exit.then, Exit.inBlock]
  have lx0 := HF.out.c 0 rfl
  have r0 := Gr.refl Wx1
  exact bodyPost_ret (v := .tuple #[(.agg #[.int .u64 ((lo (Int.natAbs ((z).num)) : Nat) : Int), .string (bg (Int.natAbs ((z).num))), .bool (decide (((z).num) < 0)), .int .u64 ((lo ((z).den - 1) : Nat) : Int), .string (bg ((z).den - 1))]), .int .i64 0]) (by simp [results, Tryz.results104, go_sem, lx0 _ r0]) rfl ⟨rfl, HF.out.1⟩
end Go.Proofs.YtobojnodohjiaaaGreatDoor
/- gussetlaw03.Q.Of. -/
namespace Go.Proofs.YtobojnodohjiaaaGreatDoor
open Go.RowKit
attribute [local go_sem ↓] Go.wp_at_zero Go.wp_at_succ
theorem sgQ_zero' {q : Rat} (h : q = 0) : sgQ q = 0 := by subst h; rfl
theorem sz_quot (n d : Int) (h1 : -9223372036854775808 ≤ n) (h2 : n ≤ 9223372036854775807) (h3 : -9223372036854775808 ≤ d) (h4 : d ≤ 9223372036854775807) : sz ((n : Rat) / (d : Rat)) ≤ 4 := by
  have a := sz_int64 h1 h2; have b := sz_int64 h3 h4; have c := sz_div (n : Rat) (d : Rat); omega
set_option maxRecDepth 20000 in
set_option maxHeartbeats 4000000 in
theorem qof_any0 (n d m : Int) (z : Rat) (w : World) (HM : Hid (max d 1 = m)) (HZ : Hid ((n : Rat) / (m : Rat) = z)) (h1 : -9223372036854775808 ≤ n) (h2 : n ≤ 9223372036854775807) (h3 : 0 ≤ d) (h4 : d ≤ 4294967295) :
    Calls Tryz.prog 50 #[(Value.agg #[.int .i64 (n), .int .u32 (d)])] w fun e w' => e = .returned (.agg #[.int .u64 ((lo (Int.natAbs ((z).num)) : Nat) : Int), .string (bg (Int.natAbs ((z).num))), .bool (decide (((z).num) < 0)), .int .u64 ((lo ((z).den - 1) : Nat) : Int), .string (bg ((z).den - 1))]) ∧ Below w.heap.size w w' := by
  have hm0 := HM.out
  have hm1 : 1 ≤ m := by omega
  have hm2 : m ≤ 4294967295 := by omega
  have hwm : IntKind.i64.wrap m = m := by rw [IntKind.wrap_i64]; omega
  go_enter Tryz.func50, Tryz.ntmps50
  have HF := Lib.hid (hp0 w)
  refine kS fun K hK => ?_
  refine wp_region_lit ?_
  go_wp2
  refine kO hK ?_; clear hK K
  refine fH (((HF.out).aL (w.heap.size)).aL (w.heap.size + 1)) fun Wx0 HG => ?_
  clear HF; have HF := HG; clear HG
  generalize w.heap.size + 1 = gx1 at *
  have HZ1 : Hid (((n : Int) : Rat) / ((m : Int) : Rat) = z) := Lib.hid (HZ.out)
  have su1 : sz (z) ≤ 4 := by have e := HZ1.out; first | omega | (rw [← e]; exact sz_quot (n) (m) om om om om)
  have lx0 := HF.out.c 0 rfl
  refine kS fun K hK => ?_
  refine sq 10 [(true, 0), (true, 1), (true, 2), (true, 3), (true, 4), (true, 5), (true, 6), (true, 7), (true, 8), (true, 9)] fun T hT => ?_
  iterate 6 refine tk ?_
  refine ck Tryz.call104 (fun w' hw => fof_any (n) (m) (z) _ HZ1.out (by first | decide | omega) om om om om) ?_
  iterate 3 refine tk ?_
  refine nlS hT HF fun vw1 HG => ?_
  clear hT T HF lx0
  go_wp2
  refine kO hK ?_; clear hK K
  refine fH (((HG.out).aL (vw1.heap.size)).er 0) fun Wx1 HF => ?_
  clear HG
  generalize vw1.heap.size = gx3 at *
  have lx3 := HF.out.c 1 rfl
  refine kS fun K hK => ?_
  refine sq 1 [(true, 0)] fun T hT => ?_
  refine tk ?_
  refine nlS hT HF fun vw2 HG => ?_
  clear hT T HF lx3
  have lx1 := HG.out.c 0 rfl; have fx1 := HG.out.f 0 rfl
  have r0 := Gr.refl vw2
  go_wp2
  refine kO hK ?_; clear hK K
  clear r0 lx1 fx1
  refine fH (((((HG.out).put2 0 0 rfl).put2 0 2 rfl).put 0 4 _ rfl).er 1) fun Wx2 HF => ?_
  clear HG
  refine wp_ret ?_
  try simp only [Exit.then, Exit.inBlock]
  have lx1 := HF.out.c 0 rfl
  have r0 := Gr.refl Wx2
  exact bodyPost_ret (v := .agg #[.int .u64 ((lo (Int.natAbs ((z).num)) : Nat) : Int), .string (bg (Int.natAbs ((z).num))), .bool (decide (((z).num) < 0)), .int .u64 ((lo ((z).den - 1) : Nat) : Int), .string (bg ((z).den - 1))]) (by simp [results, Tryz.results50, go_sem, lx1 _ r0]) rfl ⟨rfl, HF.out.1⟩
def qv (n d : Int) : Rat := (n : Rat) / ((max d 1 : Int) : Rat)
theorem qv_any (n d : Int) (z : Rat) (w : World) (hz : qv n d = z) (h1 : -9223372036854775808 ≤ n) (h2 : n ≤ 9223372036854775807) (h3 : 0 ≤ d) (h4 : d ≤ 4294967295) :
    Calls Tryz.prog 50 #[.agg #[.int .i64 n, .int .u32 d]] w fun e w' => e = .returned (Value.agg #[.int .u64 ((lo (Int.natAbs ((z).num)) : Nat) : Int), .string (bg (Int.natAbs ((z).num))), .bool (decide (((z).num) < 0)), .int .u64 ((lo ((z).den - 1) : Nat) : Int), .string (bg ((z).den - 1))]) ∧ Below w.heap.size w w' := qof_any0 n d (max d 1) z w (Lib.hid rfl) (Lib.hid hz) h1 h2 h3 h4
theorem sz_qv (n d : Int) (h1 : -9223372036854775808 ≤ n) (h2 : n ≤ 9223372036854775807) (h3 : 0 ≤ d) (h4 : d ≤ 4294967295) : sz (qv n d) ≤ 4 := sz_quot n (max d 1) h1 h2 (by omega) (by omega)
end Go.Proofs.YtobojnodohjiaaaGreatDoor
/- gussetlaw23.P.Of. -/
namespace Go.Proofs.YtobojnodohjiaaaGreatDoor
open Go.RowKit
attribute [local go_sem ↓] Go.wp_at_zero Go.wp_at_succ
set_option maxRecDepth 20000 in
set_option maxHeartbeats 4000000 in
theorem pof_any (n0x d0x n0y d0y : Int) (z1 z2 : Rat) (w : World) (HZ1_ : Hid (qv n0x d0x = z1)) (HZ2_ : Hid (qv n0y d0y = z2)) (h1_0x : -9223372036854775808 ≤ n0x) (h2_0x : n0x ≤ 9223372036854775807) (h3_0x : 0 ≤ d0x) (h4_0x : d0x ≤ 4294967295) (h1_0y : -9223372036854775808 ≤ n0y) (h2_0y : n0y ≤ 9223372036854775807) (h3_0y : 0 ≤ d0y) (h4_0y : d0y ≤ 4294967295) :
    Calls Tryz.prog 17 #[(Value.agg #[.int .i64 (n0x), .int .u32 (d0x), .int .i64 (n0y), .int .u32 (d0y)])] w fun e w' => e = .returned (.agg #[.int .u64 ((lo (Int.natAbs ((z1).num)) : Nat) : Int), .string (bg (Int.natAbs ((z1).num))), .bool (decide (((z1).num) < 0)), .int .u64 ((lo ((z1).den - 1) : Nat) : Int), .string (bg ((z1).den - 1)), .int .u64 ((lo (Int.natAbs ((z2).num)) : Nat) : Int), .string (bg (Int.natAbs ((z2).num))), .bool (decide (((z2).num) < 0)), .int .u64 ((lo ((z2).den - 1) : Nat) : Int), .string (bg ((z2).den - 1))]) ∧ Below w.heap.size w w' := by
  go_enter Tryz.func17, Tryz.ntmps17
  have HF := Lib.hid (hp0 w)
  refine kS fun K hK => ?_
  refine wp_region_lit ?_
  go_wp2
  refine kO hK ?_; clear hK K
  refine fH (((HF.out).aL (w.heap.size)).aL (w.heap.size + 1)) fun Wx0 HG => ?_
  clear HF; have HF := HG; clear HG
  generalize w.heap.size + 1 = gx1 at *
  have HZ1 : Hid (qv (n0x) (d0x) = z1) := Lib.hid (HZ1_.out)
  have su1 : sz (z1) ≤ 4 := by have e := HZ1.out; first | omega | (rw [← e]; exact sz_qv (n0x) (d0x) om om om om)
  have HZ2 : Hid (qv (n0y) (d0y) = z2) := Lib.hid (HZ2_.out)
  have su2 : sz (z2) ≤ 4 := by have e := HZ2.out; first | omega | (rw [← e]; exact sz_qv (n0y) (d0y) om om om om)
  have lx0 := HF.out.c 0 rfl
  refine kS fun K hK => ?_
  refine pd 7 [(true, 0), (true, 1), (true, 3), (true, 4), (true, 2), (true, 5), (true, 6)] fun T hT => ?_
  iterate 4 refine tk ?_
  refine ck Tryz.call50 (fun w' hw => qv_any (n0x) (d0x) (z1) _ HZ1.out om om om om) ?_
  refine ck Tryz.call50 (fun w' hw => qv_any (n0y) (d0y) (z2) _ HZ2.out om om om om) ?_
  refine tk ?_
  refine nlD hT HF fun vw1 HG => ?_
  clear hT T HF lx0
  have lx1 := HG.out.c 1 rfl; have fx1 := HG.out.f 1 rfl
  have r0 := Gr.refl vw1
  go_wp2
  refine kO hK ?_; clear hK K
  clear r0 lx1 fx1
  refine fH (((((((HG.out).put2 1 0 rfl).put2 1 2 rfl).put2 1 4 rfl).put2 1 6 rfl).put2 1 8 rfl).er 0) fun Wx1 HF => ?_
  clear HG
  refine wp_ret ?_
  try simp only [Exit.then, Exit.inBlock]
  have lx1 := HF.out.c 0 rfl
  have r0 := Gr.refl Wx1
  exact bodyPost_ret (v := .agg #[.int .u64 ((lo (Int.natAbs ((z1).num)) : Nat) : Int), .string (bg (Int.natAbs ((z1).num))), .bool (decide (((z1).num) < 0)), .int .u64 ((lo ((z1).den - 1) : Nat) : Int), .string (bg ((z1).den - 1)), .int .u64 ((lo (Int.natAbs ((z2).num)) : Nat) : Int), .string (bg (Int.natAbs ((z2).num))), .bool (decide (((z2).num) < 0)), .int .u64 ((lo ((z2).den - 1) : Nat) : Int), .string (bg ((z2).den - 1))]) (by simp [results, Tryz.results17, go_sem, lx1 _ r0]) rfl ⟨rfl, HF.out.1⟩
end Go.Proofs.YtobojnodohjiaaaGreatDoor
