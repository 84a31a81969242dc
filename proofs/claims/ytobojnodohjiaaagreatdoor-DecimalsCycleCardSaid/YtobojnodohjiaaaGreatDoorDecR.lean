
/- decimals.Parse. -/
import Derived.Test.YtobojnodohjiaaaGreatDoorDecT
import Derived.Test.YtobojnodohjiaaaGreatDoorPW
namespace Go.Proofs.YtobojnodohjiaaaGreatDoor
open Go.RowKit
set_option linter.unusedSimpArgs false
set_option linter.unusedVariables false
attribute [local go_sem ↓] Go.wp_at_zero Go.wp_at_succ
attribute [local go_sem ↓] eq_nat eq_nat_zero eq_int
theorem sgI_nz {z : Int} (h : ¬ z = 0) : ¬ sgI z = 0 := by
  rcases Int.lt_trichotomy z 0 with h1 | h1 | h1
  · rw [sgI_lt h1]; decide
  · exact absurd h1 h
  · rw [sgI_gt h1]; decide
theorem cutmd (s d : ByteArray) (b : Bool) (w : World) (hd : idig s = d) (hb : ineg s = b) :
    Calls Tryz.prog 161 #[.string s, .string ⟨#[45]⟩] w fun e w' => e = .returned (.tuple #[.string d, .bool b]) ∧ Below w.heap.size w w' := hd ▸ cutm s b w hb
theorem dcut_any' (s up dn : ByteArray) (tw : Bool) (w : World) (h1 : dup s = up) (h2 : ddn s = dn) (h3 : dtwo s = tw) (hs : s.size ≤ 9223372036854775807) :
    Calls Tryz.prog 162 #[.string s, .string ⟨#[46]⟩] w fun e w' => e = .returned (.tuple #[.string up, .string dn, .bool tw]) ∧ Below w.heap.size w w' := h1 ▸ h2 ▸ h3 ▸ dcut_any s w hs
theorem nzparse' (s : ByteArray) (n : Nat) (c : Int) (w : World) (hn : pnum s = n) (hc : pcode s = c) (hs : s.size ≤ 9223372036854775807) :
    Calls Tryz.prog 163 #[.string s] w fun e w' => e = .returned (.tuple #[(Value.agg #[.int .u64 ((lo (n) : Nat) : Int), .string (bg (n))]), .int .i64 c]) ∧ Below w.heap.size w w' := nzparse s n c w hn hc hs
/-- the text behind the sign; its parts; the digits behind the point with a 1 ahead -/
def dA (s : ByteArray) : ByteArray := dup (idig s)
def dB (s : ByteArray) : ByteArray := ddn (idig s)
def dO (s : ByteArray) : ByteArray := (⟨#[49]⟩ : ByteArray) ++ dB s
/-- whether a point stands without digits behind it -/
def dM (s : ByteArray) : Bool := !(dtwo (idig s) == !(dB s).toList.isEmpty)
/-- the digits' number -/
def dK (s : ByteArray) : Nat := pnum (dA s) * 10 ^ (dB s).size + (pnum (dO s) - 10 ^ (dB s).size)
def dZ (s : ByteArray) : Int := if ineg s then -((dK s : Nat) : Int) else ((dK s : Nat) : Int)
/-- the code of a decimal notation, and its number -/
def dcode (s : ByteArray) : Int := if 4096 < s.size then 3 else if pcode (dA s) ≠ 0 then 4 else if pcode (dO s) ≠ 0 then 4 else if dM s then 4 else if ineg s = true ∧ dK s = 0 then 4 else 0
def dnum (s : ByteArray) : Rat := if dcode s = 0 then mkRat (dZ s) (10 ^ (dB s).size) else 0

set_option maxRecDepth 20000 in
set_option maxHeartbeats 4000000 in
theorem dparse0 (s d up dn bh : ByteArray) (ng tw mm : Bool) (n m p y k0 : Nat) (q e1 e2 c : Int) (z : Rat) (w : World) (hsz : s.size ≤ 4096) (hd : d.size ≤ 4096) (hup : up.size ≤ 4096) (hdn : dn.size ≤ 4096) (hbh : bh.size ≤ 4097) (HDG : Hid (idig s = d)) (HNG : Hid (ineg s = ng)) (HUP : Hid (dup d = up)) (HDN : Hid (ddn d = dn)) (HTW : Hid (dtwo d = tw)) (HBH : Hid ((⟨#[49]⟩ : ByteArray) ++ dn = bh)) (HPN : Hid (pnum up = n)) (HPC : Hid (pcode up = e1)) (HQN : Hid (pnum bh = m)) (HQC : Hid (pcode bh = e2)) (hwn : wl n ≤ 600) (hwm : wl m ≤ 600) (HM0 : Hid ((!(tw == !dn.toList.isEmpty)) = mm)) (HP : Hid (10 ^ dn.size = p)) (HP0 : Hid (0 < p)) (HPM : Hid (e2 = 0 → p ≤ m)) (HY : Hid (m - p = y)) (HKK : Hid (n * p + y = k0)) (HQQ : Hid ((if ng then -((k0 : Nat) : Int) else ((k0 : Nat) : Int)) = q)) (HC : Hid ((if e1 ≠ 0 then (4 : Int) else if e2 ≠ 0 then 4 else if mm then 4 else if ng = true ∧ k0 = 0 then 4 else 0) = c)) (HZ : Hid ((if c = 0 then mkRat q p else 0) = z)) :
    Calls Tryz.prog 63 #[.string s] w fun e w' => e = .returned ((.tuple #[(Value.agg #[.int .u64 ((lo (Int.natAbs ((z).num)) : Nat) : Int), .string (bg (Int.natAbs ((z).num))), .bool (decide (((z).num) < 0)), .int .u64 ((lo ((z).den - 1) : Nat) : Int), .string (bg ((z).den - 1))]), .int .i64 c])) ∧ Below w.heap.size w w' := by
  go_enter Tryz.func63, Tryz.ntmps63
  have HF := Lib.hid (hp0 w)
  refine kS fun K hK => ?_
  refine wp_region_lit ?_
  go_wp2
  refine hK.out _ _ ?_; clear hK K
  show Code.wp _ _ _ _ _
  refine fH ((HF.out).al (b := w.heap.size) (by first | rfl | simp) (by decide)) fun Wx0 HG => ?_
  clear HF; have HF := HG; clear HG
  refine wp_seq ?_
  have hlt9 : ¬ (4096 < (s.size : Int)) := by omega
  refine kS fun K hK => ?_
  refine sq 3 [(true, 0), (true, 1), (true, 2)] fun T hT => ?_
  iterate 3 refine tk ?_
  refine nlS hT HF fun vw1 HG => ?_
  clear hT T HF
  go_wp2
  refine hK.out _ _ ?_; clear hK K
  show Code.wp _ _ _ _ _
  have HF := HG; clear HG
  clear hlt9
  refine wp_cond_false (by rfl) ?_
  refine wp_skip ?_
  show Code.wp _ _ _ _ _
  refine kS fun K hK => ?_
  refine sq 7 [(true, 0), (true, 1), (true, 2), (true, 3), (true, 4), (true, 5), (true, 6)] fun T hT => ?_
  refine tk ?_
  refine ck Tryz.call161 (fun w' hw => cutmd s d ng _ HDG.out HNG.out) ?_
  iterate 5 refine tk ?_
  refine nlS hT HF fun vw2 HG => ?_
  clear hT T HF
  go_wp2
  refine hK.out _ _ ?_; clear hK K
  show Code.wp _ _ _ _ _
  have HF := HG; clear HG
  refine kS fun K hK => ?_
  refine sq 9 [(true, 0), (true, 1), (true, 2), (true, 3), (true, 4), (true, 5), (true, 6), (true, 7), (true, 8)] fun T hT => ?_
  refine tk ?_
  refine ck Tryz.call162 (fun w' hw => dcut_any' d up dn tw _ HUP.out HDN.out HTW.out (by omega)) ?_
  iterate 7 refine tk ?_
  refine nlS hT HF fun vw3 HG => ?_
  clear hT T HF
  go_wp2
  refine hK.out _ _ ?_; clear hK K
  show Code.wp _ _ _ _ _
  have HF := HG; clear HG
  refine kS fun K hK => ?_
  refine sq 5 [(true, 0), (true, 1), (true, 2), (true, 3), (true, 4)] fun T hT => ?_
  refine tk ?_
  refine ck Tryz.call163 (fun w' hw => nzparse' up n e1 _ HPN.out HPC.out (by omega)) ?_
  iterate 3 refine tk ?_
  refine nlS hT HF fun vw4 HG => ?_
  clear hT T HF
  go_wp2
  refine hK.out _ _ ?_; clear hK K
  show Code.wp _ _ _ _ _
  refine fH ((HG.out).al (b := vw4.heap.size) (by first | rfl | simp) (by decide)) fun Wx5 HF => ?_
  clear HG
  generalize vw4.heap.size = gx2 at *
  have hlen1 : ¬ (9223372036854775807 < 1 + dn.size) := by omega
  have hcat1 : (⟨#[49]⟩ : ByteArray) ++ dn = bh := HBH.out
  refine kS fun K hK => ?_
  refine sq 6 [(true, 0), (true, 1), (true, 2), (true, 3), (true, 4), (true, 5)] fun T hT => ?_
  iterate 2 refine tk ?_
  refine ck Tryz.call163 (fun w' hw => nzparse' bh m e2 _ HQN.out HQC.out (by omega)) ?_
  iterate 3 refine tk ?_
  refine nlS hT HF fun vw5 HG => ?_
  clear hT T HF
  go_wp2
  refine hK.out _ _ ?_; clear hK K
  show Code.wp _ _ _ _ _
  refine fH ((HG.out).al (b := vw5.heap.size) (by first | rfl | simp) (by decide)) fun Wx6 HF => ?_
  clear HG
  generalize vw5.heap.size = gx3 at *
  clear hlen1 hcat1
  refine wp_seq ?_
  by_cases h1 : e1 = 0
  · have HE1 := Lib.hid h1
    by_cases h2 : e2 = 0
    · have HE2 := Lib.hid h2
      cases hmm : mm
      · have HMM := Lib.hid (HM0.out.trans hmm)
        have HMF := Lib.hid hmm
        clear h1 h2 hmm
        have hx1 : (e1 != 0) = false := by rw [HE1.out]; rfl
        have hx2 : (e2 != 0) = false := by rw [HE2.out]; rfl
        have hx4 : (!(tw == !dn.toList.isEmpty)) = false := HMM.out
        refine kS fun K hK => ?_
        refine sq 12 [(true, 0), (true, 1), (true, 2), (true, 3), (true, 4), (true, 5), (true, 6), (true, 7), (true, 8), (true, 9), (true, 10), (true, 11)] fun T hT => ?_
        iterate 12 refine tk ?_
        refine nlS hT HF fun vw6 HG => ?_
        clear hT T HF
        go_wp2
        refine hK.out _ _ ?_; clear hK K
        show Code.wp _ _ _ _ _
        have HF := HG; clear HG
        clear hx1 hx2 hx4
        refine wp_cond_false (by rfl) ?_
        refine wp_skip ?_
        show Code.wp _ _ _ _ _
        have su_0_9 : wl 10 ≤ 1 := wl_le.2 (by decide +kernel)
        have HZ1 : Hid ((10) ^ dn.size = p) := Lib.hid (HP.out)
        have su1 : wl (p) ≤ 8192 := by have e := HZ1.out; first | omega | (rw [← e]; exact wl_pow _ _ (by rw [show nb 10 = 4 from by decide +kernel]; omega))
        refine kS fun K hK => ?_
        refine sq 7 [(true, 0), (true, 1), (true, 2), (true, 3), (true, 4), (true, 5), (true, 6)] fun T hT => ?_
        refine ck Tryz.call24 (fun w' hw => nzof 10 _ (by decide)) ?_
        iterate 2 refine tk ?_
        refine ck Tryz.call164 (fun w' hw => nzpow (10) dn.size (p) _ HZ1.out (by omega) (by rw [show nb 10 = 4 from by decide +kernel]; omega) om) ?_
        iterate 3 refine tk ?_
        refine nlS hT HF fun vw7 HG => ?_
        clear hT T HF
        go_wp2
        refine hK.out _ _ ?_; clear hK K
        show Code.wp _ _ _ _ _
        refine fH ((HG.out).al (b := vw7.heap.size) (by first | rfl | simp) (by decide)) fun Wx9 HF => ?_
        clear HG
        generalize vw7.heap.size = gx4 at *
        have HZ2 : Hid ((m) - (p) = y) := Lib.hid (HY.out)
        have su2 : wl (y) ≤ 600 := by have e := HZ2.out; first | omega | (rw [← e]; have := wl_sub (m) (p); omega)
        have lx3 := HF.out.c 2 rfl
        have lx4 := HF.out.c 3 rfl
        refine kS fun K hK => ?_
        refine sq 6 [(true, 0), (true, 1), (true, 2), (true, 3), (true, 4), (true, 5)] fun T hT => ?_
        iterate 2 refine tk ?_
        refine ck Tryz.call165 (fun w' hw => nzsub (m) (p) (y) _ HZ2.out (by exact HPM.out HE2.out) om om) ?_
        iterate 3 refine tk ?_
        refine nlS hT HF fun vw8 HG => ?_
        clear hT T HF lx3 lx4
        have lx3 := HG.out.c 2 rfl; have fx3 := HG.out.f 2 rfl
        have r0 := Gr.refl vw8
        go_wp2
        refine hK.out _ _ ?_; clear hK K
        show Code.wp _ _ _ _ _
        clear r0 lx3 fx3
        refine fH ((HG.out).put2 2 0 rfl) fun Wx10 HF => ?_
        clear HG
        obtain ⟨u3, HZ3⟩ : ∃ z, Hid ((n) * (p) = z) := ⟨_, Lib.hid rfl⟩
        have su3 : wl (u3) ≤ 8792 := by rw [← HZ3.out]; have := wl_mul (n) (p); omega
        have HZ4 : Hid ((u3) + (y) = k0) := Lib.hid (by rw [← HKK.out]; simp only [← HZ3.out])
        have su4 : wl (k0) ≤ 8793 := by have e := HZ4.out; first | omega | (rw [← e]; have := wl_add (u3) (y); omega)
        have HZ5 : Hid ((if ng then -((k0 : Nat) : Int) else ((k0 : Nat) : Int)) = q) := Lib.hid (HQQ.out)
        have su5 : wl (Int.natAbs (q)) ≤ 8793 := by have e := HZ5.out; first | omega | (rw [← e]; split <;> simp <;> omega)
        have lx2 := HF.out.c 1 rfl
        have lx3 := HF.out.c 2 rfl
        have lx4 := HF.out.c 3 rfl
        refine kS fun K hK => ?_
        refine wp_region_plan 8 [7] [] (fun _ => 15) (fun _ => .cells #[.int .u64 0, .string ⟨#[]⟩, .bool false] 34) [(true, 0), (true, 1), (true, 2), (true, 4), (true, 3), (true, 5), (true, 6)] (by kernel_rfl) (by kernel_rfl) (by intro i hi; simp only [List.mem_cons, List.not_mem_nil, or_false] at hi; rcases hi with rfl <;> exact ⟨_, rfl, rfl, rfl, by simp, fun ρ w => by kernel_rfl⟩) (fun i hi => by cases hi) (fun _ _ _ _ _ h => h) (fun T hT => ?_)
        iterate 4 refine tk ?_
        refine ck Tryz.call110 (fun w' hw => nzmul (n) (p) (u3) _ HZ3.out om om) ?_
        refine ck Tryz.call109 (fun w' hw => nzadd (u3) (y) (k0) _ HZ4.out om om) ?_
        refine ck Tryz.call37 (fun w' hw => from_any (ng) (k0) (q) _ HZ5.out) ?_
        refine wpPlan_nil (hT.out _ _ ?_)
        intro G vw9 hg hf
        simp only [puts, Act.put, lA, lB, lC, lD, lE, ↓reduceIte, Nat.reduceEqDiff]
        have HG := Lib.hid (HF.out.fr hg hf (zs := [(#[.int .u64 0, .string ⟨#[]⟩, .bool false], 34)]) rfl (by decide) (by decide))
        simp only [List.zip_cons_cons, List.zip_nil_right, List.map_cons, List.map_nil, lF, lG] at HG
        clear hT T HF hg hf lx2 lx3 lx4
        generalize G 7 = gx5 at *
        have lx5 := HG.out.c 4 rfl; have fx5 := HG.out.f 4 rfl
        have r0 := Gr.refl vw9
        go_wp2
        refine hK.out _ _ ?_; clear hK K
        show Code.wp _ _ _ _ _
        clear r0 lx5 fx5
        refine fH (((((HG.out).put2 4 0 rfl).put 4 2 _ rfl).er 2).er 1) fun Wx11 HF => ?_
        clear HG
        refine wp_seq ?_
        cases hng : ng
        · subst hng
          obtain rfl : c = 0 := by rw [← HC.out, if_neg (fun h => h HE1.out), if_neg (fun h => h HE2.out), if_neg (by rw [HMF.out]; decide), if_neg (by simp)]
          have HZZ : Hid (mkRat q p = z) := Lib.hid (by rw [← HZ.out, if_pos rfl])
          have lx5 := HF.out.c 2 rfl
          refine kS fun K hK => ?_
          refine sq 6 [(true, 0), (true, 1), (true, 2), (true, 3), (true, 4), (true, 5)] fun T hT => ?_
          iterate 2 refine tk ?_
          iterate 3 refine sk ?_
          refine tk ?_
          refine nlS hT HF fun vw10 HG => ?_
          clear hT T HF lx5
          go_wp2
          refine hK.out _ _ ?_; clear hK K
          show Code.wp _ _ _ _ _
          have HF := HG; clear HG
          refine wp_cond_false (by rfl) ?_
          refine wp_skip ?_
          show Code.wp _ _ _ _ _
          have HZ6 : Hid (mkRat (q) (p) = z) := Lib.hid (HZZ.out)
          have su6 : sz (z) ≤ 8793 := by have e := HZ6.out; first | omega | (rw [← e]; exact sz_mkRat (k := 8793) om om (by decide))
          have lx4 := HF.out.c 1 rfl
          have lx5 := HF.out.c 2 rfl
          refine kS fun K hK => ?_
          refine sq 5 [(true, 0), (true, 1), (true, 2), (true, 3), (true, 4)] fun T hT => ?_
          iterate 2 refine tk ?_
          refine ck Tryz.call102 (fun w' hw => ffrom_ok (q) (p) (z) _ (Lib.hid HZ6.out) (by exact HP0.out) om om) ?_
          iterate 2 refine tk ?_
          refine nlS hT HF fun vw11 HG => ?_
          clear hT T HF lx4 lx5
          have lx0 := HG.out.c 0 rfl; have fx0 := HG.out.f 0 rfl
          have r0 := Gr.refl vw11
          go_wp2
          refine hK.out _ _ ?_; clear hK K
          show Code.wp _ _ _ _ _
          clear r0 lx0 fx0
          refine fH ((((((HG.out).put2 0 0 rfl).put2 0 2 rfl).put 0 4 _ rfl).er 2).er 1) fun Wx14 HF => ?_
          clear HG
          refine wp_ret ?_
          try simp only [Exit.then, Exit.inBlock]
          have lx0 := HF.out.c 0 rfl
          have r0 := Gr.refl Wx14
          exact bodyPost_ret (v := .tuple #[(.agg #[.int .u64 ((lo (Int.natAbs ((z).num)) : Nat) : Int), .string (bg (Int.natAbs ((z).num))), .bool (decide (((z).num) < 0)), .int .u64 ((lo ((z).den - 1) : Nat) : Int), .string (bg ((z).den - 1))]), .int .i64 0]) (by simp [results, Tryz.results63, go_sem, lx0 _ r0]) rfl ⟨rfl, HF.out.1⟩
        · subst hng
          by_cases hk0 : k0 = 0
          · obtain rfl : c = 4 := by rw [← HC.out, if_neg (fun h => h HE1.out), if_neg (fun h => h HE2.out), if_neg (by rw [HMF.out]; decide), if_pos ⟨rfl, hk0⟩]
            obtain rfl : z = 0 := by rw [← HZ.out, if_neg (by decide)]
            have HK0 : Hid (q = 0) := Lib.hid (by rw [← HQQ.out, hk0]; rfl)
            clear hk0
            have lx5 := HF.out.c 2 rfl
            refine kS fun K hK => ?_
            refine sq 6 [(true, 0), (true, 1), (true, 2), (true, 3), (true, 4), (true, 5)] fun T hT => ?_
            iterate 3 refine tk ?_
            refine ck Tryz.call101 (fun w' hw => zisign (q) (0) _ (by have e9 : (q) = (0 : Int) := (by exact HK0.out); exact sgI_eq e9)) ?_
            iterate 2 refine tk ?_
            refine nlS hT HF fun vw10 HG => ?_
            clear hT T HF lx5
            go_wp2
            refine hK.out _ _ ?_; clear hK K
            show Code.wp _ _ _ _ _
            have HF := HG; clear HG
            refine wp_cond_true (by rfl) ?_
            refine kS fun K hK => ?_
            refine sq 1 [(true, 0)] fun T hT => ?_
            refine tk ?_
            refine nlS hT HF fun vw11 HG => ?_
            clear hT T HF
            have lx0 := HG.out.c 0 rfl; have fx0 := HG.out.f 0 rfl
            have r0 := Gr.refl vw11
            go_wp2
            refine hK.out _ _ ?_; clear hK K
            show Code.wp _ _ _ _ _
            clear r0 lx0 fx0
            refine fH ((((HG.out).put2 0 0 rfl).put2 0 2 rfl).put 0 4 _ rfl) fun Wx13 HF => ?_
            clear HG
            refine wp_ret ?_
            try simp only [Exit.then, Exit.inBlock]
            have lx0 := HF.out.c 0 rfl
            have r0 := Gr.refl Wx13
            exact bodyPost_ret (v := .tuple #[(.agg #[.int .u64 0, .string ⟨#[]⟩, .bool false, .int .u64 0, .string ⟨#[]⟩]), .int .i64 4]) (by simp [results, Tryz.results63, go_sem, lx0 _ r0]) rfl ⟨rfl, HF.out.1⟩
          · obtain rfl : c = 0 := by rw [← HC.out, if_neg (fun h => h HE1.out), if_neg (fun h => h HE2.out), if_neg (by rw [HMF.out]; decide), if_neg (fun h => hk0 h.2)]
            have HZZ : Hid (mkRat q p = z) := Lib.hid (by rw [← HZ.out, if_pos rfl])
            have HK0 : Hid (¬ q = 0) := Lib.hid (by rw [← HQQ.out, if_pos rfl]; omega)
            obtain ⟨t, HTS⟩ : ∃ t, Hid (sgI q = t) := ⟨_, Lib.hid rfl⟩
            clear hk0
            have htz : (t == 0) = false := by have h9 : ¬ t = 0 := (by rw [← HTS.out]; exact sgI_nz HK0.out); simpa using h9
            have lx5 := HF.out.c 2 rfl
            refine kS fun K hK => ?_
            refine sq 6 [(true, 0), (true, 1), (true, 2), (true, 3), (true, 4), (true, 5)] fun T hT => ?_
            iterate 3 refine tk ?_
            refine ck Tryz.call101 (fun w' hw => zisign (q) (t) _ (HTS.out)) ?_
            iterate 2 refine tk ?_
            refine nlS hT HF fun vw10 HG => ?_
            clear hT T HF lx5
            go_wp2
            refine hK.out _ _ ?_; clear hK K
            show Code.wp _ _ _ _ _
            have HF := HG; clear HG
            clear htz
            refine wp_cond_false (by rfl) ?_
            refine wp_skip ?_
            show Code.wp _ _ _ _ _
            have HZ6 : Hid (mkRat (q) (p) = z) := Lib.hid (HZZ.out)
            have su6 : sz (z) ≤ 8793 := by have e := HZ6.out; first | omega | (rw [← e]; exact sz_mkRat (k := 8793) om om (by decide))
            have lx4 := HF.out.c 1 rfl
            have lx5 := HF.out.c 2 rfl
            refine kS fun K hK => ?_
            refine sq 5 [(true, 0), (true, 1), (true, 2), (true, 3), (true, 4)] fun T hT => ?_
            iterate 2 refine tk ?_
            refine ck Tryz.call102 (fun w' hw => ffrom_ok (q) (p) (z) _ (Lib.hid HZ6.out) (by exact HP0.out) om om) ?_
            iterate 2 refine tk ?_
            refine nlS hT HF fun vw11 HG => ?_
            clear hT T HF lx4 lx5
            have lx0 := HG.out.c 0 rfl; have fx0 := HG.out.f 0 rfl
            have r0 := Gr.refl vw11
            go_wp2
            refine hK.out _ _ ?_; clear hK K
            show Code.wp _ _ _ _ _
            clear r0 lx0 fx0
            refine fH ((((((HG.out).put2 0 0 rfl).put2 0 2 rfl).put 0 4 _ rfl).er 2).er 1) fun Wx14 HF => ?_
            clear HG
            refine wp_ret ?_
            try simp only [Exit.then, Exit.inBlock]
            have lx0 := HF.out.c 0 rfl
            have r0 := Gr.refl Wx14
            exact bodyPost_ret (v := .tuple #[(.agg #[.int .u64 ((lo (Int.natAbs ((z).num)) : Nat) : Int), .string (bg (Int.natAbs ((z).num))), .bool (decide (((z).num) < 0)), .int .u64 ((lo ((z).den - 1) : Nat) : Int), .string (bg ((z).den - 1))]), .int .i64 0]) (by simp [results, Tryz.results63, go_sem, lx0 _ r0]) rfl ⟨rfl, HF.out.1⟩
      · have HMM := Lib.hid (HM0.out.trans hmm)
        have HMF := Lib.hid hmm
        obtain rfl : c = 4 := by rw [← HC.out, if_neg (fun h => h h1), if_neg (fun h => h h2), if_pos hmm]
        obtain rfl : z = 0 := by rw [← HZ.out, if_neg (by decide)]
        clear h1 h2 hmm
        have hx1 : (e1 != 0) = false := by rw [HE1.out]; rfl
        have hx2 : (e2 != 0) = false := by rw [HE2.out]; rfl
        have hx4 : (!(tw == !dn.toList.isEmpty)) = true := HMM.out
        refine kS fun K hK => ?_
        refine sq 12 [(true, 0), (true, 1), (true, 2), (true, 3), (true, 4), (true, 5), (true, 6), (true, 7), (true, 8), (true, 9), (true, 10), (true, 11)] fun T hT => ?_
        iterate 12 refine tk ?_
        refine nlS hT HF fun vw6 HG => ?_
        clear hT T HF
        go_wp2
        refine hK.out _ _ ?_; clear hK K
        show Code.wp _ _ _ _ _
        have HF := HG; clear HG
        clear hx1 hx2 hx4
        refine wp_cond_true (by rfl) ?_
        refine kS fun K hK => ?_
        refine sq 1 [(true, 0)] fun T hT => ?_
        refine tk ?_
        refine nlS hT HF fun vw7 HG => ?_
        clear hT T HF
        have lx0 := HG.out.c 0 rfl; have fx0 := HG.out.f 0 rfl
        have r0 := Gr.refl vw7
        go_wp2
        refine hK.out _ _ ?_; clear hK K
        show Code.wp _ _ _ _ _
        clear r0 lx0 fx0
        refine fH ((((HG.out).put2 0 0 rfl).put2 0 2 rfl).put 0 4 _ rfl) fun Wx8 HF => ?_
        clear HG
        refine wp_ret ?_
        try simp only [Exit.then, Exit.inBlock]
        have lx0 := HF.out.c 0 rfl
        have r0 := Gr.refl Wx8
        exact bodyPost_ret (v := .tuple #[(.agg #[.int .u64 0, .string ⟨#[]⟩, .bool false, .int .u64 0, .string ⟨#[]⟩]), .int .i64 4]) (by simp [results, Tryz.results63, go_sem, lx0 _ r0]) rfl ⟨rfl, HF.out.1⟩
    · have HE2 := Lib.hid h2
      obtain rfl : c = 4 := by rw [← HC.out, if_neg (fun h => h h1), if_pos h2]
      obtain rfl : z = 0 := by rw [← HZ.out, if_neg (by decide)]
      clear h1 h2
      have hx1 : (e1 != 0) = false := by rw [HE1.out]; rfl
      have hx2 : (e2 != 0) = true := by simpa using HE2.out
      refine kS fun K hK => ?_
      refine sq 12 [(true, 0), (true, 1), (true, 2), (true, 3), (true, 4), (true, 5), (true, 6), (true, 7), (true, 8), (true, 9), (true, 10), (true, 11)] fun T hT => ?_
      iterate 7 refine tk ?_
      iterate 4 refine sk ?_
      refine tk ?_
      refine nlS hT HF fun vw6 HG => ?_
      clear hT T HF
      go_wp2
      refine hK.out _ _ ?_; clear hK K
      show Code.wp _ _ _ _ _
      have HF := HG; clear HG
      clear hx1 hx2
      refine wp_cond_true (by rfl) ?_
      refine kS fun K hK => ?_
      refine sq 1 [(true, 0)] fun T hT => ?_
      refine tk ?_
      refine nlS hT HF fun vw7 HG => ?_
      clear hT T HF
      have lx0 := HG.out.c 0 rfl; have fx0 := HG.out.f 0 rfl
      have r0 := Gr.refl vw7
      go_wp2
      refine hK.out _ _ ?_; clear hK K
      show Code.wp _ _ _ _ _
      clear r0 lx0 fx0
      refine fH ((((HG.out).put2 0 0 rfl).put2 0 2 rfl).put 0 4 _ rfl) fun Wx8 HF => ?_
      clear HG
      refine wp_ret ?_
      try simp only [Exit.then, Exit.inBlock]
      have lx0 := HF.out.c 0 rfl
      have r0 := Gr.refl Wx8
      exact bodyPost_ret (v := .tuple #[(.agg #[.int .u64 0, .string ⟨#[]⟩, .bool false, .int .u64 0, .string ⟨#[]⟩]), .int .i64 4]) (by simp [results, Tryz.results63, go_sem, lx0 _ r0]) rfl ⟨rfl, HF.out.1⟩
  · have HE1 := Lib.hid h1
    obtain rfl : c = 4 := by rw [← HC.out, if_pos h1]
    obtain rfl : z = 0 := by rw [← HZ.out, if_neg (by decide)]
    clear h1
    have hx1 : (e1 != 0) = true := by simpa using HE1.out
    refine kS fun K hK => ?_
    refine sq 12 [(true, 0), (true, 1), (true, 2), (true, 3), (true, 4), (true, 5), (true, 6), (true, 7), (true, 8), (true, 9), (true, 10), (true, 11)] fun T hT => ?_
    iterate 3 refine tk ?_
    iterate 2 refine sk ?_
    iterate 2 refine tk ?_
    iterate 4 refine sk ?_
    refine tk ?_
    refine nlS hT HF fun vw6 HG => ?_
    clear hT T HF
    go_wp2
    refine hK.out _ _ ?_; clear hK K
    show Code.wp _ _ _ _ _
    have HF := HG; clear HG
    clear hx1
    refine wp_cond_true (by rfl) ?_
    refine kS fun K hK => ?_
    refine sq 1 [(true, 0)] fun T hT => ?_
    refine tk ?_
    refine nlS hT HF fun vw7 HG => ?_
    clear hT T HF
    have lx0 := HG.out.c 0 rfl; have fx0 := HG.out.f 0 rfl
    have r0 := Gr.refl vw7
    go_wp2
    refine hK.out _ _ ?_; clear hK K
    show Code.wp _ _ _ _ _
    clear r0 lx0 fx0
    refine fH ((((HG.out).put2 0 0 rfl).put2 0 2 rfl).put 0 4 _ rfl) fun Wx8 HF => ?_
    clear HG
    refine wp_ret ?_
    try simp only [Exit.then, Exit.inBlock]
    have lx0 := HF.out.c 0 rfl
    have r0 := Gr.refl Wx8
    exact bodyPost_ret (v := .tuple #[(.agg #[.int .u64 0, .string ⟨#[]⟩, .bool false, .int .u64 0, .string ⟨#[]⟩]), .int .i64 4]) (by simp [results, Tryz.results63, go_sem, lx0 _ r0]) rfl ⟨rfl, HF.out.1⟩

set_option maxRecDepth 200000 in
set_option maxHeartbeats 4000000 in
theorem dparse_far (s : ByteArray) (w : World) (HSZ : Hid (4096 < s.size)) :
    Calls Tryz.prog 63 #[.string s] w fun e w' => e = .returned ((.tuple #[(.agg #[.int .u64 0, .string ⟨#[]⟩, .bool false, .int .u64 0, .string ⟨#[]⟩]), .int .i64 3])) ∧ Below w.heap.size w w' := by
  go_enter Tryz.func63, Tryz.ntmps63
  have HF := Lib.hid (hp0 w)
  refine kS fun K hK => ?_
  refine wp_region_lit ?_
  go_wp2
  refine hK.out _ _ ?_; clear hK K
  show Code.wp _ _ _ _ _
  refine fH ((HF.out).al (b := w.heap.size) (by first | rfl | simp) (by decide)) fun Wx0 HG => ?_
  clear HF; have HF := HG; clear HG
  refine wp_seq ?_
  have hlt9 : 4096 < (s.size : Int) := by have := HSZ.out; omega
  refine kS fun K hK => ?_
  refine sq 3 [(true, 0), (true, 1), (true, 2)] fun T hT => ?_
  iterate 3 refine tk ?_
  refine nlS hT HF fun vw1 HG => ?_
  clear hT T HF
  go_wp2
  refine hK.out _ _ ?_; clear hK K
  show Code.wp _ _ _ _ _
  have HF := HG; clear HG
  clear hlt9
  refine wp_cond_true (by rfl) ?_
  refine kS fun K hK => ?_
  refine sq 1 [(true, 0)] fun T hT => ?_
  refine tk ?_
  refine nlS hT HF fun vw2 HG => ?_
  clear hT T HF
  have lx0 := HG.out.c 0 rfl; have fx0 := HG.out.f 0 rfl
  have r0 := Gr.refl vw2
  go_wp2
  refine hK.out _ _ ?_; clear hK K
  show Code.wp _ _ _ _ _
  clear r0 lx0 fx0
  refine fH ((((HG.out).put2 0 0 rfl).put2 0 2 rfl).put 0 4 _ rfl) fun Wx2 HF => ?_
  clear HG
  refine wp_ret ?_
  try simp only [Exit.then, Exit.inBlock]
  have lx0 := HF.out.c 0 rfl
  have r0 := Gr.refl Wx2
  exact bodyPost_ret (v := .tuple #[(.agg #[.int .u64 0, .string ⟨#[]⟩, .bool false, .int .u64 0, .string ⟨#[]⟩]), .int .i64 3]) (by simp [results, Tryz.results63, go_sem, lx0 _ r0]) rfl ⟨rfl, HF.out.1⟩

theorem dO_ge (t : ByteArray) (h : pcode ((⟨#[49]⟩ : ByteArray) ++ t) = 0) : 10 ^ t.size ≤ pnum ((⟨#[49]⟩ : ByteArray) ++ t) := by
  unfold pcode at h
  split at h
  · omega
  · rename_i h1
    split at h
    · rename_i h2
      unfold pnum
      rw [if_pos ⟨by omega, h2⟩, pv_lv]
      have e : ((⟨#[49]⟩ : ByteArray) ++ t).data.toList = 49 :: t.data.toList := by simp
      rw [e, lv_cons]
      have e2 : t.data.toList.length = t.size := by rw [Array.length_toList]; rfl
      rw [e2]
      have e3 : (49 : UInt8).toNat - 48 = 1 := by decide
      rw [e3]
      omega
    · omega
theorem pnum_600 (s : ByteArray) : wl (pnum s) ≤ 600 := Nat.le_trans (wl_le.2 (pnum_bp s 512 rfl)) (by decide)
theorem dparse (s : ByteArray) (z : Rat) (c : Int) (w : World) (hz : dnum s = z) (hc : dcode s = c) (hs : s.size ≤ 9223372036854775807) :
    Calls Tryz.prog 63 #[.string s] w fun e w' => e = .returned (.tuple #[(Value.agg #[.int .u64 ((lo (Int.natAbs ((z).num)) : Nat) : Int), .string (bg (Int.natAbs ((z).num))), .bool (decide (((z).num) < 0)), .int .u64 ((lo ((z).den - 1) : Nat) : Int), .string (bg ((z).den - 1))]), .int .i64 c]) ∧ Below w.heap.size w w' := by
  by_cases h : 4096 < s.size
  · have e1 : dcode s = 3 := by unfold dcode; rw [if_pos h]
    have e2 : dnum s = 0 := by unfold dnum; rw [e1, if_neg (by decide)]
    rw [e1] at hc; rw [e2] at hz; subst hc hz
    exact dparse_far s w (Lib.hid h)
  · have h1 := idig_size s
    have h2 := dup_size (idig s)
    have h3 := ddn_size (idig s)
    refine dparse0 s (idig s) (dA s) (dB s) (dO s) _ _ _ _ _ _ _ _ _ _ _ _ _ w (by omega) (by omega) (by unfold dA; omega) (by unfold dB; omega) (by unfold dO; rw [cat_sz]; unfold dB; have : (⟨#[49]⟩ : ByteArray).size = 1 := rfl; omega) (Lib.hid rfl) (Lib.hid rfl) (Lib.hid rfl) (Lib.hid rfl) (Lib.hid rfl) (Lib.hid rfl) (Lib.hid rfl) (Lib.hid rfl) (Lib.hid rfl) (Lib.hid rfl) (pnum_600 _) (pnum_600 _) (Lib.hid rfl) (Lib.hid rfl) (Lib.hid (Nat.pow_pos (by decide))) (Lib.hid (dO_ge (dB s))) (Lib.hid rfl) (Lib.hid rfl) (Lib.hid rfl) (Lib.hid ?_) (Lib.hid ?_)
    · rw [← hc]; unfold dcode; rw [if_neg h]; rfl
    · rw [← hz, ← hc]; rfl

end Go.Proofs.YtobojnodohjiaaaGreatDoor
