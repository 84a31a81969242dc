
/- gussetref23.Cut: some end on the other segment. -/
import Derived.Test.YtobojnodohjiaaaGreatDoorCutQ
import Derived.Test.YtobojnodohjiaaaGreatDoorOwnR
import Derived.Test.YtobojnodohjiaaaGreatDoorCutS2
import Derived.Test.YtobojnodohjiaaaGreatDoorRefX
set_option linter.unusedVariables false
set_option linter.unusedSimpArgs false
namespace Go.Proofs.YtobojnodohjiaaaGreatDoor
open Go.RowKit
attribute [local go_sem ↓] Go.wp_at_zero Go.wp_at_succ
attribute [local go_sem ↓] eq_nat eq_nat_zero eq_int
def pc6 (p : Pq) (u1 u2 u3 u4 : Value) : List Value := [.bool (decide (p.1.num < 0)), u1, u2, .bool (decide (p.2.num < 0)), u3, u4]
def Rp (w : World) (p : Pq) (u1 u2 u3 u4 : Value) : Prop := Rn w u1 (Int.natAbs (p.1.num)) ∧ Rn w u2 (p.1.den - 1) ∧ Rn w u3 (Int.natAbs (p.2.num)) ∧ Rn w u4 (p.2.den - 1)
def PS (w : World) (l : List Pq) (n : Nat) (xs : List Value) : Prop := l.length = n ∧ xs.length = n * 6 ∧ ∀ i p, l[i]? = some p → ∃ u1 u2 u3 u4, Rp w p u1 u2 u3 u4 ∧ ∀ j c, (pc6 p u1 u2 u3 u4)[j]? = some c → xs[i * 6 + j]? = some c
theorem ps_nil (w : World) : PS w [] 0 [] := ⟨rfl, rfl, fun i p h => by simp at h⟩
theorem ps_app {w : World} {l : List Pq} {n : Nat} {xs : List Value} {p : Pq} {u1 u2 u3 u4 : Value} (r : Bool) (h : PS w l n xs) (hp : Rp w p u1 u2 u3 u4) : PS w (l ++ (if r then [p] else [])) (n + cond r 1 0) (xs ++ cond r (pc6 p u1 u2 u3 u4) []) := by
  obtain ⟨h1, h2, h3⟩ := h
  cases r
  · refine ⟨by simpa using h1, by simpa using h2, fun i q hq => ?_⟩
    simp only [Bool.false_eq_true, if_false, List.append_nil, cond_false] at hq ⊢
    exact h3 i q hq
  · refine ⟨by simp [h1], by simp [h2, pc6]; omega, fun i q hq => ?_⟩
    simp only [if_true, cond_true] at hq ⊢
    rcases Nat.lt_or_ge i l.length with hi | hi
    · rw [List.getElem?_append_left hi] at hq
      obtain ⟨w1, w2, w3, w4, g1, g2⟩ := h3 i q hq
      refine ⟨w1, w2, w3, w4, g1, fun j c hj => ?_⟩
      have hl : j < 6 := (List.getElem?_eq_some_iff.1 hj).1
      rw [List.getElem?_append_left (by omega)]
      exact g2 j c hj
    · rw [List.getElem?_append_right hi] at hq
      have h0 : i - l.length = 0 := by
        have := (List.getElem?_eq_some_iff.1 hq).1
        simp at this
        omega
      rw [h0] at hq
      obtain rfl : p = q := by simpa using hq
      refine ⟨u1, u2, u3, u4, hp, fun j c hj => ?_⟩
      rw [List.getElem?_append_right (by omega), show i * 6 + j - xs.length = j by omega]
      exact hj
theorem cond_le (r : Bool) : cond r 1 0 ≤ 1 := by cases r <;> decide
theorem news_at (W : World) (T : Nat) (cs : Array Value) : ∀ j u, cs.toList[j]? = some u → (W.alloc (.cells cs T)).cell? ((⟨W.heap.size, 0, none⟩ : Addr).add j) = some u := fun j u hj => by
  have hB : Bx (W.alloc (.cells cs T)) W.heap.size T cs := Bx.at rfl
  rw [Go.WideShapes.add_plain, Nat.zero_add, hB.cells _ (Gr.refl _), ← hj, Array.getElem?_toList]
theorem own_none {w0 W : World} {T k : Nat} (h : w0.heap.size ≤ W.heap.size) : (W.alloc (.cells #[] T)).ownsRow w0.heap.size T k (.slice (some ⟨W.heap.size, 0, none⟩) 0 0) 0 [] :=
  ⟨by simp, .inr ⟨W.heap.size, 0, #[], rfl, h, (Bx.at rfl : Bx _ _ _ _), Nat.le_refl _, by decide, by simp, by simp⟩⟩
theorem apart_new {w0 W : World} {L : List Fk} (h : HP w0 W L) (o n c : Nat) : Apart L (.slice (some ⟨W.heap.size, o, none⟩) n c) := fun i x hx e => by
  have h1 := h.lt i x hx
  have e2 : some W.heap.size = some x.1 := e
  injection e2 with e2
  omega
theorem fO6 {P : World → Prop} {c : Code} {Q : Exit → Act → World → Prop} {a : Act} {w0 W : World} {L L' : List Fk} (h : HP w0 W L) (p : P W) (k : ∀ W', Hid (HP w0 W' L') → P W' → c.wp Tryz.prog Q a W') (hL : L = L' := by first | (simp only [lA, lB, lC, lF, lG, lH, lI]; rfl) | rfl) : c.wp Tryz.prog Q a W := k W (Lib.hid (hL ▸ h)) p
section
variable {W W' : World} {g E n i : Nat} {cur : Array Value} {v : Value} {xs cs : List Value}
theorem row6 (hr : RowV g cur 6 v n xs) (hB : Bx W g E cur) (he : ∀ j c, cs[j]? = some c → xs[i * 6 + j]? = some c) (h : Gr W W') (j : Nat) {u : Value} (hj : cs[j]? = some u) (hl : i * 6 + j < n * 6) : W'.cell? ⟨g, i * 6 + j, none⟩ = some u := (hr.cell hB h (i * 6 + j) hl).trans (he j u hj)
theorem row60 (hr : RowV g cur 6 v n xs) (hB : Bx W g E cur) (he : ∀ j c, cs[j]? = some c → xs[i * 6 + j]? = some c) (h : Gr W W') {u : Value} (hj : cs[0]? = some u) (hl : i * 6 < n * 6) : W'.cell? ⟨g, i * 6, none⟩ = some u := row6 hr hB he h 0 hj hl
theorem row06 (hr : RowV g cur 6 v n xs) (hB : Bx W g E cur) (he : ∀ j c, cs[j]? = some c → xs[0 * 6 + j]? = some c) (h : Gr W W') (j : Nat) {u : Value} (hj : cs[j]? = some u) (hl : j < n * 6) : W'.cell? ⟨g, j, none⟩ = some u := by
  have := he j u hj
  rw [Nat.zero_mul, Nat.zero_add] at this
  exact (hr.cell hB h j hl).trans this
end
theorem info_pt : (Tryz.prog.info? 49).map (fun i => (i.zero, i.size, i.bytes)) = some (some (.agg #[.bool false, .slice none 0 0, .slice none 0 0, .bool false, .slice none 0 0, .slice none 0 0]), 6, 112) := by kernel_rfl
def lmn (e : Pq) (l : List Pq) (k : Nat) : Pq := (l.take k).foldl pmn e
def lmx (e : Pq) (l : List Pq) (k : Nat) : Pq := (l.take k).foldl pmx e
theorem lmn_succ {e x : Pq} {l : List Pq} {k : Nat} (h : l[k]? = some x) : lmn e l (k + 1) = pmn (lmn e l k) x := by
  unfold lmn
  rw [List.take_add_one, h]
  simp
theorem lmx_succ {e x : Pq} {l : List Pq} {k : Nat} (h : l[k]? = some x) : lmx e l (k + 1) = pmx (lmx e l k) x := by
  unfold lmx
  rw [List.take_add_one, h]
  simp
theorem lmn_all (e : Pq) (l : List Pq) : lmn e l l.length = l.foldl pmn e := by unfold lmn; rw [List.take_length]
theorem lmx_all (e : Pq) (l : List Pq) : lmx e l l.length = l.foldl pmx e := by unfold lmx; rw [List.take_length]
theorem pmn_ff {p x : Pq} (h : plt x.1 x.2 p.1 p.2 = false) : pmn p x = p := by unfold pmn; rw [h]; rfl
theorem pmn_tt {p x : Pq} (h : plt x.1 x.2 p.1 p.2 = true) : pmn p x = x := by unfold pmn; rw [h]; rfl
theorem pmx_ff {p x : Pq} (h : plt p.1 p.2 x.1 x.2 = false) : pmx p x = p := by unfold pmx; rw [h]; rfl
theorem pmx_tt {p x : Pq} (h : plt p.1 p.2 x.1 x.2 = true) : pmx p x = x := by unfold pmx; rw [h]; rfl
theorem cut_ne {a b c d e : Pq} {l : List Pq} {n : Int} {z : Pq} (h : ends a b c d = e :: l) (hc : cutR a b c d = (n, z)) : (if lmn e l l.length = lmx e l l.length then (1 : Int) else 2) = n ∧ lmn e l l.length = z := by
  unfold cutR at hc
  rw [h] at hc
  simp only at hc
  rw [lmn_all, lmx_all]
  injection hc with h1 h2
  exact ⟨h1, h2⟩
theorem lm_mem1 (e : Pq) (l : List Pq) (k : Nat) : lmn e l k ∈ e :: l := by
  rcases List.mem_cons.1 (fold_mn (l.take k) e).1 with h | h
  · exact List.mem_cons.2 (.inl h)
  · exact List.mem_cons_of_mem _ (List.mem_of_mem_take h)
theorem lm_mem2 (e : Pq) (l : List Pq) (k : Nat) : lmx e l k ∈ e :: l := by
  rcases List.mem_cons.1 (fold_mx (l.take k) e).1 with h | h
  · exact List.mem_cons.2 (.inl h)
  · exact List.mem_cons_of_mem _ (List.mem_of_mem_take h)
set_option maxRecDepth 50000 in
set_option maxHeartbeats 16000000 in
theorem rpcut_ends (a1 a2 b1 b2 c1 c2 d1 d2 z1 z2 : Rat) (ra rb rc rd : Bool) (m : Int) (va11 va12 va21 va22 vb11 vb12 vb21 vb22 vc11 vc12 vc21 vc22 vd11 vd12 vd21 vd22 : Value) (w : World) (HR0 : Hid (onR c1 c2 d1 d2 a1 a2 = ra)) (HR1 : Hid (onR c1 c2 d1 d2 b1 b2 = rb)) (HR2 : Hid (onR a1 a2 b1 b2 c1 c2 = rc)) (HR3 : Hid (onR a1 a2 b1 b2 d1 d2 = rd)) (HNE : Hid (¬ ends (a1, a2) (b1, b2) (c1, c2) (d1, d2) = [])) (HC : Hid (cutR (a1, a2) (b1, b2) (c1, c2) (d1, d2) = (m, (z1, z2)))) (hs_a1 : rz a1 ≤ 100) (hs_a2 : rz a2 ≤ 100) (hs_b1 : rz b1 ≤ 100) (hs_b2 : rz b2 ≤ 100) (hs_c1 : rz c1 ≤ 100) (hs_c2 : rz c2 ≤ 100) (hs_d1 : rz d1 ≤ 100) (hs_d2 : rz d2 ≤ 100) (bx21 : Rn w va11 (Int.natAbs ((a1).num))) (bx22 : Rn w va12 ((a1).den - 1)) (bx23 : Rn w va21 (Int.natAbs ((a2).num))) (bx24 : Rn w va22 ((a2).den - 1)) (bx25 : Rn w vb11 (Int.natAbs ((b1).num))) (bx26 : Rn w vb12 ((b1).den - 1)) (bx27 : Rn w vb21 (Int.natAbs ((b2).num))) (bx28 : Rn w vb22 ((b2).den - 1)) (bx29 : Rn w vc11 (Int.natAbs ((c1).num))) (bx30 : Rn w vc12 ((c1).den - 1)) (bx31 : Rn w vc21 (Int.natAbs ((c2).num))) (bx32 : Rn w vc22 ((c2).den - 1)) (bx33 : Rn w vd11 (Int.natAbs ((d1).num))) (bx34 : Rn w vd12 ((d1).den - 1)) (bx35 : Rn w vd21 (Int.natAbs ((d2).num))) (bx36 : Rn w vd22 ((d2).den - 1)) :
    Calls Tryz.prog 18 #[(Value.agg #[.bool (decide ((a1).num < 0)), va11, va12, .bool (decide ((a2).num < 0)), va21, va22]), (Value.agg #[.bool (decide ((b1).num < 0)), vb11, vb12, .bool (decide ((b2).num < 0)), vb21, vb22]), (Value.agg #[.bool (decide ((c1).num < 0)), vc11, vc12, .bool (decide ((c2).num < 0)), vc21, vc22]), (Value.agg #[.bool (decide ((d1).num < 0)), vd11, vd12, .bool (decide ((d2).num < 0)), vd21, vd22])] w fun e w' => (∃ r1 r2 r3 r4 : Value, e = .returned (.tuple #[.int .i64 m, .agg #[.bool (decide ((z1).num < 0)), r1, r2, .bool (decide ((z2).num < 0)), r3, r4]]) ∧ Rn w' r1 (Int.natAbs ((z1).num)) ∧ Rn w' r2 ((z1).den - 1) ∧ Rn w' r3 (Int.natAbs ((z2).num)) ∧ Rn w' r4 ((z2).den - 1)) ∧ Below w.heap.size w w' := by
  have HPA : Hid (Rp w (a1, a2) va11 va12 va21 va22) := Lib.hid ⟨bx21, bx22, bx23, bx24⟩
  have HPB : Hid (Rp w (b1, b2) vb11 vb12 vb21 vb22) := Lib.hid ⟨bx25, bx26, bx27, bx28⟩
  have HPC : Hid (Rp w (c1, c2) vc11 vc12 vc21 vc22) := Lib.hid ⟨bx29, bx30, bx31, bx32⟩
  have HPD : Hid (Rp w (d1, d2) vd11 vd12 vd21 vd22) := Lib.hid ⟨bx33, bx34, bx35, bx36⟩
  obtain ⟨i0, hi, hz0, hz1, hz2⟩ := info_parts info_pt
  have hca := cond_le ra
  have hcb := cond_le rb
  have hcc := cond_le rc
  have hcd := cond_le rd
  obtain ⟨ao_va11, n_va11, c_va11, rfl⟩ := Rn.sl bx21
  obtain ⟨ao_va12, n_va12, c_va12, rfl⟩ := Rn.sl bx22
  obtain ⟨ao_va21, n_va21, c_va21, rfl⟩ := Rn.sl bx23
  obtain ⟨ao_va22, n_va22, c_va22, rfl⟩ := Rn.sl bx24
  obtain ⟨ao_vb11, n_vb11, c_vb11, rfl⟩ := Rn.sl bx25
  obtain ⟨ao_vb12, n_vb12, c_vb12, rfl⟩ := Rn.sl bx26
  obtain ⟨ao_vb21, n_vb21, c_vb21, rfl⟩ := Rn.sl bx27
  obtain ⟨ao_vb22, n_vb22, c_vb22, rfl⟩ := Rn.sl bx28
  obtain ⟨ao_vc11, n_vc11, c_vc11, rfl⟩ := Rn.sl bx29
  obtain ⟨ao_vc12, n_vc12, c_vc12, rfl⟩ := Rn.sl bx30
  obtain ⟨ao_vc21, n_vc21, c_vc21, rfl⟩ := Rn.sl bx31
  obtain ⟨ao_vc22, n_vc22, c_vc22, rfl⟩ := Rn.sl bx32
  obtain ⟨ao_vd11, n_vd11, c_vd11, rfl⟩ := Rn.sl bx33
  obtain ⟨ao_vd12, n_vd12, c_vd12, rfl⟩ := Rn.sl bx34
  obtain ⟨ao_vd21, n_vd21, c_vd21, rfl⟩ := Rn.sl bx35
  obtain ⟨ao_vd22, n_vd22, c_vd22, rfl⟩ := Rn.sl bx36
  go_enter Tryz.func18, Tryz.ntmps18
  have HF := Lib.hid (hp0 w)
  replace HF := Lib.hid ((((((((((((((((HF.out.ar bx21).ar bx22).ar bx23).ar bx24).ar bx25).ar bx26).ar bx27).ar bx28).ar bx29).ar bx30).ar bx31).ar bx32).ar bx33).ar bx34).ar bx35).ar bx36)
  simp only [lF, lG] at HF
  clear bx21 bx22 bx23 bx24 bx25 bx26 bx27 bx28 bx29 bx30 bx31 bx32 bx33 bx34 bx35 bx36
  refine kS fun K hK => ?_
  refine wp_region_lit ?_
  go_wp2
  refine kO hK ?_; clear hK K
  refine fH ((((((HF.out).aL (w.heap.size)).aL (w.heap.size + 1)).aL (w.heap.size + 1 + 1)).aL (w.heap.size + 1 + 1 + 1)).aL (w.heap.size + 1 + 1 + 1 + 1)) fun Wx0 HG => ?_
  clear HF; have HF := HG; clear HG
  generalize w.heap.size + 1 + 1 + 1 + 1 = gx41 at *
  generalize w.heap.size + 1 + 1 + 1 = gx40 at *
  generalize w.heap.size + 1 + 1 = gx39 at *
  generalize w.heap.size + 1 = gx38 at *
  refine kS fun K hK => ?_
  go_wp2_with fail
  have HO := Lib.hid (own_none (T := 49) (k := 6) HF.out.1.size)
  have HA := Lib.hid (apart_new HF.out 0 0 0)
  have HF1 := Lib.hid (HF.out.gr (Gr.alloc _ (.cells #[] 49)))
  clear HF; have HF := HF1; clear HF1
  refine kO hK ?_; clear hK K
  refine fO6 (P := fun W => W.ownsRow w.heap.size 49 6 (.slice (some ⟨Wx0.heap.size, 0, none⟩) 0 0) 0 []) HF.out HO.out fun Wx1 HF ho => ?_
  clear HO; have HO := Lib.hid ho; clear ho
  generalize Value.slice (some ⟨Wx0.heap.size, 0, none⟩) 0 0 = sv0 at *
  obtain ⟨n0, hn0⟩ : ∃ x : Nat, 0 = x := ⟨_, rfl⟩
  obtain ⟨xs0, hx0⟩ : ∃ x : List Value, [] = x := ⟨_, rfl⟩
  have HPS0 : Hid (PS w [] n0 xs0) := Lib.hid (by rw [← hn0, ← hx0]; exact ps_nil w)
  rw [hx0, hn0] at HO
  have hm0 : n0 ≤ 0 := by omega
  clear hn0 hx0
  show Code.wp _ _ _ _ _
  refine wp_seq ?_
  have lx37 := HF.out.c 16 rfl
  have lx39 := HF.out.c 18 rfl
  have lx40 := HF.out.c 19 rfl
  refine kS fun K hK => ?_
  refine sq 4 [(true, 0), (true, 1), (true, 2), (true, 3)] fun T hT => ?_
  iterate 3 refine tk ?_
  refine ck Tryz.call83 (fun w' hw => rpon (c1) (c2) (d1) (d2) (a1) (a2) ra _ _ _ _ _ _ _ _ _ _ _ _ _ (HR0.out) (by omega) (by omega) (by omega) (by omega) (by omega) (by omega) (HF.out.r 8 rfl hw) (HF.out.r 9 rfl hw) (HF.out.r 10 rfl hw) (HF.out.r 11 rfl hw) (HF.out.r 12 rfl hw) (HF.out.r 13 rfl hw) (HF.out.r 14 rfl hw) (HF.out.r 15 rfl hw) (HF.out.r 0 rfl hw) (HF.out.r 1 rfl hw) (HF.out.r 2 rfl hw) (HF.out.r 3 rfl hw)) ?_
  refine wpPlan_nil (hT.out _ _ ?_)
  intro vw1 hg
  replace HO := Lib.hid (own_gr HO.out hg)
  simp only [puts, Act.put, lA, lB, lC, lD, lE, ↓reduceIte, Nat.reduceEqDiff]
  have HG := Lib.hid (HF.out.gr hg)
  clear hT T HF hg lx37 lx39 lx40
  go_wp2
  refine kO hK ?_; clear hK K
  have HF := HG; clear HG
  refine kL fun K hK => ?_
  suffices HJ : Hid (∀ (v9 : Value) (W9 : World) (g0 g1 g2 g3 g11 g12 g13 g14 g15 g16 g17 g18 g19 g20 g21 g22 g23 g24 g25 g26 g27 g28 g29 g30 g31 g32 g33 g34 g35 g36 g37 g38 g39 g40 g41 g42 g43 g44 g45 g46 g47 g48 g49 g50 g51 g52 g53 g54 g55 g56 g57 g58 g59 g60 g61 g62 g63 g64 g65 g66 g67 g68 g69 g70 g71 g72 g73 g74 g75 g76 g77 g78 g79 g80 g81 g82 g83 g84 g85 g86 g87 g88 g89 g90 g91 g92 g93 g94 g95 g96 g97 g98 g99 g100 g101 g102 g103 g104 g105 g106 g107 g108 g109 g110 g111 g112 g113 g114 g115 g116 g117 g118 g119 g120 g121 g122 g123 g124 g125 g126 g127 g128 : Value), Hid (HP w W9 [Sum.inr ((.slice ao_va11 n_va11 c_va11), Int.natAbs ((a1).num)), Sum.inr ((.slice ao_va12 n_va12 c_va12), (a1).den - 1), Sum.inr ((.slice ao_va21 n_va21 c_va21), Int.natAbs ((a2).num)), Sum.inr ((.slice ao_va22 n_va22 c_va22), (a2).den - 1), Sum.inr ((.slice ao_vb11 n_vb11 c_vb11), Int.natAbs ((b1).num)), Sum.inr ((.slice ao_vb12 n_vb12 c_vb12), (b1).den - 1), Sum.inr ((.slice ao_vb21 n_vb21 c_vb21), Int.natAbs ((b2).num)), Sum.inr ((.slice ao_vb22 n_vb22 c_vb22), (b2).den - 1), Sum.inr ((.slice ao_vc11 n_vc11 c_vc11), Int.natAbs ((c1).num)), Sum.inr ((.slice ao_vc12 n_vc12 c_vc12), (c1).den - 1), Sum.inr ((.slice ao_vc21 n_vc21 c_vc21), Int.natAbs ((c2).num)), Sum.inr ((.slice ao_vc22 n_vc22 c_vc22), (c2).den - 1), Sum.inr ((.slice ao_vd11 n_vd11 c_vd11), Int.natAbs ((d1).num)), Sum.inr ((.slice ao_vd12 n_vd12 c_vd12), (d1).den - 1), Sum.inr ((.slice ao_vd21 n_vd21 c_vd21), Int.natAbs ((d2).num)), Sum.inr ((.slice ao_vd22 n_vd22 c_vd22), (d2).den - 1), Sum.inl (w.heap.size, 49, #[.bool (decide ((a1).num < 0)), (.slice ao_va11 n_va11 c_va11), (.slice ao_va12 n_va12 c_va12), .bool (decide ((a2).num < 0)), (.slice ao_va21 n_va21 c_va21), (.slice ao_va22 n_va22 c_va22)]), Sum.inl (gx38, 49, #[.bool (decide ((b1).num < 0)), (.slice ao_vb11 n_vb11 c_vb11), (.slice ao_vb12 n_vb12 c_vb12), .bool (decide ((b2).num < 0)), (.slice ao_vb21 n_vb21 c_vb21), (.slice ao_vb22 n_vb22 c_vb22)]), Sum.inl (gx39, 49, #[.bool (decide ((c1).num < 0)), (.slice ao_vc11 n_vc11 c_vc11), (.slice ao_vc12 n_vc12 c_vc12), .bool (decide ((c2).num < 0)), (.slice ao_vc21 n_vc21 c_vc21), (.slice ao_vc22 n_vc22 c_vc22)]), Sum.inl (gx40, 49, #[.bool (decide ((d1).num < 0)), (.slice ao_vd11 n_vd11 c_vd11), (.slice ao_vd12 n_vd12 c_vd12), .bool (decide ((d2).num < 0)), (.slice ao_vd21 n_vd21 c_vd21), (.slice ao_vd22 n_vd22 c_vd22)]), Sum.inl (gx41, 49, #[.bool false, .slice none 0 0, .slice none 0 0, .bool false, .slice none 0 0, .slice none 0 0])]) → Hid (W9.ownsRow w.heap.size 49 6 v9 (n0 + cond ra 1 0) (xs0 ++ cond ra ([.bool (decide ((a1).num < 0)), (.slice ao_va11 n_va11 c_va11), (.slice ao_va12 n_va12 c_va12), .bool (decide ((a2).num < 0)), (.slice ao_va21 n_va21 c_va21), (.slice ao_va22 n_va22 c_va22)] : List Value) [])) → Hid (Apart [Sum.inr ((.slice ao_va11 n_va11 c_va11), Int.natAbs ((a1).num)), Sum.inr ((.slice ao_va12 n_va12 c_va12), (a1).den - 1), Sum.inr ((.slice ao_va21 n_va21 c_va21), Int.natAbs ((a2).num)), Sum.inr ((.slice ao_va22 n_va22 c_va22), (a2).den - 1), Sum.inr ((.slice ao_vb11 n_vb11 c_vb11), Int.natAbs ((b1).num)), Sum.inr ((.slice ao_vb12 n_vb12 c_vb12), (b1).den - 1), Sum.inr ((.slice ao_vb21 n_vb21 c_vb21), Int.natAbs ((b2).num)), Sum.inr ((.slice ao_vb22 n_vb22 c_vb22), (b2).den - 1), Sum.inr ((.slice ao_vc11 n_vc11 c_vc11), Int.natAbs ((c1).num)), Sum.inr ((.slice ao_vc12 n_vc12 c_vc12), (c1).den - 1), Sum.inr ((.slice ao_vc21 n_vc21 c_vc21), Int.natAbs ((c2).num)), Sum.inr ((.slice ao_vc22 n_vc22 c_vc22), (c2).den - 1), Sum.inr ((.slice ao_vd11 n_vd11 c_vd11), Int.natAbs ((d1).num)), Sum.inr ((.slice ao_vd12 n_vd12 c_vd12), (d1).den - 1), Sum.inr ((.slice ao_vd21 n_vd21 c_vd21), Int.natAbs ((d2).num)), Sum.inr ((.slice ao_vd22 n_vd22 c_vd22), (d2).den - 1), Sum.inl (w.heap.size, 49, #[.bool (decide ((a1).num < 0)), (.slice ao_va11 n_va11 c_va11), (.slice ao_va12 n_va12 c_va12), .bool (decide ((a2).num < 0)), (.slice ao_va21 n_va21 c_va21), (.slice ao_va22 n_va22 c_va22)]), Sum.inl (gx38, 49, #[.bool (decide ((b1).num < 0)), (.slice ao_vb11 n_vb11 c_vb11), (.slice ao_vb12 n_vb12 c_vb12), .bool (decide ((b2).num < 0)), (.slice ao_vb21 n_vb21 c_vb21), (.slice ao_vb22 n_vb22 c_vb22)]), Sum.inl (gx39, 49, #[.bool (decide ((c1).num < 0)), (.slice ao_vc11 n_vc11 c_vc11), (.slice ao_vc12 n_vc12 c_vc12), .bool (decide ((c2).num < 0)), (.slice ao_vc21 n_vc21 c_vc21), (.slice ao_vc22 n_vc22 c_vc22)]), Sum.inl (gx40, 49, #[.bool (decide ((d1).num < 0)), (.slice ao_vd11 n_vd11 c_vd11), (.slice ao_vd12 n_vd12 c_vd12), .bool (decide ((d2).num < 0)), (.slice ao_vd21 n_vd21 c_vd21), (.slice ao_vd22 n_vd22 c_vd22)]), Sum.inl (gx41, 49, #[.bool false, .slice none 0 0, .slice none 0 0, .bool false, .slice none 0 0, .slice none 0 0])] v9) → K { tmps := #[g0, g1, g2, g3, .pointer (some ⟨w.heap.size, 0, none⟩), .pointer (some ⟨gx38, 0, none⟩), .pointer (some ⟨gx39, 0, none⟩), .pointer (some ⟨gx40, 0, none⟩), .int .i64 0, .pointer (some ⟨gx41, 0, none⟩), v9, g11, g12, g13, g14, g15, g16, g17, g18, g19, g20, g21, g22, g23, g24, g25, g26, g27, g28, g29, g30, g31, g32, g33, g34, g35, g36, g37, g38, g39, g40, g41, g42, g43, g44, g45, g46, g47, g48, g49, g50, g51, g52, g53, g54, g55, g56, g57, g58, g59, g60, g61, g62, g63, g64, g65, g66, g67, g68, g69, g70, g71, g72, g73, g74, g75, g76, g77, g78, g79, g80, g81, g82, g83, g84, g85, g86, g87, g88, g89, g90, g91, g92, g93, g94, g95, g96, g97, g98, g99, g100, g101, g102, g103, g104, g105, g106, g107, g108, g109, g110, g111, g112, g113, g114, g115, g116, g117, g118, g119, g120, g121, g122, g123, g124, g125, g126, g127, g128], defers := [] } W9) by
    cases ra
    · refine wp_cond_false (by rfl) ?_
      refine wp_skip ?_
      exact HJ.out _ _ _ _ _ _ _ _ _ _ _ _ _ _ _ _ _ _ _ _ _ _ _ _ _ _ _ _ _ _ _ _ _ _ _ _ _ _ _ _ _ _ _ _ _ _ _ _ _ _ _ _ _ _ _ _ _ _ _ _ _ _ _ _ _ _ _ _ _ _ _ _ _ _ _ _ _ _ _ _ _ _ _ _ _ _ _ _ _ _ _ _ _ _ _ _ _ _ _ _ _ _ _ _ _ _ _ _ _ _ _ _ _ _ _ _ _ _ _ _ _ _ _ _ HF (Lib.hid (by show vw1.ownsRow w.heap.size 49 6 sv0 (n0 + 0) (xs0 ++ []); rw [List.append_nil]; exact HO.out)) HA
    · refine wp_cond_true (by rfl) ?_
      refine kL fun K1 hK1 => ?_
      have lx37 := HF.out.c 16 rfl
      have r0 := Gr.refl vw1
      have HN5 := Lib.hid (show ∀ j u, [.bool (decide ((a1).num < 0)), (.slice ao_va11 n_va11 c_va11), (.slice ao_va12 n_va12 c_va12), .bool (decide ((a2).num < 0)), (.slice ao_va21 n_va21 c_va21), (.slice ao_va22 n_va22 c_va22)][j]? = some u → (vw1.alloc (.cells #[.bool (decide ((a1).num < 0)), (.slice ao_va11 n_va11 c_va11), (.slice ao_va12 n_va12 c_va12), .bool (decide ((a2).num < 0)), (.slice ao_va21 n_va21 c_va21), (.slice ao_va22 n_va22 c_va22)] 49)).cell? ((⟨vw1.heap.size, 0, none⟩ : Addr).add j) = some u from news_at vw1 49 #[.bool (decide ((a1).num < 0)), (.slice ao_va11 n_va11 c_va11), (.slice ao_va12 n_va12 c_va12), .bool (decide ((a2).num < 0)), (.slice ao_va21 n_va21 c_va21), (.slice ao_va22 n_va22 c_va22)])
      have HF2 := Lib.hid (HF.out.gr (Gr.alloc _ (.cells #[.bool (decide ((a1).num < 0)), (.slice ao_va11 n_va11 c_va11), (.slice ao_va12 n_va12 c_va12), .bool (decide ((a2).num < 0)), (.slice ao_va21 n_va21 c_va21), (.slice ao_va22 n_va22 c_va22)] 49)))
      have HO2 := Lib.hid (own_gr HO.out (Gr.alloc _ (.cells #[.bool (decide ((a1).num < 0)), (.slice ao_va11 n_va11 c_va11), (.slice ao_va12 n_va12 c_va12), .bool (decide ((a2).num < 0)), (.slice ao_va21 n_va21 c_va21), (.slice ao_va22 n_va22 c_va22)] 49)))
      clear HF HO
      go_wp2_with (first | (at_builtin; refine apZ HF2 HO2 HA (.tmp 24) (.tmp 26) 147 hi hz0 hz1 hz2 rfl Tryz.underlying147 (by decide) (m := 1) (c := 1) (ad := ⟨vw1.heap.size, 0, none⟩) (news := [.bool (decide ((a1).num < 0)), (.slice ao_va11 n_va11 c_va11), (.slice ao_va12 n_va12 c_va12), .bool (decide ((a2).num < 0)), (.slice ao_va21 n_va21 c_va21), (.slice ao_va22 n_va22 c_va22)]) (by unfold maxLen; omega) (by omega) (by simp [Act.eval, Act.put]) (by simp [Act.eval, Act.put]) HN5 rfl ?c1 (by decide) rfl rfl ?_) | fail)
      case c1 => exact ⟨rfl, rfl, rfl, rfl, rfl, rfl⟩
      intro v9 W9 HF HO HA2
      clear HF2 HO2 HN5 HA lx37 r0
      go_wp2_with fail
      refine hK1.out _ _ ?_
      exact HJ.out _ _ _ _ _ _ _ _ _ _ _ _ _ _ _ _ _ _ _ _ _ _ _ _ _ _ _ _ _ _ _ _ _ _ _ _ _ _ _ _ _ _ _ _ _ _ _ _ _ _ _ _ _ _ _ _ _ _ _ _ _ _ _ _ _ _ _ _ _ _ _ _ _ _ _ _ _ _ _ _ _ _ _ _ _ _ _ _ _ _ _ _ _ _ _ _ _ _ _ _ _ _ _ _ _ _ _ _ _ _ _ _ _ _ _ _ _ _ _ _ _ _ _ _ HF HO HA2
  refine Lib.hid ?_
  intro sv1 W0j g0 g1 g2 g3 g11 g12 g13 g14 g15 g16 g17 g18 g19 g20 g21 g22 g23 g24 g25 g26 g27 g28 g29 g30 g31 g32 g33 g34 g35 g36 g37 g38 g39 g40 g41 g42 g43 g44 g45 g46 g47 g48 g49 g50 g51 g52 g53 g54 g55 g56 g57 g58 g59 g60 g61 g62 g63 g64 g65 g66 g67 g68 g69 g70 g71 g72 g73 g74 g75 g76 g77 g78 g79 g80 g81 g82 g83 g84 g85 g86 g87 g88 g89 g90 g91 g92 g93 g94 g95 g96 g97 g98 g99 g100 g101 g102 g103 g104 g105 g106 g107 g108 g109 g110 g111 g112 g113 g114 g115 g116 g117 g118 g119 g120 g121 g122 g123 g124 g125 g126 g127 g128 HF1 HO1 HA1
  clear HF HO HA; have HF := HF1; have HO := HO1; have HA := HA1; clear HF1 HO1 HA1
  refine kO hK ?_; clear hK K
  obtain ⟨n1, hn1⟩ : ∃ x : Nat, n0 + cond ra 1 0 = x := ⟨_, rfl⟩
  obtain ⟨xs1, hx1⟩ : ∃ x : List Value, xs0 ++ cond ra ([.bool (decide ((a1).num < 0)), (.slice ao_va11 n_va11 c_va11), (.slice ao_va12 n_va12 c_va12), .bool (decide ((a2).num < 0)), (.slice ao_va21 n_va21 c_va21), (.slice ao_va22 n_va22 c_va22)] : List Value) [] = x := ⟨_, rfl⟩
  have HPS1 : Hid (PS w ([] ++ (if ra then [((a1, a2) : Pq)] else [])) n1 xs1) := Lib.hid (by rw [← hn1, ← hx1]; exact ps_app ra HPS0.out HPA.out)
  rw [hn1, hx1] at HO
  have hm1 : n1 ≤ 1 := by omega
  clear hn1 hx1 HPS0 hm0
  refine wp_seq ?_
  have lx38 := HF.out.c 17 rfl
  have lx39 := HF.out.c 18 rfl
  have lx40 := HF.out.c 19 rfl
  refine kS fun K hK => ?_
  refine sq 4 [(true, 0), (true, 1), (true, 2), (true, 3)] fun T hT => ?_
  iterate 3 refine tk ?_
  refine ck Tryz.call83 (fun w' hw => rpon (c1) (c2) (d1) (d2) (b1) (b2) rb _ _ _ _ _ _ _ _ _ _ _ _ _ (HR1.out) (by omega) (by omega) (by omega) (by omega) (by omega) (by omega) (HF.out.r 8 rfl hw) (HF.out.r 9 rfl hw) (HF.out.r 10 rfl hw) (HF.out.r 11 rfl hw) (HF.out.r 12 rfl hw) (HF.out.r 13 rfl hw) (HF.out.r 14 rfl hw) (HF.out.r 15 rfl hw) (HF.out.r 4 rfl hw) (HF.out.r 5 rfl hw) (HF.out.r 6 rfl hw) (HF.out.r 7 rfl hw)) ?_
  refine wpPlan_nil (hT.out _ _ ?_)
  intro vw2 hg
  replace HO := Lib.hid (own_gr HO.out hg)
  simp only [puts, Act.put, lA, lB, lC, lD, lE, ↓reduceIte, Nat.reduceEqDiff]
  have HG := Lib.hid (HF.out.gr hg)
  clear hT T HF hg lx38 lx39 lx40
  go_wp2
  refine kO hK ?_; clear hK K
  have HF := HG; clear HG
  refine kL fun K hK => ?_
  suffices HJ : Hid (∀ (v9 : Value) (W9 : World) (g0 g1 g2 g3 g11 g12 g13 g14 g15 g16 g17 g18 g19 g20 g21 g22 g23 g24 g25 g26 g27 g28 g29 g30 g31 g32 g33 g34 g35 g36 g37 g38 g39 g40 g41 g42 g43 g44 g45 g46 g47 g48 g49 g50 g51 g52 g53 g54 g55 g56 g57 g58 g59 g60 g61 g62 g63 g64 g65 g66 g67 g68 g69 g70 g71 g72 g73 g74 g75 g76 g77 g78 g79 g80 g81 g82 g83 g84 g85 g86 g87 g88 g89 g90 g91 g92 g93 g94 g95 g96 g97 g98 g99 g100 g101 g102 g103 g104 g105 g106 g107 g108 g109 g110 g111 g112 g113 g114 g115 g116 g117 g118 g119 g120 g121 g122 g123 g124 g125 g126 g127 g128 : Value), Hid (HP w W9 [Sum.inr ((.slice ao_va11 n_va11 c_va11), Int.natAbs ((a1).num)), Sum.inr ((.slice ao_va12 n_va12 c_va12), (a1).den - 1), Sum.inr ((.slice ao_va21 n_va21 c_va21), Int.natAbs ((a2).num)), Sum.inr ((.slice ao_va22 n_va22 c_va22), (a2).den - 1), Sum.inr ((.slice ao_vb11 n_vb11 c_vb11), Int.natAbs ((b1).num)), Sum.inr ((.slice ao_vb12 n_vb12 c_vb12), (b1).den - 1), Sum.inr ((.slice ao_vb21 n_vb21 c_vb21), Int.natAbs ((b2).num)), Sum.inr ((.slice ao_vb22 n_vb22 c_vb22), (b2).den - 1), Sum.inr ((.slice ao_vc11 n_vc11 c_vc11), Int.natAbs ((c1).num)), Sum.inr ((.slice ao_vc12 n_vc12 c_vc12), (c1).den - 1), Sum.inr ((.slice ao_vc21 n_vc21 c_vc21), Int.natAbs ((c2).num)), Sum.inr ((.slice ao_vc22 n_vc22 c_vc22), (c2).den - 1), Sum.inr ((.slice ao_vd11 n_vd11 c_vd11), Int.natAbs ((d1).num)), Sum.inr ((.slice ao_vd12 n_vd12 c_vd12), (d1).den - 1), Sum.inr ((.slice ao_vd21 n_vd21 c_vd21), Int.natAbs ((d2).num)), Sum.inr ((.slice ao_vd22 n_vd22 c_vd22), (d2).den - 1), Sum.inl (w.heap.size, 49, #[.bool (decide ((a1).num < 0)), (.slice ao_va11 n_va11 c_va11), (.slice ao_va12 n_va12 c_va12), .bool (decide ((a2).num < 0)), (.slice ao_va21 n_va21 c_va21), (.slice ao_va22 n_va22 c_va22)]), Sum.inl (gx38, 49, #[.bool (decide ((b1).num < 0)), (.slice ao_vb11 n_vb11 c_vb11), (.slice ao_vb12 n_vb12 c_vb12), .bool (decide ((b2).num < 0)), (.slice ao_vb21 n_vb21 c_vb21), (.slice ao_vb22 n_vb22 c_vb22)]), Sum.inl (gx39, 49, #[.bool (decide ((c1).num < 0)), (.slice ao_vc11 n_vc11 c_vc11), (.slice ao_vc12 n_vc12 c_vc12), .bool (decide ((c2).num < 0)), (.slice ao_vc21 n_vc21 c_vc21), (.slice ao_vc22 n_vc22 c_vc22)]), Sum.inl (gx40, 49, #[.bool (decide ((d1).num < 0)), (.slice ao_vd11 n_vd11 c_vd11), (.slice ao_vd12 n_vd12 c_vd12), .bool (decide ((d2).num < 0)), (.slice ao_vd21 n_vd21 c_vd21), (.slice ao_vd22 n_vd22 c_vd22)]), Sum.inl (gx41, 49, #[.bool false, .slice none 0 0, .slice none 0 0, .bool false, .slice none 0 0, .slice none 0 0])]) → Hid (W9.ownsRow w.heap.size 49 6 v9 (n1 + cond rb 1 0) (xs1 ++ cond rb ([.bool (decide ((b1).num < 0)), (.slice ao_vb11 n_vb11 c_vb11), (.slice ao_vb12 n_vb12 c_vb12), .bool (decide ((b2).num < 0)), (.slice ao_vb21 n_vb21 c_vb21), (.slice ao_vb22 n_vb22 c_vb22)] : List Value) [])) → Hid (Apart [Sum.inr ((.slice ao_va11 n_va11 c_va11), Int.natAbs ((a1).num)), Sum.inr ((.slice ao_va12 n_va12 c_va12), (a1).den - 1), Sum.inr ((.slice ao_va21 n_va21 c_va21), Int.natAbs ((a2).num)), Sum.inr ((.slice ao_va22 n_va22 c_va22), (a2).den - 1), Sum.inr ((.slice ao_vb11 n_vb11 c_vb11), Int.natAbs ((b1).num)), Sum.inr ((.slice ao_vb12 n_vb12 c_vb12), (b1).den - 1), Sum.inr ((.slice ao_vb21 n_vb21 c_vb21), Int.natAbs ((b2).num)), Sum.inr ((.slice ao_vb22 n_vb22 c_vb22), (b2).den - 1), Sum.inr ((.slice ao_vc11 n_vc11 c_vc11), Int.natAbs ((c1).num)), Sum.inr ((.slice ao_vc12 n_vc12 c_vc12), (c1).den - 1), Sum.inr ((.slice ao_vc21 n_vc21 c_vc21), Int.natAbs ((c2).num)), Sum.inr ((.slice ao_vc22 n_vc22 c_vc22), (c2).den - 1), Sum.inr ((.slice ao_vd11 n_vd11 c_vd11), Int.natAbs ((d1).num)), Sum.inr ((.slice ao_vd12 n_vd12 c_vd12), (d1).den - 1), Sum.inr ((.slice ao_vd21 n_vd21 c_vd21), Int.natAbs ((d2).num)), Sum.inr ((.slice ao_vd22 n_vd22 c_vd22), (d2).den - 1), Sum.inl (w.heap.size, 49, #[.bool (decide ((a1).num < 0)), (.slice ao_va11 n_va11 c_va11), (.slice ao_va12 n_va12 c_va12), .bool (decide ((a2).num < 0)), (.slice ao_va21 n_va21 c_va21), (.slice ao_va22 n_va22 c_va22)]), Sum.inl (gx38, 49, #[.bool (decide ((b1).num < 0)), (.slice ao_vb11 n_vb11 c_vb11), (.slice ao_vb12 n_vb12 c_vb12), .bool (decide ((b2).num < 0)), (.slice ao_vb21 n_vb21 c_vb21), (.slice ao_vb22 n_vb22 c_vb22)]), Sum.inl (gx39, 49, #[.bool (decide ((c1).num < 0)), (.slice ao_vc11 n_vc11 c_vc11), (.slice ao_vc12 n_vc12 c_vc12), .bool (decide ((c2).num < 0)), (.slice ao_vc21 n_vc21 c_vc21), (.slice ao_vc22 n_vc22 c_vc22)]), Sum.inl (gx40, 49, #[.bool (decide ((d1).num < 0)), (.slice ao_vd11 n_vd11 c_vd11), (.slice ao_vd12 n_vd12 c_vd12), .bool (decide ((d2).num < 0)), (.slice ao_vd21 n_vd21 c_vd21), (.slice ao_vd22 n_vd22 c_vd22)]), Sum.inl (gx41, 49, #[.bool false, .slice none 0 0, .slice none 0 0, .bool false, .slice none 0 0, .slice none 0 0])] v9) → K { tmps := #[g0, g1, g2, g3, .pointer (some ⟨w.heap.size, 0, none⟩), .pointer (some ⟨gx38, 0, none⟩), .pointer (some ⟨gx39, 0, none⟩), .pointer (some ⟨gx40, 0, none⟩), .int .i64 0, .pointer (some ⟨gx41, 0, none⟩), v9, g11, g12, g13, g14, g15, g16, g17, g18, g19, g20, g21, g22, g23, g24, g25, g26, g27, g28, g29, g30, g31, g32, g33, g34, g35, g36, g37, g38, g39, g40, g41, g42, g43, g44, g45, g46, g47, g48, g49, g50, g51, g52, g53, g54, g55, g56, g57, g58, g59, g60, g61, g62, g63, g64, g65, g66, g67, g68, g69, g70, g71, g72, g73, g74, g75, g76, g77, g78, g79, g80, g81, g82, g83, g84, g85, g86, g87, g88, g89, g90, g91, g92, g93, g94, g95, g96, g97, g98, g99, g100, g101, g102, g103, g104, g105, g106, g107, g108, g109, g110, g111, g112, g113, g114, g115, g116, g117, g118, g119, g120, g121, g122, g123, g124, g125, g126, g127, g128], defers := [] } W9) by
    cases rb
    · refine wp_cond_false (by rfl) ?_
      refine wp_skip ?_
      exact HJ.out _ _ _ _ _ _ _ _ _ _ _ _ _ _ _ _ _ _ _ _ _ _ _ _ _ _ _ _ _ _ _ _ _ _ _ _ _ _ _ _ _ _ _ _ _ _ _ _ _ _ _ _ _ _ _ _ _ _ _ _ _ _ _ _ _ _ _ _ _ _ _ _ _ _ _ _ _ _ _ _ _ _ _ _ _ _ _ _ _ _ _ _ _ _ _ _ _ _ _ _ _ _ _ _ _ _ _ _ _ _ _ _ _ _ _ _ _ _ _ _ _ _ _ _ HF (Lib.hid (by show vw2.ownsRow w.heap.size 49 6 sv1 (n1 + 0) (xs1 ++ []); rw [List.append_nil]; exact HO.out)) HA
    · refine wp_cond_true (by rfl) ?_
      refine kL fun K1 hK1 => ?_
      have lx38 := HF.out.c 17 rfl
      have r0 := Gr.refl vw2
      have HN5 := Lib.hid (show ∀ j u, [.bool (decide ((b1).num < 0)), (.slice ao_vb11 n_vb11 c_vb11), (.slice ao_vb12 n_vb12 c_vb12), .bool (decide ((b2).num < 0)), (.slice ao_vb21 n_vb21 c_vb21), (.slice ao_vb22 n_vb22 c_vb22)][j]? = some u → (vw2.alloc (.cells #[.bool (decide ((b1).num < 0)), (.slice ao_vb11 n_vb11 c_vb11), (.slice ao_vb12 n_vb12 c_vb12), .bool (decide ((b2).num < 0)), (.slice ao_vb21 n_vb21 c_vb21), (.slice ao_vb22 n_vb22 c_vb22)] 49)).cell? ((⟨vw2.heap.size, 0, none⟩ : Addr).add j) = some u from news_at vw2 49 #[.bool (decide ((b1).num < 0)), (.slice ao_vb11 n_vb11 c_vb11), (.slice ao_vb12 n_vb12 c_vb12), .bool (decide ((b2).num < 0)), (.slice ao_vb21 n_vb21 c_vb21), (.slice ao_vb22 n_vb22 c_vb22)])
      have HF2 := Lib.hid (HF.out.gr (Gr.alloc _ (.cells #[.bool (decide ((b1).num < 0)), (.slice ao_vb11 n_vb11 c_vb11), (.slice ao_vb12 n_vb12 c_vb12), .bool (decide ((b2).num < 0)), (.slice ao_vb21 n_vb21 c_vb21), (.slice ao_vb22 n_vb22 c_vb22)] 49)))
      have HO2 := Lib.hid (own_gr HO.out (Gr.alloc _ (.cells #[.bool (decide ((b1).num < 0)), (.slice ao_vb11 n_vb11 c_vb11), (.slice ao_vb12 n_vb12 c_vb12), .bool (decide ((b2).num < 0)), (.slice ao_vb21 n_vb21 c_vb21), (.slice ao_vb22 n_vb22 c_vb22)] 49)))
      clear HF HO
      go_wp2_with (first | (at_builtin; refine apZ HF2 HO2 HA (.tmp 32) (.tmp 34) 147 hi hz0 hz1 hz2 rfl Tryz.underlying147 (by decide) (m := 1) (c := 1) (ad := ⟨vw2.heap.size, 0, none⟩) (news := [.bool (decide ((b1).num < 0)), (.slice ao_vb11 n_vb11 c_vb11), (.slice ao_vb12 n_vb12 c_vb12), .bool (decide ((b2).num < 0)), (.slice ao_vb21 n_vb21 c_vb21), (.slice ao_vb22 n_vb22 c_vb22)]) (by unfold maxLen; omega) (by omega) (by simp [Act.eval, Act.put]) (by simp [Act.eval, Act.put]) HN5 rfl ?c1 (by decide) rfl rfl ?_) | fail)
      case c1 => exact ⟨rfl, rfl, rfl, rfl, rfl, rfl⟩
      intro v9 W9 HF HO HA2
      clear HF2 HO2 HN5 HA lx38 r0
      go_wp2_with fail
      refine hK1.out _ _ ?_
      exact HJ.out _ _ _ _ _ _ _ _ _ _ _ _ _ _ _ _ _ _ _ _ _ _ _ _ _ _ _ _ _ _ _ _ _ _ _ _ _ _ _ _ _ _ _ _ _ _ _ _ _ _ _ _ _ _ _ _ _ _ _ _ _ _ _ _ _ _ _ _ _ _ _ _ _ _ _ _ _ _ _ _ _ _ _ _ _ _ _ _ _ _ _ _ _ _ _ _ _ _ _ _ _ _ _ _ _ _ _ _ _ _ _ _ _ _ _ _ _ _ _ _ _ _ _ _ HF HO HA2
  refine Lib.hid ?_
  intro sv2 W1j g0 g1 g2 g3 g11 g12 g13 g14 g15 g16 g17 g18 g19 g20 g21 g22 g23 g24 g25 g26 g27 g28 g29 g30 g31 g32 g33 g34 g35 g36 g37 g38 g39 g40 g41 g42 g43 g44 g45 g46 g47 g48 g49 g50 g51 g52 g53 g54 g55 g56 g57 g58 g59 g60 g61 g62 g63 g64 g65 g66 g67 g68 g69 g70 g71 g72 g73 g74 g75 g76 g77 g78 g79 g80 g81 g82 g83 g84 g85 g86 g87 g88 g89 g90 g91 g92 g93 g94 g95 g96 g97 g98 g99 g100 g101 g102 g103 g104 g105 g106 g107 g108 g109 g110 g111 g112 g113 g114 g115 g116 g117 g118 g119 g120 g121 g122 g123 g124 g125 g126 g127 g128 HF1 HO1 HA1
  clear HF HO HA; have HF := HF1; have HO := HO1; have HA := HA1; clear HF1 HO1 HA1
  refine kO hK ?_; clear hK K
  obtain ⟨n2, hn2⟩ : ∃ x : Nat, n1 + cond rb 1 0 = x := ⟨_, rfl⟩
  obtain ⟨xs2, hx2⟩ : ∃ x : List Value, xs1 ++ cond rb ([.bool (decide ((b1).num < 0)), (.slice ao_vb11 n_vb11 c_vb11), (.slice ao_vb12 n_vb12 c_vb12), .bool (decide ((b2).num < 0)), (.slice ao_vb21 n_vb21 c_vb21), (.slice ao_vb22 n_vb22 c_vb22)] : List Value) [] = x := ⟨_, rfl⟩
  have HPS2 : Hid (PS w (([] ++ (if ra then [((a1, a2) : Pq)] else [])) ++ (if rb then [((b1, b2) : Pq)] else [])) n2 xs2) := Lib.hid (by rw [← hn2, ← hx2]; exact ps_app rb HPS1.out HPB.out)
  rw [hn2, hx2] at HO
  have hm2 : n2 ≤ 2 := by omega
  clear hn2 hx2 HPS1 hm1
  refine wp_seq ?_
  have lx37 := HF.out.c 16 rfl
  have lx38 := HF.out.c 17 rfl
  have lx39 := HF.out.c 18 rfl
  refine kS fun K hK => ?_
  refine sq 4 [(true, 0), (true, 1), (true, 2), (true, 3)] fun T hT => ?_
  iterate 3 refine tk ?_
  refine ck Tryz.call83 (fun w' hw => rpon (a1) (a2) (b1) (b2) (c1) (c2) rc _ _ _ _ _ _ _ _ _ _ _ _ _ (HR2.out) (by omega) (by omega) (by omega) (by omega) (by omega) (by omega) (HF.out.r 0 rfl hw) (HF.out.r 1 rfl hw) (HF.out.r 2 rfl hw) (HF.out.r 3 rfl hw) (HF.out.r 4 rfl hw) (HF.out.r 5 rfl hw) (HF.out.r 6 rfl hw) (HF.out.r 7 rfl hw) (HF.out.r 8 rfl hw) (HF.out.r 9 rfl hw) (HF.out.r 10 rfl hw) (HF.out.r 11 rfl hw)) ?_
  refine wpPlan_nil (hT.out _ _ ?_)
  intro vw3 hg
  replace HO := Lib.hid (own_gr HO.out hg)
  simp only [puts, Act.put, lA, lB, lC, lD, lE, ↓reduceIte, Nat.reduceEqDiff]
  have HG := Lib.hid (HF.out.gr hg)
  clear hT T HF hg lx37 lx38 lx39
  go_wp2
  refine kO hK ?_; clear hK K
  have HF := HG; clear HG
  refine kL fun K hK => ?_
  suffices HJ : Hid (∀ (v9 : Value) (W9 : World) (g0 g1 g2 g3 g11 g12 g13 g14 g15 g16 g17 g18 g19 g20 g21 g22 g23 g24 g25 g26 g27 g28 g29 g30 g31 g32 g33 g34 g35 g36 g37 g38 g39 g40 g41 g42 g43 g44 g45 g46 g47 g48 g49 g50 g51 g52 g53 g54 g55 g56 g57 g58 g59 g60 g61 g62 g63 g64 g65 g66 g67 g68 g69 g70 g71 g72 g73 g74 g75 g76 g77 g78 g79 g80 g81 g82 g83 g84 g85 g86 g87 g88 g89 g90 g91 g92 g93 g94 g95 g96 g97 g98 g99 g100 g101 g102 g103 g104 g105 g106 g107 g108 g109 g110 g111 g112 g113 g114 g115 g116 g117 g118 g119 g120 g121 g122 g123 g124 g125 g126 g127 g128 : Value), Hid (HP w W9 [Sum.inr ((.slice ao_va11 n_va11 c_va11), Int.natAbs ((a1).num)), Sum.inr ((.slice ao_va12 n_va12 c_va12), (a1).den - 1), Sum.inr ((.slice ao_va21 n_va21 c_va21), Int.natAbs ((a2).num)), Sum.inr ((.slice ao_va22 n_va22 c_va22), (a2).den - 1), Sum.inr ((.slice ao_vb11 n_vb11 c_vb11), Int.natAbs ((b1).num)), Sum.inr ((.slice ao_vb12 n_vb12 c_vb12), (b1).den - 1), Sum.inr ((.slice ao_vb21 n_vb21 c_vb21), Int.natAbs ((b2).num)), Sum.inr ((.slice ao_vb22 n_vb22 c_vb22), (b2).den - 1), Sum.inr ((.slice ao_vc11 n_vc11 c_vc11), Int.natAbs ((c1).num)), Sum.inr ((.slice ao_vc12 n_vc12 c_vc12), (c1).den - 1), Sum.inr ((.slice ao_vc21 n_vc21 c_vc21), Int.natAbs ((c2).num)), Sum.inr ((.slice ao_vc22 n_vc22 c_vc22), (c2).den - 1), Sum.inr ((.slice ao_vd11 n_vd11 c_vd11), Int.natAbs ((d1).num)), Sum.inr ((.slice ao_vd12 n_vd12 c_vd12), (d1).den - 1), Sum.inr ((.slice ao_vd21 n_vd21 c_vd21), Int.natAbs ((d2).num)), Sum.inr ((.slice ao_vd22 n_vd22 c_vd22), (d2).den - 1), Sum.inl (w.heap.size, 49, #[.bool (decide ((a1).num < 0)), (.slice ao_va11 n_va11 c_va11), (.slice ao_va12 n_va12 c_va12), .bool (decide ((a2).num < 0)), (.slice ao_va21 n_va21 c_va21), (.slice ao_va22 n_va22 c_va22)]), Sum.inl (gx38, 49, #[.bool (decide ((b1).num < 0)), (.slice ao_vb11 n_vb11 c_vb11), (.slice ao_vb12 n_vb12 c_vb12), .bool (decide ((b2).num < 0)), (.slice ao_vb21 n_vb21 c_vb21), (.slice ao_vb22 n_vb22 c_vb22)]), Sum.inl (gx39, 49, #[.bool (decide ((c1).num < 0)), (.slice ao_vc11 n_vc11 c_vc11), (.slice ao_vc12 n_vc12 c_vc12), .bool (decide ((c2).num < 0)), (.slice ao_vc21 n_vc21 c_vc21), (.slice ao_vc22 n_vc22 c_vc22)]), Sum.inl (gx40, 49, #[.bool (decide ((d1).num < 0)), (.slice ao_vd11 n_vd11 c_vd11), (.slice ao_vd12 n_vd12 c_vd12), .bool (decide ((d2).num < 0)), (.slice ao_vd21 n_vd21 c_vd21), (.slice ao_vd22 n_vd22 c_vd22)]), Sum.inl (gx41, 49, #[.bool false, .slice none 0 0, .slice none 0 0, .bool false, .slice none 0 0, .slice none 0 0])]) → Hid (W9.ownsRow w.heap.size 49 6 v9 (n2 + cond rc 1 0) (xs2 ++ cond rc ([.bool (decide ((c1).num < 0)), (.slice ao_vc11 n_vc11 c_vc11), (.slice ao_vc12 n_vc12 c_vc12), .bool (decide ((c2).num < 0)), (.slice ao_vc21 n_vc21 c_vc21), (.slice ao_vc22 n_vc22 c_vc22)] : List Value) [])) → Hid (Apart [Sum.inr ((.slice ao_va11 n_va11 c_va11), Int.natAbs ((a1).num)), Sum.inr ((.slice ao_va12 n_va12 c_va12), (a1).den - 1), Sum.inr ((.slice ao_va21 n_va21 c_va21), Int.natAbs ((a2).num)), Sum.inr ((.slice ao_va22 n_va22 c_va22), (a2).den - 1), Sum.inr ((.slice ao_vb11 n_vb11 c_vb11), Int.natAbs ((b1).num)), Sum.inr ((.slice ao_vb12 n_vb12 c_vb12), (b1).den - 1), Sum.inr ((.slice ao_vb21 n_vb21 c_vb21), Int.natAbs ((b2).num)), Sum.inr ((.slice ao_vb22 n_vb22 c_vb22), (b2).den - 1), Sum.inr ((.slice ao_vc11 n_vc11 c_vc11), Int.natAbs ((c1).num)), Sum.inr ((.slice ao_vc12 n_vc12 c_vc12), (c1).den - 1), Sum.inr ((.slice ao_vc21 n_vc21 c_vc21), Int.natAbs ((c2).num)), Sum.inr ((.slice ao_vc22 n_vc22 c_vc22), (c2).den - 1), Sum.inr ((.slice ao_vd11 n_vd11 c_vd11), Int.natAbs ((d1).num)), Sum.inr ((.slice ao_vd12 n_vd12 c_vd12), (d1).den - 1), Sum.inr ((.slice ao_vd21 n_vd21 c_vd21), Int.natAbs ((d2).num)), Sum.inr ((.slice ao_vd22 n_vd22 c_vd22), (d2).den - 1), Sum.inl (w.heap.size, 49, #[.bool (decide ((a1).num < 0)), (.slice ao_va11 n_va11 c_va11), (.slice ao_va12 n_va12 c_va12), .bool (decide ((a2).num < 0)), (.slice ao_va21 n_va21 c_va21), (.slice ao_va22 n_va22 c_va22)]), Sum.inl (gx38, 49, #[.bool (decide ((b1).num < 0)), (.slice ao_vb11 n_vb11 c_vb11), (.slice ao_vb12 n_vb12 c_vb12), .bool (decide ((b2).num < 0)), (.slice ao_vb21 n_vb21 c_vb21), (.slice ao_vb22 n_vb22 c_vb22)]), Sum.inl (gx39, 49, #[.bool (decide ((c1).num < 0)), (.slice ao_vc11 n_vc11 c_vc11), (.slice ao_vc12 n_vc12 c_vc12), .bool (decide ((c2).num < 0)), (.slice ao_vc21 n_vc21 c_vc21), (.slice ao_vc22 n_vc22 c_vc22)]), Sum.inl (gx40, 49, #[.bool (decide ((d1).num < 0)), (.slice ao_vd11 n_vd11 c_vd11), (.slice ao_vd12 n_vd12 c_vd12), .bool (decide ((d2).num < 0)), (.slice ao_vd21 n_vd21 c_vd21), (.slice ao_vd22 n_vd22 c_vd22)]), Sum.inl (gx41, 49, #[.bool false, .slice none 0 0, .slice none 0 0, .bool false, .slice none 0 0, .slice none 0 0])] v9) → K { tmps := #[g0, g1, g2, g3, .pointer (some ⟨w.heap.size, 0, none⟩), .pointer (some ⟨gx38, 0, none⟩), .pointer (some ⟨gx39, 0, none⟩), .pointer (some ⟨gx40, 0, none⟩), .int .i64 0, .pointer (some ⟨gx41, 0, none⟩), v9, g11, g12, g13, g14, g15, g16, g17, g18, g19, g20, g21, g22, g23, g24, g25, g26, g27, g28, g29, g30, g31, g32, g33, g34, g35, g36, g37, g38, g39, g40, g41, g42, g43, g44, g45, g46, g47, g48, g49, g50, g51, g52, g53, g54, g55, g56, g57, g58, g59, g60, g61, g62, g63, g64, g65, g66, g67, g68, g69, g70, g71, g72, g73, g74, g75, g76, g77, g78, g79, g80, g81, g82, g83, g84, g85, g86, g87, g88, g89, g90, g91, g92, g93, g94, g95, g96, g97, g98, g99, g100, g101, g102, g103, g104, g105, g106, g107, g108, g109, g110, g111, g112, g113, g114, g115, g116, g117, g118, g119, g120, g121, g122, g123, g124, g125, g126, g127, g128], defers := [] } W9) by
    cases rc
    · refine wp_cond_false (by rfl) ?_
      refine wp_skip ?_
      exact HJ.out _ _ _ _ _ _ _ _ _ _ _ _ _ _ _ _ _ _ _ _ _ _ _ _ _ _ _ _ _ _ _ _ _ _ _ _ _ _ _ _ _ _ _ _ _ _ _ _ _ _ _ _ _ _ _ _ _ _ _ _ _ _ _ _ _ _ _ _ _ _ _ _ _ _ _ _ _ _ _ _ _ _ _ _ _ _ _ _ _ _ _ _ _ _ _ _ _ _ _ _ _ _ _ _ _ _ _ _ _ _ _ _ _ _ _ _ _ _ _ _ _ _ _ _ HF (Lib.hid (by show vw3.ownsRow w.heap.size 49 6 sv2 (n2 + 0) (xs2 ++ []); rw [List.append_nil]; exact HO.out)) HA
    · refine wp_cond_true (by rfl) ?_
      refine kL fun K1 hK1 => ?_
      have lx39 := HF.out.c 18 rfl
      have r0 := Gr.refl vw3
      have HN5 := Lib.hid (show ∀ j u, [.bool (decide ((c1).num < 0)), (.slice ao_vc11 n_vc11 c_vc11), (.slice ao_vc12 n_vc12 c_vc12), .bool (decide ((c2).num < 0)), (.slice ao_vc21 n_vc21 c_vc21), (.slice ao_vc22 n_vc22 c_vc22)][j]? = some u → (vw3.alloc (.cells #[.bool (decide ((c1).num < 0)), (.slice ao_vc11 n_vc11 c_vc11), (.slice ao_vc12 n_vc12 c_vc12), .bool (decide ((c2).num < 0)), (.slice ao_vc21 n_vc21 c_vc21), (.slice ao_vc22 n_vc22 c_vc22)] 49)).cell? ((⟨vw3.heap.size, 0, none⟩ : Addr).add j) = some u from news_at vw3 49 #[.bool (decide ((c1).num < 0)), (.slice ao_vc11 n_vc11 c_vc11), (.slice ao_vc12 n_vc12 c_vc12), .bool (decide ((c2).num < 0)), (.slice ao_vc21 n_vc21 c_vc21), (.slice ao_vc22 n_vc22 c_vc22)])
      have HF2 := Lib.hid (HF.out.gr (Gr.alloc _ (.cells #[.bool (decide ((c1).num < 0)), (.slice ao_vc11 n_vc11 c_vc11), (.slice ao_vc12 n_vc12 c_vc12), .bool (decide ((c2).num < 0)), (.slice ao_vc21 n_vc21 c_vc21), (.slice ao_vc22 n_vc22 c_vc22)] 49)))
      have HO2 := Lib.hid (own_gr HO.out (Gr.alloc _ (.cells #[.bool (decide ((c1).num < 0)), (.slice ao_vc11 n_vc11 c_vc11), (.slice ao_vc12 n_vc12 c_vc12), .bool (decide ((c2).num < 0)), (.slice ao_vc21 n_vc21 c_vc21), (.slice ao_vc22 n_vc22 c_vc22)] 49)))
      clear HF HO
      go_wp2_with (first | (at_builtin; refine apZ HF2 HO2 HA (.tmp 40) (.tmp 42) 147 hi hz0 hz1 hz2 rfl Tryz.underlying147 (by decide) (m := 1) (c := 1) (ad := ⟨vw3.heap.size, 0, none⟩) (news := [.bool (decide ((c1).num < 0)), (.slice ao_vc11 n_vc11 c_vc11), (.slice ao_vc12 n_vc12 c_vc12), .bool (decide ((c2).num < 0)), (.slice ao_vc21 n_vc21 c_vc21), (.slice ao_vc22 n_vc22 c_vc22)]) (by unfold maxLen; omega) (by omega) (by simp [Act.eval, Act.put]) (by simp [Act.eval, Act.put]) HN5 rfl ?c1 (by decide) rfl rfl ?_) | fail)
      case c1 => exact ⟨rfl, rfl, rfl, rfl, rfl, rfl⟩
      intro v9 W9 HF HO HA2
      clear HF2 HO2 HN5 HA lx39 r0
      go_wp2_with fail
      refine hK1.out _ _ ?_
      exact HJ.out _ _ _ _ _ _ _ _ _ _ _ _ _ _ _ _ _ _ _ _ _ _ _ _ _ _ _ _ _ _ _ _ _ _ _ _ _ _ _ _ _ _ _ _ _ _ _ _ _ _ _ _ _ _ _ _ _ _ _ _ _ _ _ _ _ _ _ _ _ _ _ _ _ _ _ _ _ _ _ _ _ _ _ _ _ _ _ _ _ _ _ _ _ _ _ _ _ _ _ _ _ _ _ _ _ _ _ _ _ _ _ _ _ _ _ _ _ _ _ _ _ _ _ _ HF HO HA2
  refine Lib.hid ?_
  intro sv3 W2j g0 g1 g2 g3 g11 g12 g13 g14 g15 g16 g17 g18 g19 g20 g21 g22 g23 g24 g25 g26 g27 g28 g29 g30 g31 g32 g33 g34 g35 g36 g37 g38 g39 g40 g41 g42 g43 g44 g45 g46 g47 g48 g49 g50 g51 g52 g53 g54 g55 g56 g57 g58 g59 g60 g61 g62 g63 g64 g65 g66 g67 g68 g69 g70 g71 g72 g73 g74 g75 g76 g77 g78 g79 g80 g81 g82 g83 g84 g85 g86 g87 g88 g89 g90 g91 g92 g93 g94 g95 g96 g97 g98 g99 g100 g101 g102 g103 g104 g105 g106 g107 g108 g109 g110 g111 g112 g113 g114 g115 g116 g117 g118 g119 g120 g121 g122 g123 g124 g125 g126 g127 g128 HF1 HO1 HA1
  clear HF HO HA; have HF := HF1; have HO := HO1; have HA := HA1; clear HF1 HO1 HA1
  refine kO hK ?_; clear hK K
  obtain ⟨n3, hn3⟩ : ∃ x : Nat, n2 + cond rc 1 0 = x := ⟨_, rfl⟩
  obtain ⟨xs3, hx3⟩ : ∃ x : List Value, xs2 ++ cond rc ([.bool (decide ((c1).num < 0)), (.slice ao_vc11 n_vc11 c_vc11), (.slice ao_vc12 n_vc12 c_vc12), .bool (decide ((c2).num < 0)), (.slice ao_vc21 n_vc21 c_vc21), (.slice ao_vc22 n_vc22 c_vc22)] : List Value) [] = x := ⟨_, rfl⟩
  have HPS3 : Hid (PS w ((([] ++ (if ra then [((a1, a2) : Pq)] else [])) ++ (if rb then [((b1, b2) : Pq)] else [])) ++ (if rc then [((c1, c2) : Pq)] else [])) n3 xs3) := Lib.hid (by rw [← hn3, ← hx3]; exact ps_app rc HPS2.out HPC.out)
  rw [hn3, hx3] at HO
  have hm3 : n3 ≤ 3 := by omega
  clear hn3 hx3 HPS2 hm2
  refine wp_seq ?_
  have lx37 := HF.out.c 16 rfl
  have lx38 := HF.out.c 17 rfl
  have lx40 := HF.out.c 19 rfl
  refine kS fun K hK => ?_
  refine sq 4 [(true, 0), (true, 1), (true, 2), (true, 3)] fun T hT => ?_
  iterate 3 refine tk ?_
  refine ck Tryz.call83 (fun w' hw => rpon (a1) (a2) (b1) (b2) (d1) (d2) rd _ _ _ _ _ _ _ _ _ _ _ _ _ (HR3.out) (by omega) (by omega) (by omega) (by omega) (by omega) (by omega) (HF.out.r 0 rfl hw) (HF.out.r 1 rfl hw) (HF.out.r 2 rfl hw) (HF.out.r 3 rfl hw) (HF.out.r 4 rfl hw) (HF.out.r 5 rfl hw) (HF.out.r 6 rfl hw) (HF.out.r 7 rfl hw) (HF.out.r 12 rfl hw) (HF.out.r 13 rfl hw) (HF.out.r 14 rfl hw) (HF.out.r 15 rfl hw)) ?_
  refine wpPlan_nil (hT.out _ _ ?_)
  intro vw4 hg
  replace HO := Lib.hid (own_gr HO.out hg)
  simp only [puts, Act.put, lA, lB, lC, lD, lE, ↓reduceIte, Nat.reduceEqDiff]
  have HG := Lib.hid (HF.out.gr hg)
  clear hT T HF hg lx37 lx38 lx40
  go_wp2
  refine kO hK ?_; clear hK K
  have HF := HG; clear HG
  refine kL fun K hK => ?_
  suffices HJ : Hid (∀ (v9 : Value) (W9 : World) (g0 g1 g2 g3 g11 g12 g13 g14 g15 g16 g17 g18 g19 g20 g21 g22 g23 g24 g25 g26 g27 g28 g29 g30 g31 g32 g33 g34 g35 g36 g37 g38 g39 g40 g41 g42 g43 g44 g45 g46 g47 g48 g49 g50 g51 g52 g53 g54 g55 g56 g57 g58 g59 g60 g61 g62 g63 g64 g65 g66 g67 g68 g69 g70 g71 g72 g73 g74 g75 g76 g77 g78 g79 g80 g81 g82 g83 g84 g85 g86 g87 g88 g89 g90 g91 g92 g93 g94 g95 g96 g97 g98 g99 g100 g101 g102 g103 g104 g105 g106 g107 g108 g109 g110 g111 g112 g113 g114 g115 g116 g117 g118 g119 g120 g121 g122 g123 g124 g125 g126 g127 g128 : Value), Hid (HP w W9 [Sum.inr ((.slice ao_va11 n_va11 c_va11), Int.natAbs ((a1).num)), Sum.inr ((.slice ao_va12 n_va12 c_va12), (a1).den - 1), Sum.inr ((.slice ao_va21 n_va21 c_va21), Int.natAbs ((a2).num)), Sum.inr ((.slice ao_va22 n_va22 c_va22), (a2).den - 1), Sum.inr ((.slice ao_vb11 n_vb11 c_vb11), Int.natAbs ((b1).num)), Sum.inr ((.slice ao_vb12 n_vb12 c_vb12), (b1).den - 1), Sum.inr ((.slice ao_vb21 n_vb21 c_vb21), Int.natAbs ((b2).num)), Sum.inr ((.slice ao_vb22 n_vb22 c_vb22), (b2).den - 1), Sum.inr ((.slice ao_vc11 n_vc11 c_vc11), Int.natAbs ((c1).num)), Sum.inr ((.slice ao_vc12 n_vc12 c_vc12), (c1).den - 1), Sum.inr ((.slice ao_vc21 n_vc21 c_vc21), Int.natAbs ((c2).num)), Sum.inr ((.slice ao_vc22 n_vc22 c_vc22), (c2).den - 1), Sum.inr ((.slice ao_vd11 n_vd11 c_vd11), Int.natAbs ((d1).num)), Sum.inr ((.slice ao_vd12 n_vd12 c_vd12), (d1).den - 1), Sum.inr ((.slice ao_vd21 n_vd21 c_vd21), Int.natAbs ((d2).num)), Sum.inr ((.slice ao_vd22 n_vd22 c_vd22), (d2).den - 1), Sum.inl (w.heap.size, 49, #[.bool (decide ((a1).num < 0)), (.slice ao_va11 n_va11 c_va11), (.slice ao_va12 n_va12 c_va12), .bool (decide ((a2).num < 0)), (.slice ao_va21 n_va21 c_va21), (.slice ao_va22 n_va22 c_va22)]), Sum.inl (gx38, 49, #[.bool (decide ((b1).num < 0)), (.slice ao_vb11 n_vb11 c_vb11), (.slice ao_vb12 n_vb12 c_vb12), .bool (decide ((b2).num < 0)), (.slice ao_vb21 n_vb21 c_vb21), (.slice ao_vb22 n_vb22 c_vb22)]), Sum.inl (gx39, 49, #[.bool (decide ((c1).num < 0)), (.slice ao_vc11 n_vc11 c_vc11), (.slice ao_vc12 n_vc12 c_vc12), .bool (decide ((c2).num < 0)), (.slice ao_vc21 n_vc21 c_vc21), (.slice ao_vc22 n_vc22 c_vc22)]), Sum.inl (gx40, 49, #[.bool (decide ((d1).num < 0)), (.slice ao_vd11 n_vd11 c_vd11), (.slice ao_vd12 n_vd12 c_vd12), .bool (decide ((d2).num < 0)), (.slice ao_vd21 n_vd21 c_vd21), (.slice ao_vd22 n_vd22 c_vd22)]), Sum.inl (gx41, 49, #[.bool false, .slice none 0 0, .slice none 0 0, .bool false, .slice none 0 0, .slice none 0 0])]) → Hid (W9.ownsRow w.heap.size 49 6 v9 (n3 + cond rd 1 0) (xs3 ++ cond rd ([.bool (decide ((d1).num < 0)), (.slice ao_vd11 n_vd11 c_vd11), (.slice ao_vd12 n_vd12 c_vd12), .bool (decide ((d2).num < 0)), (.slice ao_vd21 n_vd21 c_vd21), (.slice ao_vd22 n_vd22 c_vd22)] : List Value) [])) → Hid (Apart [Sum.inr ((.slice ao_va11 n_va11 c_va11), Int.natAbs ((a1).num)), Sum.inr ((.slice ao_va12 n_va12 c_va12), (a1).den - 1), Sum.inr ((.slice ao_va21 n_va21 c_va21), Int.natAbs ((a2).num)), Sum.inr ((.slice ao_va22 n_va22 c_va22), (a2).den - 1), Sum.inr ((.slice ao_vb11 n_vb11 c_vb11), Int.natAbs ((b1).num)), Sum.inr ((.slice ao_vb12 n_vb12 c_vb12), (b1).den - 1), Sum.inr ((.slice ao_vb21 n_vb21 c_vb21), Int.natAbs ((b2).num)), Sum.inr ((.slice ao_vb22 n_vb22 c_vb22), (b2).den - 1), Sum.inr ((.slice ao_vc11 n_vc11 c_vc11), Int.natAbs ((c1).num)), Sum.inr ((.slice ao_vc12 n_vc12 c_vc12), (c1).den - 1), Sum.inr ((.slice ao_vc21 n_vc21 c_vc21), Int.natAbs ((c2).num)), Sum.inr ((.slice ao_vc22 n_vc22 c_vc22), (c2).den - 1), Sum.inr ((.slice ao_vd11 n_vd11 c_vd11), Int.natAbs ((d1).num)), Sum.inr ((.slice ao_vd12 n_vd12 c_vd12), (d1).den - 1), Sum.inr ((.slice ao_vd21 n_vd21 c_vd21), Int.natAbs ((d2).num)), Sum.inr ((.slice ao_vd22 n_vd22 c_vd22), (d2).den - 1), Sum.inl (w.heap.size, 49, #[.bool (decide ((a1).num < 0)), (.slice ao_va11 n_va11 c_va11), (.slice ao_va12 n_va12 c_va12), .bool (decide ((a2).num < 0)), (.slice ao_va21 n_va21 c_va21), (.slice ao_va22 n_va22 c_va22)]), Sum.inl (gx38, 49, #[.bool (decide ((b1).num < 0)), (.slice ao_vb11 n_vb11 c_vb11), (.slice ao_vb12 n_vb12 c_vb12), .bool (decide ((b2).num < 0)), (.slice ao_vb21 n_vb21 c_vb21), (.slice ao_vb22 n_vb22 c_vb22)]), Sum.inl (gx39, 49, #[.bool (decide ((c1).num < 0)), (.slice ao_vc11 n_vc11 c_vc11), (.slice ao_vc12 n_vc12 c_vc12), .bool (decide ((c2).num < 0)), (.slice ao_vc21 n_vc21 c_vc21), (.slice ao_vc22 n_vc22 c_vc22)]), Sum.inl (gx40, 49, #[.bool (decide ((d1).num < 0)), (.slice ao_vd11 n_vd11 c_vd11), (.slice ao_vd12 n_vd12 c_vd12), .bool (decide ((d2).num < 0)), (.slice ao_vd21 n_vd21 c_vd21), (.slice ao_vd22 n_vd22 c_vd22)]), Sum.inl (gx41, 49, #[.bool false, .slice none 0 0, .slice none 0 0, .bool false, .slice none 0 0, .slice none 0 0])] v9) → K { tmps := #[g0, g1, g2, g3, .pointer (some ⟨w.heap.size, 0, none⟩), .pointer (some ⟨gx38, 0, none⟩), .pointer (some ⟨gx39, 0, none⟩), .pointer (some ⟨gx40, 0, none⟩), .int .i64 0, .pointer (some ⟨gx41, 0, none⟩), v9, g11, g12, g13, g14, g15, g16, g17, g18, g19, g20, g21, g22, g23, g24, g25, g26, g27, g28, g29, g30, g31, g32, g33, g34, g35, g36, g37, g38, g39, g40, g41, g42, g43, g44, g45, g46, g47, g48, g49, g50, g51, g52, g53, g54, g55, g56, g57, g58, g59, g60, g61, g62, g63, g64, g65, g66, g67, g68, g69, g70, g71, g72, g73, g74, g75, g76, g77, g78, g79, g80, g81, g82, g83, g84, g85, g86, g87, g88, g89, g90, g91, g92, g93, g94, g95, g96, g97, g98, g99, g100, g101, g102, g103, g104, g105, g106, g107, g108, g109, g110, g111, g112, g113, g114, g115, g116, g117, g118, g119, g120, g121, g122, g123, g124, g125, g126, g127, g128], defers := [] } W9) by
    cases rd
    · refine wp_cond_false (by rfl) ?_
      refine wp_skip ?_
      exact HJ.out _ _ _ _ _ _ _ _ _ _ _ _ _ _ _ _ _ _ _ _ _ _ _ _ _ _ _ _ _ _ _ _ _ _ _ _ _ _ _ _ _ _ _ _ _ _ _ _ _ _ _ _ _ _ _ _ _ _ _ _ _ _ _ _ _ _ _ _ _ _ _ _ _ _ _ _ _ _ _ _ _ _ _ _ _ _ _ _ _ _ _ _ _ _ _ _ _ _ _ _ _ _ _ _ _ _ _ _ _ _ _ _ _ _ _ _ _ _ _ _ _ _ _ _ HF (Lib.hid (by show vw4.ownsRow w.heap.size 49 6 sv3 (n3 + 0) (xs3 ++ []); rw [List.append_nil]; exact HO.out)) HA
    · refine wp_cond_true (by rfl) ?_
      refine kL fun K1 hK1 => ?_
      have lx40 := HF.out.c 19 rfl
      have r0 := Gr.refl vw4
      have HN5 := Lib.hid (show ∀ j u, [.bool (decide ((d1).num < 0)), (.slice ao_vd11 n_vd11 c_vd11), (.slice ao_vd12 n_vd12 c_vd12), .bool (decide ((d2).num < 0)), (.slice ao_vd21 n_vd21 c_vd21), (.slice ao_vd22 n_vd22 c_vd22)][j]? = some u → (vw4.alloc (.cells #[.bool (decide ((d1).num < 0)), (.slice ao_vd11 n_vd11 c_vd11), (.slice ao_vd12 n_vd12 c_vd12), .bool (decide ((d2).num < 0)), (.slice ao_vd21 n_vd21 c_vd21), (.slice ao_vd22 n_vd22 c_vd22)] 49)).cell? ((⟨vw4.heap.size, 0, none⟩ : Addr).add j) = some u from news_at vw4 49 #[.bool (decide ((d1).num < 0)), (.slice ao_vd11 n_vd11 c_vd11), (.slice ao_vd12 n_vd12 c_vd12), .bool (decide ((d2).num < 0)), (.slice ao_vd21 n_vd21 c_vd21), (.slice ao_vd22 n_vd22 c_vd22)])
      have HF2 := Lib.hid (HF.out.gr (Gr.alloc _ (.cells #[.bool (decide ((d1).num < 0)), (.slice ao_vd11 n_vd11 c_vd11), (.slice ao_vd12 n_vd12 c_vd12), .bool (decide ((d2).num < 0)), (.slice ao_vd21 n_vd21 c_vd21), (.slice ao_vd22 n_vd22 c_vd22)] 49)))
      have HO2 := Lib.hid (own_gr HO.out (Gr.alloc _ (.cells #[.bool (decide ((d1).num < 0)), (.slice ao_vd11 n_vd11 c_vd11), (.slice ao_vd12 n_vd12 c_vd12), .bool (decide ((d2).num < 0)), (.slice ao_vd21 n_vd21 c_vd21), (.slice ao_vd22 n_vd22 c_vd22)] 49)))
      clear HF HO
      go_wp2_with (first | (at_builtin; refine apZ HF2 HO2 HA (.tmp 48) (.tmp 50) 147 hi hz0 hz1 hz2 rfl Tryz.underlying147 (by decide) (m := 1) (c := 1) (ad := ⟨vw4.heap.size, 0, none⟩) (news := [.bool (decide ((d1).num < 0)), (.slice ao_vd11 n_vd11 c_vd11), (.slice ao_vd12 n_vd12 c_vd12), .bool (decide ((d2).num < 0)), (.slice ao_vd21 n_vd21 c_vd21), (.slice ao_vd22 n_vd22 c_vd22)]) (by unfold maxLen; omega) (by omega) (by simp [Act.eval, Act.put]) (by simp [Act.eval, Act.put]) HN5 rfl ?c1 (by decide) rfl rfl ?_) | fail)
      case c1 => exact ⟨rfl, rfl, rfl, rfl, rfl, rfl⟩
      intro v9 W9 HF HO HA2
      clear HF2 HO2 HN5 HA lx40 r0
      go_wp2_with fail
      refine hK1.out _ _ ?_
      exact HJ.out _ _ _ _ _ _ _ _ _ _ _ _ _ _ _ _ _ _ _ _ _ _ _ _ _ _ _ _ _ _ _ _ _ _ _ _ _ _ _ _ _ _ _ _ _ _ _ _ _ _ _ _ _ _ _ _ _ _ _ _ _ _ _ _ _ _ _ _ _ _ _ _ _ _ _ _ _ _ _ _ _ _ _ _ _ _ _ _ _ _ _ _ _ _ _ _ _ _ _ _ _ _ _ _ _ _ _ _ _ _ _ _ _ _ _ _ _ _ _ _ _ _ _ _ HF HO HA2
  refine Lib.hid ?_
  intro sv4 W3j g0 g1 g2 g3 g11 g12 g13 g14 g15 g16 g17 g18 g19 g20 g21 g22 g23 g24 g25 g26 g27 g28 g29 g30 g31 g32 g33 g34 g35 g36 g37 g38 g39 g40 g41 g42 g43 g44 g45 g46 g47 g48 g49 g50 g51 g52 g53 g54 g55 g56 g57 g58 g59 g60 g61 g62 g63 g64 g65 g66 g67 g68 g69 g70 g71 g72 g73 g74 g75 g76 g77 g78 g79 g80 g81 g82 g83 g84 g85 g86 g87 g88 g89 g90 g91 g92 g93 g94 g95 g96 g97 g98 g99 g100 g101 g102 g103 g104 g105 g106 g107 g108 g109 g110 g111 g112 g113 g114 g115 g116 g117 g118 g119 g120 g121 g122 g123 g124 g125 g126 g127 g128 HF1 HO1 HA1
  clear HF HO HA; have HF := HF1; have HO := HO1; have HA := HA1; clear HF1 HO1 HA1
  refine kO hK ?_; clear hK K
  obtain ⟨n4, hn4⟩ : ∃ x : Nat, n3 + cond rd 1 0 = x := ⟨_, rfl⟩
  obtain ⟨xs4, hx4⟩ : ∃ x : List Value, xs3 ++ cond rd ([.bool (decide ((d1).num < 0)), (.slice ao_vd11 n_vd11 c_vd11), (.slice ao_vd12 n_vd12 c_vd12), .bool (decide ((d2).num < 0)), (.slice ao_vd21 n_vd21 c_vd21), (.slice ao_vd22 n_vd22 c_vd22)] : List Value) [] = x := ⟨_, rfl⟩
  have HPS4 : Hid (PS w (((([] ++ (if ra then [((a1, a2) : Pq)] else [])) ++ (if rb then [((b1, b2) : Pq)] else [])) ++ (if rc then [((c1, c2) : Pq)] else [])) ++ (if rd then [((d1, d2) : Pq)] else [])) n4 xs4) := Lib.hid (by rw [← hn4, ← hx4]; exact ps_app rd HPS3.out HPD.out)
  rw [hn4, hx4] at HO
  have hm4 : n4 ≤ 4 := by omega
  clear hn4 hx4 HPS3 hm3
  have HPS : Hid (PS w (ends (a1, a2) (b1, b2) (c1, c2) (d1, d2)) n4 xs4) := Lib.hid (by
    have e2 : ends (a1, a2) (b1, b2) (c1, c2) (d1, d2) = (((([] ++ (if ra then [((a1, a2) : Pq)] else [])) ++ (if rb then [((b1, b2) : Pq)] else [])) ++ (if rc then [((c1, c2) : Pq)] else [])) ++ (if rd then [((d1, d2) : Pq)] else [])) := by unfold ends onQ; rw [HR0.out, HR1.out, HR2.out, HR3.out, List.nil_append]
    rw [e2]; exact HPS4.out)
  clear HPS4
  obtain ⟨n, hn⟩ : ∃ n, n4 = n := ⟨_, rfl⟩
  obtain ⟨xs, hx⟩ : ∃ xs, xs4 = xs := ⟨_, rfl⟩
  rw [hn, hx] at HPS HO; rw [hn] at hm4; clear hn hx
  obtain ⟨e0, l, HEL⟩ : ∃ e l, Hid (ends (a1, a2) (b1, b2) (c1, c2) (d1, d2) = e :: l) := by
    cases h : ends (a1, a2) (b1, b2) (c1, c2) (d1, d2) with
    | nil => exact absurd h HNE.out
    | cons e l => exact ⟨e, l, Lib.hid rfl⟩
  rw [HEL.out] at HPS
  have hln : l.length + 1 = n := HPS.out.1
  have hnp : 0 < n := by omega
  have hni : (0 : Int) < (n : Int) := by omega
  have HSZ : Hid (∀ x ∈ e0 :: l, rz x.1 ≤ 100 ∧ rz x.2 ≤ 100) := Lib.hid (fun x hx => by
    rw [← HEL.out] at hx
    rcases mem_ends.1 hx with ⟨_, rfl⟩ | ⟨_, rfl⟩ | ⟨_, rfl⟩ | ⟨_, rfl⟩ <;> exact ⟨by assumption, by assumption⟩)
  obtain ⟨gR, cur, hHF, hRV⟩ := own_hp HF.out HO.out HA.out (by omega) (by decide)
  obtain ⟨cap, rfl⟩ := hRV.sl
  clear HF HO HA; have HF := Lib.hid hHF; have HRV := Lib.hid hRV; clear hHF hRV
  replace HF := Lib.hid (((((((((((((((((((((HF.out).er 19).er 18).er 17).er 16).er 15).er 14).er 13).er 12).er 11).er 10).er 9).er 8).er 7).er 6).er 5).er 4).er 3).er 2).er 1).er 0)
  simp only [List.cons_append, List.nil_append, List.eraseIdx_cons_zero, List.eraseIdx_cons_succ] at HF
  obtain ⟨a5, a6, a7, a8, HRE, hce⟩ := HPS.out.2.2 0 e0 rfl
  have HCE := Lib.hid hce; clear hce
  obtain ⟨qx0, qy0⟩ := e0
  obtain ⟨ao_a5, nn_a5, cc_a5, rfl⟩ := Rn.sl HRE.1
  obtain ⟨ao_a6, nn_a6, cc_a6, rfl⟩ := Rn.sl HRE.2.1
  obtain ⟨ao_a7, nn_a7, cc_a7, rfl⟩ := Rn.sl HRE.2.2.1
  obtain ⟨ao_a8, nn_a8, cc_a8, rfl⟩ := Rn.sl HRE.2.2.2
  have HRE0 := Lib.hid HRE; clear HRE
  refine wp_seq ?_
  refine kS fun K hK => ?_
  go_wp2
  refine kO hK ?_; clear hK K
  refine wp_cond_true (by rfl) ?_
  have lx90_0 := (fun w' (h : Gr _ w') => row06 HRV.out (HF.out.bx 1 rfl) HCE.out h 0 rfl (by omega))
  have lx90_1 := (fun w' (h : Gr _ w') => row06 HRV.out (HF.out.bx 1 rfl) HCE.out h 1 rfl (by omega))
  have lx90_2 := (fun w' (h : Gr _ w') => row06 HRV.out (HF.out.bx 1 rfl) HCE.out h 2 rfl (by omega))
  have lx90_3 := (fun w' (h : Gr _ w') => row06 HRV.out (HF.out.bx 1 rfl) HCE.out h 3 rfl (by omega))
  have lx90_4 := (fun w' (h : Gr _ w') => row06 HRV.out (HF.out.bx 1 rfl) HCE.out h 4 rfl (by omega))
  have lx90_5 := (fun w' (h : Gr _ w') => row06 HRV.out (HF.out.bx 1 rfl) HCE.out h 5 rfl (by omega))
  refine kS fun K hK => ?_
  refine sq 3 [(true, 0), (true, 1), (true, 2)] fun T hT => ?_
  iterate 3 refine tk ?_
  refine nlS hT HF fun vw5 HG => ?_
  clear hT T HF lx90_0 lx90_1 lx90_2 lx90_3 lx90_4 lx90_5
  go_wp2
  refine kO hK ?_; clear hK K
  refine fH ((HG.out).aL (vw5.heap.size)) fun Wx11 HF => ?_
  clear HG
  generalize vw5.heap.size = gx101 at *
  have lx90_0 := (fun w' (h : Gr _ w') => row06 HRV.out (HF.out.bx 1 rfl) HCE.out h 0 rfl (by omega))
  have lx90_1 := (fun w' (h : Gr _ w') => row06 HRV.out (HF.out.bx 1 rfl) HCE.out h 1 rfl (by omega))
  have lx90_2 := (fun w' (h : Gr _ w') => row06 HRV.out (HF.out.bx 1 rfl) HCE.out h 2 rfl (by omega))
  have lx90_3 := (fun w' (h : Gr _ w') => row06 HRV.out (HF.out.bx 1 rfl) HCE.out h 3 rfl (by omega))
  have lx90_4 := (fun w' (h : Gr _ w') => row06 HRV.out (HF.out.bx 1 rfl) HCE.out h 4 rfl (by omega))
  have lx90_5 := (fun w' (h : Gr _ w') => row06 HRV.out (HF.out.bx 1 rfl) HCE.out h 5 rfl (by omega))
  refine kS fun K hK => ?_
  refine sq 3 [(true, 0), (true, 1), (true, 2)] fun T hT => ?_
  iterate 3 refine tk ?_
  refine nlS hT HF fun vw6 HG => ?_
  clear hT T HF lx90_0 lx90_1 lx90_2 lx90_3 lx90_4 lx90_5
  go_wp2
  refine kO hK ?_; clear hK K
  refine fH ((HG.out).aL (vw6.heap.size)) fun Wx12 HF => ?_
  clear HG
  generalize vw6.heap.size = gx102 at *
  refine wp_seq ?_
  refine kS fun K hK => ?_
  go_wp2
  refine kO hK ?_; clear hK K
  refine wp_block ?_
  go_loopg [13] (n - 1) (fun kk iv wr => ∃ (i : Nat) (px py qx qy : Rat) (p5 p6 p7 p8 q5 q6 q7 q8 : Value), iv = .int .i64 ((i : Nat) : Int) ∧ i + kk = n ∧ 1 ≤ i ∧ Hid (lmn (qx0, qy0) l (i - 1) = (px, py)) ∧ Hid (lmx (qx0, qy0) l (i - 1) = (qx, qy)) ∧ Rp w (px, py) p5 p6 p7 p8 ∧ Rp w (qx, qy) q5 q6 q7 q8 ∧ Hid (HP w wr [Sum.inl (gx41, 49, #[.bool false, .slice none 0 0, .slice none 0 0, .bool false, .slice none 0 0, .slice none 0 0]), Sum.inl (gR, 49, cur), Sum.inl (gx101, 49, #[.bool (decide ((px).num < 0)), p5, p6, .bool (decide ((py).num < 0)), p7, p8]), Sum.inl (gx102, 49, #[.bool (decide ((qx).num < 0)), q5, q6, .bool (decide ((qy).num < 0)), q7, q8])]))
  case atStart => exact ⟨1, qx0, qy0, qx0, qy0, _, _, _, _, _, _, _, _, rfl, by omega, Nat.le_refl _, Lib.hid rfl, Lib.hid rfl, HRE0.out, HRE0.out, HF⟩
  case round =>
    rename_i J_ K_ hj1_ hj0_
    clear HF
    obtain ⟨i, px, py, qx, qy, p5, p6, p7, p8, q5, q6, q7, q8, rfl, hin, hi1, HLO, HHI, HRPp, HRPq, HF⟩ := hrel
    obtain ⟨ao_p5, nn_p5, cc_p5, rfl⟩ := Rn.sl HRPp.1
    obtain ⟨ao_p6, nn_p6, cc_p6, rfl⟩ := Rn.sl HRPp.2.1
    obtain ⟨ao_p7, nn_p7, cc_p7, rfl⟩ := Rn.sl HRPp.2.2.1
    obtain ⟨ao_p8, nn_p8, cc_p8, rfl⟩ := Rn.sl HRPp.2.2.2
    obtain ⟨ao_q5, nn_q5, cc_q5, rfl⟩ := Rn.sl HRPq.1
    obtain ⟨ao_q6, nn_q6, cc_q6, rfl⟩ := Rn.sl HRPq.2.1
    obtain ⟨ao_q7, nn_q7, cc_q7, rfl⟩ := Rn.sl HRPq.2.2.1
    obtain ⟨ao_q8, nn_q8, cc_q8, rfl⟩ := Rn.sl HRPq.2.2.2
    have HRSp := Lib.hid HRPp
    have HRSq := Lib.hid HRPq
    clear HRPp HRPq
    obtain ⟨hsp1, hsp2⟩ := HSZ.out (px, py) (by rw [← HLO.out]; exact lm_mem1 _ _ _)
    obtain ⟨hsq1, hsq2⟩ := HSZ.out (qx, qy) (by rw [← HHI.out]; exact lm_mem2 _ _ _)
    have hsp1 : rz px ≤ 100 := hsp1
    have hsp2 : rz py ≤ 100 := hsp2
    have hsq1 : rz qx ≤ 100 := hsq1
    have hsq2 : rz qy ≤ 100 := hsq2
    rcases gk with _ | kk
    · obtain rfl : n = i := by omega
      rw [show n - 1 = l.length by omega] at HLO HHI
      obtain ⟨hc1, hc2⟩ := cut_ne HEL.out HC.out
      rw [HLO.out] at hc1 hc2
      rw [HHI.out] at hc1
      injection hc2 with hc2 hc3
      by_cases heq : (px, py) = (qx, qy)
      · rw [if_pos heq] at hc1
        have HEQ := Lib.hid heq
        obtain rfl := hc1
        subst hc2 hc3
        clear heq
        replace HF := Lib.hid ((((((((HF.out.ar (HRSp.out.1.gr HF.out.1)).ar (HRSp.out.2.1.gr HF.out.1)).ar (HRSp.out.2.2.1.gr HF.out.1)).ar (HRSp.out.2.2.2.gr HF.out.1)).ar (HRSq.out.1.gr HF.out.1)).ar (HRSq.out.2.1.gr HF.out.1)).ar (HRSq.out.2.2.1.gr HF.out.1)).ar (HRSq.out.2.2.2.gr HF.out.1))
        simp only [lF, lG] at HF
        refine wp_seq ?_
        refine kS fun K hK => ?_
        go_wp2
        refine kO hK ?_; clear hK K
        refine wp_cond_false (by rfl) ?_
        refine wp_exit ?_
        show Code.wp _ _ _ _ _
        refine wp_seq ?_
        have lx101 := HF.out.c 2 rfl
        have lx102 := HF.out.c 3 rfl
        refine kS fun K hK => ?_
        refine sq 3 [(true, 0), (true, 1), (true, 2)] fun T hT => ?_
        iterate 2 refine tk ?_
        refine ck Tryz.call85 (fun w' hw => rpsame (px) (py) (qx) (qy) true _ _ _ _ _ _ _ _ _ (decide_eq_true HEQ.out) (by omega) (by omega) (by omega) (by omega) (HF.out.r 4 rfl hw) (HF.out.r 5 rfl hw) (HF.out.r 6 rfl hw) (HF.out.r 7 rfl hw) (HF.out.r 8 rfl hw) (HF.out.r 9 rfl hw) (HF.out.r 10 rfl hw) (HF.out.r 11 rfl hw)) ?_
        refine nlS hT HF fun vw7 HG => ?_
        clear hT T HF lx101 lx102
        go_wp2
        refine kO hK ?_; clear hK K
        refine fH ((((((HG.out).er 11).er 10).er 9).er 8).er 3) fun Wx20 HF => ?_
        clear HG
        refine wp_cond_true (by rfl) ?_
        have lx101 := HF.out.c 2 rfl
        refine kS fun K hK => ?_
        refine pd 2 [(true, 0), (true, 1)] fun T hT => ?_
        iterate 2 refine tk ?_
        refine nlD hT HF fun vw8 HG => ?_
        clear hT T HF lx101
        have lx41 := HG.out.c 0 rfl; have fx41 := HG.out.f 0 rfl
        have r0 := Gr.refl vw8
        go_wp2
        refine kO hK ?_; clear hK K
        clear r0 lx41 fx41
        refine fH ((((HG.out).put2 0 0 rfl).put2 0 2 rfl).put2 0 4 rfl) fun Wx21 HF => ?_
        clear HG
        refine wp_ret ?_
        try simp only [Exit.then, Exit.inBlock]
        have lx41 := HF.out.c 0 rfl
        have r0 := Gr.refl Wx21
        exact bodyPost_ret (v := .tuple #[.int .i64 1, (.agg #[.bool (decide ((px).num < 0)), (.slice ao_p5 nn_p5 cc_p5), (.slice ao_p6 nn_p6 cc_p6), .bool (decide ((py).num < 0)), (.slice ao_p7 nn_p7 cc_p7), (.slice ao_p8 nn_p8 cc_p8)])]) (by simp [results, Tryz.results18, go_sem, lx41 _ r0]) rfl ⟨⟨(.slice ao_p5 nn_p5 cc_p5), (.slice ao_p6 nn_p6 cc_p6), (.slice ao_p7 nn_p7 cc_p7), (.slice ao_p8 nn_p8 cc_p8), rfl, (HF.out.rn 3 rfl), (HF.out.rn 4 rfl), (HF.out.rn 5 rfl), (HF.out.rn 6 rfl)⟩, HF.out.1⟩
      · rw [if_neg heq] at hc1
        have HEQ := Lib.hid heq
        obtain rfl := hc1
        subst hc2 hc3
        clear heq
        replace HF := Lib.hid ((((((((HF.out.ar (HRSp.out.1.gr HF.out.1)).ar (HRSp.out.2.1.gr HF.out.1)).ar (HRSp.out.2.2.1.gr HF.out.1)).ar (HRSp.out.2.2.2.gr HF.out.1)).ar (HRSq.out.1.gr HF.out.1)).ar (HRSq.out.2.1.gr HF.out.1)).ar (HRSq.out.2.2.1.gr HF.out.1)).ar (HRSq.out.2.2.2.gr HF.out.1))
        simp only [lF, lG] at HF
        refine wp_seq ?_
        refine kS fun K hK => ?_
        go_wp2
        refine kO hK ?_; clear hK K
        refine wp_cond_false (by rfl) ?_
        refine wp_exit ?_
        show Code.wp _ _ _ _ _
        refine wp_seq ?_
        have lx101 := HF.out.c 2 rfl
        have lx102 := HF.out.c 3 rfl
        refine kS fun K hK => ?_
        refine sq 3 [(true, 0), (true, 1), (true, 2)] fun T hT => ?_
        iterate 2 refine tk ?_
        refine ck Tryz.call85 (fun w' hw => rpsame (px) (py) (qx) (qy) false _ _ _ _ _ _ _ _ _ (decide_eq_false HEQ.out) (by omega) (by omega) (by omega) (by omega) (HF.out.r 4 rfl hw) (HF.out.r 5 rfl hw) (HF.out.r 6 rfl hw) (HF.out.r 7 rfl hw) (HF.out.r 8 rfl hw) (HF.out.r 9 rfl hw) (HF.out.r 10 rfl hw) (HF.out.r 11 rfl hw)) ?_
        refine nlS hT HF fun vw7 HG => ?_
        clear hT T HF lx101 lx102
        go_wp2
        refine kO hK ?_; clear hK K
        refine fH ((((((HG.out).er 11).er 10).er 9).er 8).er 3) fun Wx20 HF => ?_
        clear HG
        refine wp_cond_false (by rfl) ?_
        refine wp_skip ?_
        show Code.wp _ _ _ _ _
        have lx101 := HF.out.c 2 rfl
        refine kS fun K hK => ?_
        refine pd 2 [(true, 0), (true, 1)] fun T hT => ?_
        iterate 2 refine tk ?_
        refine nlD hT HF fun vw8 HG => ?_
        clear hT T HF lx101
        have lx41 := HG.out.c 0 rfl; have fx41 := HG.out.f 0 rfl
        have r0 := Gr.refl vw8
        go_wp2
        refine kO hK ?_; clear hK K
        clear r0 lx41 fx41
        refine fH (((((HG.out).put2 0 0 rfl).put2 0 2 rfl).put2 0 4 rfl).er 2) fun Wx22 HF => ?_
        clear HG
        refine wp_ret ?_
        try simp only [Exit.then, Exit.inBlock]
        have lx41 := HF.out.c 0 rfl
        have r0 := Gr.refl Wx22
        exact bodyPost_ret (v := .tuple #[.int .i64 2, (.agg #[.bool (decide ((px).num < 0)), (.slice ao_p5 nn_p5 cc_p5), (.slice ao_p6 nn_p6 cc_p6), .bool (decide ((py).num < 0)), (.slice ao_p7 nn_p7 cc_p7), (.slice ao_p8 nn_p8 cc_p8)])]) (by simp [results, Tryz.results18, go_sem, lx41 _ r0]) rfl ⟨⟨(.slice ao_p5 nn_p5 cc_p5), (.slice ao_p6 nn_p6 cc_p6), (.slice ao_p7 nn_p7 cc_p7), (.slice ao_p8 nn_p8 cc_p8), rfl, (HF.out.rn 2 rfl), (HF.out.rn 3 rfl), (HF.out.rn 4 rfl), (HF.out.rn 5 rfl)⟩, HF.out.1⟩
    · obtain ⟨⟨xx, xy⟩, hgl⟩ : ∃ x, l[i - 1]? = some x := ⟨_, List.getElem?_eq_getElem (by omega)⟩
      have hgl2 : ((qx0, qy0) :: l)[i]? = some (xx, xy) := by
        obtain ⟨i', rfl⟩ : ∃ i', i = i' + 1 := ⟨i - 1, by omega⟩
        exact hgl
      obtain ⟨hsx1, hsx2⟩ := HSZ.out (xx, xy) (List.mem_of_getElem? hgl2)
      have hsx1 : rz xx ≤ 100 := hsx1
      have hsx2 : rz xy ≤ 100 := hsx2
      obtain ⟨x5, x6, x7, x8, HRPx, hce⟩ := HPS.out.2.2 i _ hgl2
      have HCX := Lib.hid hce
      obtain ⟨ao_x5, nn_x5, cc_x5, rfl⟩ := Rn.sl HRPx.1
      obtain ⟨ao_x6, nn_x6, cc_x6, rfl⟩ := Rn.sl HRPx.2.1
      obtain ⟨ao_x7, nn_x7, cc_x7, rfl⟩ := Rn.sl HRPx.2.2.1
      obtain ⟨ao_x8, nn_x8, cc_x8, rfl⟩ := Rn.sl HRPx.2.2.2
      have HRSx := Lib.hid HRPx
      have HLO2 : Hid (lmn (qx0, qy0) l (i + 1 - 1) = pmn (px, py) (xx, xy)) := Lib.hid (by rw [← HLO.out, ← lmn_succ hgl]; congr 1; omega)
      have HHI2 : Hid (lmx (qx0, qy0) l (i + 1 - 1) = pmx (qx, qy) (xx, xy)) := Lib.hid (by rw [← HHI.out, ← lmx_succ hgl]; congr 1; omega)
      clear hce HRPx hgl hgl2
      have hil : (i : Int) < (n : Int) := by omega
      have hwi : IntKind.i64.wrap ((i : Int) + 1) = (i : Int) + 1 := by rw [IntKind.wrap_i64]; omega
      replace HF := Lib.hid ((((((((((((HF.out.ar (HRSp.out.1.gr HF.out.1)).ar (HRSp.out.2.1.gr HF.out.1)).ar (HRSp.out.2.2.1.gr HF.out.1)).ar (HRSp.out.2.2.2.gr HF.out.1)).ar (HRSq.out.1.gr HF.out.1)).ar (HRSq.out.2.1.gr HF.out.1)).ar (HRSq.out.2.2.1.gr HF.out.1)).ar (HRSq.out.2.2.2.gr HF.out.1)).ar (HRSx.out.1.gr HF.out.1)).ar (HRSx.out.2.1.gr HF.out.1)).ar (HRSx.out.2.2.1.gr HF.out.1)).ar (HRSx.out.2.2.2.gr HF.out.1))
      simp only [lF, lG] at HF
      refine wp_seq ?_
      refine kS fun K hK => ?_
      go_wp2
      refine kO hK ?_; clear hK K
      refine wp_cond_true (by rfl) ?_
      refine wp_skip ?_
      show Code.wp _ _ _ _ _
      refine wp_seq ?_
      refine wp_block ?_
      refine wp_seq ?_
      cases hr1 : plt xx xy px py
      · have HR1 := Lib.hid hr1
        have HLO3 := Lib.hid (HLO2.out.trans (pmn_ff (p := (px, py)) (x := (xx, xy)) hr1))
        have HRL3 := HRSp
        clear hr1
        have lx101 := HF.out.c 2 rfl
        have lx90_0 := (fun w' (h : Gr _ w') => row60 HRV.out (HF.out.bx 1 rfl) HCX.out h rfl (by omega))
        have lx90_1 := (fun w' (h : Gr _ w') => row6 HRV.out (HF.out.bx 1 rfl) HCX.out h 1 rfl (by omega))
        have lx90_2 := (fun w' (h : Gr _ w') => row6 HRV.out (HF.out.bx 1 rfl) HCX.out h 2 rfl (by omega))
        have lx90_3 := (fun w' (h : Gr _ w') => row6 HRV.out (HF.out.bx 1 rfl) HCX.out h 3 rfl (by omega))
        have lx90_4 := (fun w' (h : Gr _ w') => row6 HRV.out (HF.out.bx 1 rfl) HCX.out h 4 rfl (by omega))
        have lx90_5 := (fun w' (h : Gr _ w') => row6 HRV.out (HF.out.bx 1 rfl) HCX.out h 5 rfl (by omega))
        refine kS fun K hK => ?_
        refine pd 5 [(true, 0), (true, 1), (true, 2), (true, 3), (true, 4)] fun T hT => ?_
        iterate 5 refine tk ?_
        refine nlD hT HF fun vw7 HG => ?_
        clear hT T HF lx101 lx90_0 lx90_1 lx90_2 lx90_3 lx90_4 lx90_5
        have hw := Gr.refl vw7
        have HF := HG
        go_wp2_with fail
        refine (rpless (xx) (xy) (px) (py) false _ _ _ _ _ _ _ _ _ (HR1.out) (by omega) (by omega) (by omega) (by omega) (HF.out.r 12 rfl hw) (HF.out.r 13 rfl hw) (HF.out.r 14 rfl hw) (HF.out.r 15 rfl hw) (HF.out.r 4 rfl hw) (HF.out.r 5 rfl hw) (HF.out.r 6 rfl hw) (HF.out.r 7 rfl hw)).mono ?_
        rintro e vw7t ⟨rfl, hbt⟩
        replace HG := Lib.hid (HG.out.gr hbt); clear hbt hw HF
        go_wp2
        refine kO hK ?_; clear hK K
        have HF := HG; clear HG
        refine wp_cond_false (by rfl) ?_
        refine wp_skip ?_
        show Code.wp _ _ _ _ _
        cases hr2 : plt qx qy xx xy
        · have HR2 := Lib.hid hr2
          have HHI3 := Lib.hid (HHI2.out.trans (pmx_ff (p := (qx, qy)) (x := (xx, xy)) hr2))
          have HRH3 := HRSq
          clear hr2
          have lx102 := HF.out.c 3 rfl
          have lx90_0 := (fun w' (h : Gr _ w') => row60 HRV.out (HF.out.bx 1 rfl) HCX.out h rfl (by omega))
          have lx90_1 := (fun w' (h : Gr _ w') => row6 HRV.out (HF.out.bx 1 rfl) HCX.out h 1 rfl (by omega))
          have lx90_2 := (fun w' (h : Gr _ w') => row6 HRV.out (HF.out.bx 1 rfl) HCX.out h 2 rfl (by omega))
          have lx90_3 := (fun w' (h : Gr _ w') => row6 HRV.out (HF.out.bx 1 rfl) HCX.out h 3 rfl (by omega))
          have lx90_4 := (fun w' (h : Gr _ w') => row6 HRV.out (HF.out.bx 1 rfl) HCX.out h 4 rfl (by omega))
          have lx90_5 := (fun w' (h : Gr _ w') => row6 HRV.out (HF.out.bx 1 rfl) HCX.out h 5 rfl (by omega))
          refine kS fun K hK => ?_
          refine pd 5 [(true, 0), (true, 1), (true, 2), (true, 3), (true, 4)] fun T hT => ?_
          iterate 5 refine tk ?_
          refine nlD hT HF fun vw8 HG => ?_
          clear hT T HF lx102 lx90_0 lx90_1 lx90_2 lx90_3 lx90_4 lx90_5
          have hw := Gr.refl vw8
          have HF := HG
          go_wp2_with fail
          refine (rpless (qx) (qy) (xx) (xy) false _ _ _ _ _ _ _ _ _ (HR2.out) (by omega) (by omega) (by omega) (by omega) (HF.out.r 8 rfl hw) (HF.out.r 9 rfl hw) (HF.out.r 10 rfl hw) (HF.out.r 11 rfl hw) (HF.out.r 12 rfl hw) (HF.out.r 13 rfl hw) (HF.out.r 14 rfl hw) (HF.out.r 15 rfl hw)).mono ?_
          rintro e vw8t ⟨rfl, hbt⟩
          replace HG := Lib.hid (HG.out.gr hbt); clear hbt hw HF
          go_wp2
          refine kO hK ?_; clear hK K
          have HF := HG; clear HG
          refine wp_cond_false (by rfl) ?_
          refine wp_skip ?_
          show Code.wp _ _ _ _ _
          refine kL fun K hK => ?_
          go_wp2
          refine hK.out _ _ ?_; clear hK K
          try simp only [Exit.then, Exit.inBlock]
          refine hj0_ _ _ ?_
          go_roundg kk
          case measure => omega
          case rel => exact ⟨i + 1, _, _, _, _, _, _, _, _, _, _, _, _, by go_num, by omega, by omega, HLO3, HHI3, HRL3.out, HRH3.out, Lib.hid (((((((((((((HF.out).er 15).er 14).er 13).er 12).er 11).er 10).er 9).er 8).er 7).er 6).er 5).er 4)⟩
        · have HR2 := Lib.hid hr2
          have HHI3 := Lib.hid (HHI2.out.trans (pmx_tt (p := (qx, qy)) (x := (xx, xy)) hr2))
          have HRH3 := HRSx
          clear hr2
          have lx102 := HF.out.c 3 rfl
          have lx90_0 := (fun w' (h : Gr _ w') => row60 HRV.out (HF.out.bx 1 rfl) HCX.out h rfl (by omega))
          have lx90_1 := (fun w' (h : Gr _ w') => row6 HRV.out (HF.out.bx 1 rfl) HCX.out h 1 rfl (by omega))
          have lx90_2 := (fun w' (h : Gr _ w') => row6 HRV.out (HF.out.bx 1 rfl) HCX.out h 2 rfl (by omega))
          have lx90_3 := (fun w' (h : Gr _ w') => row6 HRV.out (HF.out.bx 1 rfl) HCX.out h 3 rfl (by omega))
          have lx90_4 := (fun w' (h : Gr _ w') => row6 HRV.out (HF.out.bx 1 rfl) HCX.out h 4 rfl (by omega))
          have lx90_5 := (fun w' (h : Gr _ w') => row6 HRV.out (HF.out.bx 1 rfl) HCX.out h 5 rfl (by omega))
          refine kS fun K hK => ?_
          refine pd 5 [(true, 0), (true, 1), (true, 2), (true, 3), (true, 4)] fun T hT => ?_
          iterate 5 refine tk ?_
          refine nlD hT HF fun vw8 HG => ?_
          clear hT T HF lx102 lx90_0 lx90_1 lx90_2 lx90_3 lx90_4 lx90_5
          have hw := Gr.refl vw8
          have HF := HG
          go_wp2_with fail
          refine (rpless (qx) (qy) (xx) (xy) true _ _ _ _ _ _ _ _ _ (HR2.out) (by omega) (by omega) (by omega) (by omega) (HF.out.r 8 rfl hw) (HF.out.r 9 rfl hw) (HF.out.r 10 rfl hw) (HF.out.r 11 rfl hw) (HF.out.r 12 rfl hw) (HF.out.r 13 rfl hw) (HF.out.r 14 rfl hw) (HF.out.r 15 rfl hw)).mono ?_
          rintro e vw8t ⟨rfl, hbt⟩
          replace HG := Lib.hid (HG.out.gr hbt); clear hbt hw HF
          go_wp2
          refine kO hK ?_; clear hK K
          have HF := HG; clear HG
          refine wp_cond_true (by rfl) ?_
          have lx90_0 := (fun w' (h : Gr _ w') => row60 HRV.out (HF.out.bx 1 rfl) HCX.out h rfl (by omega))
          have lx90_1 := (fun w' (h : Gr _ w') => row6 HRV.out (HF.out.bx 1 rfl) HCX.out h 1 rfl (by omega))
          have lx90_2 := (fun w' (h : Gr _ w') => row6 HRV.out (HF.out.bx 1 rfl) HCX.out h 2 rfl (by omega))
          have lx90_3 := (fun w' (h : Gr _ w') => row6 HRV.out (HF.out.bx 1 rfl) HCX.out h 3 rfl (by omega))
          have lx90_4 := (fun w' (h : Gr _ w') => row6 HRV.out (HF.out.bx 1 rfl) HCX.out h 4 rfl (by omega))
          have lx90_5 := (fun w' (h : Gr _ w') => row6 HRV.out (HF.out.bx 1 rfl) HCX.out h 5 rfl (by omega))
          refine kL fun K hK => ?_
          refine sq 4 [(true, 0), (true, 1), (true, 2), (true, 3)] fun T hT => ?_
          iterate 4 refine tk ?_
          refine nlS hT HF fun vw9 HG => ?_
          clear hT T HF lx90_0 lx90_1 lx90_2 lx90_3 lx90_4 lx90_5
          have lx102 := HG.out.c 3 rfl; have fx102 := HG.out.f 3 rfl
          have r0 := Gr.refl vw9
          go_wp2
          refine kO hK ?_; clear hK K
          clear r0 lx102 fx102
          refine fH ((((HG.out).put2 3 0 rfl).put2 3 2 rfl).put2 3 4 rfl) fun Wx19 HF => ?_
          clear HG
          refine kL fun K hK => ?_
          go_wp2
          refine hK.out _ _ ?_; clear hK K
          try simp only [Exit.then, Exit.inBlock]
          refine hj0_ _ _ ?_
          go_roundg kk
          case measure => omega
          case rel => exact ⟨i + 1, _, _, _, _, _, _, _, _, _, _, _, _, by go_num, by omega, by omega, HLO3, HHI3, HRL3.out, HRH3.out, Lib.hid (((((((((((((HF.out).er 15).er 14).er 13).er 12).er 11).er 10).er 9).er 8).er 7).er 6).er 5).er 4)⟩
      · have HR1 := Lib.hid hr1
        have HLO3 := Lib.hid (HLO2.out.trans (pmn_tt (p := (px, py)) (x := (xx, xy)) hr1))
        have HRL3 := HRSx
        clear hr1
        have lx101 := HF.out.c 2 rfl
        have lx90_0 := (fun w' (h : Gr _ w') => row60 HRV.out (HF.out.bx 1 rfl) HCX.out h rfl (by omega))
        have lx90_1 := (fun w' (h : Gr _ w') => row6 HRV.out (HF.out.bx 1 rfl) HCX.out h 1 rfl (by omega))
        have lx90_2 := (fun w' (h : Gr _ w') => row6 HRV.out (HF.out.bx 1 rfl) HCX.out h 2 rfl (by omega))
        have lx90_3 := (fun w' (h : Gr _ w') => row6 HRV.out (HF.out.bx 1 rfl) HCX.out h 3 rfl (by omega))
        have lx90_4 := (fun w' (h : Gr _ w') => row6 HRV.out (HF.out.bx 1 rfl) HCX.out h 4 rfl (by omega))
        have lx90_5 := (fun w' (h : Gr _ w') => row6 HRV.out (HF.out.bx 1 rfl) HCX.out h 5 rfl (by omega))
        refine kS fun K hK => ?_
        refine pd 5 [(true, 0), (true, 1), (true, 2), (true, 3), (true, 4)] fun T hT => ?_
        iterate 5 refine tk ?_
        refine nlD hT HF fun vw7 HG => ?_
        clear hT T HF lx101 lx90_0 lx90_1 lx90_2 lx90_3 lx90_4 lx90_5
        have hw := Gr.refl vw7
        have HF := HG
        go_wp2_with fail
        refine (rpless (xx) (xy) (px) (py) true _ _ _ _ _ _ _ _ _ (HR1.out) (by omega) (by omega) (by omega) (by omega) (HF.out.r 12 rfl hw) (HF.out.r 13 rfl hw) (HF.out.r 14 rfl hw) (HF.out.r 15 rfl hw) (HF.out.r 4 rfl hw) (HF.out.r 5 rfl hw) (HF.out.r 6 rfl hw) (HF.out.r 7 rfl hw)).mono ?_
        rintro e vw7t ⟨rfl, hbt⟩
        replace HG := Lib.hid (HG.out.gr hbt); clear hbt hw HF
        go_wp2
        refine kO hK ?_; clear hK K
        have HF := HG; clear HG
        refine wp_cond_true (by rfl) ?_
        have lx90_0 := (fun w' (h : Gr _ w') => row60 HRV.out (HF.out.bx 1 rfl) HCX.out h rfl (by omega))
        have lx90_1 := (fun w' (h : Gr _ w') => row6 HRV.out (HF.out.bx 1 rfl) HCX.out h 1 rfl (by omega))
        have lx90_2 := (fun w' (h : Gr _ w') => row6 HRV.out (HF.out.bx 1 rfl) HCX.out h 2 rfl (by omega))
        have lx90_3 := (fun w' (h : Gr _ w') => row6 HRV.out (HF.out.bx 1 rfl) HCX.out h 3 rfl (by omega))
        have lx90_4 := (fun w' (h : Gr _ w') => row6 HRV.out (HF.out.bx 1 rfl) HCX.out h 4 rfl (by omega))
        have lx90_5 := (fun w' (h : Gr _ w') => row6 HRV.out (HF.out.bx 1 rfl) HCX.out h 5 rfl (by omega))
        refine kL fun K hK => ?_
        refine sq 4 [(true, 0), (true, 1), (true, 2), (true, 3)] fun T hT => ?_
        iterate 4 refine tk ?_
        refine nlS hT HF fun vw8 HG => ?_
        clear hT T HF lx90_0 lx90_1 lx90_2 lx90_3 lx90_4 lx90_5
        have lx101 := HG.out.c 2 rfl; have fx101 := HG.out.f 2 rfl
        have r0 := Gr.refl vw8
        go_wp2
        refine kO hK ?_; clear hK K
        clear r0 lx101 fx101
        refine fH ((((HG.out).put2 2 0 rfl).put2 2 2 rfl).put2 2 4 rfl) fun Wx17 HF => ?_
        clear HG
        cases hr2 : plt qx qy xx xy
        · have HR2 := Lib.hid hr2
          have HHI3 := Lib.hid (HHI2.out.trans (pmx_ff (p := (qx, qy)) (x := (xx, xy)) hr2))
          have HRH3 := HRSq
          clear hr2
          have lx102 := HF.out.c 3 rfl
          have lx90_0 := (fun w' (h : Gr _ w') => row60 HRV.out (HF.out.bx 1 rfl) HCX.out h rfl (by omega))
          have lx90_1 := (fun w' (h : Gr _ w') => row6 HRV.out (HF.out.bx 1 rfl) HCX.out h 1 rfl (by omega))
          have lx90_2 := (fun w' (h : Gr _ w') => row6 HRV.out (HF.out.bx 1 rfl) HCX.out h 2 rfl (by omega))
          have lx90_3 := (fun w' (h : Gr _ w') => row6 HRV.out (HF.out.bx 1 rfl) HCX.out h 3 rfl (by omega))
          have lx90_4 := (fun w' (h : Gr _ w') => row6 HRV.out (HF.out.bx 1 rfl) HCX.out h 4 rfl (by omega))
          have lx90_5 := (fun w' (h : Gr _ w') => row6 HRV.out (HF.out.bx 1 rfl) HCX.out h 5 rfl (by omega))
          refine kS fun K hK => ?_
          refine pd 5 [(true, 0), (true, 1), (true, 2), (true, 3), (true, 4)] fun T hT => ?_
          iterate 5 refine tk ?_
          refine nlD hT HF fun vw9 HG => ?_
          clear hT T HF lx102 lx90_0 lx90_1 lx90_2 lx90_3 lx90_4 lx90_5
          have hw := Gr.refl vw9
          have HF := HG
          go_wp2_with fail
          refine (rpless (qx) (qy) (xx) (xy) false _ _ _ _ _ _ _ _ _ (HR2.out) (by omega) (by omega) (by omega) (by omega) (HF.out.r 8 rfl hw) (HF.out.r 9 rfl hw) (HF.out.r 10 rfl hw) (HF.out.r 11 rfl hw) (HF.out.r 12 rfl hw) (HF.out.r 13 rfl hw) (HF.out.r 14 rfl hw) (HF.out.r 15 rfl hw)).mono ?_
          rintro e vw9t ⟨rfl, hbt⟩
          replace HG := Lib.hid (HG.out.gr hbt); clear hbt hw HF
          go_wp2
          refine kO hK ?_; clear hK K
          have HF := HG; clear HG
          refine wp_cond_false (by rfl) ?_
          refine wp_skip ?_
          show Code.wp _ _ _ _ _
          refine kL fun K hK => ?_
          go_wp2
          refine hK.out _ _ ?_; clear hK K
          try simp only [Exit.then, Exit.inBlock]
          refine hj0_ _ _ ?_
          go_roundg kk
          case measure => omega
          case rel => exact ⟨i + 1, _, _, _, _, _, _, _, _, _, _, _, _, by go_num, by omega, by omega, HLO3, HHI3, HRL3.out, HRH3.out, Lib.hid (((((((((((((HF.out).er 15).er 14).er 13).er 12).er 11).er 10).er 9).er 8).er 7).er 6).er 5).er 4)⟩
        · have HR2 := Lib.hid hr2
          have HHI3 := Lib.hid (HHI2.out.trans (pmx_tt (p := (qx, qy)) (x := (xx, xy)) hr2))
          have HRH3 := HRSx
          clear hr2
          have lx102 := HF.out.c 3 rfl
          have lx90_0 := (fun w' (h : Gr _ w') => row60 HRV.out (HF.out.bx 1 rfl) HCX.out h rfl (by omega))
          have lx90_1 := (fun w' (h : Gr _ w') => row6 HRV.out (HF.out.bx 1 rfl) HCX.out h 1 rfl (by omega))
          have lx90_2 := (fun w' (h : Gr _ w') => row6 HRV.out (HF.out.bx 1 rfl) HCX.out h 2 rfl (by omega))
          have lx90_3 := (fun w' (h : Gr _ w') => row6 HRV.out (HF.out.bx 1 rfl) HCX.out h 3 rfl (by omega))
          have lx90_4 := (fun w' (h : Gr _ w') => row6 HRV.out (HF.out.bx 1 rfl) HCX.out h 4 rfl (by omega))
          have lx90_5 := (fun w' (h : Gr _ w') => row6 HRV.out (HF.out.bx 1 rfl) HCX.out h 5 rfl (by omega))
          refine kS fun K hK => ?_
          refine pd 5 [(true, 0), (true, 1), (true, 2), (true, 3), (true, 4)] fun T hT => ?_
          iterate 5 refine tk ?_
          refine nlD hT HF fun vw9 HG => ?_
          clear hT T HF lx102 lx90_0 lx90_1 lx90_2 lx90_3 lx90_4 lx90_5
          have hw := Gr.refl vw9
          have HF := HG
          go_wp2_with fail
          refine (rpless (qx) (qy) (xx) (xy) true _ _ _ _ _ _ _ _ _ (HR2.out) (by omega) (by omega) (by omega) (by omega) (HF.out.r 8 rfl hw) (HF.out.r 9 rfl hw) (HF.out.r 10 rfl hw) (HF.out.r 11 rfl hw) (HF.out.r 12 rfl hw) (HF.out.r 13 rfl hw) (HF.out.r 14 rfl hw) (HF.out.r 15 rfl hw)).mono ?_
          rintro e vw9t ⟨rfl, hbt⟩
          replace HG := Lib.hid (HG.out.gr hbt); clear hbt hw HF
          go_wp2
          refine kO hK ?_; clear hK K
          have HF := HG; clear HG
          refine wp_cond_true (by rfl) ?_
          have lx90_0 := (fun w' (h : Gr _ w') => row60 HRV.out (HF.out.bx 1 rfl) HCX.out h rfl (by omega))
          have lx90_1 := (fun w' (h : Gr _ w') => row6 HRV.out (HF.out.bx 1 rfl) HCX.out h 1 rfl (by omega))
          have lx90_2 := (fun w' (h : Gr _ w') => row6 HRV.out (HF.out.bx 1 rfl) HCX.out h 2 rfl (by omega))
          have lx90_3 := (fun w' (h : Gr _ w') => row6 HRV.out (HF.out.bx 1 rfl) HCX.out h 3 rfl (by omega))
          have lx90_4 := (fun w' (h : Gr _ w') => row6 HRV.out (HF.out.bx 1 rfl) HCX.out h 4 rfl (by omega))
          have lx90_5 := (fun w' (h : Gr _ w') => row6 HRV.out (HF.out.bx 1 rfl) HCX.out h 5 rfl (by omega))
          refine kL fun K hK => ?_
          refine sq 4 [(true, 0), (true, 1), (true, 2), (true, 3)] fun T hT => ?_
          iterate 4 refine tk ?_
          refine nlS hT HF fun vw10 HG => ?_
          clear hT T HF lx90_0 lx90_1 lx90_2 lx90_3 lx90_4 lx90_5
          have lx102 := HG.out.c 3 rfl; have fx102 := HG.out.f 3 rfl
          have r0 := Gr.refl vw10
          go_wp2
          refine kO hK ?_; clear hK K
          clear r0 lx102 fx102
          refine fH ((((HG.out).put2 3 0 rfl).put2 3 2 rfl).put2 3 4 rfl) fun Wx19 HF => ?_
          clear HG
          refine kL fun K hK => ?_
          go_wp2
          refine hK.out _ _ ?_; clear hK K
          try simp only [Exit.then, Exit.inBlock]
          refine hj0_ _ _ ?_
          go_roundg kk
          case measure => omega
          case rel => exact ⟨i + 1, _, _, _, _, _, _, _, _, _, _, _, _, by go_num, by omega, by omega, HLO3, HHI3, HRL3.out, HRH3.out, Lib.hid (((((((((((((HF.out).er 15).er 14).er 13).er 12).er 11).er 10).er 9).er 8).er 7).er 6).er 5).er 4)⟩
end Go.Proofs.YtobojnodohjiaaaGreatDoor
