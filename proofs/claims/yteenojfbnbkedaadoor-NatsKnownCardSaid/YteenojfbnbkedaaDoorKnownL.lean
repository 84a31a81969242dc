
/- NatsKnown: the law's walk (closed). No condition. -/
import Derived.Test.YteenojfbnbkedaaDoorSh
import Derived.Test.YteenojfbnbkedaaDoorPlanQ
import Derived.Test.YteenojfbnbkedaaDoorPJ
import Derived.Test.YteenojfbnbkedaaDoorPlainN
import Derived.Test.YteenojfbnbkedaaDoorTextQ
import Derived.Test.YteenojfbnbkedaaDoorSumsL
import Derived.Test.YteenojfbnbkedaaDoorProductsL
import Derived.Test.YteenojfbnbkedaaDoorDividesL
import Derived.Test.YteenojfbnbkedaaDoorDivisorsL
import Derived.Test.YteenojfbnbkedaaDoorRingsL
import Derived.Test.YteenojfbnbkedaaDoorRootsL
import Derived.Test.YteenojfbnbkedaaDoorTextsL
import Derived.Test.YteenojfbnbkedaaDoorReadsL
namespace Go.Proofs.YteenojfbnbkedaaDoor
open Go.RowKit
set_option linter.unusedSimpArgs false
set_option linter.unusedVariables false
def endsN : List (List Nat) := [[], [0], [1], [2], [4294967295], [0, 1], [1, 1], [4294967295, 4294967295], [0, 0, 1], [1, 0, 1], [4294967295, 4294967295, 4294967295], [0, 0, 0, 2147483648], [0, 4294967295, 2147483648], [4294967295, 0, 2147483648], [3, 0, 2147483648, 0, 5], [0, 0, 2147483648, 2147483647]]
theorem wa_lit {w : World} {b : Nat} (l : List Nat) (h : Bx w b 62 (l.map fun x => Value.int .u32 ((x : Nat) : Int)).toArray) : Wa w (.slice (some ⟨b, 0, none⟩) l.length l.length) l.length (fun i => l.getD i 0) :=
  .inr ⟨b, 0, l.length, rfl, h.lt, fun i hi => by
    rw [Nat.zero_add, h.cells w (Gr.refl _) i]
    simp [hi, List.getD]⟩
/-- row j of the examples is the value v -/
def RowIs (w : World) (v : Value) (j : Nat) : Prop := Wa w v (endsN.getD j []).length (fun i => (endsN.getD j []).getD i 0)
theorem ends_lt : ∀ j, j < 16 → ∀ i, i < (endsN.getD j []).length → (endsN.getD j []).getD i 0 < 4294967296 := by decide +kernel
theorem ksums (W0 w : World) (v0 v1 : Value) (j0 j1 : Nat) (h0 : Hid (RowIs W0 v0 j0)) (h1 : Hid (RowIs W0 v1 j1)) (l0 : j0 < 16) (l1 : j1 < 16) (hg : Gr W0 w) (HT : Hid (Tab W0)) :
    Calls Tryd.prog 3 #[v0, v1] w fun e w' => e = .returned (.bool true) ∧ Below w.heap.size w w' :=
  sums_law v0 _ _ v1 _ _ w (Lib.hid (Wa.gr h0.out hg)) (Lib.hid (ends_lt j0 l0)) (Lib.hid (Wa.gr h1.out hg)) (Lib.hid (ends_lt j1 l1)) (Lib.hid (HT.out.gr hg))
theorem kproducts (W0 w : World) (v0 v1 : Value) (j0 j1 : Nat) (h0 : Hid (RowIs W0 v0 j0)) (h1 : Hid (RowIs W0 v1 j1)) (l0 : j0 < 16) (l1 : j1 < 16) (hg : Gr W0 w) (HT : Hid (Tab W0)) :
    Calls Tryd.prog 4 #[v0, v1] w fun e w' => e = .returned (.bool true) ∧ Below w.heap.size w w' :=
  products_law v0 _ _ v1 _ _ w (Lib.hid (Wa.gr h0.out hg)) (Lib.hid (ends_lt j0 l0)) (Lib.hid (Wa.gr h1.out hg)) (Lib.hid (ends_lt j1 l1)) (Lib.hid (HT.out.gr hg))
theorem kdivides (W0 w : World) (v0 v1 v2 : Value) (j0 j1 j2 : Nat) (h0 : Hid (RowIs W0 v0 j0)) (h1 : Hid (RowIs W0 v1 j1)) (h2 : Hid (RowIs W0 v2 j2)) (l0 : j0 < 16) (l1 : j1 < 16) (l2 : j2 < 16) (hg : Gr W0 w) (HT : Hid (Tab W0)) :
    Calls Tryd.prog 7 #[v0, v1, v2] w fun e w' => e = .returned (.bool true) ∧ Below w.heap.size w w' :=
  divides_law v0 _ _ v1 _ _ v2 _ _ w (Lib.hid (Wa.gr h0.out hg)) (Lib.hid (ends_lt j0 l0)) (Lib.hid (Wa.gr h1.out hg)) (Lib.hid (ends_lt j1 l1)) (Lib.hid (Wa.gr h2.out hg)) (Lib.hid (ends_lt j2 l2)) (Lib.hid (HT.out.gr hg))
theorem ktexts (W0 w : World) (v0 v1 : Value) (j0 j1 : Nat) (h0 : Hid (RowIs W0 v0 j0)) (h1 : Hid (RowIs W0 v1 j1)) (l0 : j0 < 16) (l1 : j1 < 16) (hg : Gr W0 w) (HT : Hid (Tab W0)) :
    Calls Tryd.prog 9 #[v0, v1] w fun e w' => e = .returned (.bool true) ∧ Below w.heap.size w w' :=
  texts_law v0 _ _ v1 _ _ w (Lib.hid (Wa.gr h0.out hg)) (Lib.hid (ends_lt j0 l0)) (Lib.hid (Wa.gr h1.out hg)) (Lib.hid (ends_lt j1 l1)) (Lib.hid (HT.out.gr hg))
theorem krings (W0 w : World) (v0 v1 v2 : Value) (j0 j1 j2 : Nat) (h0 : Hid (RowIs W0 v0 j0)) (h1 : Hid (RowIs W0 v1 j1)) (h2 : Hid (RowIs W0 v2 j2)) (l0 : j0 < 16) (l1 : j1 < 16) (l2 : j2 < 16) (hg : Gr W0 w) (HT : Hid (Tab W0)) :
    Calls Tryd.prog 10 #[v0, v1, v2] w fun e w' => e = .returned (.bool true) ∧ Below w.heap.size w w' :=
  rings_law v0 _ _ v1 _ _ v2 _ _ w (Lib.hid (Wa.gr h0.out hg)) (Lib.hid (ends_lt j0 l0)) (Lib.hid (Wa.gr h1.out hg)) (Lib.hid (ends_lt j1 l1)) (Lib.hid (Wa.gr h2.out hg)) (Lib.hid (ends_lt j2 l2)) (Lib.hid (HT.out.gr hg))
theorem kdivisors (W0 w : World) (v0 v1 v2 : Value) (j0 j1 j2 : Nat) (h0 : Hid (RowIs W0 v0 j0)) (h1 : Hid (RowIs W0 v1 j1)) (h2 : Hid (RowIs W0 v2 j2)) (l0 : j0 < 16) (l1 : j1 < 16) (l2 : j2 < 16) (hg : Gr W0 w) (HT : Hid (Tab W0)) :
    Calls Tryd.prog 8 #[v0, v1, v2] w fun e w' => e = .returned (.bool true) ∧ Below w.heap.size w w' :=
  divisors_law v0 _ _ v1 _ _ v2 _ _ w (Lib.hid (Wa.gr h0.out hg)) (Lib.hid (ends_lt j0 l0)) (Lib.hid (Wa.gr h1.out hg)) (Lib.hid (ends_lt j1 l1)) (Lib.hid (Wa.gr h2.out hg)) (Lib.hid (ends_lt j2 l2)) (Lib.hid (HT.out.gr hg))
theorem kreads (s : ByteArray) (w : World) (hs : s.size ≤ 9223372036854775807) (HT : Hid (Tab w)) :
    Calls Tryd.prog 6 #[.string s] w fun e w' => e = .returned (.bool true) ∧ Below w.heap.size w w' := reads_law s w hs HT
theorem kroots (W0 w : World) (v0 : Value) (j0 : Nat) (n : Int) (h0 : Hid (RowIs W0 v0 j0)) (l0 : j0 < 16) (lo : -9223372036854775808 ≤ n) (hi : n ≤ 9223372036854775807) (hg : Gr W0 w) (HT : Hid (Tab W0)) :
    Calls Tryd.prog 5 #[v0, .int .i64 n] w fun e w' => e = .returned (.bool true) ∧ Below w.heap.size w w' :=
  roots_law v0 _ _ n w (Lib.hid (Wa.gr h0.out hg)) (Lib.hid (ends_lt j0 l0)) lo hi (Lib.hid (HT.out.gr hg))
attribute [local go_sem ↓] eq_nat eq_nat_zero
set_option maxHeartbeats 2000000 in
theorem number_any (s : ByteArray) (n : Nat) (w : World) (hs : s.size ≤ 9223372036854775807) (HPN : Hid (pnum s = n)) (HPC : Hid (pcode s = 0)) (hw : wl n ≤ 600) :
    Calls Tryd.prog 40 #[.string s] w fun e w' => e = .returned (Value.agg #[.int .u64 (lo (n)), .string (bg (n))]) ∧ Below w.heap.size w w' := by
  go_enter Tryd.func40, Tryd.ntmps40
  refine sK fun K hK => ?_
  refine wp_region_lit ?_
  go_wp2
  refine hK.out _ _ ?_; clear hK K
  show Code.wp _ _ _ _ _
  refine forgetW (fun w2 => Bx w2 (w.heap.size) 26 #[.int .u64 0, .string ⟨#[]⟩] ∧ Below w.heap.size w w2) ⟨Bx.at rfl, (Below.refl _ _).alloc (Nat.le_refl _) _⟩ ?_
  rintro Wx ⟨bx0, HB⟩
  replace HB := Lib.hid HB
  have BX0 := Lib.hid bx0
  clear bx0
  refine sK fun K hK => ?_
  refine wp_region_seqplan 5 [(true, 0), (true, 1), (true, 2), (true, 3), (true, 4)] (by rfl) (by simp) (fun T hT => ?_)
  refine wpPlan_takeL (v := ?_) rfl (by rfl) (fun w' hw => ?_) ?_; rotate_left; go_simp; with_reducible rfl; simp only [Act.put, rA, rB, rC]
  refine wpPlan_callL rfl (by rfl) Tryd.call34 (fun w' hw => nzparse s n 0 _ HPN.out HPC.out (by omega)) (by rfl) ?_
  simp only [Act.put, rA, rB, rC]
  iterate 3 (refine wpPlan_takeL (v := ?_) rfl (by rfl) (fun w' hw => ?_) ?_; rotate_left; go_simp; with_reducible rfl; simp only [Act.put, rA, rB, rC])
  refine wpPlan_nil (hT.out _ _ ?_); clear hT T
  intro vw1 hg
  simp only [puts, Act.put, rA, rB, rC, rD, rE, ↓reduceIte, Nat.reduceEqDiff]
  have HG := Lib.hid (hg)
  clear hg
  replace BX0 := bG BX0 HG
  have r0 := Gr.refl vw1
  go_wp2
  refine hK.out _ _ ?_; clear hK K
  show Code.wp _ _ _ _ _
  clear r0
  have hsz : w.heap.size ≤ vw1.heap.size := Nat.le_trans HB.out.size HG.out.size
  have mx0 : w.heap.size < vw1.heap.size := BX0.out.lt
  refine forgetW (fun w2 => Bx w2 (w.heap.size) 26 #[.int .u64 0, .string ⟨#[]⟩] ∧ Bx w2 (vw1.heap.size) 26 #[.int .u64 (lo (n)), .string (bg (n))] ∧ Below w.heap.size w w2) ⟨(BX0.out).alloc _, (Bx.at (by simp) : Bx _ (vw1.heap.size) _ _), (HB.out.trans (HG.out.mono HB.out.size)).alloc (by first | omega | (simp; omega)) _⟩ ?_
  clear HB HG BX0
  rintro Wx1 ⟨bx0, bx1, HB⟩
  replace HB := Lib.hid HB
  have yx1 : w.heap.size ≤ vw1.heap.size := by omega
  have qx0_1 : w.heap.size < vw1.heap.size := by omega
  generalize hx1 : vw1.heap.size = gx1 at *
  clear hx1
  clear hsz mx0
  have lx1 := bx1.cells
  have BX0 := Lib.hid bx0
  have BX1 := Lib.hid bx1
  clear bx0 bx1
  refine sK fun K hK => ?_
  refine wp_region_seqplan 1 [(true, 0)] (by rfl) (by simp) (fun T hT => ?_)
  refine wpPlan_takeL (v := ?_) rfl (by rfl) (fun w' hw => ?_) ?_; rotate_left; go_simp; with_reducible rfl; simp only [Act.put, rA, rB, rC]
  refine wpPlan_nil (hT.out _ _ ?_); clear hT T
  intro vw2 hg
  simp only [puts, Act.put, rA, rB, rC, rD, rE, ↓reduceIte, Nat.reduceEqDiff]
  clear lx1
  have HG := Lib.hid (hg)
  clear hg
  replace BX0 := bG BX0 HG
  replace BX1 := bG BX1 HG
  have lx0 := BX0.out.cells; have fx0 := BX0.out.free
  have r0 := Gr.refl vw2
  go_wp2
  refine hK.out _ _ ?_; clear hK K
  show Code.wp _ _ _ _ _
  clear lx0 fx0
  clear r0
  refine forgetW (fun w2 => Bx w2 (w.heap.size) 26 #[.int .u64 (lo (n)), .string (bg (n))] ∧ Below w.heap.size w w2) ⟨(((BX0.out).set 0 _).set 1 _).eq (by simp only [rA, rB, rC]), sc2 (HB.out.trans (HG.out.mono HB.out.size)) (by show w.heap.size ≤ w.heap.size; omega)⟩ ?_
  clear HB HG BX0 BX1
  rintro Wx2 ⟨bx0, HB⟩
  replace HB := Lib.hid HB
  refine wp_ret ?_
  try simp only [Exit.then, Exit.inBlock]
  have lx0 := bx0.cells
  have r0 := Gr.refl Wx2
  exact bodyPost_ret (v := .agg #[.int .u64 (lo (n)), .string (bg (n))]) (by simp [results, Tryd.results40, go_sem, lx0 _ r0]) rfl ⟨rfl, HB.out⟩
/-- a string of digits that begins with 9 -/
def Nine (S : ByteArray) : Prop := (∀ c ∈ S.data.toList, 48 ≤ c.toNat ∧ c.toNat ≤ 57) ∧ (S.data.toList = [] ∨ ∃ r, S.data.toList = 57 :: r) ∧ S.size ≤ 4106

theorem suf_list : ∀ r, r < 7 → ((⟨#[57, 56, 55, 54, 53, 52, 51, 50, 49, 48]⟩ : ByteArray).extract r 10).data.toList = ([57, 56, 55, 54, 53, 52, 51, 50, 49, 48] : List UInt8).drop r := by decide +kernel
theorem nine_add {S : ByteArray} {r : Nat} (h : Nine S) (hs : S.size < 4096) (hr : r < 7) (er : Int.tmod (S.size : Int) 7 = (r : Int)) :
    Nine (S ++ (⟨#[57, 56, 55, 54, 53, 52, 51, 50, 49, 48]⟩ : ByteArray).extract r 10) ∧ S.size < (S ++ (⟨#[57, 56, 55, 54, 53, 52, 51, 50, 49, 48]⟩ : ByteArray).extract r 10).size := by
  obtain ⟨T, hT⟩ : ∃ T, (⟨#[57, 56, 55, 54, 53, 52, 51, 50, 49, 48]⟩ : ByteArray).extract r 10 = T := ⟨_, rfl⟩
  have hl := suf_list r hr
  rw [hT] at hl ⊢
  have er' : S.size % 7 = r := by
    have : ((S.size % 7 : Nat) : Int) = (r : Int) := er
    omega
  have hz : T.size = 10 - r := by
    have h1 : T.data.toList.length = T.size := Array.length_toList
    rw [hl, List.length_drop] at h1
    simp at h1
    omega
  have hsz : (S ++ T).size = S.size + T.size := by simp
  have hd : (S ++ T).data.toList = S.data.toList ++ T.data.toList := ba_append S T
  obtain ⟨a, b, c⟩ := h
  refine ⟨⟨fun x hx => ?_, ?_, by omega⟩, by omega⟩
  · rw [hd] at hx
    rcases List.mem_append.1 hx with hx | hx
    · exact a x hx
    · rw [hl] at hx
      have hx := List.mem_of_mem_drop hx
      exact (by decide : ∀ y ∈ ([57, 56, 55, 54, 53, 52, 51, 50, 49, 48] : List UInt8), 48 ≤ y.toNat ∧ y.toNat ≤ 57) x hx
  · rw [hd]
    rcases b with b | ⟨q, b⟩
    · have h0 : S.size = 0 := by
        have h1 : S.data.toList.length = S.size := Array.length_toList
        rw [b] at h1
        simpa using h1.symm
      rw [h0] at er'
      have : r = 0 := by omega
      subst this
      exact .inr ⟨_, by rw [b, hl]; rfl⟩
    · exact .inr ⟨_, by rw [b]; rfl⟩
theorem ext_list (S : ByteArray) (k : Nat) : (S.extract 0 k).data.toList = S.data.toList.take k := by simp
theorem ext_size (S : ByteArray) (k : Nat) : (S.extract 0 k).size ≤ k := by simp; omega
theorem nine_size {S : ByteArray} : (S.extract 0 4096).size ≤ 4096 := ext_size S 4096
theorem nine_num {S : ByteArray} (h : Nine S) (hs : 4096 ≤ S.size) : pcode (S.extract 0 4096) = 0 ∧ pnum (S.extract 0 4096) ≠ 0 ∧ wl (pnum (S.extract 0 4096)) ≤ 600 := by
  have hsz : (S.extract 0 4096).size = 4096 := by simp; omega
  have hl := ext_list S 4096
  obtain ⟨T, hT⟩ : ∃ T, S.extract 0 4096 = T := ⟨_, rfl⟩
  rw [hT] at hsz hl ⊢
  obtain ⟨a, b, c⟩ := h
  obtain ⟨q, hq⟩ : ∃ q, T.data.toList = 57 :: q := by
    rcases b with b | ⟨q, b⟩
    · have h1 : S.data.toList.length = S.size := Array.length_toList
      rw [b] at h1
      simp at h1
      omega
    · exact ⟨q.take 4095, by rw [hl, b]; rfl⟩
  have hg : pgood T := by
    refine ⟨by omega, fun h0 => ?_, fun i hi => ?_⟩
    · rw [byt_list T 0 (by omega)] at h0
      simp only [hq] at h0
      exact absurd (show (57 : UInt8).toNat = 48 from h0) (by decide)
    · rw [byt_list T i hi]
      refine a _ (List.mem_of_mem_take (i := 4096) ?_)
      rw [← hl]
      exact List.getElem_mem _
  obtain ⟨p0, p1⟩ := pcode_good (by omega) hg
  refine ⟨p0, ?_, ?_⟩
  · unfold pnum
    rw [if_pos ⟨by omega, hg⟩, pv_lv, hq, lv_cons]
    have : 0 < 10 ^ q.length := Nat.pow_pos (by decide)
    have h9 : (57 : UInt8).toNat - 48 = 9 := by decide
    rw [h9]
    omega
  · exact Nat.le_trans (wl_le.2 (pnum_bp T 512 rfl)) (by decide)
def szOf : Value → Nat
  | .string s => s.size
  | _ => 0
set_option maxRecDepth 100000 in
set_option maxHeartbeats 16000000 in
theorem known_law (w : World) (HT : Hid (Tab w)) : Calls Tryd.prog 11 #[] w fun e w' => e = .returned (.bool true) ∧ Below w.heap.size w w' := by
  obtain ⟨A1, E1⟩ : ∃ A, Hid (w.alloc (.cells #[.int .u32 0] 62) = A) := ⟨_, Lib.hid rfl⟩
  have S1 : Hid (A1.heap.size = w.heap.size + 1) := Lib.hid (by rw [← E1.out]; show (w.heap.push _).size = _; rw [Array.size_push])
  have G1 : Hid (Gr w A1) := Lib.hid (by rw [← E1.out]; exact Gr.alloc _ _)
  have X1 : Hid (Bx A1 (w.heap.size) 62 #[.int .u32 0]) := Lib.hid (by rw [← E1.out]; exact Bx.at rfl)
  obtain ⟨A2, E2⟩ : ∃ A, Hid (A1.alloc (.cells #[.int .u32 1] 62) = A) := ⟨_, Lib.hid rfl⟩
  have S2 : Hid (A2.heap.size = w.heap.size + 2) := Lib.hid (by rw [← E2.out]; show (A1.heap.push _).size = _; rw [Array.size_push, S1.out])
  have G2 : Hid (Gr w A2) := Lib.hid (by rw [← E2.out]; exact (G1.out.trans (Gr.alloc _ _)))
  have X2 : Hid (Bx A2 (w.heap.size + 1) 62 #[.int .u32 1]) := Lib.hid (by rw [← E2.out]; exact Bx.at S1.out)
  obtain ⟨A3, E3⟩ : ∃ A, Hid (A2.alloc (.cells #[.int .u32 2] 62) = A) := ⟨_, Lib.hid rfl⟩
  have S3 : Hid (A3.heap.size = w.heap.size + 3) := Lib.hid (by rw [← E3.out]; show (A2.heap.push _).size = _; rw [Array.size_push, S2.out])
  have G3 : Hid (Gr w A3) := Lib.hid (by rw [← E3.out]; exact (G2.out.trans (Gr.alloc _ _)))
  have X3 : Hid (Bx A3 (w.heap.size + 2) 62 #[.int .u32 2]) := Lib.hid (by rw [← E3.out]; exact Bx.at S2.out)
  obtain ⟨A4, E4⟩ : ∃ A, Hid (A3.alloc (.cells #[.int .u32 4294967295] 62) = A) := ⟨_, Lib.hid rfl⟩
  have S4 : Hid (A4.heap.size = w.heap.size + 4) := Lib.hid (by rw [← E4.out]; show (A3.heap.push _).size = _; rw [Array.size_push, S3.out])
  have G4 : Hid (Gr w A4) := Lib.hid (by rw [← E4.out]; exact (G3.out.trans (Gr.alloc _ _)))
  have X4 : Hid (Bx A4 (w.heap.size + 3) 62 #[.int .u32 4294967295]) := Lib.hid (by rw [← E4.out]; exact Bx.at S3.out)
  obtain ⟨A5, E5⟩ : ∃ A, Hid (A4.alloc (.cells #[.int .u32 0, .int .u32 1] 62) = A) := ⟨_, Lib.hid rfl⟩
  have S5 : Hid (A5.heap.size = w.heap.size + 5) := Lib.hid (by rw [← E5.out]; show (A4.heap.push _).size = _; rw [Array.size_push, S4.out])
  have G5 : Hid (Gr w A5) := Lib.hid (by rw [← E5.out]; exact (G4.out.trans (Gr.alloc _ _)))
  have X5 : Hid (Bx A5 (w.heap.size + 4) 62 #[.int .u32 0, .int .u32 1]) := Lib.hid (by rw [← E5.out]; exact Bx.at S4.out)
  obtain ⟨A6, E6⟩ : ∃ A, Hid (A5.alloc (.cells #[.int .u32 1, .int .u32 1] 62) = A) := ⟨_, Lib.hid rfl⟩
  have S6 : Hid (A6.heap.size = w.heap.size + 6) := Lib.hid (by rw [← E6.out]; show (A5.heap.push _).size = _; rw [Array.size_push, S5.out])
  have G6 : Hid (Gr w A6) := Lib.hid (by rw [← E6.out]; exact (G5.out.trans (Gr.alloc _ _)))
  have X6 : Hid (Bx A6 (w.heap.size + 5) 62 #[.int .u32 1, .int .u32 1]) := Lib.hid (by rw [← E6.out]; exact Bx.at S5.out)
  obtain ⟨A7, E7⟩ : ∃ A, Hid (A6.alloc (.cells #[.int .u32 4294967295, .int .u32 4294967295] 62) = A) := ⟨_, Lib.hid rfl⟩
  have S7 : Hid (A7.heap.size = w.heap.size + 7) := Lib.hid (by rw [← E7.out]; show (A6.heap.push _).size = _; rw [Array.size_push, S6.out])
  have G7 : Hid (Gr w A7) := Lib.hid (by rw [← E7.out]; exact (G6.out.trans (Gr.alloc _ _)))
  have X7 : Hid (Bx A7 (w.heap.size + 6) 62 #[.int .u32 4294967295, .int .u32 4294967295]) := Lib.hid (by rw [← E7.out]; exact Bx.at S6.out)
  obtain ⟨A8, E8⟩ : ∃ A, Hid (A7.alloc (.cells #[.int .u32 0, .int .u32 0, .int .u32 1] 62) = A) := ⟨_, Lib.hid rfl⟩
  have S8 : Hid (A8.heap.size = w.heap.size + 8) := Lib.hid (by rw [← E8.out]; show (A7.heap.push _).size = _; rw [Array.size_push, S7.out])
  have G8 : Hid (Gr w A8) := Lib.hid (by rw [← E8.out]; exact (G7.out.trans (Gr.alloc _ _)))
  have X8 : Hid (Bx A8 (w.heap.size + 7) 62 #[.int .u32 0, .int .u32 0, .int .u32 1]) := Lib.hid (by rw [← E8.out]; exact Bx.at S7.out)
  obtain ⟨A9, E9⟩ : ∃ A, Hid (A8.alloc (.cells #[.int .u32 1, .int .u32 0, .int .u32 1] 62) = A) := ⟨_, Lib.hid rfl⟩
  have S9 : Hid (A9.heap.size = w.heap.size + 9) := Lib.hid (by rw [← E9.out]; show (A8.heap.push _).size = _; rw [Array.size_push, S8.out])
  have G9 : Hid (Gr w A9) := Lib.hid (by rw [← E9.out]; exact (G8.out.trans (Gr.alloc _ _)))
  have X9 : Hid (Bx A9 (w.heap.size + 8) 62 #[.int .u32 1, .int .u32 0, .int .u32 1]) := Lib.hid (by rw [← E9.out]; exact Bx.at S8.out)
  obtain ⟨A10, E10⟩ : ∃ A, Hid (A9.alloc (.cells #[.int .u32 4294967295, .int .u32 4294967295, .int .u32 4294967295] 62) = A) := ⟨_, Lib.hid rfl⟩
  have S10 : Hid (A10.heap.size = w.heap.size + 10) := Lib.hid (by rw [← E10.out]; show (A9.heap.push _).size = _; rw [Array.size_push, S9.out])
  have G10 : Hid (Gr w A10) := Lib.hid (by rw [← E10.out]; exact (G9.out.trans (Gr.alloc _ _)))
  have X10 : Hid (Bx A10 (w.heap.size + 9) 62 #[.int .u32 4294967295, .int .u32 4294967295, .int .u32 4294967295]) := Lib.hid (by rw [← E10.out]; exact Bx.at S9.out)
  obtain ⟨A11, E11⟩ : ∃ A, Hid (A10.alloc (.cells #[.int .u32 0, .int .u32 0, .int .u32 0, .int .u32 2147483648] 62) = A) := ⟨_, Lib.hid rfl⟩
  have S11 : Hid (A11.heap.size = w.heap.size + 11) := Lib.hid (by rw [← E11.out]; show (A10.heap.push _).size = _; rw [Array.size_push, S10.out])
  have G11 : Hid (Gr w A11) := Lib.hid (by rw [← E11.out]; exact (G10.out.trans (Gr.alloc _ _)))
  have X11 : Hid (Bx A11 (w.heap.size + 10) 62 #[.int .u32 0, .int .u32 0, .int .u32 0, .int .u32 2147483648]) := Lib.hid (by rw [← E11.out]; exact Bx.at S10.out)
  obtain ⟨A12, E12⟩ : ∃ A, Hid (A11.alloc (.cells #[.int .u32 0, .int .u32 4294967295, .int .u32 2147483648] 62) = A) := ⟨_, Lib.hid rfl⟩
  have S12 : Hid (A12.heap.size = w.heap.size + 12) := Lib.hid (by rw [← E12.out]; show (A11.heap.push _).size = _; rw [Array.size_push, S11.out])
  have G12 : Hid (Gr w A12) := Lib.hid (by rw [← E12.out]; exact (G11.out.trans (Gr.alloc _ _)))
  have X12 : Hid (Bx A12 (w.heap.size + 11) 62 #[.int .u32 0, .int .u32 4294967295, .int .u32 2147483648]) := Lib.hid (by rw [← E12.out]; exact Bx.at S11.out)
  obtain ⟨A13, E13⟩ : ∃ A, Hid (A12.alloc (.cells #[.int .u32 4294967295, .int .u32 0, .int .u32 2147483648] 62) = A) := ⟨_, Lib.hid rfl⟩
  have S13 : Hid (A13.heap.size = w.heap.size + 13) := Lib.hid (by rw [← E13.out]; show (A12.heap.push _).size = _; rw [Array.size_push, S12.out])
  have G13 : Hid (Gr w A13) := Lib.hid (by rw [← E13.out]; exact (G12.out.trans (Gr.alloc _ _)))
  have X13 : Hid (Bx A13 (w.heap.size + 12) 62 #[.int .u32 4294967295, .int .u32 0, .int .u32 2147483648]) := Lib.hid (by rw [← E13.out]; exact Bx.at S12.out)
  obtain ⟨A14, E14⟩ : ∃ A, Hid (A13.alloc (.cells #[.int .u32 3, .int .u32 0, .int .u32 2147483648, .int .u32 0, .int .u32 5] 62) = A) := ⟨_, Lib.hid rfl⟩
  have S14 : Hid (A14.heap.size = w.heap.size + 14) := Lib.hid (by rw [← E14.out]; show (A13.heap.push _).size = _; rw [Array.size_push, S13.out])
  have G14 : Hid (Gr w A14) := Lib.hid (by rw [← E14.out]; exact (G13.out.trans (Gr.alloc _ _)))
  have X14 : Hid (Bx A14 (w.heap.size + 13) 62 #[.int .u32 3, .int .u32 0, .int .u32 2147483648, .int .u32 0, .int .u32 5]) := Lib.hid (by rw [← E14.out]; exact Bx.at S13.out)
  obtain ⟨A15, E15⟩ : ∃ A, Hid (A14.alloc (.cells #[.int .u32 0, .int .u32 0, .int .u32 2147483648, .int .u32 2147483647] 62) = A) := ⟨_, Lib.hid rfl⟩
  have S15 : Hid (A15.heap.size = w.heap.size + 15) := Lib.hid (by rw [← E15.out]; show (A14.heap.push _).size = _; rw [Array.size_push, S14.out])
  have G15 : Hid (Gr w A15) := Lib.hid (by rw [← E15.out]; exact (G14.out.trans (Gr.alloc _ _)))
  have X15 : Hid (Bx A15 (w.heap.size + 14) 62 #[.int .u32 0, .int .u32 0, .int .u32 2147483648, .int .u32 2147483647]) := Lib.hid (by rw [← E15.out]; exact Bx.at S14.out)
  obtain ⟨A16, E16⟩ : ∃ A, Hid (A15.alloc (.cells #[.slice none 0 0, .slice (some ⟨w.heap.size, 0, none⟩) 1 1, .slice (some ⟨w.heap.size + 1, 0, none⟩) 1 1, .slice (some ⟨w.heap.size + 2, 0, none⟩) 1 1, .slice (some ⟨w.heap.size + 3, 0, none⟩) 1 1, .slice (some ⟨w.heap.size + 4, 0, none⟩) 2 2, .slice (some ⟨w.heap.size + 5, 0, none⟩) 2 2, .slice (some ⟨w.heap.size + 6, 0, none⟩) 2 2, .slice (some ⟨w.heap.size + 7, 0, none⟩) 3 3, .slice (some ⟨w.heap.size + 8, 0, none⟩) 3 3, .slice (some ⟨w.heap.size + 9, 0, none⟩) 3 3, .slice (some ⟨w.heap.size + 10, 0, none⟩) 4 4, .slice (some ⟨w.heap.size + 11, 0, none⟩) 3 3, .slice (some ⟨w.heap.size + 12, 0, none⟩) 3 3, .slice (some ⟨w.heap.size + 13, 0, none⟩) 5 5, .slice (some ⟨w.heap.size + 14, 0, none⟩) 4 4] 22) = A) := ⟨_, Lib.hid rfl⟩
  have HG : Hid (Gr w A16) := Lib.hid (by rw [← E16.out]; exact (G15.out.trans (Gr.alloc _ _)))
  have HX : Hid (Bx A16 (w.heap.size + 15) 22 #[.slice none 0 0, .slice (some ⟨w.heap.size, 0, none⟩) 1 1, .slice (some ⟨w.heap.size + 1, 0, none⟩) 1 1, .slice (some ⟨w.heap.size + 2, 0, none⟩) 1 1, .slice (some ⟨w.heap.size + 3, 0, none⟩) 1 1, .slice (some ⟨w.heap.size + 4, 0, none⟩) 2 2, .slice (some ⟨w.heap.size + 5, 0, none⟩) 2 2, .slice (some ⟨w.heap.size + 6, 0, none⟩) 2 2, .slice (some ⟨w.heap.size + 7, 0, none⟩) 3 3, .slice (some ⟨w.heap.size + 8, 0, none⟩) 3 3, .slice (some ⟨w.heap.size + 9, 0, none⟩) 3 3, .slice (some ⟨w.heap.size + 10, 0, none⟩) 4 4, .slice (some ⟨w.heap.size + 11, 0, none⟩) 3 3, .slice (some ⟨w.heap.size + 12, 0, none⟩) 3 3, .slice (some ⟨w.heap.size + 13, 0, none⟩) 5 5, .slice (some ⟨w.heap.size + 14, 0, none⟩) 4 4]) := Lib.hid (by rw [← E16.out]; exact Bx.at S15.out)
  have g15 : Gr A15 A16 := by rw [← E16.out]; exact Gr.alloc _ _
  have g14 : Gr A14 A16 := Gr.trans (by rw [← E15.out]; exact Gr.alloc _ _) g15
  have g13 : Gr A13 A16 := Gr.trans (by rw [← E14.out]; exact Gr.alloc _ _) g14
  have g12 : Gr A12 A16 := Gr.trans (by rw [← E13.out]; exact Gr.alloc _ _) g13
  have g11 : Gr A11 A16 := Gr.trans (by rw [← E12.out]; exact Gr.alloc _ _) g12
  have g10 : Gr A10 A16 := Gr.trans (by rw [← E11.out]; exact Gr.alloc _ _) g11
  have g9 : Gr A9 A16 := Gr.trans (by rw [← E10.out]; exact Gr.alloc _ _) g10
  have g8 : Gr A8 A16 := Gr.trans (by rw [← E9.out]; exact Gr.alloc _ _) g9
  have g7 : Gr A7 A16 := Gr.trans (by rw [← E8.out]; exact Gr.alloc _ _) g8
  have g6 : Gr A6 A16 := Gr.trans (by rw [← E7.out]; exact Gr.alloc _ _) g7
  have g5 : Gr A5 A16 := Gr.trans (by rw [← E6.out]; exact Gr.alloc _ _) g6
  have g4 : Gr A4 A16 := Gr.trans (by rw [← E5.out]; exact Gr.alloc _ _) g5
  have g3 : Gr A3 A16 := Gr.trans (by rw [← E4.out]; exact Gr.alloc _ _) g4
  have g2 : Gr A2 A16 := Gr.trans (by rw [← E3.out]; exact Gr.alloc _ _) g3
  have g1 : Gr A1 A16 := Gr.trans (by rw [← E2.out]; exact Gr.alloc _ _) g2
  obtain ⟨V, HV⟩ : ∃ V : Nat → Value, Hid (V = fun j => ([.slice none 0 0, .slice (some ⟨w.heap.size, 0, none⟩) 1 1, .slice (some ⟨w.heap.size + 1, 0, none⟩) 1 1, .slice (some ⟨w.heap.size + 2, 0, none⟩) 1 1, .slice (some ⟨w.heap.size + 3, 0, none⟩) 1 1, .slice (some ⟨w.heap.size + 4, 0, none⟩) 2 2, .slice (some ⟨w.heap.size + 5, 0, none⟩) 2 2, .slice (some ⟨w.heap.size + 6, 0, none⟩) 2 2, .slice (some ⟨w.heap.size + 7, 0, none⟩) 3 3, .slice (some ⟨w.heap.size + 8, 0, none⟩) 3 3, .slice (some ⟨w.heap.size + 9, 0, none⟩) 3 3, .slice (some ⟨w.heap.size + 10, 0, none⟩) 4 4, .slice (some ⟨w.heap.size + 11, 0, none⟩) 3 3, .slice (some ⟨w.heap.size + 12, 0, none⟩) 3 3, .slice (some ⟨w.heap.size + 13, 0, none⟩) 5 5, .slice (some ⟨w.heap.size + 14, 0, none⟩) 4 4] : List Value).getD j (.int .i64 0)) := ⟨_, Lib.hid rfl⟩
  have HR : Hid (∀ j, j < 16 → RowIs A16 (V j) j) := Lib.hid (fun j hj => by
    rw [HV.out]
    match j, hj with
    | 0, _ => exact .inl ⟨_, _, rfl, rfl⟩
    | 1, _ => exact wa_lit [0] (X1.out.gr g1)
    | 2, _ => exact wa_lit [1] (X2.out.gr g2)
    | 3, _ => exact wa_lit [2] (X3.out.gr g3)
    | 4, _ => exact wa_lit [4294967295] (X4.out.gr g4)
    | 5, _ => exact wa_lit [0, 1] (X5.out.gr g5)
    | 6, _ => exact wa_lit [1, 1] (X6.out.gr g6)
    | 7, _ => exact wa_lit [4294967295, 4294967295] (X7.out.gr g7)
    | 8, _ => exact wa_lit [0, 0, 1] (X8.out.gr g8)
    | 9, _ => exact wa_lit [1, 0, 1] (X9.out.gr g9)
    | 10, _ => exact wa_lit [4294967295, 4294967295, 4294967295] (X10.out.gr g10)
    | 11, _ => exact wa_lit [0, 0, 0, 2147483648] (X11.out.gr g11)
    | 12, _ => exact wa_lit [0, 4294967295, 2147483648] (X12.out.gr g12)
    | 13, _ => exact wa_lit [4294967295, 0, 2147483648] (X13.out.gr g13)
    | 14, _ => exact wa_lit [3, 0, 2147483648, 0, 5] (X14.out.gr g14)
    | 15, _ => exact wa_lit [0, 0, 2147483648, 2147483647] (X15.out.gr g15)
    | n + 16, h => exact absurd h (by omega))
  obtain ⟨B, HB0⟩ : ∃ B, Hid (w.heap.size + 15 = B) := ⟨_, Lib.hid rfl⟩
  have HC : Hid (∀ w', Gr A16 w' → ∀ j, j < 16 → w'.cell? ⟨B, j, none⟩ = some (V j)) := Lib.hid (fun w' hw j hj => by
    rw [← HB0.out, HX.out.cells w' hw j, HV.out]
    match j, hj with
    | 0, _ => rfl
    | 1, _ => rfl
    | 2, _ => rfl
    | 3, _ => rfl
    | 4, _ => rfl
    | 5, _ => rfl
    | 6, _ => rfl
    | 7, _ => rfl
    | 8, _ => rfl
    | 9, _ => rfl
    | 10, _ => rfl
    | 11, _ => rfl
    | 12, _ => rfl
    | 13, _ => rfl
    | 14, _ => rfl
    | 15, _ => rfl
    | n + 16, h => exact absurd h (by omega))
  have HTA : Hid (Tab A16) := Lib.hid (HT.out.gr HG.out)
  clear g1 g2 g3 g4 g5 g6 g7 g8 g9 g10 g11 g12 g13 g14 g15 HX HV G1 X1 G2 X2 G3 X3 G4 X4 G5 X5 G6 X6 G7 X7 G8 X8 G9 X9 G10 X10 G11 X11 G12 X12 G13 X13 G14 X14 G15 X15
  go_enter Tryd.func11, Tryd.ntmps11
  go_wp2_with fail
  simp only [Nat.add_assoc, Nat.reduceAdd]
  rw [HB0.out]
  rw [E1.out, E2.out, E3.out, E4.out, E5.out, E6.out, E7.out, E8.out, E9.out, E10.out, E11.out, E12.out, E13.out, E14.out, E15.out, E16.out]
  clear E1 S1 E2 S2 E3 S3 E4 S4 E5 S5 E6 S6 E7 S7 E8 S8 E9 S9 E10 S10 E11 S11 E12 S12 E13 S13 E14 S14 E15 S15 E16
  go_loopw [2] (fun i wr => ∃ i' : Nat, i' ≤ 16 ∧ i = .int .i64 ((i' : Nat) : Int) ∧ Hid (Gr A16 wr)) (fun i _ => 16 - (intOf i).toNat)
  case atStart => exact ⟨0, by omega, rfl, Lib.hid (Gr.refl _)⟩
  case round =>
    obtain ⟨i, hi, rfl, HGi⟩ := hrel
    by_cases hin : i < 16
    · go_wp2_with fail
      rw [show decide ((i : Int) < 16) = true from decide_eq_true (by omega)]
      obtain ⟨wo, rfl⟩ : ∃ wo : World, wo = wr := ⟨_, rfl⟩
      go_loopw [3] (fun k wr => ∃ k' : Nat, k' ≤ 16 ∧ k = .int .i64 ((k' : Nat) : Int) ∧ Hid (Gr A16 wr)) (fun k _ => 16 - (intOf k).toNat)
      case atStart => exact ⟨0, by omega, rfl, HGi⟩
      case round =>
        obtain ⟨k, hk, rfl, HGk⟩ := hrel
        by_cases hkn : k < 16
        · go_wp2_with fail
          obtain ⟨m1, hm1, e1⟩ : ∃ m1 : Nat, m1 < 16 ∧ Int.tmod ((i : Int) + (k : Int)) 16 = (m1 : Int) := ⟨(i + k) % 16, Nat.mod_lt _ (by decide), by rw [← Int.natCast_add]; rfl⟩
          obtain ⟨P, HP, hP⟩ : ∃ P : Nat, ((i : Int) * (k : Int)) = (P : Int) ∧ P ≤ 225 := ⟨i * k, (Int.natCast_mul _ _).symm, Nat.mul_le_mul (show i ≤ 15 by omega) (show k ≤ 15 by omega)⟩
          obtain ⟨m2, hm2, e2⟩ : ∃ m2 : Nat, m2 < 16 ∧ Int.tmod (P : Int) 16 = (m2 : Int) := ⟨P % 16, Nat.mod_lt _ (by decide), rfl⟩
          obtain ⟨m3, hm3, e3⟩ : ∃ m3 : Nat, m3 < 16 ∧ Int.tmod ((i : Int) + 2 * (k : Int)) 16 = (m3 : Int) := ⟨(i + 2 * k) % 16, Nat.mod_lt _ (by decide), by rw [show (i : Int) + 2 * (k : Int) = ((i + 2 * k : Nat) : Int) by omega]; rfl⟩
          have w1 : IntKind.i64.wrap ((i : Int) + (k : Int)) = (i : Int) + (k : Int) := by rw [IntKind.wrap_i64]; omega
          have w2 : IntKind.i64.wrap (2 * (k : Int)) = 2 * (k : Int) := by rw [IntKind.wrap_i64]; omega
          have w3 : IntKind.i64.wrap ((i : Int) + 2 * (k : Int)) = (i : Int) + 2 * (k : Int) := by rw [IntKind.wrap_i64]; omega
          have w4 : IntKind.i64.wrap (P : Int) = (P : Int) := by rw [IntKind.wrap_i64]; omega
          have hm1' : (m1 : Int) < 16 := by omega
          have hm2' : (m2 : Int) < 16 := by omega
          have hm3' : (m3 : Int) < 16 := by omega
          have ci : ∀ w', Gr wr w' → w'.cell? ⟨B, i, none⟩ = some (V i) := fun w' hw => HC.out w' (HGk.out.trans hw) i hin
          have ck : ∀ w', Gr wr w' → w'.cell? ⟨B, k, none⟩ = some (V k) := fun w' hw => HC.out w' (HGk.out.trans hw) k hkn
          have cm1 : ∀ w', Gr wr w' → w'.cell? ⟨B, m1, none⟩ = some (V m1) := fun w' hw => HC.out w' (HGk.out.trans hw) m1 hm1
          have cm2 : ∀ w', Gr wr w' → w'.cell? ⟨B, m2, none⟩ = some (V m2) := fun w' hw => HC.out w' (HGk.out.trans hw) m2 hm2
          have cm3 : ∀ w', Gr wr w' → w'.cell? ⟨B, m3, none⟩ = some (V m3) := fun w' hw => HC.out w' (HGk.out.trans hw) m3 hm3
          refine wp_region_planQ 97 [] [] (fun _ => 0) (fun _ => .cells #[] 0) [(true, 0), (true, 1), (true, 2), (true, 3), (true, 4), (true, 5), (true, 6), (true, 7), (true, 8), (true, 9), (true, 10), (true, 11), (true, 12), (true, 13), (true, 14), (true, 15), (true, 16), (true, 17), (true, 18), (true, 19), (true, 20), (true, 21), (true, 22), (true, 23), (true, 24), (true, 25), (true, 26), (true, 27), (true, 28), (true, 29), (true, 30), (true, 31), (true, 32), (true, 33), (true, 34), (true, 35), (true, 36), (true, 37), (true, 38), (true, 39), (true, 40), (true, 41), (true, 42), (true, 43), (true, 44), (true, 45), (true, 46), (true, 47), (true, 48), (true, 49), (true, 50), (true, 51), (true, 52), (true, 53), (true, 54), (true, 55), (true, 56), (true, 57), (true, 58), (true, 59), (true, 60), (true, 61), (true, 62), (true, 63), (true, 64), (true, 65), (true, 66), (true, 67), (true, 68), (true, 69), (true, 70), (true, 71), (true, 72), (true, 73), (true, 74), (true, 75), (true, 76), (true, 77), (true, 78), (true, 79), (true, 80), (true, 81), (true, 82), (true, 83), (true, 84), (true, 85), (true, 86), (true, 87), (true, 88), (true, 89), (true, 90), (true, 91), (true, 92), (true, 93), (true, 94), (true, 95), (true, 96)] (by kernel_rfl) (by kernel_rfl) (fun i hi => by cases hi) (fun i hi => by cases hi) (fun _ _ _ _ _ h => h) (fun T hT => ?_)
          iterate 8 (refine wpPlan_takeL (v := ?_) rfl (by rfl) (fun w' hw => ?_) ?_; rotate_left; go_simp; with_reducible rfl; simp only [Act.put, rA, rB, rC])
          refine wpPlan_callL rfl (by rfl) Tryd.call3 (fun w' hw => ksums A16 _ _ _ i k (Lib.hid (HR.out i hin)) (Lib.hid (HR.out k hkn)) hin hkn (Gr.trans HGk.out hw) HTA) (by rfl) ?_
          simp only [Act.put, rA, rB, rC]
          iterate 10 (refine wpPlan_takeL (v := ?_) rfl (by rfl) (fun w' hw => ?_) ?_; rotate_left; go_simp; with_reducible rfl; simp only [Act.put, rA, rB, rC])
          refine wpPlan_callL rfl (by rfl) Tryd.call4 (fun w' hw => kproducts A16 _ _ _ i k (Lib.hid (HR.out i hin)) (Lib.hid (HR.out k hkn)) hin hkn (Gr.trans HGk.out hw) HTA) (by rfl) ?_
          simp only [Act.put, rA, rB, rC]
          iterate 20 (refine wpPlan_takeL (v := ?_) rfl (by rfl) (fun w' hw => ?_) ?_; rotate_left; go_simp; with_reducible rfl; simp only [Act.put, rA, rB, rC])
          refine wpPlan_callL rfl (by rfl) Tryd.call7 (fun w' hw => kdivides A16 _ _ _ _ i k m1 (Lib.hid (HR.out i hin)) (Lib.hid (HR.out k hkn)) (Lib.hid (HR.out m1 hm1)) hin hkn hm1 (Gr.trans HGk.out hw) HTA) (by rfl) ?_
          simp only [Act.put, rA, rB, rC]
          iterate 11 (refine wpPlan_takeL (v := ?_) rfl (by rfl) (fun w' hw => ?_) ?_; rotate_left; go_simp; with_reducible rfl; simp only [Act.put, rA, rB, rC])
          refine wpPlan_callL rfl (by rfl) Tryd.call9 (fun w' hw => ktexts A16 _ _ _ i k (Lib.hid (HR.out i hin)) (Lib.hid (HR.out k hkn)) hin hkn (Gr.trans HGk.out hw) HTA) (by rfl) ?_
          simp only [Act.put, rA, rB, rC]
          iterate 20 (refine wpPlan_takeL (v := ?_) rfl (by rfl) (fun w' hw => ?_) ?_; rotate_left; go_simp; with_reducible rfl; simp only [Act.put, rA, rB, rC])
          refine wpPlan_callL rfl (by rfl) Tryd.call10 (fun w' hw => krings A16 _ _ _ _ i k m2 (Lib.hid (HR.out i hin)) (Lib.hid (HR.out k hkn)) (Lib.hid (HR.out m2 hm2)) hin hkn hm2 (Gr.trans HGk.out hw) HTA) (by rfl) ?_
          simp only [Act.put, rA, rB, rC]
          iterate 21 (refine wpPlan_takeL (v := ?_) rfl (by rfl) (fun w' hw => ?_) ?_; rotate_left; go_simp; with_reducible rfl; simp only [Act.put, rA, rB, rC])
          refine wpPlan_callL rfl (by rfl) Tryd.call8 (fun w' hw => kdivisors A16 _ _ _ _ i k m3 (Lib.hid (HR.out i hin)) (Lib.hid (HR.out k hkn)) (Lib.hid (HR.out m3 hm3)) hin hkn hm3 (Gr.trans HGk.out hw) HTA) (by rfl) ?_
          simp only [Act.put, rA, rB, rC]
          refine wpPlan_takeL (v := ?_) rfl (by rfl) (fun w' hw => ?_) ?_; rotate_left; go_simp; with_reducible rfl; simp only [Act.put, rA, rB, rC]
          refine wpPlan_nil (hT.out _ _ ?_); clear hT T
          intro G vw1 hg hf
          simp only [puts, Act.put, rA, rB, rC, rD, rE, ↓reduceIte, Nat.reduceEqDiff]
          have HGn := Lib.hid (HGk.out.trans hg)
          clear hg hf
          clear ci ck cm1 cm2 cm3
          go_wp2_with fail
          go_roundw
          case rel =>
            exact ⟨k + 1, by omega, by go_num, HGn⟩
          case measure => simp [intOf]; omega

        · have hkn' : ¬ ((k : Int) < 16) := by omega
          have c0 : wr.cell? ⟨B, i, none⟩ = some (V i) := HC.out wr HGk.out i hin
          go_wp2_with fail
          clear c0
          have wn : IntKind.i64.wrap (-(i : Int)) = -(i : Int) := by rw [IntKind.wrap_i64]; omega
          refine (kroots A16 wr (V i) i (i : Int) (Lib.hid (HR.out i hin)) hin (by omega) (by omega) HGk.out HTA).mono ?_
          rintro e w1 ⟨rfl, hb⟩
          have HG1 := Lib.hid (HGk.out.trans hb)
          have c1 : w1.cell? ⟨B, i, none⟩ = some (V i) := HC.out w1 HG1.out i hin
          clear hb
          go_wp2_with fail
          refine (kroots A16 w1 (V i) i (-(i : Int)) (Lib.hid (HR.out i hin)) hin (by omega) (by omega) HG1.out HTA).mono ?_
          rintro e w2 ⟨rfl, hb⟩
          have HG2 := Lib.hid (HG1.out.trans hb)
          have c2 : w2.cell? ⟨B, i, none⟩ = some (V i) := HC.out w2 HG2.out i hin
          clear hb
          go_wp2_with fail
          refine (kroots A16 w2 (V i) i 4097 (Lib.hid (HR.out i hin)) hin (by omega) (by omega) HG2.out HTA).mono ?_
          rintro e w3 ⟨rfl, hb⟩
          have HG3 := Lib.hid (HG2.out.trans hb)
          have c3 : w3.cell? ⟨B, i, none⟩ = some (V i) := HC.out w3 HG3.out i hin
          clear hb
          clear wn c1 c2 c3
          go_wp2_with fail
          go_roundw
          case rel => exact ⟨i + 1, by omega, by go_num, HG3⟩
          case measure => simp [intOf]; omega
    · have hin' : ¬ ((i : Int) < 16) := by omega
      go_wp2_with fail
      obtain ⟨wx, rfl⟩ : ∃ wx : World, wx = wr := ⟨_, rfl⟩
      go_loopw [4] (fun s wr => ∃ S : ByteArray, s = .string S ∧ Nine S ∧ wx = wr) (fun s _ => 4106 - szOf s)
      case atStart => exact ⟨⟨#[]⟩, rfl, ⟨fun c hc => by simp at hc, .inl rfl, by decide⟩, rfl⟩
      case round =>
        obtain ⟨S, rfl, hS, rfl⟩ := hrel
        by_cases hs : S.size < 4096
        · obtain ⟨r, hr, er⟩ : ∃ r : Nat, r < 7 ∧ Int.tmod (S.size : Int) 7 = (r : Int) := ⟨S.size % 7, Nat.mod_lt _ (by decide), rfl⟩
          have hs' : (S.size : Int) < 4096 := by omega
          have HS := Lib.hid hS
          clear hS
          go_wp2_with fail
          obtain ⟨n1, n2⟩ := nine_add HS.out (by omega) hr er
          exact ⟨⟨_, rfl, n1, trivial⟩, by show 4106 - (S ++ _).size < 4106 - S.size; have := HS.out.2.2; omega⟩
        · have hs' : 4096 ≤ (S.size : Int) := by omega
          have HS := Lib.hid hS
          clear hS
          go_wp2_with fail
          go_region
          obtain ⟨W2, HW2⟩ : ∃ W2, Hid ((wx.alloc (.cells #[.string ⟨#[]⟩, .string ⟨#[48]⟩, .string ⟨#[48, 48]⟩, .string ⟨#[48, 49]⟩, .string ⟨#[97]⟩, .string ⟨#[49, 97]⟩, .string ⟨#[43, 49]⟩, .string ⟨#[45, 49]⟩, .string ⟨#[32, 49]⟩, .string ⟨#[49, 32]⟩, .string ⟨#[52, 50, 57, 52, 57, 54, 55, 50, 57, 53]⟩, .string ⟨#[52, 50, 57, 52, 57, 54, 55, 50, 57, 54]⟩, .string ⟨#[49, 56, 52, 52, 54, 55, 52, 52, 48, 55, 51, 55, 48, 57, 53, 53, 49, 54, 49, 53]⟩, .string ⟨#[49, 56, 52, 52, 54, 55, 52, 52, 48, 55, 51, 55, 48, 57, 53, 53, 49, 54, 49, 54]⟩, .string ⟨#[57, 57, 57, 57, 57, 57, 57, 57, 57]⟩, .string ⟨#[49, 48, 48, 48, 48, 48, 48, 48, 48, 48]⟩, .string (S.extract 0 4096), .string (S.extract 0 4095 ++ ⟨#[120]⟩), .string (⟨#[48]⟩ ++ S.extract 0 4095), .string (S.extract 0 4096 ++ ⟨#[49]⟩)] 9)).drew = W2) := ⟨_, Lib.hid rfl⟩
          have HG2 : Hid (Gr A16 W2) := Lib.hid (by rw [← HW2.out]; exact (HGi.out.trans (Gr.alloc _ _)).trans (Gr.drew _))
          have HX2 : Hid (Bx W2 wx.heap.size 9 #[.string ⟨#[]⟩, .string ⟨#[48]⟩, .string ⟨#[48, 48]⟩, .string ⟨#[48, 49]⟩, .string ⟨#[97]⟩, .string ⟨#[49, 97]⟩, .string ⟨#[43, 49]⟩, .string ⟨#[45, 49]⟩, .string ⟨#[32, 49]⟩, .string ⟨#[49, 32]⟩, .string ⟨#[52, 50, 57, 52, 57, 54, 55, 50, 57, 53]⟩, .string ⟨#[52, 50, 57, 52, 57, 54, 55, 50, 57, 54]⟩, .string ⟨#[49, 56, 52, 52, 54, 55, 52, 52, 48, 55, 51, 55, 48, 57, 53, 53, 49, 54, 49, 53]⟩, .string ⟨#[49, 56, 52, 52, 54, 55, 52, 52, 48, 55, 51, 55, 48, 57, 53, 53, 49, 54, 49, 54]⟩, .string ⟨#[57, 57, 57, 57, 57, 57, 57, 57, 57]⟩, .string ⟨#[49, 48, 48, 48, 48, 48, 48, 48, 48, 48]⟩, .string (S.extract 0 4096), .string (S.extract 0 4095 ++ ⟨#[120]⟩), .string (⟨#[48]⟩ ++ S.extract 0 4095), .string (S.extract 0 4096 ++ ⟨#[49]⟩)]) := Lib.hid (by rw [← HW2.out]; exact (Bx.new _ _ _).gr (Gr.drew _))
          rw [HW2.out]
          clear HW2
          obtain ⟨B2, HB2⟩ : ∃ B2, Hid (wx.heap.size = B2) := ⟨_, Lib.hid rfl⟩
          rw [HB2.out] at HX2 ⊢
          have HS2 : Hid (∀ j, j < 20 → ∃ T : ByteArray, T.size ≤ 5000 ∧ ∀ w', Gr W2 w' → w'.cell? ⟨B2, j, none⟩ = some (.string T)) := Lib.hid (fun j hj => by
            have hz := HS.out.2.2
            match j, hj with
            | 0, _ => exact ⟨_, by decide, fun w' hw => HX2.out.cells w' hw 0⟩
            | 1, _ => exact ⟨_, by decide, fun w' hw => HX2.out.cells w' hw 1⟩
            | 2, _ => exact ⟨_, by decide, fun w' hw => HX2.out.cells w' hw 2⟩
            | 3, _ => exact ⟨_, by decide, fun w' hw => HX2.out.cells w' hw 3⟩
            | 4, _ => exact ⟨_, by decide, fun w' hw => HX2.out.cells w' hw 4⟩
            | 5, _ => exact ⟨_, by decide, fun w' hw => HX2.out.cells w' hw 5⟩
            | 6, _ => exact ⟨_, by decide, fun w' hw => HX2.out.cells w' hw 6⟩
            | 7, _ => exact ⟨_, by decide, fun w' hw => HX2.out.cells w' hw 7⟩
            | 8, _ => exact ⟨_, by decide, fun w' hw => HX2.out.cells w' hw 8⟩
            | 9, _ => exact ⟨_, by decide, fun w' hw => HX2.out.cells w' hw 9⟩
            | 10, _ => exact ⟨_, by decide, fun w' hw => HX2.out.cells w' hw 10⟩
            | 11, _ => exact ⟨_, by decide, fun w' hw => HX2.out.cells w' hw 11⟩
            | 12, _ => exact ⟨_, by decide, fun w' hw => HX2.out.cells w' hw 12⟩
            | 13, _ => exact ⟨_, by decide, fun w' hw => HX2.out.cells w' hw 13⟩
            | 14, _ => exact ⟨_, by decide, fun w' hw => HX2.out.cells w' hw 14⟩
            | 15, _ => exact ⟨_, by decide, fun w' hw => HX2.out.cells w' hw 15⟩
            | 16, _ => exact ⟨_, Nat.le_trans (ext_size S 4096) (by decide), fun w' hw => HX2.out.cells w' hw 16⟩
            | 17, _ => exact ⟨_, by rw [ByteArray.size_append]; have := ext_size S 4095; show _ + 1 ≤ 5000; omega, fun w' hw => HX2.out.cells w' hw 17⟩
            | 18, _ => exact ⟨_, by rw [ByteArray.size_append]; have := ext_size S 4095; show 1 + _ ≤ 5000; omega, fun w' hw => HX2.out.cells w' hw 18⟩
            | 19, _ => exact ⟨_, by rw [ByteArray.size_append]; have := ext_size S 4096; show _ + 1 ≤ 5000; omega, fun w' hw => HX2.out.cells w' hw 19⟩
            | n + 20, h => exact absurd h (by omega))
          clear HX2
          go_wp2_with fail
          go_loopw [180] (fun j wr => ∃ j' : Nat, j' ≤ 20 ∧ j = .int .i64 ((j' : Nat) : Int) ∧ Hid (Gr W2 wr)) (fun j _ => 20 - (intOf j).toNat)
          case atStart => exact ⟨0, by omega, rfl, Lib.hid (Gr.refl _)⟩
          case round =>
            obtain ⟨j, hj, rfl, HGj⟩ := hrel
            by_cases hjn : j < 20
            · obtain ⟨T, hT, hc⟩ := HS2.out j hjn
              have hcj := hc wr HGj.out
              have hjn' : (j : Int) < 20 := by omega
              clear hc
              go_wp2_with fail
              refine (kreads T _ (by omega) (Lib.hid (HTA.out.gr (HG2.out.trans HGj.out)))).mono ?_
              rintro e w1 ⟨rfl, hb⟩
              have HGj1 := Lib.hid (Gr.trans HGj.out hb)
              clear hb hcj
              go_wp2_with fail
              go_roundw
              case rel => exact ⟨j + 1, by omega, by go_num, HGj1⟩
              case measure => simp [intOf]; omega
            · have hjn' : ¬ ((j : Int) < 20) := by omega
              have hs4 : 4096 ≤ (S.size : Int) := hs'
              go_wp2_with fail
              obtain ⟨n0, n1, n2⟩ := nine_num HS.out (by omega)
              obtain ⟨n, hn⟩ : ∃ n, pnum (S.extract 0 4096) = n := ⟨_, rfl⟩
              rw [hn] at n1 n2
              refine (number_any (S.extract 0 4096) n _ (by have := nine_size (S := S); omega) (Lib.hid hn) (Lib.hid n0) n2).mono ?_
              rintro e w1 ⟨rfl, hb⟩
              have HGj1 := Lib.hid (Gr.trans HGj.out hb)
              have hn0 : decide (n = 0) = false := decide_eq_false n1
              clear hb n0 n1 n2 hn
              go_wp2_with fail
              refine (works_any _ (Lib.hid (HTA.out.gr (HG2.out.trans HGj1.out)))).mono ?_
              rintro e w2 ⟨rfl, hb⟩
              have HGj2 := Lib.hid (Gr.trans HGj1.out hb)
              clear hb
              go_wp2
              go_ret
              exact ⟨rfl, HG.out.trans (HG2.out.trans HGj2.out)⟩
end Go.Proofs.YteenojfbnbkedaaDoor
