/- Texts: SmallZ, KnownZ. No condition but those stated. -/
import Derived.Test.YtpcfncbcpknobaaGreatDoorSmallA
import Derived.Test.YtpcfncbcpknobaaGreatDoorSmallB
import Derived.Test.YtpcfncbcpknobaaGreatDoorSmallC
import Derived.Test.YtpcfncbcpknobaaGreatDoorSumsZ
import Derived.Test.YtpcfncbcpknobaaGreatDoorDivsZ
import Derived.Test.YtpcfncbcpknobaaGreatDoorDividesZ
import Derived.Test.YtpcfncbcpknobaaGreatDoorRingsZ
import Derived.Test.YtpcfncbcpknobaaGreatDoorTextsZ
import Derived.Test.YtpcfncbcpknobaaGreatDoorReadsZ

/- IntsSmall: the law's walk. -/
namespace Go.Proofs.YtpcfncbcpknobaaGreatDoor
open Go.RowKit
set_option linter.unusedSimpArgs false
set_option linter.unusedVariables false
attribute [local go_sem ↓] Go.wp_at_zero Go.wp_at_succ
theorem smallz_law (m n : Int) (w : World) (lm : -9223372036854775808 ≤ m) (um : m ≤ 9223372036854775807) (ln : -9223372036854775808 ≤ n) (un : n ≤ 9223372036854775807) (HT : Hid (Tab w)) :
    Calls Tryz.prog 14 #[.int .i64 m, .int .i64 n] w fun e w' => e = .returned (.bool true) ∧ Below w.heap.size w w' := by
  obtain ⟨s1, o1, hs1⟩ := sym_ex (m + n)
  obtain ⟨s2, o2, hs2⟩ := sym_ex (m * n)
  have hx : (IntKind.i64.wrap (m + n) = m + n ∧ -9223372036854775808 ≤ m + n ∧ m + n ≤ 9223372036854775807) ∨ (IntKind.i64.wrap (m + n) = m + n - 18446744073709551616 ∧ 9223372036854775807 < m + n) ∨ (IntKind.i64.wrap (m + n) = m + n + 18446744073709551616 ∧ m + n < -9223372036854775808) := by
    rw [IntKind.wrap_i64]; omega
  have hy : IntKind.i64.wrap (m * n) = m * n ∨ m * n < -9223372036854775808 ∨ 9223372036854775807 < m * n := by
    generalize m * n = z
    rw [IntKind.wrap_i64]; omega
  have hsm : m ≤ -2147483648 ∨ 2147483648 ≤ m ∨ n ≤ -2147483648 ∨ 2147483648 ≤ n ∨ (-9223372036854775808 ≤ m * n ∧ m * n ≤ 9223372036854775807) := by
    by_cases h : -2147483648 < m ∧ m < 2147483648 ∧ -2147483648 < n ∧ n < 2147483648
    · exact .inr (.inr (.inr (.inr (imul_small h.1 h.2.1 h.2.2.1 h.2.2.2))))
    · omega
  by_cases hn : n = 0
  · exact smz_zero m n _ _ s1 s2 _ _ _ o1 o2 _ _ w (Lib.hid lm) (Lib.hid um) (Lib.hid ln) (Lib.hid un) (Lib.hid rfl) (Lib.hid rfl) (Lib.hid hs1) (Lib.hid hs2) (Lib.hid rfl) (Lib.hid hx) (Lib.hid rfl) (Lib.hid hy) (Lib.hid hsm) (Lib.hid rfl) (Lib.hid rfl) (Lib.hid rfl) (Lib.hid hn) HT
  · have hm := mod_abs m hn
    have hqr := idv0 m n
    have hri : In64 (m % n) := ⟨by omega, by omega⟩
    by_cases hq : In64 (m / n)
    · exact smz_in m n _ _ s1 s2 _ _ _ o1 o2 _ _ _ _ _ w (Lib.hid lm) (Lib.hid um) (Lib.hid ln) (Lib.hid un) (Lib.hid rfl) (Lib.hid rfl) (Lib.hid hs1) (Lib.hid hs2) (Lib.hid rfl) (Lib.hid hx) (Lib.hid rfl) (Lib.hid hy) (Lib.hid hsm) (Lib.hid rfl) (Lib.hid rfl) (Lib.hid rfl) (Lib.hid hn) (Lib.hid rfl) (Lib.hid rfl) (Lib.hid hm.2) (Lib.hid hri) (Lib.hid hq) (Lib.hid rfl) (Lib.hid (wrap_back m (m / n) n (m % n) hqr lm um)) HT
    · have hmn : m = -9223372036854775808 ∧ n = -1 := quot_far lm um hn hq
      exact smz_out m n _ _ s1 s2 _ _ _ o1 o2 _ _ _ _ w (Lib.hid lm) (Lib.hid um) (Lib.hid ln) (Lib.hid un) (Lib.hid rfl) (Lib.hid rfl) (Lib.hid hs1) (Lib.hid hs2) (Lib.hid rfl) (Lib.hid hx) (Lib.hid rfl) (Lib.hid hy) (Lib.hid hsm) (Lib.hid rfl) (Lib.hid rfl) (Lib.hid rfl) (Lib.hid hn) (Lib.hid rfl) (Lib.hid rfl) (Lib.hid hm.2) (Lib.hid hri) (Lib.hid hq) (Lib.hid hmn.1) (Lib.hid hmn.2) HT

end Go.Proofs.YtpcfncbcpknobaaGreatDoor

/- IntsKnown: the law's walk (closed). No condition. -/
namespace Go.Proofs.YtpcfncbcpknobaaGreatDoor
open Go.RowKit
set_option linter.unusedSimpArgs false
set_option linter.unusedVariables false
attribute [local go_sem ↓] Go.wp_at_zero Go.wp_at_succ
attribute [local go_sem ↓] eq_nat eq_nat_zero eq_int
/-- a value of type Z -/
def ZV (w : World) (v : Value) : Prop := ∃ b u k f, v = .agg #[.bool b, u] ∧ Wa w u k f ∧ ∀ i, i < k → f i < 4294967296
theorem ZV.gr {w w' : World} {v : Value} (h : ZV w v) (hg : Gr w w') : ZV w' v := by
  obtain ⟨b, u, k, f, e, hw, hf⟩ := h
  exact ⟨b, u, k, f, e, hw.gr hg, hf⟩
theorem zv_one {w : World} {b : Nat} (s : Bool) (x : Nat) (hx : x < 4294967296) (h : Bx w b 22 #[.int .u32 (x : Int)]) : ZV w (.agg #[.bool s, .slice (some ⟨b, 0, none⟩) 1 1]) :=
  ⟨s, _, 1, fun _ => x, rfl, .inr ⟨b, 0, 1, rfl, h.lt, fun i hi => by
    obtain rfl : i = 0 := by omega
    exact h.cells w (Gr.refl _) 0⟩, fun i hi => hx⟩
/-- a value of type Z of k words that stands for a -/
def ZN (w : World) (v : Value) (k : Nat) (a : Int) : Prop := ∃ b u f m, v = .agg #[.bool b, u] ∧ Wa w u k f ∧ (∀ i, i < k → f i < 4294967296) ∧ vl f k = m ∧ (if b then -((m : Nat) : Int) else ((m : Nat) : Int)) = a
theorem ZN.zv {w : World} {v : Value} {k : Nat} {a : Int} (h : ZN w v k a) : ZV w v := by
  obtain ⟨b, u, f, m, e, hw, hf, _⟩ := h
  exact ⟨b, u, k, f, e, hw, hf⟩
theorem zn_nil {w : World} (s : Bool) : ZN w (.agg #[.bool s, .slice none 0 0]) 0 0 := ⟨s, _, fun _ => 0, 0, rfl, .inl ⟨_, _, rfl, rfl⟩, fun i hi => absurd hi (Nat.not_lt_zero _), rfl, by cases s <;> rfl⟩
theorem zn_one {w : World} {b : Nat} (s : Bool) (x : Nat) (a : Int) (hx : x < 4294967296) (h : Bx w b 22 #[.int .u32 (x : Int)]) (ha : (if s then -(x : Int) else (x : Int)) = a) : ZN w (.agg #[.bool s, .slice (some ⟨b, 0, none⟩) 1 1]) 1 a :=
  ⟨s, _, fun _ => x, x, rfl, .inr ⟨b, 0, 1, rfl, h.lt, fun i hi => by
    obtain rfl : i = 0 := by omega
    exact h.cells w (Gr.refl _) 0⟩, fun i hi => hx, by simp [vl, bp], ha⟩
theorem zn_two {w : World} {b : Nat} (s : Bool) (x y : Nat) (a : Int) (hx : x < 4294967296) (hy : y < 4294967296) (h : Bx w b 22 #[.int .u32 (x : Int), .int .u32 (y : Int)]) (ha : (if s then -((x + y * 4294967296 : Nat) : Int) else ((x + y * 4294967296 : Nat) : Int)) = a) : ZN w (.agg #[.bool s, .slice (some ⟨b, 0, none⟩) 2 2]) 2 a :=
  ⟨s, _, fun i => if i = 0 then x else y, _, rfl, .inr ⟨b, 0, 2, rfl, h.lt, fun i hi => by
    rcases (by omega : i = 0 ∨ i = 1) with rfl | rfl
    · exact h.cells w (Gr.refl _) 0
    · exact h.cells w (Gr.refl _) 1⟩, fun i hi => by
    show (if i = 0 then x else y) < _
    split <;> assumption, by simp [vl, bp], ha⟩
theorem zofk (W0 w : World) (v : Value) (k : Nat) (a : Int) (h : Hid (ZN W0 v k a)) (hk : k ≤ 2) (hg : Gr W0 w) : Calls Tryz.prog 19 #[v] w fun e w' => e = .returned (.agg #[.int .u64 ((lo (Int.natAbs (a)) : Nat) : Int), .string (bg (Int.natAbs (a))), .bool (decide ((a) < 0))]) ∧ Below w.heap.size w w' := by
  obtain ⟨b, u, f, m, rfl, hw, hf, hv, ha⟩ := h.out
  obtain ⟨ao, c, rfl⟩ := hw.slice
  exact zlof b k f m a ao c w (Lib.hid (hw.gr hg)) (Lib.hid hf) (Lib.hid hv) (Lib.hid ha) (by omega) (by rw [← hv]; have := wl_le.2 (vl_lt hf); omega)
theorem i64_row (a : Int) (n : Nat) (w : World) (h : In64 a ↔ n < 4) : ∃ x, Calls Tryz.prog 20 #[(Value.agg #[.int .u64 ((lo (Int.natAbs (a)) : Nat) : Int), .string (bg (Int.natAbs (a))), .bool (decide ((a) < 0))])] w fun e w' => e = .returned (.tuple #[.int .i64 x, .bool (decide (n < 4))]) ∧ Below w.heap.size w w' := by
  by_cases hn : n < 4
  · rw [decide_eq_true hn]; exact ⟨_, i64_in a w (h.2 hn)⟩
  · rw [decide_eq_false hn]; exact ⟨_, i64_out a w (fun h' => hn (h.1 h'))⟩
theorem kzSums (W0 w : World) (v0 v1 : Value) (h0 : Hid (ZV W0 v0)) (h1 : Hid (ZV W0 v1)) (hg : Gr W0 w) (HT : Hid (Tab W0)) :
    Calls Tryz.prog 15 #[v0, v1] w fun e w' => e = .returned (.bool true) ∧ Below w.heap.size w w' := by
  obtain ⟨b0, u0, k0, f0, rfl, w0, l0⟩ := h0.out
  obtain ⟨b1, u1, k1, f1, rfl, w1, l1⟩ := h1.out
  exact sumz_law b0 u0 k0 f0 b1 u1 k1 f1 w (Lib.hid (w0.gr hg)) (Lib.hid l0) (Lib.hid (w1.gr hg)) (Lib.hid l1) (Lib.hid (HT.out.gr hg))
theorem kzDivs (W0 w : World) (v0 v1 : Value) (h0 : Hid (ZV W0 v0)) (h1 : Hid (ZV W0 v1)) (hg : Gr W0 w) (HT : Hid (Tab W0)) :
    Calls Tryz.prog 16 #[v0, v1] w fun e w' => e = .returned (.bool true) ∧ Below w.heap.size w w' := by
  obtain ⟨b0, u0, k0, f0, rfl, w0, l0⟩ := h0.out
  obtain ⟨b1, u1, k1, f1, rfl, w1, l1⟩ := h1.out
  exact divz_law b0 u0 k0 f0 b1 u1 k1 f1 w (Lib.hid (w0.gr hg)) (Lib.hid l0) (Lib.hid (w1.gr hg)) (Lib.hid l1) (Lib.hid (HT.out.gr hg))
theorem kzDivides (W0 w : World) (v0 v1 v2 : Value) (h0 : Hid (ZV W0 v0)) (h1 : Hid (ZV W0 v1)) (h2 : Hid (ZV W0 v2)) (hg : Gr W0 w) (HT : Hid (Tab W0)) :
    Calls Tryz.prog 17 #[v0, v1, v2] w fun e w' => e = .returned (.bool true) ∧ Below w.heap.size w w' := by
  obtain ⟨b0, u0, k0, f0, rfl, w0, l0⟩ := h0.out
  obtain ⟨b1, u1, k1, f1, rfl, w1, l1⟩ := h1.out
  obtain ⟨b2, u2, k2, f2, rfl, w2, l2⟩ := h2.out
  exact dvz_law b0 u0 k0 f0 b1 u1 k1 f1 b2 u2 k2 f2 w (Lib.hid (w0.gr hg)) (Lib.hid l0) (Lib.hid (w1.gr hg)) (Lib.hid l1) (Lib.hid (w2.gr hg)) (Lib.hid l2) (Lib.hid (HT.out.gr hg))
theorem kzRings (W0 w : World) (v0 v1 v2 : Value) (h0 : Hid (ZV W0 v0)) (h1 : Hid (ZV W0 v1)) (h2 : Hid (ZV W0 v2)) (hg : Gr W0 w) (HT : Hid (Tab W0)) :
    Calls Tryz.prog 18 #[v0, v1, v2] w fun e w' => e = .returned (.bool true) ∧ Below w.heap.size w w' := by
  obtain ⟨b0, u0, k0, f0, rfl, w0, l0⟩ := h0.out
  obtain ⟨b1, u1, k1, f1, rfl, w1, l1⟩ := h1.out
  obtain ⟨b2, u2, k2, f2, rfl, w2, l2⟩ := h2.out
  exact ringz_law b0 u0 k0 f0 b1 u1 k1 f1 b2 u2 k2 f2 w (Lib.hid (w0.gr hg)) (Lib.hid l0) (Lib.hid (w1.gr hg)) (Lib.hid l1) (Lib.hid (w2.gr hg)) (Lib.hid l2) (Lib.hid (HT.out.gr hg))
theorem kzTexts (W0 w : World) (v0 : Value) (h0 : Hid (ZV W0 v0)) (hg : Gr W0 w) (HT : Hid (Tab W0)) :
    Calls Tryz.prog 21 #[v0] w fun e w' => e = .returned (.bool true) ∧ Below w.heap.size w w' := by
  obtain ⟨b0, u0, k0, f0, rfl, w0, l0⟩ := h0.out
  exact textz_law b0 u0 k0 f0 w (Lib.hid (w0.gr hg)) (Lib.hid l0) (Lib.hid (HT.out.gr hg))
theorem uabs {m : Int} (l : -9 ≤ m) (h : m < 10) : IntKind.u32.wrap (max m (-m)) = ((m.natAbs : Nat) : Int) := by
  rw [IntKind.wrap_u32]; omega
def szOf : Value → Nat
  | .string s => s.size
  | _ => 0
theorem suf_size : ∀ r, r < 7 → ((⟨#[56, 55, 54, 53, 52, 51, 50, 49, 48, 57]⟩ : ByteArray).extract r 10).size = 10 - r := by decide +kernel
theorem ext_size (S : ByteArray) (k : Nat) : (S.extract 0 k).size ≤ k := by simp; omega
theorem callsH {P : Program} {f : FuncId} {ar : Array Value} {Q : Ending → World → Prop} {w0 W : World} {L : List Fk} (h : HP w0 W L) (k : ∀ W', Hid (HP w0 W' L) → Calls P f ar W' Q) : Calls P f ar W Q := k W (Lib.hid h)
theorem forgetE {Q : Exit → Act → World → Prop} {e : Exit} {a : Act} {w0 W : World} {L : List Fk} (h : HP w0 W L) (k : ∀ W', Hid (HP w0 W' L) → Q e a W') : Q e a W := k W (Lib.hid h)
set_option maxRecDepth 100000 in
set_option maxHeartbeats 16000000 in
theorem knownz_law (w : World) (HT : Hid (Tab w)) : Calls Tryz.prog 3 #[] w fun e w' => e = .returned (.bool true) ∧ Below w.heap.size w w' := by
  go_enter Tryz.func3, Tryz.ntmps3
  go_wp2_with fail
  go_loopw [1] (fun m wr => ∃ m' : Int, -9 ≤ m' ∧ m' ≤ 10 ∧ m = .int .i64 m' ∧ Hid (Gr w wr)) (fun m _ => (10 - intOf m).toNat)
  case atStart => exact ⟨-9, by omega, by omega, rfl, Lib.hid (Gr.refl _)⟩
  case round =>
    obtain ⟨m, ml, mh, rfl, HGm⟩ := hrel
    by_cases hm : m < 10
    · go_wp2_with fail
      obtain ⟨wo, rfl⟩ : ∃ wo : World, wo = wr := ⟨_, rfl⟩
      go_loopw [2] (fun n wr => ∃ n' : Int, -9 ≤ n' ∧ n' ≤ 10 ∧ n = .int .i64 n' ∧ Hid (Gr w wr)) (fun n _ => (10 - intOf n).toNat)
      case atStart => exact ⟨-9, by omega, by omega, rfl, HGm⟩
      case round =>
        obtain ⟨n, nl, nh, rfl, HGn⟩ := hrel
        by_cases hn : n < 10
        · have wm : IntKind.i64.wrap (-m) = -m := by rw [IntKind.wrap_i64]; omega
          have wn : IntKind.i64.wrap (-n) = -n := by rw [IntKind.wrap_i64]; omega
          have um := uabs ml hm
          have un := uabs nl hn
          have HF := Lib.hid (hp0 wr)
          go_wp2_with fail
          refine callsH ((((hp0 wr).al (b := wr.heap.size) rfl (by decide)).al (b := wr.heap.size + 1) (by simp) (by decide)).al (b := wr.heap.size + 1 + 1) (by simp) (by decide) |>.al (b := wr.heap.size + 1 + 1 + 1) (by simp) (by decide)) fun W1 HF => ?_
          generalize wr.heap.size + 1 + 1 + 1 = g4 at *
          generalize wr.heap.size + 1 + 1 = g3 at *
          generalize wr.heap.size + 1 = g2 at *
          generalize wr.heap.size = g1 at *
          have Z1 := Lib.hid (zv_one (decide (m < 0)) m.natAbs (by omega) (HF.out.bx 0 rfl))
          have Z2 := Lib.hid (zv_one (decide (n < 0)) n.natAbs (by omega) (HF.out.bx 1 rfl))
          have l3 := HF.out.c 2 rfl
          have l4 := HF.out.c 3 rfl
          have HG := Lib.hid (Gr.trans HGn.out HF.out.1)
          have HTW := Lib.hid (HT.out.gr HG.out)
          clear um un wm wn HF
          refine (smallz_law m n _ (by omega) (by omega) (by omega) (by omega) HTW).mono ?_
          rintro e V1 ⟨rfl, hb1⟩
          have H1 : Gr W1 V1 := hb1
          have H1' := Lib.hid H1
          go_wp2_with fail
          refine (kzSums W1 _ _ _ Z1 Z2 H1'.out HTW).mono ?_
          clear H1
          rintro e V2 ⟨rfl, hb2⟩
          have H2 : Gr W1 V2 := H1'.out.trans hb2
          have H2' := Lib.hid H2
          clear hb1 hb2
          go_wp2_with fail
          refine (kzDivs W1 _ _ _ Z1 Z2 H2'.out HTW).mono ?_
          clear H2
          rintro e V3 ⟨rfl, hb3⟩
          have H3 : Gr W1 V3 := H2'.out.trans hb3
          have H3' := Lib.hid H3
          clear hb3
          go_wp2_with fail
          refine (kzDivides W1 _ _ _ _ Z1 Z2 Z1 H3'.out HTW).mono ?_
          clear H3
          rintro e V4 ⟨rfl, hb4⟩
          have H4 : Gr W1 V4 := H3'.out.trans hb4
          have H4' := Lib.hid H4
          clear hb4
          go_wp2_with fail
          refine (kzRings W1 _ _ _ _ Z1 Z2 Z1 H4'.out HTW).mono ?_
          clear H4
          rintro e V5 ⟨rfl, hb5⟩
          have HG5 := Lib.hid (Gr.trans HG.out (H4'.out.trans hb5))
          clear hb5 l3 l4
          have wi : IntKind.i64.wrap (n + 1) = n + 1 := by rw [IntKind.wrap_i64]; omega
          go_wp2_with fail
          go_roundw
          case rel => exact ⟨n + 1, by omega, by omega, rfl, HG5⟩
          case measure => simp [intOf]; omega
        · have wi : IntKind.i64.wrap (m + 1) = m + 1 := by rw [IntKind.wrap_i64]; omega
          go_wp2_with fail
          go_roundw
          case rel => exact ⟨m + 1, by omega, by omega, rfl, HGn⟩
          case measure => simp [intOf]; omega
    · go_wp2_with fail
      refine forgetH ((hp0 wr).al (b := wr.heap.size) rfl (by decide)) fun W3 HF => ?_
      obtain ⟨B, HB⟩ : ∃ B, Hid (wr.heap.size = B) := ⟨_, Lib.hid rfl⟩
      rw [HB.out] at HF ⊢
      have HV : Hid (∀ j : Nat, j < 9 → ∃ v : Int, -9223372036854775808 ≤ v ∧ v ≤ 9223372036854775807 ∧ ∀ w', Gr W3 w' → w'.cell? ⟨B, j, none⟩ = some (.int .i64 v)) := Lib.hid (fun j hj => by
        have hx := HF.out.c 0 rfl
        rcases (by omega : j = 0 ∨ j = 1 ∨ j = 2 ∨ j = 3 ∨ j = 4 ∨ j = 5 ∨ j = 6 ∨ j = 7 ∨ j = 8) with rfl | rfl | rfl | rfl | rfl | rfl | rfl | rfl | rfl
        all_goals exact ⟨_, by decide, by decide, fun w' hw => hx w' hw _⟩)
      have HG3 := Lib.hid (Gr.trans HGm.out HF.out.1)
      have HT3 := Lib.hid (HT.out.gr HG3.out)
      clear HF HB
      go_loopw [76] (fun i wr => ∃ i' : Nat, i' ≤ 9 ∧ i = .int .i64 ((i' : Nat) : Int) ∧ Hid (Gr W3 wr)) (fun i _ => 9 - (intOf i).toNat)
      case atStart => exact ⟨0, by omega, rfl, Lib.hid (Gr.refl _)⟩
      case round =>
        obtain ⟨i, hi, rfl, HGi⟩ := hrel
        by_cases hin : i < 9
        · obtain ⟨x, xl, xh, hx⟩ := HV.out i hin
          have cx := hx wr HGi.out
          have hin' : (i : Int) < 9 := by omega
          clear hx
          go_wp2_with fail
          clear cx
          obtain ⟨wo, rfl⟩ : ∃ wo : World, wo = wr := ⟨_, rfl⟩
          go_loopw [82] (fun k wr => ∃ k' : Nat, k' ≤ 9 ∧ k = .int .i64 ((k' : Nat) : Int) ∧ Hid (Gr W3 wr)) (fun k _ => 9 - (intOf k).toNat)
          case atStart => exact ⟨0, by omega, rfl, HGi⟩
          case round =>
            obtain ⟨k, hk, rfl, HGk⟩ := hrel
            by_cases hkn : k < 9
            · obtain ⟨y, yl, yh, hy⟩ := HV.out k hkn
              have cy := hy wr HGk.out
              have hkn' : (k : Int) < 9 := by omega
              clear hy
              go_wp2_with fail
              refine (smallz_law x y _ xl xh yl yh (Lib.hid (HT3.out.gr HGk.out))).mono ?_
              rintro e V1 ⟨rfl, hb1⟩
              have HGk1 := Lib.hid (Gr.trans HGk.out hb1)
              clear hb1 cy
              go_wp2_with fail
              go_roundw
              case rel => exact ⟨k + 1, by omega, by go_num, HGk1⟩
              case measure => simp [intOf]; omega
            · have hkn' : ¬ ((k : Int) < 9) := by omega
              go_wp2_with fail
              go_roundw
              case rel => exact ⟨i + 1, by omega, by go_num, HGk⟩
              case measure => simp [intOf]; omega
        · have hin' : ¬ ((i : Int) < 9) := by omega
          go_wp2_with fail
          clear HV
          refine forgetH (((((((hp0 wr).al (b := wr.heap.size) rfl (by decide)).al (b := wr.heap.size + 1) (by simp) (by decide)).al (b := wr.heap.size + 1 + 1) (by simp) (by decide)).al (b := wr.heap.size + 1 + 1 + 1) (by simp) (by decide)).al (b := wr.heap.size + 1 + 1 + 1 + 1) (by simp) (by decide)).al (b := wr.heap.size + 1 + 1 + 1 + 1 + 1) (by simp) (by decide)) fun W4 HF => ?_
          have HG4 := Lib.hid (Gr.trans HG3.out (Gr.trans HGi.out HF.out.1))
          simp only [Nat.add_assoc, Nat.reduceAdd] at HF ⊢
          generalize wr.heap.size + 5 = g6 at *
          generalize wr.heap.size + 4 = g5 at *
          generalize wr.heap.size + 3 = g4 at *
          generalize wr.heap.size + 2 = g3 at *
          generalize wr.heap.size + 1 = g2 at *
          generalize wr.heap.size = g1 at *
          have HT4 := Lib.hid (HT.out.gr HG4.out)
          go_loopw [106] (fun i wr => ∃ i' : Nat, i' ≤ 7 ∧ i = .int .i64 ((i' : Nat) : Int) ∧ Hid (Gr W4 wr)) (fun i _ => 7 - (intOf i).toNat)
          case atStart => exact ⟨0, by omega, rfl, Lib.hid (Gr.refl _)⟩
          case round =>
            obtain ⟨i, hi, rfl, HGi⟩ := hrel
            by_cases hin : i < 7
            · have l1 := fun w' hw => HF.out.c 0 rfl w' (HGi.out.trans hw)
              have l2 := fun w' hw => HF.out.c 1 rfl w' (HGi.out.trans hw)
              have l3 := fun w' hw => HF.out.c 2 rfl w' (HGi.out.trans hw)
              have l4 := fun w' hw => HF.out.c 3 rfl w' (HGi.out.trans hw)
              have l5 := fun w' hw => HF.out.c 4 rfl w' (HGi.out.trans hw)
              have l6 := fun w' hw => HF.out.c 5 rfl w' (HGi.out.trans hw)
              have r0 := Gr.refl wr
              have BX1 := HF.out.bx 0 rfl
              have BX2 := HF.out.bx 1 rfl
              have BX3 := HF.out.bx 2 rfl
              have BX4 := HF.out.bx 3 rfl
              have BX5 := HF.out.bx 4 rfl
              obtain ⟨k, a, v, hk, Z, hq⟩ : ∃ k a v, k ≤ 2 ∧ Hid (ZN W4 v k a) ∧ Hid ((i, v) ∈ [(0, Value.agg #[.bool false, .slice none 0 0]), (1, .agg #[.bool true, .slice none 0 0]), (2, .agg #[.bool true, .slice (some ⟨g1, 0, none⟩) 1 1]), (3, .agg #[.bool true, .slice (some ⟨g2, 0, none⟩) 2 2]), (4, .agg #[.bool false, .slice (some ⟨g3, 0, none⟩) 2 2]), (5, .agg #[.bool true, .slice (some ⟨g4, 0, none⟩) 2 2]), (6, .agg #[.bool true, .slice (some ⟨g5, 0, none⟩) 2 2])] ∧ (In64 a ↔ i < 4)) := by
                rcases (by omega : i = 0 ∨ i = 1 ∨ i = 2 ∨ i = 3 ∨ i = 4 ∨ i = 5 ∨ i = 6) with rfl | rfl | rfl | rfl | rfl | rfl | rfl
                · exact ⟨0, 0, _, by decide, Lib.hid (zn_nil false), Lib.hid ⟨by simp, by unfold In64; decide⟩⟩
                · exact ⟨0, 0, _, by decide, Lib.hid (zn_nil true), Lib.hid ⟨by simp, by unfold In64; decide⟩⟩
                · exact ⟨1, 0, _, by decide, Lib.hid (zn_one true 0 _ (by decide) BX1 rfl), Lib.hid ⟨by simp, by unfold In64; decide⟩⟩
                · exact ⟨2, -9223372036854775808, _, by decide, Lib.hid (zn_two true 0 2147483648 _ (by decide) (by decide) BX2 rfl), Lib.hid ⟨by simp, by unfold In64; decide⟩⟩
                · exact ⟨2, 9223372036854775808, _, by decide, Lib.hid (zn_two false 0 2147483648 _ (by decide) (by decide) BX3 rfl), Lib.hid ⟨by simp, by unfold In64; decide⟩⟩
                · exact ⟨2, -9223372036854775809, _, by decide, Lib.hid (zn_two true 1 2147483648 _ (by decide) (by decide) BX4 rfl), Lib.hid ⟨by simp, by unfold In64; decide⟩⟩
                · exact ⟨2, -18446744073709551615, _, by decide, Lib.hid (zn_two true 4294967295 4294967295 _ (by decide) (by decide) BX5 rfl), Lib.hid ⟨by simp, by unfold In64; decide⟩⟩
              clear BX1 BX2 BX3 BX4 BX5
              have hm := hq.out.1
              have h64 := hq.out.2
              clear hq
              simp only [List.mem_cons, Prod.mk.injEq, List.not_mem_nil, or_false] at hm
              rcases hm with ⟨rfl, rfl⟩ | ⟨rfl, rfl⟩ | ⟨rfl, rfl⟩ | ⟨rfl, rfl⟩ | ⟨rfl, rfl⟩ | ⟨rfl, rfl⟩ | ⟨rfl, rfl⟩
              clear hi hin
              all_goals
                go_wp2_with fail
                clear l1 l2 l3 l4 l5 l6 r0
                refine callsH ((hp0 wr).al (b := wr.heap.size) rfl (by decide)) fun W5 H5 => ?_
                have GW := Lib.hid (Gr.trans HGi.out H5.out.1)
                have y := H5.out.c 0 rfl
                generalize wr.heap.size = g7 at *
                have l1 := fun w' hw => HF.out.c 0 rfl w' (GW.out.trans hw)
                have l2 := fun w' hw => HF.out.c 1 rfl w' (GW.out.trans hw)
                have l3 := fun w' hw => HF.out.c 2 rfl w' (GW.out.trans hw)
                have l4 := fun w' hw => HF.out.c 3 rfl w' (GW.out.trans hw)
                have l5 := fun w' hw => HF.out.c 4 rfl w' (GW.out.trans hw)
                refine (zofk W4 _ _ _ _ Z hk GW.out).mono ?_
                rintro e V1 ⟨rfl, hb1⟩
                have k1 := Lib.hid (Gr.trans (Gr.refl W5) hb1)
                clear hb1
                go_wp2_with fail
                obtain ⟨x, hx⟩ := i64_row a _ V1 h64
                refine hx.mono ?_
                clear hx
                rintro e V2 ⟨rfl, hb2⟩
                have k2 := Lib.hid (k1.out.trans hb2)
                have r2 := k2.out
                clear hb2 k1
                go_wp2_with fail
                clear r2 l1 l2 l3 l4 l5
                refine (kzTexts W4 _ _ (Lib.hid Z.out.zv) (GW.out.trans k2.out) HT4).mono ?_
                rintro e V3 ⟨rfl, hb3⟩
                have k3 := Lib.hid (k2.out.trans hb3)
                have r3 := k3.out
                clear hb3 k2
                go_wp2_with fail
                clear r3
                refine (kzSums W4 _ _ _ (Lib.hid Z.out.zv) (Lib.hid Z.out.zv) (GW.out.trans k3.out) HT4).mono ?_
                rintro e V4 ⟨rfl, hb4⟩
                have k4 := Lib.hid (GW.out.trans (k3.out.trans hb4))
                clear hb4 k3 y
                go_wp2_with fail
                go_roundw
                case rel => first | exact ⟨1, by omega, rfl, k4⟩ | exact ⟨2, by omega, rfl, k4⟩ | exact ⟨3, by omega, rfl, k4⟩ | exact ⟨4, by omega, rfl, k4⟩ | exact ⟨5, by omega, rfl, k4⟩ | exact ⟨6, by omega, rfl, k4⟩ | exact ⟨7, by omega, rfl, k4⟩
                case measure => first | (simp [intOf]; done) | (simp [intOf]; omega)
            · have hin' : ¬ ((i : Int) < 7) := by omega
              go_wp2_with fail
              obtain ⟨wx, rfl⟩ : ∃ wx : World, wx = wr := ⟨_, rfl⟩
              go_loopw [14] (fun s wr => ∃ S : ByteArray, s = .string S ∧ S.size ≤ 4106 ∧ wx = wr) (fun s _ => 4106 - szOf s)
              case atStart => exact ⟨⟨#[]⟩, rfl, by decide, rfl⟩
              case round =>
                obtain ⟨S, rfl, hS, rfl⟩ := hrel
                by_cases hs : S.size < 4096
                · obtain ⟨r, hr, er⟩ : ∃ r : Nat, r < 7 ∧ Int.tmod (S.size : Int) 7 = (r : Int) := ⟨S.size % 7, Nat.mod_lt _ (by decide), rfl⟩
                  have hs' : (S.size : Int) < 4096 := by omega
                  have HS := Lib.hid hS
                  clear hS
                  go_wp2_with fail
                  have hz := suf_size r hr
                  exact ⟨⟨_, rfl, by rw [ByteArray.size_append, hz]; omega, trivial⟩, by show 4106 - (S ++ _).size < 4106 - S.size; rw [ByteArray.size_append, hz]; omega⟩
                · have hs' : 4096 ≤ (S.size : Int) := by omega
                  have HS := Lib.hid hS
                  clear hS
                  go_wp2_with fail
                  go_region
                  refine forgetE (((hp0 wx).al (b := wx.heap.size) rfl (by decide)).gr (Gr.drew _)) fun W6 H6 => ?_
                  have HG6 := Lib.hid (Gr.trans HGi.out H6.out.1)
                  generalize wx.heap.size = B6 at *
                  have HS6 : Hid (∀ j, j < 12 → ∃ T : ByteArray, T.size ≤ 5000 ∧ ∀ w', Gr W6 w' → w'.cell? ⟨B6, j, none⟩ = some (.string T)) := Lib.hid (fun j hj => by
                    have hx := H6.out.c 0 rfl
                    have h1 := ext_size S 4096
                    have h2 := ext_size S 4095
                    rcases (by omega : j = 0 ∨ j = 1 ∨ j = 2 ∨ j = 3 ∨ j = 4 ∨ j = 5 ∨ j = 6 ∨ j = 7 ∨ j = 8 ∨ j = 9 ∨ j = 10 ∨ j = 11) with rfl | rfl | rfl | rfl | rfl | rfl | rfl | rfl | rfl | rfl | rfl | rfl
                    all_goals first
                      | exact ⟨_, by decide, fun w' hw => hx w' hw _⟩
                      | exact ⟨_, by simp only [ByteArray.size_append]; show _ ≤ 5000; generalize (S.extract 0 4096).size = q1 at *; generalize (S.extract 0 4095).size = q2 at *; simp only [show (⟨#[45]⟩ : ByteArray).size = 1 from rfl, show (⟨#[49]⟩ : ByteArray).size = 1 from rfl]; omega, fun w' hw => hx w' hw _⟩)
                  have HT6 := Lib.hid (HT4.out.gr HG6.out)
                  clear H6 HS
                  go_wp2_with fail
                  go_loopw [167] (fun j wr => ∃ j' : Nat, j' ≤ 12 ∧ j = .int .i64 ((j' : Nat) : Int) ∧ Hid (Gr W6 wr)) (fun j _ => 12 - (intOf j).toNat)
                  case atStart => exact ⟨0, by omega, rfl, Lib.hid (Gr.refl _)⟩
                  case round =>
                    obtain ⟨j, hj, rfl, HGj⟩ := hrel
                    by_cases hjn : j < 12
                    · obtain ⟨T, hT, hc⟩ := HS6.out j hjn
                      have hcj := hc wr HGj.out
                      have hjn' : (j : Int) < 12 := by omega
                      clear hc
                      go_wp2_with fail
                      refine (readz_law T _ (by omega) (Lib.hid (HT6.out.gr HGj.out))).mono ?_
                      rintro e V1 ⟨rfl, hb⟩
                      have HGj1 := Lib.hid (Gr.trans HGj.out hb)
                      clear hb hcj
                      go_wp2_with fail
                      go_roundw
                      case rel => exact ⟨j + 1, by omega, by go_num, HGj1⟩
                      case measure => simp [intOf]; omega
                    · have hjn' : ¬ ((j : Int) < 12) := by omega
                      go_wp2_with fail
                      refine (worksz_any _ (Lib.hid (HT6.out.gr HGj.out))).mono ?_
                      rintro e V1 ⟨rfl, hb⟩
                      have HGf := Lib.hid (Gr.trans HG4.out (Gr.trans HG6.out (Gr.trans HGj.out hb)))
                      clear hb
                      go_wp2_with fail
                      exact bodyPost_ret (v := .bool true) (by simp [results, Tryz.results3, go_sem]) rfl ⟨rfl, HGf.out⟩
end Go.Proofs.YtpcfncbcpknobaaGreatDoor
