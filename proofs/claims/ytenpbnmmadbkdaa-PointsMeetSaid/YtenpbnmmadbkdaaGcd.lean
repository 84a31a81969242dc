/- nats.Gcd. -/
import Derived.Test.YtenpbnmmadbkdaaDiv
import Derived.Deep.LoopGhost
namespace Go.Proofs.Ytenpbnmmadbkdaa
open Go.RowKit

/-- the two numbers in their boxes, and the result's box -/
structure GcdRow (s x y : Nat) (wr : World) : Prop where
  x0 : wr.cell? ⟨s, 0, none⟩ = some (.int .u64 ((lo x : Nat) : Int))
  x1 : wr.cell? ⟨s, 1, none⟩ = some (.string (bg x))
  y0 : wr.cell? ⟨s + 1, 0, none⟩ = some (.int .u64 ((lo y : Nat) : Int))
  y1 : wr.cell? ⟨s + 1, 1, none⟩ = some (.string (bg y))
  r0 : wr.cell? ⟨s + 1 + 1, 0, none⟩ = some (.int .u64 0)
  r1 : wr.cell? ⟨s + 1 + 1, 1, none⟩ = some (.string ⟨#[]⟩)
  fx0 : wr.frozen? ⟨s, 0, none⟩ = false
  fx1 : wr.frozen? ⟨s, 1, none⟩ = false
  fy0 : wr.frozen? ⟨s + 1, 0, none⟩ = false
  fy1 : wr.frozen? ⟨s + 1, 1, none⟩ = false
  fr0 : wr.frozen? ⟨s + 1 + 1, 0, none⟩ = false
  fr1 : wr.frozen? ⟨s + 1 + 1, 1, none⟩ = false
  size : s + 1 + 1 < wr.heap.size

theorem GcdRow.grow {s x y : Nat} {wr w' : World} (h : GcdRow s x y wr) (hb : Below wr.heap.size wr w') : GcdRow s x y w' := by
  have h1 := held wr w' hb
  have h2 := heldf wr w' hb
  have hs := h.size
  have hs2 := hb.size
  exact ⟨(h1 _ _ (by omega)).trans h.x0, (h1 _ _ (by omega)).trans h.x1, (h1 _ _ (by omega)).trans h.y0, (h1 _ _ (by omega)).trans h.y1, (h1 _ _ (by omega)).trans h.r0, (h1 _ _ (by omega)).trans h.r1,
    (h2 _ _ (by omega)).trans h.fx0, (h2 _ _ (by omega)).trans h.fx1, (h2 _ _ (by omega)).trans h.fy0, (h2 _ _ (by omega)).trans h.fy1, (h2 _ _ (by omega)).trans h.fr0, (h2 _ _ (by omega)).trans h.fr1, by omega⟩

theorem GcdRow.set {s x y z : Nat} {W : World} (h : GcdRow s x y W) : GcdRow s y z ((((W.setCell ⟨s, 0, none⟩ (.int .u64 ((lo y : Nat) : Int))).setCell ⟨s, 1, none⟩ (.string (bg y))).setCell ⟨s + 1, 0, none⟩ (.int .u64 ((lo z : Nat) : Int))).setCell ⟨s + 1, 1, none⟩ (.string (bg z))).drew := by
  obtain ⟨x0, x1, y0, y1, r0, r1, fx0, fx1, fy0, fy1, fr0, fr1, hs⟩ := h
  constructor <;> simp [go_sem, x0, x1, y0, y1, r0, r1, fx0, fx1, fy0, fy1, fr0, fr1, hs]

set_option maxHeartbeats 1000000 in
set_option maxRecDepth 100000 in
theorem gcd_any (a b : Nat) (w : World) (ha : wl a ≤ 549755813888) (hb : wl b ≤ 549755813888) :
    Calls Try.prog 53 #[(Value.agg #[.int .u64 ((lo (a) : Nat) : Int), .string (bg (a))]), (Value.agg #[.int .u64 ((lo (b) : Nat) : Int), .string (bg (b))])] w fun e w' => e = .returned (Value.agg #[.int .u64 ((lo (Nat.gcd a b) : Nat) : Int), .string (bg (Nat.gcd a b))]) ∧ Below w.heap.size w w' := by
  obtain ⟨W0, HW⟩ : ∃ W0, Hid (((w.alloc (.cells #[.int .u64 ((lo a : Nat) : Int), .string (bg a)] 30)).alloc (.cells #[.int .u64 ((lo b : Nat) : Int), .string (bg b)] 30)).alloc (.cells #[.int .u64 0, .string ⟨#[]⟩] 30) = W0) := ⟨_, Lib.hid rfl⟩
  have HR0 : GcdRow w.heap.size a b W0 := by
    rw [← HW.out]
    constructor <;> simp [go_sem]
  have h0 := Lib.hid (show Below w.heap.size w W0 by rw [← HW.out]; exact (((Below.refl _ _).alloc (Nat.le_refl _) _).alloc (by simp) _).alloc (by simp; omega) _)
  go_enter Try.func53, Try.ntmps53
  go_wp2_with fail
  rw [HW.out]
  go_loopg [] b (fun k wr => ∃ x, Nat.gcd x k = Nat.gcd a b ∧ wl x ≤ 549755813888 ∧ wl k ≤ 549755813888 ∧ GcdRow w.heap.size x k wr ∧ Below w.heap.size w wr)
  case atStart => exact ⟨a, rfl, ha, hb, HR0, h0.out⟩
  case round =>
    obtain ⟨x, hg, hx, hk, hrow, hbel⟩ := hrel
    have HG := Lib.hid hg
    have HB := Lib.hid hbel
    have q1 := hrow.y0
    have q2 := hrow.y1
    clear hg hbel HR0 h0 HW
    by_cases hk0 : gk = 0
    · subst hk0
      have hd : decide ((0 : Nat) = 0) = true := rfl
      go_wp2_with fail
      refine (zero_any 0 wr).mono ?_
      rintro e w1 ⟨rfl, hb1⟩
      obtain ⟨x0, x1, y0, y1, r0, r1, fx0, fx1, fy0, fy1, fr0, fr1, hsz⟩ := hrow.grow hb1
      have HB1 := Lib.hid (hb1.mono (show w.heap.size ≤ wr.heap.size by have := hrow.size; omega))
      clear hrow hb1 q1 q2
      go_wp2_with fail
      have hgx : x = Nat.gcd a b := by rw [← HG.out]; exact (Nat.gcd_zero_right x).symm
      exact bodyPost_ret (v := (Value.agg #[.int .u64 ((lo (x) : Nat) : Int), .string (bg (x))])) (by simp [results, Try.results53, go_sem, r0, r1]) rfl
        ⟨by rw [hgx], ((HB.out.trans HB1.out).setCell (by show w.heap.size ≤ w.heap.size + 1 + 1; omega) _).setCell (by show w.heap.size ≤ w.heap.size + 1 + 1; omega) _⟩
    · have hd : decide (gk = 0) = false := decide_eq_false hk0
      have hsz := hrow.size
      go_wp2_with fail
      refine (zero_any gk wr).mono ?_
      rintro e w1 ⟨rfl, hb1⟩
      have hrow1 := hrow.grow hb1
      have HB1 := Lib.hid hb1
      have p1 := hrow1.x0
      have p2 := hrow1.x1
      have p3 := hrow1.y0
      have p4 := hrow1.y1
      clear hb1 q1 q2
      go_wp2_with fail
      refine (div_any x gk w1 hx hk).mono ?_
      rintro e w2 ⟨he, hb2⟩
      rw [if_neg hk0] at he
      subst he
      have hrow2 := hrow1.grow hb2
      have HB2 := Lib.hid (grow HB1.out hb2)
      clear hb2 p1 p2 p3 p4
      go_wp2_with fail
      obtain ⟨W3, HW3⟩ : ∃ W3, Hid ((w2.alloc (.cells #[.int .u64 ((lo (x / gk) : Nat) : Int), .string (bg (x / gk))] 30)).alloc (.cells #[.int .u64 ((lo (x % gk) : Nat) : Int), .string (bg (x % gk))] 30) = W3) := ⟨_, Lib.hid rfl⟩
      have hB3 : Below w2.heap.size w2 W3 := by rw [← HW3.out]; exact ((Below.refl _ _).alloc (Nat.le_refl _) _).alloc (by simp) _
      have m0 : W3.cell? ⟨w2.heap.size + 1, 0, none⟩ = some (.int .u64 ((lo (x % gk) : Nat) : Int)) := by rw [← HW3.out]; simp [go_sem]
      have m1 : W3.cell? ⟨w2.heap.size + 1, 1, none⟩ = some (.string (bg (x % gk))) := by rw [← HW3.out]; simp [go_sem]
      rw [HW3.out]
      have hne : w2.heap.size + 1 ≠ w.heap.size := by have := hrow2.size; omega
      have hne2 : w2.heap.size ≠ w.heap.size := by have := hrow2.size; omega
      obtain ⟨x0, x1, y0, y1, r0, r1, fx0, fx1, fy0, fy1, fr0, fr1, hsz3⟩ := hrow2.grow hB3
      have HB3 := Lib.hid (grow HB2.out hB3)
      have HROW := Lib.hid (GcdRow.set (z := x % gk) (hrow2.grow hB3))
      clear hrow hrow1 hrow2 hB3 HW3
      go_region
      all_goals
        go_wp2_with fail
        go_roundg (x % gk)
        case measure => exact Nat.mod_lt _ (by omega)
        case rel =>
          have hmx : wl (x % gk) ≤ 549755813888 := Nat.le_trans (wl_mono (Nat.le_of_lt (Nat.mod_lt x (show 0 < gk by omega)))) hk
          refine ⟨gk, ?_, hk, hmx, HROW.out, ?_⟩
          · rw [Nat.gcd_comm, ← Nat.gcd_rec, Nat.gcd_comm]
            exact HG.out
          · exact (((((HB.out.trans (HB3.out.mono (by omega))).setCell (Nat.le_refl _) _).setCell (Nat.le_refl _) _).setCell (by show w.heap.size ≤ w.heap.size + 1; omega) _).setCell (by show w.heap.size ≤ w.heap.size + 1; omega) _).drew
end Go.Proofs.Ytenpbnmmadbkdaa
