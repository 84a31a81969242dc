
/- gussetlaw02: Of, Ref. -/
import Derived.Test.YtaflakcemiilaaaGreatDoorHp
import Derived.Test.YtaflakcemiilaaaGreatDoorIntE
import Derived.Test.YtaflakcemiilaaaGreatDoorPJ
import Derived.Test.YtaflakcemiilaaaGreatDoorPT
namespace Go.Proofs.YtaflakcemiilaaaGreatDoor
open Go.RowKit
set_option linter.unusedSimpArgs false
set_option linter.unusedVariables false
attribute [local go_sem ↓] Go.wp_at_zero Go.wp_at_succ
attribute [local go_sem ↓] eq_nat eq_nat_zero eq_int
set_option maxRecDepth 20000 in
set_option maxHeartbeats 4000000 in
theorem zlof (bx : Bool) (kx : Nat) (fx : Nat → Nat) (mx : Nat) (a : Int) (ao_x : Option Addr) (c_x : Nat) (w : World) (HWx : Hid (Wa w (.slice ao_x kx c_x) kx fx)) (HFx : Hid (∀ i, i < kx → fx i < 4294967296)) (HVx : Hid (vl fx kx = mx)) (HAx : Hid ((if bx then -((mx : Nat) : Int) else ((mx : Nat) : Int)) = a)) (hkx : kx ≤ 100) (hmx : wl mx ≤ 100) :
    Calls Tryz.prog 121 #[(Value.agg #[.bool (bx), (.slice ao_x kx c_x)])] w fun e w' => e = .returned (.agg #[.int .u64 ((lo (Int.natAbs (a)) : Nat) : Int), .string (bg (Int.natAbs (a))), .bool (decide ((a) < 0))]) ∧ Below w.heap.size w w' := by
  go_enter Tryz.func121, Tryz.ntmps121
  have HF := Lib.hid (hp0 w)
  refine kS fun K hK => ?_
  refine wp_region_lit ?_
  go_wp2
  refine hK.out _ _ ?_; clear hK K
  show Code.wp _ _ _ _ _
  refine fH (((HF.out).al (b := w.heap.size) (by first | rfl | simp) (by decide)).al (b := w.heap.size + 1) (by first | rfl | simp) (by decide)) fun Wx0 HG => ?_
  clear HF; have HF := HG; clear HG
  generalize w.heap.size + 1 = gx1 at *
  have HB := HPb HF
  have HZ1 : Hid ((if bx then -((mx : Nat) : Int) else ((mx : Nat) : Int)) = a) := Lib.hid (HAx.out)
  have su1 : wl (Int.natAbs (a)) ≤ 100 := by have e := HZ1.out; first | omega | (rw [← e]; split <;> simp <;> omega)
  have lx0 := HF.out.c 0 rfl
  refine kS fun K hK => ?_
  refine pd 6 [(true, 0), (true, 1), (true, 2), (true, 3), (true, 4), (true, 5)] fun T hT => ?_
  iterate 4 refine tk ?_
  refine ck Tryz.call203 (fun w' hw => zmade _ kx fx mx w _ HVx.out (by omega) HWx.out (Gr.trans HB.out hw) HFx.out) ?_
  refine ck Tryz.call113 (fun w' hw => from_any (bx) (mx) (a) _ HZ1.out) ?_
  refine nlD hT HF fun vw1 HG => ?_
  clear hT T HF lx0 HB
  have lx1 := HG.out.c 1 rfl; have fx1 := HG.out.f 1 rfl
  have r0 := Gr.refl vw1
  go_wp2
  refine hK.out _ _ ?_; clear hK K
  show Code.wp _ _ _ _ _
  clear r0 lx1 fx1
  refine fH ((((HG.out).put2 1 0 rfl).put 1 2 _ rfl).er 0) fun Wx1 HF => ?_
  clear HG
  refine wp_ret ?_
  try simp only [Exit.then, Exit.inBlock]
  have lx1 := HF.out.c 0 rfl
  have r0 := Gr.refl Wx1
  exact bodyPost_ret (v := .agg #[.int .u64 ((lo (Int.natAbs (a)) : Nat) : Int), .string (bg (Int.natAbs (a))), .bool (decide ((a) < 0))]) (by simp [results, Tryz.results121, go_sem, lx1 _ r0]) rfl ⟨rfl, HF.out.1⟩

end Go.Proofs.YtaflakcemiilaaaGreatDoor
