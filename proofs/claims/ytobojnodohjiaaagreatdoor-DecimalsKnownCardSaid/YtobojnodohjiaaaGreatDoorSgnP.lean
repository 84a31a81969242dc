
/- plain facts of signs. -/
import Derived.Test.YtobojnodohjiaaaGreatDoorPN
set_option linter.unusedVariables false
set_option linter.unusedSimpArgs false
namespace Go.Proofs.YtobojnodohjiaaaGreatDoor
open Go.RowKit
attribute [local go_sem ↓] Go.wp_at_zero Go.wp_at_succ
theorem qz7 {x y:Rat} (h:x≤y):¬ 0<sgQ (x - y):=by
 rcases qk3 (x - y) with ⟨_,e⟩|⟨_,e⟩|⟨h1,_⟩
 ·rw [e];decide
 ·rw [e];decide
 exfalso;grind
theorem xG6 {x y:Rat} (h:¬ 0<sgQ (x - y)):x≤y:=by
 rcases qk3 (x - y) with ⟨h1,_⟩|⟨h1,_⟩|⟨_,e⟩
 ·grind
 ·grind
 exact absurd (show 0<sgQ (x - y) by rw [e];decide) h
theorem xG2 {x y:Rat} (h:0<sgQ (x - y)):y≤x:=by
 rcases qk3 (x - y) with ⟨_,e⟩|⟨_,e⟩|⟨h1,_⟩
 ·rw [e] at h;exact absurd h (by decide)
 ·rw [e] at h;exact absurd h (by decide)
 grind
theorem qv0 {m:Int} (h:0≤m):∃ r:Nat,Int.tmod m 101=(r:Int)∧r≤100:=⟨(m % 101).toNat,by rw [Int.tmod_eq_emod_of_nonneg h];omega,by omega⟩
end Go.Proofs.YtobojnodohjiaaaGreatDoor
