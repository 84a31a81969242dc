
/- A slice of pairs that stand for fractions. No condition. -/
import Derived.Test.YtobojnodohjiaaaGreatDoorHp
set_option linter.unusedVariables false
set_option linter.unusedSimpArgs false
namespace Go.Proofs.YtobojnodohjiaaaGreatDoor
open Go.RowKit
def Qs (w:World) (v:Value) (n:Nat) (N D:Nat→Int):Prop :=
 (∃ ao c,v=.slice ao n c∧n=0)∨∃ b o c,v=.slice (some ⟨b,o,none⟩) n c∧b<w.heap.size∧∀ i,i<n→w.cell? ⟨b,o+i*2,none⟩=some (.int .i64 (N i))∧w.cell? ⟨b,o+i*2+1,none⟩=some (.int .u32 (D i))
theorem Qs.slice {w:World} {v:Value} {n:Nat} {N D:Nat→Int} (h:Qs w v n N D):∃ ao c,v=.slice ao n c:=by
 rcases h with ⟨ao,c,rfl,_⟩|⟨b,o,c,rfl,_⟩
 ·exact ⟨_,_,rfl⟩
 ·exact ⟨_,_,rfl⟩
def Qb (n:Nat) (N D:Nat→Int):Prop:=∀ i,i<n → -9223372036854775808≤N i∧N i≤9223372036854775807∧0≤D i∧D i≤4294967295
end Go.Proofs.YtobojnodohjiaaaGreatDoor
