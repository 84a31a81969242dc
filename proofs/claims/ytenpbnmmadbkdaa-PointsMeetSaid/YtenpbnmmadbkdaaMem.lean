/- Rows of words in memory: what a block holds, and how that is kept. No condition. -/
import Derived.Test.YtenpbnmmadbkdaaNat
import Derived.Test.YtenpbnmmadbkdaaRows
import Derived.WalkKit
import Derived.Deep.OwnRows
import Derived.Deep.Draws
import Derived.Lib.Hide
import Derived.Laws.CopyOwn
namespace Go.Proofs.Ytenpbnmmadbkdaa
open Go.RowKit

def lenOf : Value → Nat | .slice _ l _ => l | _ => 0

/-- block b is a row of n words, word i being f i -/
def Ws (w : World) (b n : Nat) (f : Nat → Nat) : Prop := w.rowIs b 22 n (fun i => .int .u32 ((f i : Nat) : Int))

section
variable {w w' : World} {b n : Nat} {f g : Nat → Nat}
theorem Ws.cell (h : Ws w b n f) {i : Nat} (hi : i < n) : w.cell? ⟨b, i, none⟩ = some (.int .u32 ((f i : Nat) : Int)) := World.rowIs.cell h hi
theorem Ws.frozen (h : Ws w b n f) (i : Nat) : w.frozen? ⟨b, i, none⟩ = false := World.rowIs.frozen h i
theorem Ws.lt (h : Ws w b n f) : b < w.heap.size := World.rowIs.lt h
theorem Ws.congr (h : Ws w b n f) (e : ∀ i, i < n → f i = g i) : Ws w b n g := World.rowIs.congr h (fun i hi => by rw [e i hi])
theorem Ws.below {B : Nat} (h : Ws w b n f) (hb : Below B w w') (hlt : b < B) : Ws w' b n f := World.rowIs.of_block h (hb.block b hlt)
theorem Ws.set (h : Ws w b n f) (i v : Nat) : Ws (w.setCell ⟨b, i, none⟩ (.int .u32 ((v : Nat) : Int))) b n (fun j => if j = i then v else f j) :=
  World.rowIs.congr (World.rowIs.set h i _) (fun j _ => by by_cases e : j = i <;> simp [e])
theorem Ws.setOther (h : Ws w b n f) {a : Addr} (ha : b ≠ a.block) (v : Value) : Ws (w.setCell a v) b n f := World.rowIs.setOther h ha v
theorem Ws.alloc (h : Ws w b n f) (o : Obj) : Ws (w.alloc o) b n f := World.rowIs.alloc h o
theorem Ws.drew (h : Ws w b n f) : Ws w.drew b n f := World.rowIs.drew h
theorem Ws.drewN (h : Ws w b n f) (k : Nat) : Ws (w.drewN k) b n f := h
theorem Ws.made (w : World) (n : Nat) : Ws (w.alloc (.cells (madeCells #[.int .u32 0] n) 22)) w.heap.size n (fun _ => 0) := World.rowIs_made w _ n _
end

theorem below_drewN {B : Nat} {a w : World} (h : Below B a w) (n : Nat) : Below B a (w.drewN n) := ⟨h.os, h.tape, h.output, h.size, h.block⟩

/-- what a call leaves that was there -/
theorem bcell {W w1 : World} (hb : Below W.heap.size W w1) : (∀ b o, b < W.heap.size → w1.cell? ⟨b, o, none⟩ = W.cell? ⟨b, o, none⟩) ∧ (∀ b o, b < W.heap.size → w1.frozen? ⟨b, o, none⟩ = W.frozen? ⟨b, o, none⟩) :=
  ⟨fun b o h => hb.cell (p := ⟨b, o, none⟩) h, fun b o h => hb.frozen (p := ⟨b, o, none⟩) h⟩

/-- the cells of a world's own blocks, in every world that has grown out of it: the walk's rule at a region that draws its order -/
theorem held (W0 : World) : ∀ w' : World, Below W0.heap.size W0 w' → ∀ b o, b < W0.heap.size → w'.cell? ⟨b, o, none⟩ = W0.cell? ⟨b, o, none⟩ := fun _ h b o hb => h.cell (p := ⟨b, o, none⟩) hb
/-- growing on -/
theorem grow {W0 w1 w2 : World} (h : Below W0.heap.size W0 w1) (k : Below w1.heap.size w1 w2) : Below W0.heap.size W0 w2 := h.trans (k.mono h.size)

theorem info_u32 : (Try.prog.info? 22).map (fun i => (i.zero, i.size, i.bytes)) = some (some (.int .u32 0), 1, 4) := by kernel_rfl
theorem size_u32 : (Try.prog.info? 22).map (·.size) = some 1 := by kernel_rfl

/-- 'make([]uint32, n)' -/
theorem make_ws (k : Int) (n : Nat) (hk : k = (n : Int)) (h : n ≤ 4398046511104) (W : World) : (Instr.makeSlice 94 (.int .i64 k) (.int .i64 k)).run Try.prog W = .ok (.slice (some ⟨W.heap.size, 0, none⟩) n n) (W.alloc (.cells (madeCells #[.int .u32 0] n) 22)) := by
  subst hk
  exact run_make_row' (P := Try.prog) 94 22 (.int .u32 0) 4 Try.underlying94 info_u32 rfl .i64 .i64 n (by omega) (by omega) W

/-- 'copy(out, x)', out a row of the call's own, at least as long as x -/
theorem copy_ws {w : World} {ops : Array Oper} {rest : List Oper} {o : Oper} {a : Act} {Q : Exit → Act → World → Prop} (hgd : o.guard = none) (d s : Operand)
    (ho : o.op = .call { callee := .builtin .copy, args := #[d, s], argTypes := #[94, 94] }) (g N dCap b n sCap : Nat)
    (hd : a.eval d = .slice (some ⟨g, 0, none⟩) N dCap) (hs : a.eval s = .slice (some ⟨b, 0, none⟩) n sCap) (hnN : n ≤ N) (F f : Nat → Nat) (hg : Ws w g N F)
    (hc : ∀ i, i < n → w.cell? ⟨b, i, none⟩ = some (.int .u32 ((f i : Nat) : Int))) (B : Nat) (w0 : World) (hb : Below B w0 w) (hBg : B ≤ g)
    (h : ∀ w', Ws w' g N (fun i => if i < n then f i else F i) → Below B w0 w' → w'.heap.size = w.heap.size → wpList Try.prog ops Q rest (a.put o.dst (.int .i64 ((n : Nat) : Int))) w') :
    wpList Try.prog ops Q (o :: rest) a w := by
  obtain ⟨c, hh, hsz, hcc⟩ := hg
  have hcs : (((List.range n).map fun i => Value.int .u32 ((f i : Nat) : Int))).length = n := by simp
  refine wpList_copy_own hgd d s 94 94 ho 22 Try.underlying94 size_u32 g 0 N dCap ⟨b, 0, none⟩ n sCap hd hs c 22 hh ((List.range n).map fun i => Value.int .u32 ((f i : Nat) : Int)) ?_ ?_ ?_ ?_ ?_
  · rw [hcs]; exact (Nat.min_eq_left hnN).symm
  · intro j v hj
    have hjn : j < n := by
      have := (List.getElem?_eq_some_iff.1 hj).1
      simpa using this
    have e : (⟨b, 0, none⟩ : Addr).add j = ⟨b, j, none⟩ := by unfold Addr.add; split <;> simp_all
    rw [e, hc j hjn]
    simp [hjn] at hj
    rw [hj]
  · rw [hcs, hsz]; omega
  · intro v hv
    simp at hv
    obtain ⟨i, _, rfl⟩ := hv
    rfl
  · rw [hcs]
    refine h _ ⟨_, setRow_heap w g _ _ 22 _ hh, ?_, ?_⟩ (below_setRow hb hBg _) (by simp [World.setRow])
    · simp [hsz]; omega
    · intro i hi
      by_cases e : i < n
      · simp only [List.take_zero, List.nil_append, Nat.zero_add, List.getElem?_toArray, e, if_true]
        rw [List.getElem?_append_left (by simpa using e)]
        simp [e]
      · have e2 : n + (i - n) = i := by omega
        have := hcc i hi
        simp only [List.take_zero, List.nil_append, Nat.zero_add, List.getElem?_toArray, e, if_false]
        rw [List.getElem?_append_right (by simpa using e), hcs, List.getElem?_drop, e2, Array.getElem?_toList]
        exact this

end Go.Proofs.Ytenpbnmmadbkdaa
