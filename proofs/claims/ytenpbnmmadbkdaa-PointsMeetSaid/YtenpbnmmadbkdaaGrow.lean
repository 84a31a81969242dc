/- Regions that draw their order and whose operations only let the world grow, up to a chain of stores at the end: one walk in the order of the text serves every order. Condition: the Bool 'growB' of the region's own edges. -/
import Derived.Deep.QuietTactic
import Derived.StillTail
import Derived.BigCall
import Derived.WalkKit
import Derived.Below
namespace Go.Proofs.Ytenpbnmmadbkdaa
open Go.RowKit

/-- w' has grown out of w -/
def Gr (w w' : World) : Prop := Below w.heap.size w w'
theorem Gr.refl (w : World) : Gr w w := Below.refl _ _
theorem Gr.trans {a b c : World} (h : Gr a b) (k : Gr b c) : Gr a c := Below.trans h (Below.mono k h.size)
theorem Gr.drew (w : World) : Gr w w.drew := Below.drew (Below.refl _ _)
theorem Gr.alloc (w : World) (o : Obj) : Gr w (w.alloc o) := (Below.refl _ w).alloc (Nat.le_refl _) o
theorem Gr.block {w w' : World} (h : Gr w w') {k : Nat} {o : Obj} (hk : w.heap[k]? = some o) : w'.heap[k]? = some o := by
  rw [Below.block h k (Array.getElem?_eq_some_iff.1 hk).1]; exact hk

section
variable {P : Program} {ops : Array Oper} {md : Region.Mode} {W : World}

/-- In every world that has grown out of W the operation hands back v, and the world grows. -/
def Yg (P : Program) (ops : Array Oper) (W : World) (o : Oper) (v : Value) (a : Act) : Prop :=
  (Region.wanted o (yielded ops a.tmps) = true ∧ ∀ w, Gr W w → o.quietAt P a (Gr w) w v) ∨ (Region.wanted o (yielded ops a.tmps) = false ∧ v = undef)

/-- What an operation of the region's head may do. -/
def hUpon (P : Program) (o : Oper) (a : Act) (w : World) (K : Act → World → Prop) : Result Next → Prop
  | .ok (.value v) w' => Gr w w' ∧ K (a.put o.dst v) w'
  | .ok .skip w' => Gr w w' ∧ K (a.put o.dst undef) w'
  | .ok (.enter f args) w' => w' = w ∧ ∃ v, Calls P f args w fun e w'' => e = .returned v ∧ Gr w w'' ∧ K (a.put o.dst v) w''
  | _ => False
def hOp (P : Program) (ops : Array Oper) (i : Nat) (K : Act → World → Prop) (a : Act) (w : World) : Prop :=
  ∃ o, ops[i]? = some o ∧ if Region.wanted o (yielded ops a.tmps) then hUpon P o a w K ((execOp a.eval o).run P w) else K (a.put o.dst undef) w

theorem hOp_mono {i : Nat} {K K' : Act → World → Prop} {a : Act} {w : World} (h : ∀ a' w', Gr w w' → K a' w' → K' a' w') (hh : hOp P ops i K a w) : hOp P ops i K' a w := by
  obtain ⟨o, ho, hh⟩ := hh
  refine ⟨o, ho, ?_⟩
  split
  · rename_i hw
    rw [if_pos hw] at hh
    generalize (execOp a.eval o).run P w = r at *
    cases r with
    | ok n w' =>
      cases n <;> simp only [hUpon] at hh ⊢
      case value u => exact ⟨hh.1, h _ _ hh.1 hh.2⟩
      case skip => exact ⟨hh.1, h _ _ hh.1 hh.2⟩
      case enter f args =>
        obtain ⟨e, v, hc⟩ := hh
        exact ⟨e, v, hc.mono fun e w'' ⟨h1, h2, h3⟩ => ⟨h1, h2, h _ _ h2 h3⟩⟩
    | halt x w' => exact hh.elim
  · rename_i hw
    rw [if_neg hw] at hh
    exact h _ _ (Gr.refl _) hh

theorem wpOp_of_hOp {i : Nat} {K K' : Act → World → Prop} {Q : Exit → Act → World → Prop} {a : Act} {w : World} (h : ∀ a' w', K a' w' → K' a' w') (hh : hOp P ops i K a w) : wpOp P ops Q i K' a w := by
  obtain ⟨o, ho, hh⟩ := hh
  unfold wpOp
  simp only [ho]
  split
  · rename_i hw
    rw [if_pos hw] at hh
    refine .inl ?_
    unfold Oper.wp
    generalize (execOp a.eval o).run P w = r at *
    cases r with
    | ok n w' =>
      cases n <;> simp only [hUpon] at hh <;> simp only [Oper.upon]
      case value u => exact h _ _ hh.2
      case skip => exact h _ _ hh.2
      case enter f args =>
        obtain ⟨e, v, hc⟩ := hh
        rw [e]
        exact hc.mono fun e w'' ⟨h1, h2, h3⟩ => by subst h1; exact h _ _ h3
    | halt x w' => exact hh.elim
  · rename_i hw
    rw [if_neg hw] at hh
    exact h _ _ hh

theorem Yg.hOp {i : Nat} {o : Oper} {v : Value} {a : Act} {w : World} (hi : ops[i]? = some o) (hy : Yg P ops W o v a) (hw : Gr W w) {K : Act → World → Prop} (h : ∀ w', Gr w w' → K (a.put o.dst v) w') : hOp P ops i K a w := by
  refine ⟨o, hi, ?_⟩
  rcases hy with ⟨h1, h2⟩ | ⟨h1, rfl⟩
  · rw [if_pos h1]
    have h3 := h2 w hw
    unfold Oper.quietAt at h3
    generalize (execOp a.eval o).run P w = r at *
    cases r with
    | ok n w' =>
      cases n <;> simp only [Oper.quietUpon] at h3 <;> simp only [hUpon]
      case value u => obtain ⟨e1, e2⟩ := h3; rw [e1, e2]; exact ⟨Gr.refl _, h _ (Gr.refl _)⟩
      case skip => obtain ⟨e1, e2⟩ := h3; rw [e1, ← e2]; exact ⟨Gr.refl _, h _ (Gr.refl _)⟩
      case enter f args => obtain ⟨e1, hc⟩ := h3; exact ⟨e1, v, hc.mono fun e w'' ⟨he, hg⟩ => ⟨he, hg, h _ hg⟩⟩
    | halt x w' => simp only [Oper.quietUpon] at h3
  · rw [if_neg (by rw [h1]; decide)]
    exact h _ (Gr.refl _)

theorem Yg.of_same {o : Oper} {v : Value} {a a' : Act} (hy : Yg P ops W o v a) (he : execOp a'.eval o = execOp a.eval o) (hw : Region.wanted o (yielded ops a'.tmps) = Region.wanted o (yielded ops a.tmps)) : Yg P ops W o v a' := by
  unfold Yg Oper.quietAt at *
  rw [he, hw]
  exact hy

/-- An operation apart from a taken one. -/
theorem hOp_put {j : Nat} {oi oj : Oper} {v : Value} (hj : ops[j]? = some oj) (hap : oi.apart ops oj = true) (hsi : ∀ cs b, oi.op ≠ .select cs b) (hsj : ∀ cs b, oj.op ≠ .select cs b)
    {K : Act → World → Prop} {a : Act} {w : World} (hy : Yg P ops W oi v a) (h : hOp P ops j K (a.put oi.dst v) w) : hOp P ops j (fun a' w' => Yg P ops W oi v a' ∧ K (a'.put oi.dst v) w') a w := by
  obtain ⟨h1, h2, h3⟩ := Oper.apart_spec hap
  have keep : ∀ u, Yg P ops W oi v (a.put oj.dst u) := fun u => hy.of_same (execOp_put oi hsi a oj.dst u h3) (wanted_put oi a oj.dst u h3)
  obtain ⟨o, ho, h⟩ := h
  obtain rfl : oj = o := Option.some.inj (hj.symm.trans ho)
  refine ⟨oj, hj, ?_⟩
  rw [wanted_put oj a oi.dst v h1, execOp_put oj hsj a oi.dst v h1] at h
  split
  · rename_i hw
    rw [if_pos hw] at h
    generalize (execOp a.eval oj).run P w = r at *
    cases r with
    | ok n w' =>
      cases n <;> simp only [hUpon] at h ⊢
      case value u => exact ⟨h.1, keep u, by rw [← Act.put_comm a v u h2]; exact h.2⟩
      case skip => exact ⟨h.1, keep _, by rw [← Act.put_comm a v undef h2]; exact h.2⟩
      case enter f args =>
        obtain ⟨e, u, hc⟩ := h
        exact ⟨e, u, hc.mono fun e w'' ⟨g1, g2, g3⟩ => ⟨g1, g2, keep u, by rw [← Act.put_comm a v u h2]; exact g3⟩⟩
    | halt x w' => exact h.elim
  · rename_i hw
    rw [if_neg hw] at h
    exact ⟨keep _, by rw [← Act.put_comm a v undef h2]; exact h⟩

/-- Whatever order is picked within the head; between two operations the world may have grown. -/
def wpGL (P : Program) (md : Region.Mode) (ops : Array Oper) (n : Nat) (L : Array Bool → Act → World → Prop) : Nat → Array Bool → Act → World → Prop
  | 0, listed, a, w => L listed a w
  | f + 1, listed, a, w => (∃ i, i ∈ Region.ready md ops listed ∧ i < n) ∧ ∀ i ∈ Region.ready md ops listed, i < n → ∀ w', Gr w w' → hOp P ops i (wpGL P md ops n L f (listed.setIfInBounds i true)) a w'

variable {n : Nat} {L : Array Bool → Act → World → Prop}
theorem wpGL_mono (hL : ∀ listed a w w', Gr w w' → L listed a w → L listed a w') : ∀ (f : Nat) (listed : Array Bool) (a : Act) (w w' : World), Gr w w' → wpGL P md ops n L f listed a w → wpGL P md ops n L f listed a w'
  | 0, _, _, _, _, hg, h => hL _ _ _ _ hg h
  | _ + 1, _, _, _, _, hg, h => ⟨h.1, fun i hi hin w2 hw2 => h.2 i hi hin w2 (hg.trans hw2)⟩

/-- A quiet operation that may come up may be taken first. -/
theorem wpGL_first {i : Nat} {oi : Oper} {v : Value} (hi : ops[i]? = some oi) (hsel : ∀ (j : Nat) (o : Oper) cs b, ops[j]? = some o → o.op ≠ .select cs b) (hin : i < n)
    (hL : ∀ listed a w w', Gr w w' → L listed a w → L listed a w') (hdone : ∀ listed a w, L listed a w → ∀ j ∈ Region.ready md ops listed, n ≤ j) :
    ∀ (f : Nat) (listed : Array Bool) (a : Act) (w : World), Gr W w →
      (∀ j oj, ops[j]? = some oj → j ≠ i → listed.getD j true = false → (∀ e ∈ oj.after, Region.binds md e = true → e.on ≠ i) → oi.apart ops oj = true) →
      i ∈ Region.ready md ops listed → Yg P ops W oi v a → wpGL P md ops n L f (listed.setIfInBounds i true) (a.put oi.dst v) w → wpGL P md ops n L (f + 1) listed a w := by
  intro f
  induction f with
  | zero =>
    intro listed a w hW _ hr hy H
    refine ⟨⟨i, hr, hin⟩, fun j hj hjn w' hw' => ?_⟩
    by_cases hji : j = i
    · subst hji
      exact hy.hOp hi (hW.trans hw') fun w2 hw2 => hL _ _ _ _ (hw'.trans hw2) H
    · have := hdone _ _ _ H j (ready_mono hj hji)
      omega
  | succ f ih =>
    intro listed a w hW hfree hr hy H
    have hun := (mem_ready.1 hr).1
    refine ⟨⟨i, hr, hin⟩, fun j hj hjn w' hw' => ?_⟩
    by_cases hji : j = i
    · subst hji
      exact hy.hOp hi (hW.trans hw') fun w2 hw2 => wpGL_mono hL _ _ _ _ _ (hw'.trans hw2) H
    · have h1 := H.2 j (ready_mono hj hji) hjn w' hw'
      obtain ⟨hjun, oj, hoj, hall⟩ := mem_ready.1 hj
      have hnot : ∀ e ∈ oj.after, Region.binds md e = true → e.on ≠ i := fun e he hb heq => by
        have h1 := hall e he hb
        rw [heq, getD_both hun] at h1
        cases h1
      have h2 := hOp_put hoj (hfree j oj hoj hji hjun hnot) (fun cs b => hsel i oi cs b hi) (fun cs b => hsel j oj cs b hoj) hy h1
      have hfree' : ∀ k ok, ops[k]? = some ok → k ≠ i → (listed.setIfInBounds j true).getD k true = false →
          (∀ e ∈ ok.after, Region.binds md e = true → e.on ≠ i) → oi.apart ops ok = true := fun k ok hk hki hun hno => by
        refine hfree k ok hk hki ?_ hno
        by_cases hjk : j = k
        · subst hjk; exact hjun
        · rw [getD_set_ne true hjk] at hun; exact hun
      refine hOp_mono (fun a' w2 hw2 h3 => ih (listed.setIfInBounds j true) a' w2 ((hW.trans hw').trans hw2) hfree' (ready_mono hr (Ne.symm hji)) h3.1 ?_) h2
      rw [Array.setIfInBounds_comm _ _ hji]
      exact h3.2

/-! ### the region's head, its loose ends X (operations that ask nothing of the world and that the chain's first operation does not wait for), its chain -/
/-- An operation that asks nothing of the world. -/
def PureOp (P : Program) (o : Oper) : Prop := ∀ ρ : Operand → Value, (∃ v, ∀ w, (execOp ρ o).run P w = .ok (.value v) w) ∨ ∀ w, ∃ x w', (execOp ρ o).run P w = .halt x w'
def headInB (md : Region.Mode) (ops : Array Oper) (n : Nat) (X : List Nat) : Bool :=
  (List.range n).all fun i => (X.contains i || (List.range (n + 1)).any fun j => decide (i < j) && (!X.contains j && Region.waitsFor md ops j i)) && ((ops[i]?).map fun o => o.after.all fun e => !Region.binds md e || decide (e.on < i)).getD false
def looseB (md : Region.Mode) (ops : Array Oper) (n : Nat) (X : List Nat) : Bool :=
  X.all fun i => decide (i < n) && (List.range ops.size).all fun j => j == i || (Region.waitsFor md ops j i || (Region.waitsFor md ops i j || match ops[i]?, ops[j]? with | some oi, some oj => oi.apart ops oj | _, _ => false))

theorem tail_waits_in {X : List Nat} {listed : Array Bool} (hs : headInB md ops n X = true) (hc : Region.chainB md ops n = true) (hn : n < ops.size) (hnX : n ∉ X) (inv : HeadInv md ops n listed) :
    ∀ (d i : Nat), n - i = d → i < n → i ∉ X → listed.getD i true = false → ∀ t, n ≤ t → t ∉ Region.ready md ops listed := by
  intro d
  induction d using Nat.strongRecOn with
  | _ d ih =>
    intro i hd hi hiX hun t ht hr
    obtain ⟨_, ot, hot, hall⟩ := mem_ready.1 hr
    have htlt : t < ops.size := (Array.getElem?_eq_some_iff.1 hot).1
    by_cases htn : t = n
    · subst htn
      have h1 := List.all_eq_true.1 hs i (List.mem_range.2 hi)
      simp only [Bool.and_eq_true, Bool.or_eq_true] at h1
      have h1 := h1.1.resolve_left (by simpa using hiX)
      obtain ⟨j, hj, hj2⟩ := List.any_eq_true.1 h1
      simp only [Bool.and_eq_true, decide_eq_true_eq] at hj2
      obtain ⟨oj, hoj, e, he, hb, hon⟩ := Region.waitsFor_spec hj2.2.2
      have hjX : j ∉ X := by have := hj2.2.1; simpa using this
      have hjle : j ≤ t := by have := List.mem_range.1 hj; omega
      by_cases hjt : j = t
      · subst hjt
        obtain rfl : oj = ot := Option.some.inj (hoj.symm.trans hot)
        have h2 := hall e he hb
        rw [hon, getD_both hun] at h2
        cases h2
      · cases hl : listed.getD j false with
        | true =>
          have h2 := inv.closed j oj hoj hl e he hb
          rw [hon, getD_both hun] at h2
          cases h2
        | false =>
          have hjs : j < listed.size := by rw [inv.size]; omega
          exact ih (t - j) (by omega) j rfl (by omega) hjX (getD_in hjs hl) t (Nat.le_refl _) hr
    · have h1 := List.all_eq_true.1 hc t (List.mem_range.2 htlt)
      simp only [Bool.or_eq_true, decide_eq_true_eq] at h1
      rcases h1 with h1 | h1
      · omega
      · obtain ⟨o', ho', e, he, hb, hon⟩ := Region.waitsFor_spec h1
        obtain rfl : o' = ot := Option.some.inj (ho'.symm.trans hot)
        have h2 := hall e he hb
        rw [hon, getD_both (inv.tail (t - 1) (by omega) (by omega))] at h2
        cases h2

/-- where the chain may begin ahead of the head's end, a loose end may come up -/
theorem loose_ready {X : List Nat} {listed : Array Bool} (hs : headInB md ops n X = true) (hc : Region.chainB md ops n = true) (hn : n < ops.size) (hnX : n ∉ X) (inv : HeadInv md ops n listed)
    {t : Nat} (ht : n ≤ t) (hr : t ∈ Region.ready md ops listed) : ∀ (d i : Nat), i = d → i < n → listed.getD i true = false → ∃ x, x ∈ X ∧ x ∈ Region.ready md ops listed := by
  intro d
  induction d using Nat.strongRecOn with
  | _ d ih =>
    intro i hd hi hun
    have hiX : i ∈ X := by
      rcases Classical.em (i ∈ X) with h | h
      · exact h
      · exact absurd hr (tail_waits_in hs hc hn hnX inv _ i rfl hi h hun t ht)
    by_cases hri : i ∈ Region.ready md ops listed
    · exact ⟨i, hiX, hri⟩
    · have h1 := List.all_eq_true.1 hs i (List.mem_range.2 hi)
      simp only [Bool.and_eq_true] at h1
      have h2 := h1.2
      cases ho : ops[i]? with
      | none => rw [ho] at h2; simp at h2
      | some o =>
        rw [ho] at h2
        simp only [Option.map_some, Option.getD_some, Array.all_eq_true_iff_forall_mem, Bool.or_eq_true, Bool.not_eq_true', decide_eq_true_eq] at h2
        have h3 : ∃ e ∈ o.after, Region.binds md e = true ∧ listed.getD e.on false = false := by
          refine Classical.byContradiction fun hno => hri (mem_ready.2 ⟨hun, o, ho, fun e he hb => ?_⟩)
          cases hh : listed.getD e.on false
          · exact absurd ⟨e, he, hb, hh⟩ hno
          · rfl
        obtain ⟨e, he, hb, hl⟩ := h3
        have hlt := (h2 e he).resolve_left (by rw [hb]; decide)
        exact ih e.on (by omega) e.on rfl (by omega) (getD_in (by rw [inv.size]; omega) hl)

theorem wpAny_of_GL {X : List Nat} {g : Nat} {Q : Exit → Act → World → Prop} (hsel : Region.noSelect ops = true) (hs : headInB md ops n X = true) (hl : looseB md ops n X = true) (hc : Region.chainB md ops n = true) (hn : n < ops.size) (hnX : n ∉ X)
    (hX : ∀ x ∈ X, ∃ o, ops[x]? = some o ∧ PureOp P o) (hQ : ∀ listed a w, HeadInv md ops n listed → L listed a w → wpAny P md ops Q g listed a w) (hp : ∀ c a d v w, Q (.panic c) (a.put (some d) v) w → Q (.panic c) a w) :
    ∀ (f : Nat) (listed : Array Bool) (a : Act) (w : World), HeadInv md ops n listed → wpGL P md ops n L f listed a w → wpAny P md ops Q (f + g) listed a w
  | 0, _, _, _, inv, h => by rw [Nat.zero_add]; exact hQ _ _ _ inv h
  | f + 1, listed, a, w, inv, h => by
    rw [show f + 1 + g = (f + g) + 1 by omega]
    rcases Classical.em (∃ x, x ∈ X ∧ x ∈ Region.ready md ops listed) with ⟨x, hx, hrx⟩ | hno
    · have h1 := List.all_eq_true.1 hl x hx
      simp only [Bool.and_eq_true, decide_eq_true_eq] at h1
      obtain ⟨hxn, h1⟩ := h1
      obtain ⟨o, ho, hpure⟩ := hX x hx
      obtain ⟨o', ho', h2⟩ := h.2 x hrx hxn w (Gr.refl w)
      obtain rfl : o' = o := Option.some.inj (ho'.symm.trans ho)
      have hfree : ∀ j oj, ops[j]? = some oj → j ≠ x → listed.getD j true = false → (∀ e ∈ oj.after, Region.binds md e = true → e.on ≠ x) → o'.apart ops oj = true := fun j oj hj hne hun hnot => by
        have hjs : j < ops.size := (Array.getElem?_eq_some_iff.1 hj).1
        have h3 := List.all_eq_true.1 h1 j (List.mem_range.2 hjs)
        simp only [ho, hj, Bool.or_eq_true, beq_iff_eq] at h3
        rcases h3 with h3 | h3 | h3 | h3
        · exact absurd h3 hne
        · obtain ⟨oj', hoj', e, he, hb, hon⟩ := Region.waitsFor_spec h3
          obtain rfl : oj' = oj := Option.some.inj (hoj'.symm.trans hj)
          exact absurd hon (hnot e he hb)
        · obtain ⟨oi', hoi', e, he, hb, hon⟩ := Region.waitsFor_spec h3
          obtain rfl : oi' = o' := Option.some.inj (hoi'.symm.trans ho)
          obtain ⟨_, o3, ho3, hall⟩ := mem_ready.1 hrx
          obtain rfl : o3 = oi' := Option.some.inj (ho3.symm.trans ho)
          have h4 := hall e he hb
          rw [hon, getD_both hun] at h4
          cases h4
        · exact h3
      obtain ⟨v, hy, hK⟩ : ∃ v, Yields P ops o' v a ∧ wpGL P md ops n L f (listed.setIfInBounds x true) (a.put o'.dst v) w := by
        split at h2
        · rename_i hw
          rcases hpure a.eval with ⟨v, hv⟩ | hh
          · rw [hv] at h2
            exact ⟨v, .inl ⟨hw, hv⟩, h2.2⟩
          · obtain ⟨x1, w1, he⟩ := hh w
            rw [he] at h2
            exact h2.elim
        · rename_i hw
          exact ⟨undef, .inr ⟨by simpa using hw, rfl⟩, h2⟩
      exact wpAny_first ho (Region.noSelect_spec hsel) (fun c a w => by cases hd : o'.dst with | none => exact fun h => h | some d => exact hp c a d v w) (f + g) listed a w hfree hrx hy (wpAny_of_GL hsel hs hl hc hn hnX hX hQ hp f _ _ _ (inv.set hrx hxn) hK)
    · have hlt : ∀ i ∈ Region.ready md ops listed, i < n := fun i hi => by
        rcases Nat.lt_or_ge i n with h' | h'
        · exact h'
        · obtain ⟨k, hk, hkn⟩ := h.1
          exact absurd (loose_ready hs hc hn hnX inv h' hi _ k rfl hkn (mem_ready.1 hk).1) hno
      refine ⟨fun h0 => ?_, fun i hi => wpOp_of_hOp (fun a' w' h' => wpAny_of_GL hsel hs hl hc hn hnX hX hQ hp f _ a' w' (inv.set hi (hlt i hi)) h') (h.2 i hi (hlt i hi) w (Gr.refl w))⟩
      obtain ⟨k, hk, _⟩ := h.1
      rw [h0] at hk
      cases hk

/-! ### new variables of the region: their blocks -/
/-- Operation i makes a new variable: its slot is D i, its block Z i. -/
def AllocAt (P : Program) (md : Region.Mode) (ops : Array Oper) (D : Nat → Tmp) (Z : Nat → Obj) (i : Nat) : Prop :=
  ∃ o, ops[i]? = some o ∧ o.dst = some (D i) ∧ o.guard = none ∧ (∀ e ∈ o.after, Region.binds md e = false) ∧ ∀ ρ w, (execOp ρ o).run P w = .ok (.value (.pointer (some ⟨w.heap.size, 0, none⟩))) (w.alloc (Z i))
def puts (D : Nat → Tmp) (G : Nat → Nat) : List Nat → Act → Act
  | [], a => a
  | i :: is, a => puts D G is (a.put (some (D i)) (.pointer (some ⟨G i, 0, none⟩)))
theorem puts_put {D : Nat → Tmp} {G : Nat → Nat} {d : Tmp} {v : Value} : ∀ (is : List Nat) (a : Act), (∀ j ∈ is, D j ≠ d) → puts D G is (a.put (some d) v) = (puts D G is a).put (some d) v
  | [], _, _ => rfl
  | j :: is, a, h => by
    unfold puts
    rw [Act.put_comm a v _ (fun d' hd' e => h j (by simp) (by cases hd'; exact Option.some.inj e))]
    exact puts_put is _ (fun k hk => h k (by simp [hk]))
theorem puts_congr {D : Nat → Tmp} {G G' : Nat → Nat} : ∀ (is : List Nat) (a : Act), (∀ j ∈ is, G j = G' j) → puts D G is a = puts D G' is a
  | [], _, _ => rfl
  | j :: is, a, h => by unfold puts; rw [h j (by simp)]; exact puts_congr is _ (fun k hk => h k (by simp [hk]))
theorem puts_erase {D : Nat → Tmp} {G : Nat → Nat} {i : Nat} : ∀ (is : List Nat) (a : Act), i ∈ is → is.Nodup → (∀ j ∈ is, ∀ k ∈ is, D j = D k → j = k) → puts D G is a = puts D G (is.erase i) (a.put (some (D i)) (.pointer (some ⟨G i, 0, none⟩)))
  | [], _, h, _, _ => by cases h
  | j :: is, a, h, hnd, hD => by
    by_cases e : j = i
    · subst e; rw [List.erase_cons_head]; rfl
    · rw [List.erase_cons_tail (by simpa using e)]
      unfold puts
      have hi : i ∈ is := by
        rcases List.mem_cons.1 h with h | h
        · exact absurd h.symm e
        · exact h
      rw [puts_erase is _ hi (List.nodup_cons.1 hnd).2 (fun j hj k hk => hD j (by simp [hj]) k (by simp [hk]))]
      congr 1
      exact Act.put_comm a _ _ (fun d' hd' e' => e (by cases hd'; exact (hD _ (by simp [hi]) _ (by simp) (Option.some.inj e')).symm))

/-- The new blocks, in a world w' that has grown out of w. -/
def Fresh (Z : Nat → Obj) (is : List Nat) (G : Nat → Nat) (w w' : World) : Prop :=
  (∀ i ∈ is, w.heap.size ≤ G i ∧ w'.heap[G i]? = some (Z i)) ∧ ∀ i ∈ is, ∀ j ∈ is, G i = G j → i = j

def canon (n s : Nat) : Array Bool := Array.ofFn (n := s) fun i => decide (i.val < n)
theorem eq_canon {listed : Array Bool} (inv : HeadInv md ops n listed) (hall : ∀ i, i < n → listed.getD i true = true) : listed = canon n ops.size := by
  refine Array.ext (by simp [canon, inv.size]) fun i h1 h2 => ?_
  simp only [canon, Array.getElem_ofFn]
  by_cases hi : i < n
  · have := hall i hi
    simp [h1] at this
    simp [hi, this]
  · have := inv.tail i (by omega) (by rw [← inv.size]; exact h1)
    simp [h1] at this
    simp [hi, this]

end
end Go.Proofs.Ytenpbnmmadbkdaa
