
/- A plan's check that goes through the operations once, in their order: for regions of many operations (the kernel walks it in little memory). Condition: the Bool 'regionQ' of the region's own edges. -/
import Derived.Test.YtgdibedgjndcoaaGreatDoorPC
namespace Go.Proofs.YtgdibedgjndcoaaGreatDoor
open Go.RowKit
set_option linter.unusedSimpArgs false
set_option linter.unusedVariables false
section
variable {P : Program} {ops : Array Oper} {md : Region.Mode}
def listedQ (is : List Nat) (i j : Nat) : Bool := decide (j < i) || is.contains j
def restQ (md : Region.Mode) (ops : Array Oper) (is : List Nat) (i : Nat) (k : Bool) (o : Oper) : Nat → List Oper → Bool
  | _, [] => true
  | j, oj :: r => (is.contains j || cond k (oj.after.any (fun e => Region.binds md e && e.on == i) || o.apart ops oj) (oj.after.any (fun e => Region.binds md e && !listedQ is i e.on))) && restQ md ops is i k o (j + 1) r
def planQ (md : Region.Mode) (ops : Array Oper) (n : Nat) (is : List Nat) : Nat → List Oper → List (Bool × Nat) → Bool
  | i, [], plan => decide (i = n) && plan.isEmpty
  | i, o :: r, plan => cond (decide (i = n)) plan.isEmpty (cond (is.contains i) (planQ md ops n is (i + 1) r plan) (match plan with
      | [] => false
      | (k, i') :: p => decide (i' = i) && (o.after.all (fun e => !Region.binds md e || listedQ is i' e.on) && (restQ md ops is i' k o (i' + 1) r && planQ md ops n is (i' + 1) r p))))
/-- listed: the operations before i, and those of 'is' -/
def UpTo (is : List Nat) (size i : Nat) (listed : Array Bool) : Prop := listed.size = size ∧ ∀ j, j < size → listed.getD j true = listedQ is i j
theorem getD_any {a : Array Bool} {j : Nat} (h : j < a.size) (d e : Bool) : a.getD j d = a.getD j e := by
  simp [Array.getD, h]
theorem UpTo.off {is : List Nat} {size i : Nat} {listed : Array Bool} (h : UpTo is size i listed) (his : ∀ j ∈ is, j < size) (hi : i ≤ size) (j : Nat) (hj : listedQ is i j = true) : listed.getD j false = true := by
  have hlt : j < size := by
    simp only [listedQ, Bool.or_eq_true, decide_eq_true_eq, List.contains_eq_mem] at hj
    rcases hj with hj | hj
    · omega
    · exact his j hj
  rw [getD_any (by rw [h.1]; exact hlt) false true, h.2 j hlt, hj]
theorem UpTo.of_false {is : List Nat} {size i : Nat} {listed : Array Bool} (h : UpTo is size i listed) (j : Nat) (hj : listedQ is i j = false) : listed.getD j false = false := by
  by_cases hlt : j < size
  · rw [getD_any (by rw [h.1]; exact hlt) false true, h.2 j hlt, hj]
  · rw [Array.getD_eq_getD_getElem?, Array.getElem?_eq_none (by rw [h.1]; omega)]; rfl
theorem UpTo.skip {is : List Nat} {size i : Nat} {listed : Array Bool} (h : UpTo is size i listed) (hi : is.contains i = true) : UpTo is size (i + 1) listed := by
  refine ⟨h.1, fun j hj => ?_⟩
  rw [h.2 j hj]
  unfold listedQ
  by_cases e : j = i
  · subst e; rw [hi]; simp
  · rw [show decide (j < i + 1) = decide (j < i) from decide_eq_decide.2 (by omega)]
theorem UpTo.set {is : List Nat} {size i : Nat} {listed : Array Bool} (h : UpTo is size i listed) : UpTo is size (i + 1) (listed.setIfInBounds i true) := by
  refine ⟨by simp [h.1], fun j hj => ?_⟩
  have hs : j < listed.size := by rw [h.1]; exact hj
  by_cases e : j = i
  · subst e
    rw [Array.getD_eq_getD_getElem?, Array.getElem?_setIfInBounds_self_of_lt hs]
    simp [listedQ]
  · rw [Array.getD_eq_getD_getElem?, Array.getElem?_setIfInBounds_ne (Ne.symm e), ← Array.getD_eq_getD_getElem?, h.2 j hj]
    unfold listedQ
    rw [show decide (j < i + 1) = decide (j < i) from decide_eq_decide.2 (by omega)]
theorem UpTo.canon {is : List Nat} {size n : Nat} {listed : Array Bool} (h : UpTo is size n listed) (his : ∀ j ∈ is, j < n) : listed = canon n size := by
  apply Array.ext
  · rw [h.1]; simp [Go.Proofs.YtgdibedgjndcoaaGreatDoor.canon]
  · intro j h1 h2
    have hj : j < size := by rw [← h.1]; exact h1
    have := h.2 j hj
    rw [Array.getD_eq_getD_getElem?, Array.getElem?_eq_getElem h1, Option.getD_some] at this
    rw [this]
    simp only [Go.Proofs.YtgdibedgjndcoaaGreatDoor.canon, Array.getElem_ofFn, listedQ]
    by_cases e : j < n
    · simp [e]
    · have : ¬ j ∈ is := fun hm => e (his j hm)
      simp [e, this]
theorem filter_range_single {p : Nat → Bool} : ∀ {s i : Nat}, i < s → p i = true → (∀ j, j < s → j ≠ i → p j = false) → (List.range s).filter p = [i]
  | 0, i, hi, _, _ => absurd hi (Nat.not_lt_zero _)
  | s + 1, i, hi, hp, hq => by
    rw [List.range_succ, List.filter_append]
    by_cases e : i = s
    · subst e
      have : (List.range i).filter p = [] := List.filter_eq_nil_iff.2 fun j hj => by
        have := List.mem_range.1 hj
        rw [hq j (by omega) (by omega)]; decide
      rw [this]
      simp [hp]
    · rw [filter_range_single (by omega) hp (fun j hj hne => hq j (by omega) hne)]
      simp [hq s (by omega) (Ne.symm e)]
theorem restQ_spec {is : List Nat} {i : Nat} {k : Bool} {o : Oper} : ∀ (l : List Oper) (j0 : Nat), ops.toList.drop j0 = l → restQ md ops is i k o j0 l = true →
    ∀ j oj, j0 ≤ j → ops[j]? = some oj → is.contains j = true ∨ cond k (oj.after.any (fun e => Region.binds md e && e.on == i) || o.apart ops oj) (oj.after.any (fun e => Region.binds md e && !listedQ is i e.on)) = true
  | [], j0, hd, _, j, oj, hj, ho => by
    have h1 : ops.toList.length ≤ j0 := by
      have := congrArg List.length hd
      rw [List.length_drop, List.length_nil] at this
      omega
    have h2 := (Array.getElem?_eq_some_iff.1 ho).1
    simp at h1
    omega
  | x :: r, j0, hd, h, j, oj, hj, ho => by
    simp only [restQ, Bool.and_eq_true, Bool.or_eq_true] at h
    by_cases e : j = j0
    · subst e
      have h1 : (ops.toList.drop j)[0]? = some x := by rw [hd]; rfl
      rw [List.getElem?_drop, Nat.add_zero, Array.getElem?_toList] at h1
      rw [ho] at h1
      obtain rfl := Option.some.inj h1
      exact h.1
    · refine restQ_spec r (j0 + 1) ?_ h.2 j oj (by omega) ho
      rw [← List.drop_drop, hd]; rfl
theorem planB_of_planQ {n : Nat} {is : List Nat} (his : ∀ j ∈ is, j < n) (hn : n ≤ ops.size) : ∀ (l : List Oper) (i : Nat) (plan : List (Bool × Nat)) (listed : Array Bool),
    ops.toList.drop i = l → i ≤ n → UpTo is ops.size i listed → planQ md ops n is i l plan = true → planB md ops n plan listed = true
  | [], i, plan, listed, hd, hi, hu, h => by
    simp only [planQ, Bool.and_eq_true, decide_eq_true_eq, List.isEmpty_iff] at h
    obtain ⟨rfl, rfl⟩ := h
    exact decide_eq_true (hu.canon his)
  | o :: r, i, plan, listed, hd, hi, hu, h => by
    have hdr : ops.toList.drop (i + 1) = r := by rw [← List.drop_drop, hd]; rfl
    unfold planQ at h
    by_cases e : i = n
    · rw [decide_eq_true e, cond_true, List.isEmpty_iff] at h
      subst h e
      exact decide_eq_true (hu.canon his)
    · rw [decide_eq_false e, cond_false] at h
      cases hc : is.contains i with
      | true =>
        rw [hc, cond_true] at h
        exact planB_of_planQ his hn r (i + 1) plan listed hdr (by omega) (hu.skip hc) h
      | false =>
        rw [hc, cond_false] at h
        match plan, h with
        | (k, i') :: p, h =>
          simp only [Bool.and_eq_true, decide_eq_true_eq] at h
          obtain ⟨rfl, h1, h2, h3⟩ := h
          have hin : i' < n := by omega
          have hsz : i' < ops.size := by omega
          have ho : ops[i']? = some o := by
            have h1 : (ops.toList.drop i')[0]? = some o := by rw [hd]; rfl
            rw [List.getElem?_drop, Nat.add_zero, Array.getElem?_toList] at h1
            exact h1
          have hun : listed.getD i' true = false := by
            rw [hu.2 i' hsz]; simp [listedQ]; simpa using hc
          have hed : (o.after.all fun e => !Region.binds md e || listed.getD e.on false) = true := by
            rw [Array.all_eq_true_iff_forall_mem] at h1 ⊢
            intro x hx
            have := h1 x hx
            simp only [Bool.or_eq_true] at this ⊢
            exact this.imp id (fun h => hu.off (fun j hj => Nat.lt_of_lt_of_le (his j hj) hn) (by omega) _ h)
          have hrd : (!listed.getD i' true && ((ops[i']?).map (·.after.all fun e => !Region.binds md e || listed.getD e.on false)).getD false) = true := by
            rw [hun, ho]; simpa using hed
          have hset := planB_of_planQ his hn r (i' + 1) p (listed.setIfInBounds i' true) hdr (by omega) hu.set h3
          have hrest := restQ_spec r (i' + 1) hdr h2
          cases k with
          | true =>
            simp only [planB, Bool.and_eq_true, decide_eq_true_eq]
            refine ⟨hin, ?_, ?_, hset⟩
            · rw [List.contains_eq_mem, decide_eq_true_iff]
              exact List.mem_filter.2 ⟨List.mem_range.2 hsz, hrd⟩
            · simp only [Region.free, ho, List.all_eq_true, List.mem_range]
              intro j hj
              by_cases e1 : j = i'
              · simp [e1]
              by_cases e2 : listed.getD j true = true
              · simp [e2]
              rw [hu.2 j hj] at e2
              have e3 : ¬ j < i' := fun h => e2 (by simp [listedQ, h])
              obtain ⟨oj, hoj⟩ : ∃ oj, ops[j]? = some oj := ⟨_, Array.getElem?_eq_getElem hj⟩
              rcases hrest j oj (by omega) hoj with h4 | h4
              · exact absurd (by unfold listedQ; rw [h4, Bool.or_true]) e2
              · rw [hoj]
                simp only [cond_true] at h4
                simp only [h4, Bool.or_true]
          | false =>
            simp only [planB, Bool.and_eq_true, decide_eq_true_eq]
            refine ⟨hin, ?_, hset⟩
            refine filter_range_single hsz hrd fun j hj hne => ?_
            by_cases e2 : listed.getD j true = true
            · simp [e2]
            rw [hu.2 j hj] at e2
            have e3 : ¬ j < i' := fun h => e2 (by simp [listedQ, h])
            obtain ⟨oj, hoj⟩ : ∃ oj, ops[j]? = some oj := ⟨_, Array.getElem?_eq_getElem hj⟩
            rcases hrest j oj (by omega) hoj with h4 | h4
            · exact absurd (by unfold listedQ; rw [h4, Bool.or_true]) e2
            · simp only [cond_false] at h4
              obtain ⟨x, hx, hb⟩ := Array.any_eq_true'.1 h4
              simp only [Bool.and_eq_true, Bool.not_eq_true'] at hb
              rw [hoj]
              have : (oj.after.all fun e => !Region.binds md e || listed.getD e.on false) = false := by
                rw [Bool.eq_false_iff]
                intro h5
                have := Array.all_eq_true_iff_forall_mem.1 h5 x hx
                rw [hb.1, hu.of_false _ hb.2] at this
                cases this
              rw [Option.map_some, Option.getD_some, this, Bool.and_false]
theorem marked_upTo {is : List Nat} {size : Nat} : UpTo is size 0 (marked is size) := by
  refine ⟨by simp [marked], fun j hj => ?_⟩
  rw [Array.getD_eq_getD_getElem?, Array.getElem?_eq_getElem (by simpa [marked] using hj)]
  simp [marked, listedQ]
def regionQ (md : Region.Mode) (ops : Array Oper) (D : Nat → Tmp) (n : Nat) (is X : List Nat) (plan : List (Bool × Nat)) : Bool :=
  Region.noSelect ops && (decide (n < ops.size ∧ plan.length + is.length = n) && ((headInB md ops n X && (looseB md ops n X && !X.contains n)) && (Region.chainB md ops n && (apartB ops n is && (planQ md ops n is 0 ops.toList plan && (Region.seqB md ops (ops.size - n) n (canon n ops.size) &&
    (decide is.Nodup && (is.all (fun i => decide (i < n) && (is.all fun j => decide (D i = D j → i = j)) && ((ops[i]?).map fun o => o.after.isEmpty).getD false)))))))))
theorem regionB_of_Q {D : Nat → Tmp} {n : Nat} {is X : List Nat} {plan : List (Bool × Nat)} (h : regionQ md ops D n is X plan = true) : regionB md ops D n is X plan = true := by
  simp only [regionQ, regionB, Bool.and_eq_true, decide_eq_true_eq] at h ⊢
  obtain ⟨h1, h2, h3, h4, h5, h6, h7, h8, h9⟩ := h
  refine ⟨h1, h2, h3, h4, h5, ?_, h7, h8, h9⟩
  refine planB_of_planQ (fun j hj => ?_) (by omega) _ 0 plan _ rfl (Nat.zero_le _) marked_upTo h6
  have := List.all_eq_true.1 h9 j hj
  simp only [Bool.and_eq_true, decide_eq_true_eq] at this
  exact this.1.1
theorem wp_region_planQ {id : Nat} {Q : Exit → Act → World → Prop} {a : Act} {w : World} {l : List Oper} (n : Nat) (is X : List Nat) (D : Nat → Tmp) (Z : Nat → Obj) (plan : List (Bool × Nat)) (hm : P.follows .mixedOrders = true)
    (hB : regionQ .any l.toArray D n is X plan = true) (hA : ∀ i ∈ is, AllocAt P .any l.toArray D Z i) (hX : ∀ x ∈ X, ∃ o, l.toArray[x]? = some o ∧ PureOp P o) (hp : ∀ c a d v w, Q (.panic c) (a.put (some d) v) w → Q (.panic c) a w)
    (h : ∀ T : Act → World → Prop, Hid (∀ a' w', (∀ G w2, Gr w' w2 → Fresh Z is G w w2 → wpList P l.toArray Q (l.drop n) (puts D G is a') w2) → T a' w') → wpPlan P l.toArray T plan a w) : (Code.region id l.toArray true).wp P Q a w :=
  wp_region_plan n is X D Z plan hm (regionB_of_Q hB) hA hX hp h
end
end Go.Proofs.YtgdibedgjndcoaaGreatDoor
