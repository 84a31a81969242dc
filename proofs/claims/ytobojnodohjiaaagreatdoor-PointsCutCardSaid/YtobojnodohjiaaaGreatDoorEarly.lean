
/- Regions that draw their order, with slice literals that may be made ahead of their time. Condition: the Bool 'earlyB' of the region's own edges. -/
import Derived.Test.YtobojnodohjiaaaGreatDoorPC
namespace Go.Proofs.YtobojnodohjiaaaGreatDoor
open Go.RowKit
section
variable {P : Program} {ops : Array Oper} {md : Region.Mode} {W0 : World} {Cs : Nat → Nat × Array Value × TypeId}
def slOf (Cs : Nat → Nat × Array Value × TypeId) (g : Nat → Nat) (j : Nat) : Value := .slice (some ⟨g j, 0, none⟩) (Cs j).1 (Cs j).1
def dstOf (ops : Array Oper) (j : Nat) : Option Tmp := (ops[j]?).bind (·.dst)
def Makes (P : Program) (ops : Array Oper) (Cs : Nat → Nat × Array Value × TypeId) (j : Nat) (a : Act) : Prop :=
  ∃ o, ops[j]? = some o ∧ Region.wanted o (yielded ops a.tmps) = true ∧ ∀ w', (execOp a.eval o).run P w' = .ok (.value (.slice (some ⟨w'.heap.size, 0, none⟩) (Cs j).1 (Cs j).1)) (w'.alloc (.cells (Cs j).2.1 (Cs j).2.2))
def wpEarly (P : Program) (ops : Array Oper) (W0 : World) (Cs : Nat → Nat × Array Value × TypeId) (T : Act → World → Prop) : List (Nat × Nat) → Act → World → Prop
  | [], a, w => T a w
  | (0, i) :: r, a, w => ∃ o v, ops[i]? = some o ∧ Yg P ops w o v a ∧ wpEarly P ops W0 Cs T r (a.put o.dst v) w
  | (1, i) :: r, a, w => Makes P ops Cs i a ∧ wpEarly P ops W0 Cs T r a w
  | (_ + 2, i) :: r, a, w => ∀ g w1, Gr w w1 → W0.heap.size ≤ g → Bx w1 g (Cs i).2.2 (Cs i).2.1 → wpEarly P ops W0 Cs T r (a.put (dstOf ops i) (.slice (some ⟨g, 0, none⟩) (Cs i).1 (Cs i).1)) w1
def cnt : List (Nat × Nat) → Nat
  | [] => 0
  | (1, _) :: r => cnt r
  | _ :: r => cnt r + 1
def uses : List (Nat × Nat) → Nat
  | [] => 0
  | (0, _) :: r => uses r
  | (1, _) :: r => uses r
  | (_ + 2, _) :: r => uses r + 1
theorem uses_le : ∀ plan : List (Nat × Nat), uses plan ≤ cnt plan
  | [] => Nat.le_refl _
  | (0, _) :: r => Nat.le_succ_of_le (uses_le r)
  | (1, _) :: r => uses_le r
  | (_ + 2, _) :: r => Nat.succ_le_succ (uses_le r)
def apartAt (ops : Array Oper) (i j : Nat) : Bool := match ops[i]?, ops[j]? with | some oi, some oj => oi.apart ops oj | _, _ => false
def markAll : List Nat → Array Bool → Array Bool
  | [], listed => listed
  | j :: js, listed => markAll js (listed.setIfInBounds j true)
def earlyPlanB (md : Region.Mode) (ops : Array Oper) (n : Nat) : List (Nat × Nat) → Array Bool → List Nat → Bool
  | [], listed, mk => decide (listed = canon n ops.size) && mk.isEmpty
  | (0, i) :: r, listed, mk => decide (i < n) && ((Region.ready md ops listed).contains i && (Region.free md ops listed i && (mk.all (fun j => apartAt ops j i) && earlyPlanB md ops n r (listed.setIfInBounds i true) mk)))
  | (1, i) :: r, listed, mk => decide (i < n) && ((Region.ready md ops listed).contains i && (mk.all (fun j => j != i && (apartAt ops j i && apartAt ops i j)) && ((dstOf ops i).isSome && earlyPlanB md ops n r listed (i :: mk))))
  | (_ + 2, i) :: r, listed, mk => mk.contains i && ((Region.ready md ops (markAll (mk.erase i) listed)).all (fun j => mk.contains j) && earlyPlanB md ops n r (listed.setIfInBounds i true) (mk.erase i))
theorem mk_le {n : Nat} : ∀ (plan : List (Nat × Nat)) (listed : Array Bool) (mk : List Nat), earlyPlanB md ops n plan listed mk = true → mk.length ≤ uses plan
  | [], listed, mk, h => by simp [earlyPlanB] at h; simp [h.2]
  | (0, i) :: r, listed, mk, h => by simp only [earlyPlanB, Bool.and_eq_true] at h; exact mk_le r _ mk h.2.2.2.2
  | (1, i) :: r, listed, mk, h => by
    simp only [earlyPlanB, Bool.and_eq_true] at h
    have := mk_le r _ _ h.2.2.2.2
    simp only [List.length_cons] at this
    exact Nat.le_of_succ_le this
  | (_ + 2, i) :: r, listed, mk, h => by
    simp only [earlyPlanB, Bool.and_eq_true] at h
    have h1 := mk_le r _ _ h.2.2
    rw [List.length_erase_of_mem (by simpa using h.1)] at h1
    show mk.length ≤ uses r + 1
    omega
def putE (ops : Array Oper) (Cs : Nat → Nat × Array Value × TypeId) (g : Nat → Nat) : List Nat → Act → Act
  | [], a => a
  | j :: js, a => putE ops Cs g js (a.put (dstOf ops j) (slOf Cs g j))
theorem dstOf_of {j : Nat} {o : Oper} (h : ops[j]? = some o) : dstOf ops j = o.dst := by simp [dstOf, h]
theorem apartAt_spec {i j : Nat} (h : apartAt ops i j = true) : ∃ oi oj, ops[i]? = some oi ∧ ops[j]? = some oj ∧ oi.apart ops oj = true := by
  unfold apartAt at h
  split at h
  · rename_i oi oj hi hj; exact ⟨oi, oj, hi, hj, h⟩
  · cases h
theorem putE_apart (hsel : Region.noSelect ops = true) {g : Nat → Nat} {i : Nat} {o : Oper} (ho : ops[i]? = some o) : ∀ (E : List Nat) (a : Act), (∀ j ∈ E, apartAt ops j i = true) →
    execOp (putE ops Cs g E a).eval o = execOp a.eval o ∧ Region.wanted o (yielded ops (putE ops Cs g E a).tmps) = Region.wanted o (yielded ops a.tmps) ∧ ∀ v, (putE ops Cs g E a).put o.dst v = putE ops Cs g E (a.put o.dst v)
  | [], a, _ => ⟨rfl, rfl, fun _ => rfl⟩
  | j :: E, a, h => by
    obtain ⟨oj, oi, hj, hi, hap⟩ := apartAt_spec (h j (by simp))
    obtain rfl : oi = o := Option.some.inj (hi.symm.trans ho)
    obtain ⟨h1, h2, h3⟩ := Oper.apart_spec hap
    obtain ⟨e1, e2, e3⟩ := putE_apart hsel ho (g := g) E (a.put (dstOf ops j) (slOf Cs g j)) (fun k hk => h k (by simp [hk]))
    have hd := dstOf_of hj
    refine ⟨?_, ?_, fun v => ?_⟩
    · show execOp (putE ops Cs g E _).eval oi = _
      rw [e1, hd]
      exact execOp_put oi (fun cs b => Region.noSelect_spec hsel i oi cs b ho) a oj.dst _ h1
    · show Region.wanted oi (yielded ops (putE ops Cs g E _).tmps) = _
      rw [e2, hd]
      exact wanted_put oi a oj.dst _ h1
    · show (putE ops Cs g E _).put oi.dst v = putE ops Cs g E _
      rw [e3, hd]
      congr 1
      exact Act.put_comm a _ v (fun d hd' => h2 d hd')
theorem putE_put (g : Nat → Nat) {d : Option Tmp} {v : Value} : ∀ (E : List Nat) (a : Act), (∀ j ∈ E, ∀ t, dstOf ops j = some t → d ≠ some t) → putE ops Cs g E (a.put d v) = (putE ops Cs g E a).put d v
  | [], _, _ => rfl
  | j :: E, a, h => by
    unfold putE
    rw [← Act.put_comm a (x := dstOf ops j) (y := d) (slOf Cs g j) v (fun t ht => h j (by simp) t ht)]
    exact putE_put g E _ (fun k hk => h k (by simp [hk]))
theorem putE_congr {g g' : Nat → Nat} : ∀ (E : List Nat) (a : Act), (∀ j ∈ E, g j = g' j) → putE ops Cs g E a = putE ops Cs g' E a
  | [], _, _ => rfl
  | j :: E, a, h => by
    unfold putE
    rw [show slOf Cs g j = slOf Cs g' j by unfold slOf; rw [h j (by simp)]]
    exact putE_congr E _ (fun k hk => h k (by simp [hk]))
theorem putE_erase {g : Nat → Nat} {i : Nat} : ∀ (E : List Nat) (a : Act), i ∈ E → E.Nodup → (∀ j ∈ E, ∀ k ∈ E, j ≠ k → ∀ t, dstOf ops j = some t → dstOf ops k ≠ some t) → putE ops Cs g E a = putE ops Cs g (E.erase i) (a.put (dstOf ops i) (slOf Cs g i))
  | [], _, h, _, _ => by cases h
  | j :: E, a, h, hnd, hD => by
    by_cases e : j = i
    · subst e; rw [List.erase_cons_head]; rfl
    · rw [List.erase_cons_tail (by simpa using e)]
      unfold putE
      have hi : i ∈ E := by
        rcases List.mem_cons.1 h with h | h
        · exact absurd h.symm e
        · exact h
      rw [putE_erase E _ hi (List.nodup_cons.1 hnd).2 (fun j hj k hk => hD j (by simp [hj]) k (by simp [hk]))]
      congr 1
      exact Act.put_comm a _ _ (fun t ht => hD j (by simp) i (by simp [hi]) e t ht)
theorem Yg.to_putE (hsel : Region.noSelect ops = true) {W : World} {g : Nat → Nat} {i : Nat} {o : Oper} {v : Value} {E : List Nat} {a : Act} (ho : ops[i]? = some o) (h : ∀ j ∈ E, apartAt ops j i = true) (hy : Yg P ops W o v a) : Yg P ops W o v (putE ops Cs g E a) := by
  obtain ⟨e1, e2, _⟩ := putE_apart (Cs := Cs) hsel (g := g) ho E a h
  exact hy.of_same e1 e2
theorem Makes.to_putE (hsel : Region.noSelect ops = true) {g : Nat → Nat} {i : Nat} {E : List Nat} {a : Act} (h : ∀ j ∈ E, apartAt ops j i = true) (hy : Makes P ops Cs i a) : Makes P ops Cs i (putE ops Cs g E a) := by
  obtain ⟨o, ho, hw, hr⟩ := hy
  obtain ⟨e1, e2, _⟩ := putE_apart (Cs := Cs) hsel (g := g) ho E a h
  exact ⟨o, ho, by rw [e2]; exact hw, fun w' => by rw [e1]; exact hr w'⟩
theorem Makes.put (hsel : Region.noSelect ops = true) {i j : Nat} {o : Oper} {a : Act} {v : Value} (ho : ops[i]? = some o) (h : apartAt ops i j = true ∨ apartAt ops j i = true) (hy : Makes P ops Cs j a) : Makes P ops Cs j (a.put o.dst v) := by
  obtain ⟨oj, hoj, hw, hr⟩ := hy
  have hl : ∀ d, o.dst = some d → d ∉ oj.looksAt ops := by
    rcases h with h | h
    · obtain ⟨x, y, hx, hy, hap⟩ := apartAt_spec h
      obtain rfl : x = o := Option.some.inj (hx.symm.trans ho)
      obtain rfl : y = oj := Option.some.inj (hy.symm.trans hoj)
      exact (Oper.apart_spec hap).1
    · obtain ⟨x, y, hx, hy, hap⟩ := apartAt_spec h
      obtain rfl : x = oj := Option.some.inj (hx.symm.trans hoj)
      obtain rfl : y = o := Option.some.inj (hy.symm.trans ho)
      exact (Oper.apart_spec hap).2.2
  exact ⟨oj, hoj, by rw [wanted_put oj a o.dst v hl]; exact hw, fun w' => by rw [execOp_put oj (fun cs b => Region.noSelect_spec hsel j oj cs b hoj) a o.dst v hl]; exact hr w'⟩
theorem markAll_getD : ∀ (js : List Nat) (listed : Array Bool) (d : Bool) (i : Nat), (i < listed.size) → (markAll js listed).getD i d = (js.contains i || listed.getD i d)
  | [], _, _, _, _ => by simp [markAll]
  | j :: js, listed, d, i, h => by
    rw [markAll, markAll_getD js _ d i (by simpa using h)]
    by_cases e : j = i
    · subst e; simp [h]
    · rw [getD_set_ne d e]
      have e2 : ¬ i = j := fun e' => e e'.symm
      simp [e2]
theorem wpGL_early {n : Nat} {T : Act → World → Prop} (hsel : Region.noSelect ops = true) (hn : n < ops.size) (hT : ∀ a w w', Gr w w' → T a w → T a w') (hdone : ∀ j ∈ Region.ready md ops (canon n ops.size), n ≤ j) :
    ∀ (plan : List (Nat × Nat)) (f : Nat) (mk E : List Nat) (g : Nat → Nat) (listed listedR : Array Bool) (a aR : Act) (w wR : World), f + E.length = cnt plan → earlyPlanB md ops n plan listed mk = true → E.Nodup → (∀ j ∈ E, j ∈ mk) → mk.Nodup →
      HeadInv md ops n listedR → listed.size = ops.size → (∀ i, listedR.getD i true = false ↔ (listed.getD i true = false ∧ i ∉ E)) → (∀ i, listed.getD i false = true → listedR.getD i false = true) →
      (∀ j ∈ mk, j < n ∧ j ∈ Region.ready md ops listed ∧ (dstOf ops j).isSome = true ∧ (j ∉ E → Makes P ops Cs j aR)) → (∀ j ∈ mk, ∀ k ∈ mk, j ≠ k → apartAt ops j k = true) →
      (∀ j ∈ E, W0.heap.size ≤ g j ∧ Bx wR (g j) (Cs j).2.2 (Cs j).2.1) → Gr W0 w → Gr w wR → aR = putE ops Cs g E a → wpEarly P ops W0 Cs T plan a w →
      wpGL P md ops n (fun listed a w => listed = canon n ops.size ∧ T a w) f listedR aR wR := by
  intro plan
  induction plan with
  | nil =>
    intro f mk E g listed listedR a aR w wR hf hB _ hEm _ inv hsz hl hl2 _ _ _ _ hg hE h
    simp only [earlyPlanB, Bool.and_eq_true, decide_eq_true_eq, List.isEmpty_iff] at hB
    have hE0 : E = [] := by
      cases E with
      | nil => rfl
      | cons j E => have := hEm j (by simp); rw [hB.2] at this; cases this
    subst hE0
    have hf0 : f = 0 := by simpa [cnt] using hf
    subst hf0
    subst hE
    refine ⟨?_, hT _ _ _ hg h⟩
    refine Array.ext (by rw [inv.size]; simp [canon]) fun i h1 h2 => ?_
    have h3 := hl i
    rw [hB.1] at h3
    have h4 : i < (canon n ops.size).size := h2
    simp [h1, h4] at h3
    cases hx : listedR[i] <;> cases hy : (canon n ops.size)[i] <;> simp_all
  | cons s r ih =>
    obtain ⟨k, i⟩ := s
    match k with
    | 0 =>
      intro f mk E g listed listedR a aR w wR hf hB hEn hEm hmn inv hsz hl hl2 hmk hap hEb hW hg hE h
      have hB0 := hB
      simp only [earlyPlanB, Bool.and_eq_true, decide_eq_true_eq, List.all_eq_true] at hB
      obtain ⟨hin, hr, hfr, hma, hB'⟩ := hB
      obtain ⟨o, v, ho, hy, hK⟩ := h
      have hr' : i ∈ Region.ready md ops listed := by simpa using hr
      have hle := mk_le r _ _ hB'
      have hle2 : E.length ≤ mk.length := List.Nodup.length_le_of_subset hEn hEm
      have hle3 := uses_le r
      obtain ⟨f, rfl⟩ : ∃ f', f = f' + 1 := ⟨f - 1, by simp only [cnt] at hf; omega⟩
      have hiE : i ∉ E := fun hi => by
        have h1 := hma i (hEm i hi)
        obtain ⟨x, y, hx, hy2, hap2⟩ := apartAt_spec h1
        obtain rfl : x = o := Option.some.inj (hx.symm.trans ho)
        obtain rfl : y = x := Option.some.inj (hy2.symm.trans ho)
        have h3 := (hmk i (hEm i hi)).2.2.1
        rw [dstOf_of ho] at h3
        obtain ⟨d, hd⟩ := Option.isSome_iff_exists.1 h3
        exact (Oper.apart_spec hap2).2.1 d hd hd
      have hun := (mem_ready.1 hr').1
      have hrR : i ∈ Region.ready md ops listedR := by
        obtain ⟨_, o', ho', hall⟩ := mem_ready.1 hr'
        exact mem_ready.2 ⟨(hl i).2 ⟨hun, hiE⟩, o', ho', fun e he hb => hl2 _ (hall e he hb)⟩
      have hyR : Yg P ops wR o v aR := by
        rw [hE]
        have hy2 : Yg P ops wR o v a := hy.imp (fun h => ⟨h.1, fun w2 hw2 => h.2 w2 (hg.trans hw2)⟩) (fun h => h)
        exact Yg.to_putE hsel ho (fun j hj => hma j (hEm j hj)) hy2
      refine wpGL_first (W := wR) ho (Region.noSelect_spec hsel) hin (fun _ _ _ _ hg h => ⟨h.1, hT _ _ _ hg h.2⟩) (fun listed a w h j hj => by rw [h.1] at hj; exact hdone j hj) f listedR aR wR (Gr.refl _)
        (fun j oj hoj hne hunj hno => Region.free_spec ho hfr j oj hoj hne ((hl j).1 hunj).1 hno) hrR hyR ?_
      refine ih f mk E g _ _ (a.put o.dst v) _ w wR (by simp only [cnt] at hf; omega) hB' hEn hEm hmn (inv.set hrR hin) (by simp [hsz]) (fun j => ?_) (fun j hj => ?_) (fun j hj => ?_) hap hEb hW hg ?_ hK
      · by_cases e : i = j
        · subst e
          have h1 : i < listed.size := by rw [hsz]; omega
          have h2 : i < listedR.size := by rw [inv.size]; omega
          simp [h1, h2]
        · rw [getD_set_ne true e, getD_set_ne true e]; exact hl j
      · by_cases e : i = j
        · subst e
          have h2 : i < listedR.size := by rw [inv.size]; omega
          simp [h2]
        · rw [getD_set_ne false e] at hj ⊢; exact hl2 j hj
      · obtain ⟨h1, h2, h3, h4⟩ := hmk j hj
        have hji : j ≠ i := fun e => by
          subst e
          have h5 := hma j hj
          obtain ⟨x, y, hx, hy2, hap2⟩ := apartAt_spec h5
          obtain rfl : x = o := Option.some.inj (hx.symm.trans ho)
          obtain rfl : y = x := Option.some.inj (hy2.symm.trans ho)
          rw [dstOf_of ho] at h3
          obtain ⟨d, hd⟩ := Option.isSome_iff_exists.1 h3
          exact (Oper.apart_spec hap2).2.1 d hd hd
        exact ⟨h1, ready_mono h2 hji, h3, fun hjE => (h4 hjE).put hsel ho (.inr (hma j hj))⟩
      · rw [hE]
        exact (putE_apart (Cs := Cs) hsel (g := g) ho E a (fun j hj => hma j (hEm j hj))).2.2 v
    | 1 =>
      intro f mk E g listed listedR a aR w wR hf hB hEn hEm hmn inv hsz hl hl2 hmk hap hEb hW hg hE h
      simp only [earlyPlanB, Bool.and_eq_true, decide_eq_true_eq, List.all_eq_true] at hB
      obtain ⟨hin, hr, hma, hds, hB'⟩ := hB
      obtain ⟨hM, hK⟩ := h
      have hr' : i ∈ Region.ready md ops listed := by simpa using hr
      have him : i ∉ mk := fun hi => by have := (hma i hi).1; simp at this
      refine ih f (i :: mk) E g listed listedR a aR w wR hf hB' hEn (fun j hj => by simp [hEm j hj]) (List.nodup_cons.2 ⟨him, hmn⟩) inv hsz hl hl2 (fun j hj => ?_) (fun j hj k hk hne => ?_) hEb hW hg hE hK
      · rcases List.mem_cons.1 hj with rfl | hj
        · exact ⟨hin, hr', hds, fun _ => by rw [hE]; exact hM.to_putE hsel (fun k hk => (hma k (hEm k hk)).2.1)⟩
        · exact hmk j hj
      · rcases List.mem_cons.1 hj with h1 | h1 <;> rcases List.mem_cons.1 hk with h2 | h2
        · exact absurd (h1.trans h2.symm) hne
        · rw [h1]; exact (hma _ h2).2.2
        · rw [h2]; exact (hma _ h1).2.1
        · exact hap j h1 k h2 hne
    | q + 2 =>
      have use : ∀ (f : Nat) (mk E : List Nat) (g : Nat → Nat) (listed listedR : Array Bool) (a aR : Act) (w wR : World), i ∈ E → f + E.length = cnt ((q + 2, i) :: r) → earlyPlanB md ops n ((q + 2, i) :: r) listed mk = true → E.Nodup → (∀ j ∈ E, j ∈ mk) → mk.Nodup →
          HeadInv md ops n listedR → listed.size = ops.size → (∀ i, listedR.getD i true = false ↔ (listed.getD i true = false ∧ i ∉ E)) → (∀ i, listed.getD i false = true → listedR.getD i false = true) →
          (∀ j ∈ mk, j < n ∧ j ∈ Region.ready md ops listed ∧ (dstOf ops j).isSome = true ∧ (j ∉ E → Makes P ops Cs j aR)) → (∀ j ∈ mk, ∀ k ∈ mk, j ≠ k → apartAt ops j k = true) →
          (∀ j ∈ E, W0.heap.size ≤ g j ∧ Bx wR (g j) (Cs j).2.2 (Cs j).2.1) → Gr W0 w → Gr w wR → aR = putE ops Cs g E a → wpEarly P ops W0 Cs T ((q + 2, i) :: r) a w →
          wpGL P md ops n (fun listed a w => listed = canon n ops.size ∧ T a w) f listedR aR wR := by
        intro f mk E g listed listedR a aR w wR hiE hf hB hEn hEm hmn inv hsz hl hl2 hmk hap hEb hW hg hE h
        simp only [earlyPlanB, Bool.and_eq_true, List.all_eq_true] at hB
        obtain ⟨him, hrd, hB'⟩ := hB
        have him' : i ∈ mk := by simpa using him
        have hin := (hmk i him').1
        have hiL : i < listed.size := by rw [hsz]; omega
        have hiR : i < listedR.size := by rw [inv.size]; omega
        have hdd : ∀ j ∈ E, ∀ k ∈ E, j ≠ k → ∀ t, dstOf ops j = some t → dstOf ops k ≠ some t := fun j hj k hk hne t ht => by
          obtain ⟨x, y, hx, hy2, hap2⟩ := apartAt_spec (hap j (hEm j hj) k (hEm k hk) hne)
          rw [dstOf_of hx] at ht
          rw [dstOf_of hy2]
          exact (Oper.apart_spec hap2).2.1 t ht
        refine ih f (mk.erase i) (E.erase i) g (listed.setIfInBounds i true) listedR (a.put (dstOf ops i) (slOf Cs g i)) aR wR wR ?_ hB' (hEn.erase i) (fun j hj => ?_) (hmn.erase i) inv (by simp [hsz]) (fun j => ?_) (fun j hj => ?_) (fun j hj => ?_) (fun j hj k hk => hap j (List.mem_of_mem_erase hj) k (List.mem_of_mem_erase hk)) (fun j hj => hEb j (List.mem_of_mem_erase hj)) (hW.trans hg) (Gr.refl _) ?_ (h (g i) wR hg (hEb i hiE).1 (hEb i hiE).2)
        · have := List.length_pos_of_mem hiE
          rw [List.length_erase_of_mem hiE]
          simp only [cnt] at hf
          omega
        · have h1 := (hEn.mem_erase_iff).1 hj
          exact (hmn.mem_erase_iff).2 ⟨h1.1, hEm j h1.2⟩
        · by_cases e : i = j
          · subst e
            constructor
            · intro h1; exact absurd hiE ((hl i).1 h1).2
            · intro h1; have h2 := h1.1; simp [hiL] at h2
          · rw [getD_set_ne true e, hl j]
            constructor
            · rintro ⟨h1, h2⟩; exact ⟨h1, fun h3 => h2 (List.mem_of_mem_erase h3)⟩
            · rintro ⟨h1, h2⟩; exact ⟨h1, fun h3 => h2 ((hEn.mem_erase_iff).2 ⟨fun e' => e e'.symm, h3⟩)⟩
        · by_cases e : i = j
          · subst e
            cases hx : listedR.getD i false
            · have h3 : listedR.getD i true = false := getD_in hiR hx
              exact absurd hiE ((hl i).1 h3).2
            · rfl
          · rw [getD_set_ne false e] at hj
            exact hl2 j hj
        · have hj1 := (hmn.mem_erase_iff).1 hj
          obtain ⟨h1, h2, h3, h4⟩ := hmk j hj1.2
          exact ⟨h1, ready_mono h2 hj1.1, h3, fun hjE => h4 (fun h5 => hjE ((hEn.mem_erase_iff).2 ⟨hj1.1, h5⟩))⟩
        · rw [hE]; exact putE_erase E a hiE hEn hdd
      intro f
      induction f with
      | zero =>
        intro mk E g listed listedR a aR w wR hf hB hEn hEm hmn inv hsz hl hl2 hmk hap hEb hW hg hE h
        by_cases hiE : i ∈ E
        · exact use 0 mk E g listed listedR a aR w wR hiE hf hB hEn hEm hmn inv hsz hl hl2 hmk hap hEb hW hg hE h
        · simp only [earlyPlanB, Bool.and_eq_true, List.all_eq_true] at hB
          obtain ⟨him, hrd, hB'⟩ := hB
          have him' : i ∈ mk := by simpa using him
          have hle := mk_le r _ _ hB'
          rw [List.length_erase_of_mem him'] at hle
          have hle3 := uses_le r
          have hsub : E.length ≤ (mk.erase i).length := List.Nodup.length_le_of_subset hEn (fun j hj => (hmn.mem_erase_iff).2 ⟨fun e => hiE (by rw [← e]; exact hj), hEm j hj⟩)
          rw [List.length_erase_of_mem him'] at hsub
          simp only [cnt] at hf
          omega
      | succ f ihf =>
        intro mk E g listed listedR a aR w wR hf hB hEn hEm hmn inv hsz hl hl2 hmk hap hEb hW hg hE h
        by_cases hiE : i ∈ E
        · exact use (f + 1) mk E g listed listedR a aR w wR hiE hf hB hEn hEm hmn inv hsz hl hl2 hmk hap hEb hW hg hE h
        · have hB0 := hB
          simp only [earlyPlanB, Bool.and_eq_true, List.all_eq_true] at hB
          obtain ⟨him, hrd, hB'⟩ := hB
          have him' : i ∈ mk := by simpa using him
          obtain ⟨hin, hir, _, _⟩ := hmk i him'
          have hirR : i ∈ Region.ready md ops listedR := by
            obtain ⟨h0, o', ho', hall⟩ := mem_ready.1 hir
            exact mem_ready.2 ⟨(hl i).2 ⟨h0, hiE⟩, o', ho', fun e he hb => hl2 _ (hall e he hb)⟩
          refine ⟨⟨i, hirR, hin⟩, fun j hj hjn w' hw' => ?_⟩
          obtain ⟨hju, oj, hoj, hjall⟩ := mem_ready.1 hj
          have hjL := (hl j).1 hju
          have hjm : j ∈ mk := by
            refine Classical.byContradiction fun hjm => hjm ?_
            have h1 : j ∈ Region.ready md ops (markAll (mk.erase i) listed) := by
              refine mem_ready.2 ⟨?_, oj, hoj, fun e he hb => ?_⟩
              · rw [markAll_getD _ _ _ _ (by rw [hsz]; omega), hjL.1]
                have : j ∉ mk.erase i := fun h => hjm (List.mem_of_mem_erase h)
                simp [this]
              · have h2 := hjall e he hb
                have h3 : e.on < listedR.size := by
                  rcases Nat.lt_or_ge e.on listedR.size with h | h
                  · exact h
                  · simp [Array.getElem?_eq_none h] at h2
                rw [markAll_getD _ _ _ _ (by rw [hsz, ← inv.size]; exact h3)]
                cases hx : listed.getD e.on false
                · have h4 : listed.getD e.on true = false := getD_in (by rw [hsz, ← inv.size]; exact h3) hx
                  have h5 : e.on ∈ E := by
                    refine Classical.byContradiction fun h6 => ?_
                    have h7 := (hl e.on).2 ⟨h4, h6⟩
                    rw [getD_both h7] at h2
                    cases h2
                  have h8 : e.on ∈ mk.erase i := (hmn.mem_erase_iff).2 ⟨fun h9 => hiE (by rw [← h9]; exact h5), hEm _ h5⟩
                  simp [h8]
                · simp
            have := hrd j h1
            simpa using this
          obtain ⟨_, _, hds, hMj⟩ := hmk j hjm
          obtain ⟨o, ho, hwd, hrun⟩ := hMj hjL.2
          obtain rfl : o = oj := Option.some.inj (ho.symm.trans hoj)
          refine ⟨o, ho, ?_⟩
          rw [if_pos hwd, hrun w']
          refine ⟨Gr.alloc _ _, ?_⟩
          have hjLs : j < listed.size := by rw [hsz]; omega
          have hjRs : j < listedR.size := by rw [inv.size]; omega
          refine ihf mk (j :: E) (fun x => if x = j then w'.heap.size else g x) listed (listedR.setIfInBounds j true) a _ w (w'.alloc (.cells (Cs j).2.1 (Cs j).2.2)) (by simp only [List.length_cons]; omega) hB0 (List.nodup_cons.2 ⟨hjL.2, hEn⟩) (fun x hx => ?_) hmn (inv.set hj hjn) hsz (fun x => ?_) (fun x hx => getD_set_true (hl2 x hx)) (fun x hx => ?_) hap (fun x hx => ?_) hW (hg.trans (hw'.trans (Gr.alloc _ _))) ?_ h
          · rcases List.mem_cons.1 hx with rfl | hx
            · exact hjm
            · exact hEm x hx
          · by_cases e : j = x
            · subst e
              constructor
              · intro h1; simp [hjRs] at h1
              · intro h1; exact absurd (List.mem_cons_self) h1.2
            · rw [getD_set_ne true e, hl x]
              constructor
              · rintro ⟨h1, h2⟩; exact ⟨h1, fun h3 => by rcases List.mem_cons.1 h3 with h4 | h4; exact e h4.symm; exact h2 h4⟩
              · rintro ⟨h1, h2⟩; exact ⟨h1, fun h3 => h2 (List.mem_cons_of_mem _ h3)⟩
          · obtain ⟨h1, h2, h3, h4⟩ := hmk x hx
            refine ⟨h1, h2, h3, fun hxE => ?_⟩
            have hxj : x ≠ j := fun e => hxE (by rw [e]; exact List.mem_cons_self)
            exact (h4 (fun h5 => hxE (List.mem_cons_of_mem _ h5))).put hsel ho (.inl (hap j hjm x hx (Ne.symm hxj)))
          · show W0.heap.size ≤ (if x = j then w'.heap.size else g x) ∧ Bx _ (if x = j then w'.heap.size else g x) _ _
            by_cases e : x = j
            · subst e
              rw [if_pos rfl]
              exact ⟨(hW.trans (hg.trans hw')).size, Bx.new _ _ _⟩
            · rw [if_neg e]
              have hxE : x ∈ E := by
                rcases List.mem_cons.1 hx with h1 | h1
                · exact absurd h1 e
                · exact h1
              exact ⟨(hEb x hxE).1, (hEb x hxE).2.gr (hw'.trans (Gr.alloc _ _))⟩
          · have e1 : putE ops Cs (fun x => if x = j then w'.heap.size else g x) E a = putE ops Cs g E a := putE_congr E a (fun x hx => if_neg (fun e => hjL.2 (by rw [← e]; exact hx)))
            show aR.put o.dst _ = putE ops Cs _ E (a.put (dstOf ops j) _)
            rw [putE_put, e1, ← hE, dstOf_of ho]
            · show _ = aR.put o.dst (.slice (some ⟨if j = j then w'.heap.size else g j, 0, none⟩) _ _)
              rw [if_pos rfl]
            · intro x hx t ht
              obtain ⟨p, q2, hp, hq, hap2⟩ := apartAt_spec (hap x (hEm x hx) j hjm (fun e => hjL.2 (by rw [← e]; exact hx)))
              rw [dstOf_of hp] at ht
              rw [dstOf_of hq]
              exact (Oper.apart_spec hap2).2.1 t ht
def earlyB (md : Region.Mode) (ops : Array Oper) (D : Nat → Tmp) (n : Nat) (is X : List Nat) (plan : List (Nat × Nat)) : Bool :=
  Region.noSelect ops && (decide (n < ops.size ∧ cnt plan + is.length = n) && ((headInB md ops n X && (looseB md ops n X && !X.contains n)) && (Region.chainB md ops n && (apartB ops n is && (earlyPlanB md ops n plan (marked is ops.size) [] && (Region.seqB md ops (ops.size - n) n (canon n ops.size) &&
    (decide is.Nodup && (is.all (fun i => decide (i < n) && (is.all fun j => decide (D i = D j → i = j)) && ((ops[i]?).map fun o => o.after.isEmpty).getD false)))))))))
theorem wp_region_early {id : Nat} {Q : Exit → Act → World → Prop} {a : Act} {w : World} {l : List Oper} (n : Nat) (is X : List Nat) (D : Nat → Tmp) (Z : Nat → Obj) (Cs : Nat → Nat × Array Value × TypeId) (plan : List (Nat × Nat)) (hm : P.follows .mixedOrders = true)
    (hB : earlyB .any l.toArray D n is X plan = true) (hA : ∀ i ∈ is, AllocAt P .any l.toArray D Z i) (hX : ∀ x ∈ X, ∃ o, l.toArray[x]? = some o ∧ PureOp P o) (hp : ∀ c a d v w, Q (.panic c) (a.put (some d) v) w → Q (.panic c) a w)
    (h : ∀ T : Act → World → Prop, Hid (∀ a' w', (∀ G w2, Gr w' w2 → Fresh Z is G w w2 → wpList P l.toArray Q (l.drop n) (puts D G is a') w2) → T a' w') → wpEarly P l.toArray w Cs T plan a w) : (Code.region id l.toArray true).wp P Q a w := by
  simp only [earlyB, Bool.and_eq_true, decide_eq_true_eq, List.all_eq_true] at hB
  obtain ⟨hsel, ⟨hn, hcount⟩, ⟨hs, hlo, hnX⟩, hc, hap, hpl, hseq, hnd, hal⟩ := hB
  have hn' : n < l.length := by simpa using hn
  have hdl : (l.drop n).length = l.toArray.size - n := by simp
  have hdone : ∀ j ∈ Region.ready .any l.toArray (canon n l.toArray.size), n ≤ j := fun j hj => seqB_ready hseq j hj
  have inv0 : HeadInv .any l.toArray n (Array.replicate l.toArray.size false) :=
    ⟨by simp, fun j oj _ hl => (by rw [getD_replicate_false] at hl; cases hl), fun t _ ht => getD_in (by simpa using ht) (getD_replicate_false _ _)⟩
  have hmk : ∀ j d, (marked is l.toArray.size).getD j d = if j < l.toArray.size then is.contains j else d := fun j d => by
    by_cases h : j < l.toArray.size
    · rw [if_pos h, Array.getD_eq_getD_getElem?, Array.getElem?_eq_getElem (by simpa [marked] using h)]
      simp [marked]
    · rw [if_neg h, Array.getD_eq_getD_getElem?, Array.getElem?_eq_none (by simpa [marked] using h)]
      rfl
  have inv1 : HeadInv .any l.toArray n (marked is l.toArray.size) := by
    refine ⟨by simp [marked], fun j oj hj hl e he hb => ?_, fun t ht ht' => ?_⟩
    · rw [hmk] at hl
      split at hl
      · have hjs : j ∈ is := by simpa using hl
        have h3 := (hal j hjs).2
        rw [hj] at h3
        simp only [Option.map_some, Option.getD_some] at h3
        have : oj.after = #[] := by simpa using h3
        rw [this] at he
        simp at he
      · cases hl
    · rw [hmk, if_pos ht']
      cases hh : is.contains t
      · rfl
      · have := ((hal t (by simpa using hh)).1).1
        omega
  refine wp_region_any hm ?_
  have H1 := wpGL_early (P := P) (md := .any) (n := n) (W0 := w) (Cs := Cs) (T := fun a' w' => ∀ G w2, Gr w' w2 → Fresh Z is G w w2 → wpList P l.toArray Q (l.drop n) (puts D G is a') w2) hsel hn
    (fun a' w1 w2 hg h G w3 hw3 hf => h G w3 (hg.trans hw3) hf) hdone plan (cnt plan) [] [] (fun _ => 0) _ _ a a w w (by simp) hpl List.nodup_nil (fun j hj => by cases hj) List.nodup_nil inv1 (by simp [marked]) (fun i => by simp) (fun i hi => hi) (fun j hj => by cases hj) (fun j hj => by cases hj) (fun j hj => by cases hj) (Gr.refl _) (Gr.refl _) rfl (h _ (fun _ _ h => h))
  have H2 := wpGL_bg (P := P) (md := .any) (n := n) (is := is) (D := D) (Z := Z) (T := fun a' w' => ∀ w2, Gr w' w2 → wpList P l.toArray Q (l.drop n) a' w2) hsel hn hap hdone hnd
    (fun j hj k hk => by have := (hal j hj).1.2 k hk; simpa using this) (fun i hi => ⟨by simpa using (hal i hi).1.1, hA i hi⟩)
    (cnt plan + is.length) (cnt plan) is (Array.replicate l.toArray.size false) (marked is l.toArray.size) (fun a => a) a w w.drew rfl hnd (fun _ h => h) inv0 inv1
    (fun j hj => ?_) (fun j hj => (by rw [getD_replicate_false] at hj; cases hj)) (fun j hj => ?_) (fun j hj => ?_) (fun _ _ _ _ _ _ => ⟨rfl, rfl, fun _ => rfl⟩) (Gr.drew w) H1
    (fun a2 w2 hw2 hL G w' hg2 hgR hf w3 hw3 => hL G w3 (hg2.trans hw3) ⟨fun i hi => ⟨(hf.1 i hi).1, hw3.block (hf.1 i hi).2⟩, hf.2⟩)
  · have h2 := wpAny_of_GL (X := X) (Q := Q) (g := l.toArray.size - n) hsel hs hlo hc hn (by simpa using hnX) hX (fun listed a w _ hL => by
      have h3 := wpAny_of_seq (md := .any) (Q' := Q) (l.drop n) n listed a w (fun j => by simp [List.getElem?_drop]) (by rw [hdl, hL.1]; exact hseq) (hL.2 w (Gr.refl _))
      rwa [hdl] at h3) hp _ _ _ _ inv0 H2
    have hlen : cnt plan + is.length + (l.toArray.size - n) = l.toArray.size := by
      omega
    rw [hlen] at h2
    exact h2
  · rw [hmk]
    by_cases h3 : j < l.toArray.size
    · rw [if_pos h3, show is.contains j = false by simpa using hj]
      exact getD_in (by simpa using h3) (getD_replicate_false _ _)
    · rw [if_neg h3]; simp at h3; simp [h3]
  · have := (hal j hj).1.1
    exact getD_in (by simp; omega) (getD_replicate_false _ _)
  · have := (hal j hj).1.1
    rw [hmk, if_pos (by simp; omega)]
    simpa using hj
/-! ### the moves of the walk -/
theorem wpEarly_nil {T : Act → World → Prop} {a : Act} {w : World} (h : T a w) : wpEarly P ops W0 Cs T [] a w := h
theorem wpEarly_takeL {l : List Oper} {T : Act → World → Prop} {a : Act} {w : World} {i : Nat} {o : Oper} {r : List (Nat × Nat)} {v : Value} (ho : l[i]? = some o) (h1 : Region.wanted o (yielded l.toArray a.tmps) = true)
    (h2 : ∀ w', Gr w w' → o.quietAt P a (Gr w') w' v) (h3 : wpEarly P l.toArray W0 Cs T r (a.put o.dst v) w) : wpEarly P l.toArray W0 Cs T ((0, i) :: r) a w := ⟨o, v, by rw [List.getElem?_toArray]; exact ho, .inl ⟨h1, h2⟩, h3⟩
theorem wpEarly_callL {l : List Oper} {T : Act → World → Prop} {a : Act} {w : World} {i : Nat} {r : List (Nat × Nat)} {v : Value} {f ty : Nat} {xs : Array Operand} {ats : Array TypeId} {pos : String} {af : Array Edge} {g : Option (Nat × Bool)} {d : Option Tmp} {args : Array Value}
    (ho : l[i]? = some { dst := d, op := .call { callee := .value (.func f), args := xs, argTypes := ats }, type := ty, pos := pos, after := af, guard := g })
    (h1 : Region.wanted { dst := d, op := .call { callee := .value (.func f), args := xs, argTypes := ats }, type := ty, pos := pos, after := af, guard := g } (yielded l.toArray a.tmps) = true)
    (hr : ∀ args w, (callFunc f args).run P w = .ok (.enter f args) w)
    (h2 : ∀ w', Gr w w' → Calls P f args w' fun e w'' => e = .returned v ∧ Below w'.heap.size w' w'') (ha : (xs.toList.map a.eval).toArray = args)
    (h3 : wpEarly P l.toArray W0 Cs T r (a.put d v) w) : wpEarly P l.toArray W0 Cs T ((0, i) :: r) a w := by
  refine ⟨_, v, by rw [List.getElem?_toArray]; exact ho, .inl ⟨h1, fun w' hw => ?_⟩, h3⟩
  unfold Oper.quietAt
  have e : (#[] ++ xs.map a.eval ++ #[] : Array Value) = args := by rw [← ha]; cases xs; simp
  rw [execOp_call_go, hr, e]
  exact ⟨rfl, h2 w' hw⟩
theorem wpEarly_mk {l : List Oper} {T : Act → World → Prop} {a : Act} {w : World} {i : Nat} {o : Oper} {r : List (Nat × Nat)} (ho : l[i]? = some o) (h1 : Region.wanted o (yielded l.toArray a.tmps) = true)
    (h2 : ∀ w', (execOp a.eval o).run P w' = .ok (.value (.slice (some ⟨w'.heap.size, 0, none⟩) (Cs i).1 (Cs i).1)) (w'.alloc (.cells (Cs i).2.1 (Cs i).2.2))) (h3 : wpEarly P l.toArray W0 Cs T r a w) : wpEarly P l.toArray W0 Cs T ((1, i) :: r) a w :=
  ⟨⟨o, by rw [List.getElem?_toArray]; exact ho, h1, h2⟩, h3⟩
theorem wpEarly_use {l : List Oper} {T : Act → World → Prop} {a : Act} {w : World} {i : Nat} {o : Oper} {r : List (Nat × Nat)} {n : Nat} {cs : Array Value} {E : TypeId} (ho : l[i]? = some o) (hc : Cs i = (n, cs, E))
    (h : ∀ g w1, Gr w w1 → W0.heap.size ≤ g → Bx w1 g E cs → wpEarly P l.toArray W0 Cs T r (a.put o.dst (.slice (some ⟨g, 0, none⟩) n n)) w1) : wpEarly P l.toArray W0 Cs T ((2, i) :: r) a w := fun g w1 h1 h2 h3 => by
  rw [hc] at h3 ⊢
  have hd : dstOf l.toArray i = o.dst := by simp [dstOf, ho]
  rw [hd]
  exact h g w1 h1 h2 h3
end
end Go.Proofs.YtobojnodohjiaaaGreatDoor
