
/- What a walk knows of the world, in one fact: blocks known whole (each its own), numbers of the reference. No condition. -/
import Derived.Test.YtobojnodohjiaaaGreatDoorPI
import Derived.Test.YtobojnodohjiaaaGreatDoorPC
set_option linter.unusedVariables false
set_option linter.unusedSimpArgs false
namespace Go.Proofs.YtobojnodohjiaaaGreatDoor
open Go.RowKit
abbrev Fk := (Nat × TypeId × Array Value) ⊕ (Value × Nat)
def Fat (W : World) (B : Nat) : Fk → Prop
  | Sum.inl (b, T, cs) => Bx W b T cs ∧ T ≠ 3 ∧ B ≤ b
  | .inr (v, n) => Rn W v n
def HP (w0 W : World) (L : List Fk) : Prop :=
  Below w0.heap.size w0 W ∧ (∀ (i : Nat) (e : Fk), L[i]? = some e → Fat W w0.heap.size e) ∧ ∀ (i j : Nat) (x y : Nat × TypeId × Array Value), i ≠ j → L[i]? = some (Sum.inl x) → L[j]? = some (Sum.inl y) → x.1 ≠ y.1
section
variable {w0 W W' : World} {L : List Fk} {b T i n : Nat} {cs : Array Value} {v : Value}
theorem Fat.gr {e : Fk} {B : Nat} (h : Fat W B e) (g : Gr W W') : Fat W' B e := by
  rcases e with ⟨b, T, cs⟩ | ⟨v, n⟩
  · exact ⟨h.1.gr g, h.2⟩
  · exact Rn.gr h g
theorem HP.gr (h : HP w0 W L) (g : Gr W W') : HP w0 W' L := ⟨h.1.trans (Below.mono g h.1.size), fun i e he => (h.2.1 i e he).gr g, h.2.2⟩
theorem HPb (h : Hid (HP w0 W L)) : Hid (Below w0.heap.size w0 W) := h.out.1
theorem HP.bx (h : HP w0 W L) (i : Nat) (hi : L[i]? = some (Sum.inl (b, T, cs))) : Bx W b T cs := (h.2.1 i _ hi).1
theorem HP.c (h : HP w0 W L) (i : Nat) (hi : L[i]? = some (Sum.inl (b, T, cs))) : ∀ w', Gr W w' → ∀ j, w'.cell? ⟨b, j, none⟩ = cs[j]? := (h.bx i hi).cells
theorem HP.f (h : HP w0 W L) (i : Nat) (hi : L[i]? = some (Sum.inl (b, T, cs))) : ∀ w', Gr W w' → ∀ j, w'.frozen? ⟨b, j, none⟩ = false := (h.bx i hi).free
theorem HP.rn (h : HP w0 W L) (i : Nat) (hi : L[i]? = some (Sum.inr (v, n))) : Rn W v n := h.2.1 i _ hi
theorem HP.r (h : HP w0 W L) (i : Nat) (hi : L[i]? = some (Sum.inr (v, n))) (g : Gr W W') : Rn W' v n := Rn.gr (h.rn i hi) g
theorem HP.ne {c S : Nat} {ds : Array Value} (h : HP w0 W L) (i j : Nat) (hi : L[i]? = some (Sum.inl (b, T, cs))) (hj : L[j]? = some (Sum.inl (c, S, ds))) (hij : i ≠ j) : b ≠ c ∧ c ≠ b :=
  ⟨h.2.2 i j _ _ hij hi hj, fun e => h.2.2 i j _ _ hij hi hj e.symm⟩
theorem HP.put (h : HP w0 W L) (i o : Nat) (u : Value) (hi : L[i]? = some (Sum.inl (b, T, cs))) : HP w0 (W.setCell ⟨b, o, none⟩ u) (L.set i (Sum.inl (b, T, cs.setIfInBounds o u))) := by
  obtain ⟨h1, h2, h3⟩ := h
  have hb := h2 i _ hi
  have hlt : i < L.length := (List.getElem?_eq_some_iff.1 hi).1
  refine ⟨h1.setCell hb.2.2 _, fun j e he => ?_, fun j k x y hjk hx hy => ?_⟩
  · rw [List.getElem?_set] at he
    split at he
    · injection he with he
      subst he
      exact ⟨hb.1.set o u, hb.2⟩
    · rename_i hij
      have he' := h2 j e he
      rcases e with ⟨c, S, ds⟩ | ⟨v, n⟩
      · exact ⟨he'.1.setOther (h3 j i _ _ (fun e => hij e.symm) he hi) u, he'.2⟩
      · exact Rn.setOther he' (Rn.ne he' hb.1 hb.2.1) u
  · rw [List.getElem?_set] at hx hy
    split at hx <;> split at hy
    · omega
    · injection hx with hx
      injection hx with hx
      subst hx
      rename_i h4 h5
      exact h3 i k (b, T, cs) y h5 hi hy
    · injection hy with hy
      injection hy with hy
      subst hy
      rename_i h4 h5
      exact h3 j i x (b, T, cs) (fun e => h4 e.symm) hx hi
    · exact h3 j k x y hjk hx hy
theorem HP.add (h : HP w0 W L) (hb : Bx W b T cs) (hT : T ≠ 3) (hle : w0.heap.size ≤ b) (hne : ∀ (i : Nat) (x : Nat × TypeId × Array Value), L[i]? = some (Sum.inl x) → x.1 ≠ b) : HP w0 W (L ++ [Sum.inl (b, T, cs)]) := by
  obtain ⟨h1, h2, h3⟩ := h
  have key : ∀ j e, (L ++ [(Sum.inl (b, T, cs) : Fk)])[j]? = some e → L[j]? = some e ∨ (j = L.length ∧ e = Sum.inl (b, T, cs)) := fun j e he => by
    rw [List.getElem?_append] at he
    split at he
    · exact .inl he
    · rename_i hj
      have : j - L.length = 0 := by
        rcases Nat.eq_zero_or_pos (j - L.length) with h | h
        · exact h
        · rw [List.getElem?_eq_none (by simp; omega)] at he
          cases he
      rw [this] at he
      simp at he
      exact .inr ⟨by omega, he.symm⟩
  refine ⟨h1, fun j e he => ?_, fun j k x y hjk hx hy => ?_⟩
  · rcases key j e he with h | ⟨_, rfl⟩
    · exact h2 j e h
    · exact ⟨hb, hT, hle⟩
  · rcases key j _ hx with h | ⟨hj, h⟩ <;> rcases key k _ hy with h' | ⟨hk, h'⟩
    · exact h3 j k x y hjk h h'
    · injection h' with h'
      subst h'
      exact hne j x h
    · injection h with h
      subst h
      exact fun e => hne k y h' e.symm
    · omega
theorem HP.ar (h : HP w0 W L) (hr : Rn W v n) : HP w0 W (L ++ [Sum.inr (v, n)]) := by
  obtain ⟨h1, h2, h3⟩ := h
  have key : ∀ j e, (L ++ [(Sum.inr (v, n) : Fk)])[j]? = some e → L[j]? = some e ∨ e = Sum.inr (v, n) := fun j e he => by
    rw [List.getElem?_append] at he
    split at he
    · exact .inl he
    · rename_i hj
      have : j - L.length = 0 := by
        rcases Nat.eq_zero_or_pos (j - L.length) with h | h
        · exact h
        · rw [List.getElem?_eq_none (by simp; omega)] at he
          cases he
      rw [this] at he
      simp at he
      exact .inr he.symm
  refine ⟨h1, fun j e he => ?_, fun j k x y hjk hx hy => ?_⟩
  · rcases key j e he with h | rfl
    · exact h2 j e h
    · exact hr
  · rcases key j _ hx with h | h
    · rcases key k _ hy with h' | h'
      · exact h3 j k x y hjk h h'
      · cases h'
    · cases h
theorem HP.lt (h : HP w0 W L) : ∀ (i : Nat) (x : Nat × TypeId × Array Value), L[i]? = some (Sum.inl x) → x.1 < W.heap.size := fun i x hx => (h.2.1 i _ hx).1.lt
theorem HP.al (h : HP w0 W L) (hb : W.heap.size = b) (hT : T ≠ 3) : HP w0 (W.alloc (.cells cs T)) (L ++ [Sum.inl (b, T, cs)]) :=
  (h.gr (Gr.alloc _ _)).add (Bx.at hb) hT (by rw [← hb]; exact h.1.size) (fun i x hx => by have := h.lt i x hx; omega)
theorem HP.er (h : HP w0 W L) (k : Nat) : HP w0 W (L.eraseIdx k) := by
  obtain ⟨h1, h2, h3⟩ := h
  refine ⟨h1, fun j e he => ?_, fun i j x y hij hx hy => ?_⟩
  · rw [List.getElem?_eraseIdx] at he
    split at he
    · exact h2 _ e he
    · exact h2 _ e he
  · rw [List.getElem?_eraseIdx] at hx hy
    split at hx <;> split at hy <;> exact h3 _ _ x y (by omega) hx hy
theorem HP.fr (h : HP w0 W L) {V : World} (hg : Gr W V) {Z : Nat → Obj} {is : List Nat} {G : Nat → Nat} (hf : Fresh Z is G W V) {zs : List (Array Value × TypeId)} (hz : is.map Z = zs.map fun z => .cells z.1 z.2) (hT : ∀ z ∈ zs, z.2 ≠ 3) (hnd : is.Nodup) :
    HP w0 V (L ++ (is.zip zs).map fun p => Sum.inl (G p.1, p.2.2, p.2.1)) := by
  have gen : ∀ (is' : List Nat) (zs' : List (Array Value × TypeId)) (M : List Fk), (∀ i ∈ is', i ∈ is) → is'.Nodup → is'.map Z = zs'.map (fun z => .cells z.1 z.2) → (∀ z ∈ zs', z.2 ≠ 3) → HP w0 V M →
      (∀ (i : Nat) (x : Nat × TypeId × Array Value), M[i]? = some (Sum.inl x) → x.1 < W.heap.size ∨ ∃ j ∈ is, j ∉ is' ∧ x.1 = G j) → HP w0 V (M ++ (is'.zip zs').map fun p => Sum.inl (G p.1, p.2.2, p.2.1)) := by
    intro is'
    induction is' with
    | nil => intro zs' M _ _ _ _ hM _; simpa using hM
    | cons k ks ih =>
      intro zs' M hs hn hz hT hM hd
      cases zs' with
      | nil => simp at hz
      | cons z zs' =>
        simp only [List.map_cons, List.cons.injEq] at hz
        have hk := hf.1 k (hs k (by simp))
        have hbx : Bx V (G k) z.2 z.1 := by
          have := hk.2
          rw [hz.1] at this
          exact this
        have hM' : HP w0 V (M ++ [Sum.inl (G k, z.2, z.1)]) := hM.add hbx (hT z (by simp)) (Nat.le_trans h.1.size hk.1) (fun i x hx e => by
          rcases hd i x hx with h | ⟨j, hj, hjk, hxj⟩
          · rw [e] at h; omega
          · have := hf.2 j hj k (hs k (by simp)) (hxj.symm.trans e)
            subst this
            exact hjk (by simp))
        have := ih zs' (M ++ [Sum.inl (G k, z.2, z.1)]) (fun i hi => hs i (by simp [hi])) (List.nodup_cons.1 hn).2 hz.2 (fun z hz => hT z (by simp [hz])) hM' (fun i x hx => by
          rw [List.getElem?_append] at hx
          split at hx
          · rcases hd i x hx with h | ⟨j, hj, hjk, hxj⟩
            · exact .inl h
            · exact .inr ⟨j, hj, fun h => hjk (by simp [h]), hxj⟩
          · rename_i hi
            have h0 : i - M.length = 0 := by
              rcases Nat.eq_zero_or_pos (i - M.length) with h | h
              · exact h
              · rw [List.getElem?_eq_none (by simp; omega)] at hx
                cases hx
            rw [h0] at hx
            simp at hx
            subst hx
            exact .inr ⟨k, hs k (by simp), (List.nodup_cons.1 hn).1, rfl⟩)
        simpa using this
  exact gen is zs L (fun _ h => h) hnd hz hT (h.gr hg) (fun i x hx => .inl (h.lt i x hx))
theorem HP.put2 {u1 u2 : Value} (h : HP w0 W L) (i o : Nat) (hi : L[i]? = some (Sum.inl (b, T, cs))) : HP w0 ((W.setCell ⟨b, o, none⟩ u1).setCell ⟨b, o + 1, none⟩ u2) (L.set i (Sum.inl (b, T, (cs.setIfInBounds o u1).setIfInBounds (o + 1) u2))) := by
  have hlt : i < L.length := (List.getElem?_eq_some_iff.1 hi).1
  have := (h.put i o u1 hi).put i (o + 1) u2 (by rw [List.getElem?_set, if_pos rfl, if_pos hlt])
  rwa [List.set_set] at this
end
theorem hp0 (w : World) : HP w w [] := ⟨Below.refl _ _, fun i e h => by simp at h, fun i j x y _ h => by simp at h⟩
/-! ### the steps of a walk, shortly -/
theorem lA {α : Type} {l : List α} {i : Nat} {a : α} : l.toArray.setIfInBounds i a = (l.set i a).toArray := List.setIfInBounds_toArray _ _ _
theorem lB {α : Type} {x : α} {l : List α} {a : α} : (x :: l).set 0 a = a :: l := rfl
theorem lC {α : Type} {x : α} {l : List α} {n : Nat} {a : α} : (x :: l).set (n + 1) a = x :: l.set n a := rfl
theorem lD {α : Type} {x : α} {l : List α} {n : Nat} : (x :: l).drop (n + 1) = l.drop n := rfl
theorem lE {α : Type} {l : List α} : l.drop 0 = l := rfl
theorem lF {α : Type} {x : α} {l m : List α} : (x :: l) ++ m = x :: (l ++ m) := rfl
theorem lG {α : Type} {l : List α} : [] ++ l = l := rfl
theorem lH {α : Type} {x : α} {l : List α} : (x :: l).eraseIdx 0 = l := rfl
theorem lI {α : Type} {x : α} {l : List α} {n : Nat} : (x :: l).eraseIdx (n + 1) = x :: l.eraseIdx n := rfl
theorem ok {p : Prop} (h : p := by first | rfl | omega | (simp; done) | grind) : p := h
theorem om {p : Prop} (h : p := by first | omega | exact Nat.le_trans (wl_small (by decide)) (by decide)) : p := h
section
variable {P : Program}
theorem kS {Q : Exit → Act → World → Prop} {c d : Code} {a : Act} {w : World} (h : ∀ K : Act → World → Prop, Hid (∀ a' w', d.wp P Q a' w' → K a' w') → c.wp P (Exit.then K Q) a w) : (c.seq d).wp P Q a w := wp_seq_k fun K hK => h K (Lib.hid hK)
theorem kL {x : Code} {Q : Exit → Act → World → Prop} {a : Act} {w : World} (h : ∀ K : Act → World → Prop, Hid (∀ a w, Q .normal a w → K a w) → x.wp P (Exit.then K Q) a w) : x.wp P Q a w := wp_last_k fun K hK => h K (Lib.hid hK)
theorem sq {id : Nat} {Q : Exit → Act → World → Prop} {a : Act} {w : World} {l : List Oper} (n : Nat) (plan : List (Bool × Nat)) (h : ∀ T : Act → World → Prop, Hid (∀ a' w', (∀ w2, Gr w' w2 → wpList P l.toArray Q (l.drop n) a' w2) → T a' w') → wpPlan P l.toArray T plan a w)
    (hp : plan.map (·.2) = List.range' 0 n := by rfl) (hn : n ≤ l.length := by simp) : (Code.region id l.toArray false).wp P Q a w := wp_region_seqplan n plan hp hn h
theorem pd {id : Nat} {Q : Exit → Act → World → Prop} {a : Act} {w : World} {l : List Oper} (n : Nat) (plan : List (Bool × Nat))
    (h : ∀ T : Act → World → Prop, Hid (∀ a' w', (∀ G w2, Gr w' w2 → Fresh (fun _ => .cells #[] 0) [] G w w2 → wpList P l.toArray Q (l.drop n) (puts (fun _ => 0) G [] a') w2) → T a' w') → wpPlan P l.toArray T plan a w)
    (hm : P.follows .mixedOrders = true := by kernel_rfl) (hB : regionB .any l.toArray (fun _ => 0) n [] [] plan = true := by kernel_rfl) (hp : ∀ c a d v w, Q (.panic c) (a.put (some d) v) w → Q (.panic c) a w := by exact (fun _ _ _ _ _ h => h)) : (Code.region id l.toArray true).wp P Q a w :=
  wp_region_plan n [] [] (fun _ => 0) (fun _ => .cells #[] 0) plan hm hB (fun i hi => by cases hi) (fun i hi => by cases hi) hp h
theorem tk {l : List Oper} {T : Act → World → Prop} {a a' : Act} {w : World} {i : Nat} {o : Oper} {r : List (Bool × Nat)} {v : Value} (h3 : wpPlan P l.toArray T r a' w) (ho : l[i]? = some o := by rfl) (h1 : Region.wanted o (yielded l.toArray a.tmps) = true := by rfl)
    (h2 : ∀ w', Gr w w' → o.quietAt P a (Gr w') w' v := by (intro w' hw; go_simp; with_reducible rfl)) (ha : a.put o.dst v = a' := by (simp only [Act.put, lA, lB, lC]; rfl)) : wpPlan P l.toArray T ((true, i) :: r) a w := wpPlan_takeL ho h1 h2 (ha ▸ h3)
theorem sk {l : List Oper} {T : Act → World → Prop} {a a' : Act} {w : World} {i : Nat} {o : Oper} {r : List (Bool × Nat)} (h3 : wpPlan P l.toArray T r a' w) (ho : l[i]? = some o := by rfl) (h1 : Region.wanted o (yielded l.toArray a.tmps) = false := by rfl)
    (ha : a.put o.dst undef = a' := by (simp only [Act.put, lA, lB, lC]; rfl)) : wpPlan P l.toArray T ((true, i) :: r) a w := wpPlan_skipL ho h1 (ha ▸ h3)
theorem ck {l : List Oper} {T : Act → World → Prop} {a a' : Act} {w : World} {i : Nat} {r : List (Bool × Nat)} {v : Value} {f ty : Nat} {xs : Array Operand} {ats : Array TypeId} {pos : String} {af : Array Edge} {g : Option (Nat × Bool)} {d : Option Tmp} {args : Array Value}
    (hr : ∀ args w, (callFunc f args).run P w = .ok (.enter f args) w) (h2 : ∀ w', Gr w w' → Calls P f args w' fun e w'' => e = .returned v ∧ Below w'.heap.size w' w'') (h3 : wpPlan P l.toArray T r a' w)
    (ho : l[i]? = some { dst := d, op := .call { callee := .value (.func f), args := xs, argTypes := ats }, type := ty, pos := pos, after := af, guard := g } := by rfl)
    (h1 : Region.wanted { dst := d, op := .call { callee := .value (.func f), args := xs, argTypes := ats }, type := ty, pos := pos, after := af, guard := g } (yielded l.toArray a.tmps) = true := by rfl)
    (hx : (xs.toList.map a.eval).toArray = args := by rfl) (ha : a.put d v = a' := by (simp only [Act.put, lA, lB, lC]; rfl)) : wpPlan P l.toArray T ((true, i) :: r) a w := wpPlan_callL ho h1 hr h2 hx (ha ▸ h3)
theorem nlS {ops : Array Oper} {l l' : List Oper} {n : Nat} {Q : Exit → Act → World → Prop} {T : Act → World → Prop} {a : Act} {w0 w : World} {L : List Fk} (hT : Hid (∀ a' w', (∀ w2, Gr w' w2 → wpList P ops Q (l.drop n) a' w2) → T a' w')) (HF : Hid (HP w0 w L))
    (h : ∀ w2, Hid (HP w0 w2 L) → wpList P ops Q l' a w2) (hd : l.drop n = l' := by (simp only [lD, lE]; rfl)) : wpPlan P ops T [] a w := hT.out _ _ fun w2 hg => hd ▸ h w2 (Lib.hid (HF.out.gr hg))
theorem nlD {ops : Array Oper} {l l' : List Oper} {n : Nat} {Q : Exit → Act → World → Prop} {T : Act → World → Prop} {a : Act} {w0 w u : World} {L : List Fk} (hT : Hid (∀ a' w', (∀ G w2, Gr w' w2 → Fresh (fun _ => .cells #[] 0) [] G u w2 → wpList P ops Q (l.drop n) (puts (fun _ => 0) G [] a') w2) → T a' w')) (HF : Hid (HP w0 w L))
    (h : ∀ w2, Hid (HP w0 w2 L) → wpList P ops Q l' a w2) (hd : l.drop n = l' := by (simp only [lD, lE]; rfl)) : wpPlan P ops T [] a w := hT.out _ _ fun G w2 hg hf => hd ▸ h w2 (Lib.hid (HF.out.gr hg))
theorem fH {c : Code} {Q : Exit → Act → World → Prop} {a : Act} {w0 W : World} {L L' : List Fk} (h : HP w0 W L) (k : ∀ W', Hid (HP w0 W' L') → c.wp P Q a W') (hL : L = L' := by first | (simp only [lA, lB, lC, lF, lG, lH, lI]; rfl) | rfl) : c.wp P Q a W := k W (Lib.hid (hL ▸ h))
end
theorem HP.aL {w0 W : World} {L : List Fk} {T : TypeId} {cs : Array Value} (h : HP w0 W L) (b : Nat) (hb : W.heap.size = b := by first | rfl | simp) (hT : T ≠ 3 := by decide) : HP w0 (W.alloc (.cells cs T)) (L ++ [Sum.inl (b, T, cs)]) := h.al hb hT
theorem kO {P : Program} {d : Code} {Q : Exit → Act → World → Prop} {K : Act → World → Prop} {a : Act} {w : World} (h : Hid (∀ a' w', d.wp P Q a' w' → K a' w')) (g : d.wp P Q a w) : K a w := h.out _ _ g
theorem zq1_ {α β : Type} {a : α} {b : β} {l : List α} {m : List β} : (a :: l).zip (b :: m) = (a, b) :: l.zip m := rfl
theorem zq2_ {α β : Type} {l : List α} : l.zip ([] : List β) = [] := by simp
theorem zq3_ {α β : Type} {f : α → β} {a : α} {l : List α} : (a :: l).map f = f a :: l.map f := rfl
theorem zq4_ {α β : Type} {f : α → β} : ([] : List α).map f = [] := rfl
end Go.Proofs.YtobojnodohjiaaaGreatDoor
