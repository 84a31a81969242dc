
/- append onto a slice that the walk has made: the slice's block is one of the known ones, its content beyond the slice's length is not known. No condition but those stated. -/
import Derived.Test.YtgdibedgjndcoaaGreatDoorHp
import Derived.Maps.AppendAt
namespace Go.Proofs.YtgdibedgjndcoaaGreatDoor
open Go.RowKit
set_option linter.unusedVariables false
/-- the slice v of n elements (k cells each, xs) lies at the head of the block b, whose content is cur -/
def RowV (b : Nat) (cur : Array Value) (k : Nat) (v : Value) (n : Nat) (xs : List Value) : Prop :=
  ∃ cap, v = .slice (some ⟨b, 0, none⟩) n cap ∧ n ≤ cap ∧ cap ≤ maxLen ∧ cur.size = cap * k ∧ cur.toList.take (n * k) = xs ∧ xs.length = n * k
section
variable {w0 W W' : World} {L : List Fk} {b E k n : Nat} {cur : Array Value} {v : Value} {xs : List Value}
theorem RowV.own (h : RowV b cur k v n xs) (hB : Bx W b E cur) (hle : w0.heap.size ≤ b) : W.ownsRow w0.heap.size E k v n xs := by
  obtain ⟨cap, rfl, h1, h2, h3, h4, h5⟩ := h
  exact ⟨h5, .inr ⟨b, cap, cur, rfl, hle, hB, h1, h2, h3, h4⟩⟩
theorem RowV.blk (h : RowV b cur k v n xs) : v.ownBlock = some b := by
  obtain ⟨cap, rfl, _⟩ := h; rfl
theorem RowV.sl (h : RowV b cur k v n xs) : ∃ cap, v = .slice (some ⟨b, 0, none⟩) n cap := by
  obtain ⟨cap, e, _⟩ := h; exact ⟨cap, e⟩
theorem RowV.cell (h : RowV b cur k v n xs) (hB : Bx W b E cur) (g : Gr W W') (i : Nat) (hi : i < n * k) : W'.cell? ⟨b, i, none⟩ = xs[i]? := by
  obtain ⟨cap, rfl, h1, h2, h3, h4, h5⟩ := h
  rw [hB.cells W' g, ← h4, List.getElem?_take_of_lt hi, Array.getElem?_toList]
/-- what the append leaves -/
theorem HP.app {row : Option Nat} {v' : Value} {n' : Nat} {xs' : List Value} {M : List Fk} (h : HP w0 W M) (hrow : ∀ j, row = some j → w0.heap.size ≤ j) (hM : ∀ (i : Nat) (x : Nat × TypeId × Array Value), M[i]? = some (Sum.inl x) → some x.1 ≠ row)
    (hR : ∀ (i : Nat) (v : Value) (m : Nat), M[i]? = some (Sum.inr (v, m)) → Rn W' v m)
    (g : W.grownBy W' row) (own : W'.ownsRow w0.heap.size E k v' n' xs') (hn : 0 < n') (hk : 0 < k) (hE : E ≠ 3) (hat : v'.ownBlock = row ∨ v'.ownBlock = some W.heap.size) :
    ∃ b' cur', HP w0 W' (M ++ [Sum.inl (b', E, cur')]) ∧ RowV b' cur' k v' n' xs' := by
  obtain ⟨hl, h2 | ⟨b', cap, cur', hv, hb, hc, h4, h5, h6, h7⟩⟩ := own
  · omega
  · have hb' : v'.ownBlock = some b' := by rw [hv]; rfl
    have hbase : HP w0 W' M := by
      obtain ⟨h1, h2, h3⟩ := h
      refine ⟨h1.grown g h1.size hrow, fun i e he => ?_, h3⟩
      have := h2 i e he
      rcases e with ⟨c, S, ds⟩ | ⟨u, m⟩
      · exact ⟨(g.block c this.1.lt (hM i _ he)).trans this.1, this.2⟩
      · exact hR i u m he
    refine ⟨b', cur', hbase.add hc hE hb (fun i x hx e => ?_), ⟨cap, hv, h4, h5, h6, h7, hl⟩⟩
    rcases hat with ha | ha
    · exact hM i x hx (by rw [← ha, hb', e])
    · have := h.lt i x hx
      rw [hb'] at ha
      injection ha with ha
      omega
theorem Rn.kept {u : Value} {m : Nat} {row : Option Nat} (h : Rn W u m) (g : W.grownBy W' row) (hne : ∀ j, row = some j → u.ownBlock ≠ some j) : Rn W' u m := by
  refine World.ownsRow.kept h g ?_
  cases hr : row with
  | none => cases hu : u.ownBlock with
    | none => exact .inl rfl
    | some j => exact .inr (by simp)
  | some j => exact .inr (hne j hr)
theorem addr_add (g j : Nat) : (⟨g, 0, none⟩ : Addr).add j = ⟨g, j, none⟩ := by unfold Addr.add; split <;> simp_all
/-- append onto a slice of one's own -/
theorem apS {ops : Array Oper} {rest : List Oper} {o : Oper} {a : Act} {Q : Exit → Act → World → Prop} {g m c bytes : Nat} {news : List Value} {i : TypeInfo} {z : Value} (HG : Hid (HP w0 W L)) (rv : Hid (RowV b cur k v n xs)) (jr jt : Nat) (s x : Operand) (t : TypeId)
    (hi : Tryz.prog.info? E = some i) (hz : i.zero = some z) (hsize : i.size = k) (hby : i.bytes = bytes) (hzs : z.cells.size = k) (hty : Tryz.prog.underlying t = some (.slice E))
    (h63 : n + m ≤ maxLen) (hbytes : (n + m) * bytes ≤ 140737488355328)
    (h : ∀ b' cur' v' W', Hid (HP w0 W' (L.eraseIdx jr ++ [Sum.inl (b', E, cur')])) → Hid (RowV b' cur' k v' (n + m) (xs ++ news)) → wpList Tryz.prog ops Q rest (a.put o.dst v') W')
    (hr : L[jr]? = some (Sum.inl (b, E, cur)) := by rfl) (ht : L[jt]? = some (Sum.inl (g, E, news.toArray)) := by rfl) (ho : o.op = .call { callee := .builtin .append, args := #[s, x], argTypes := #[t, t] } := by rfl) (hgd : o.guard = none := by rfl)
    (hv : a.eval s = v := by rfl) (hx : a.eval x = .slice (some ⟨g, 0, none⟩) m c := by rfl) (hl : news.length = m * k := by rfl) (h1 : ∀ u ∈ news, u.oneCell' = true := by intro u hu; simp at hu; rcases hu with rfl | rfl | rfl | rfl | rfl <;> rfl) (hk : 0 < k := by decide) (hm : 0 < m := by decide) : wpList Tryz.prog ops Q (o :: rest) a W := by
  have hB := HG.out.bx jr hr
  have hle := (HG.out.2.1 jr _ hr).2.2
  have hE := (HG.out.2.1 jr _ hr).2.1
  have hgt := HG.out.bx jt ht
  refine wpList_append_own_at W hgd s x t ho w0.heap.size E i z k bytes hty hi hz hsize hby hzs hk v n xs hv (rv.out.own hB hle) ⟨g, 0, none⟩ m c news hx hl (fun j u hj => ?_) h1 h63 hbytes HG.out.1.size ?_
  · rw [addr_add, hgt.cells W (Gr.refl _)]; simpa using hj
  · intro v' W' own grown _ hat
    have key : ∀ (j : Nat) (e : Fk), (L.eraseIdx jr)[j]? = some e → ∃ q, q ≠ jr ∧ L[q]? = some e := fun j e he => by
      rw [List.getElem?_eraseIdx] at he
      split at he
      · exact ⟨j, by omega, he⟩
      · exact ⟨j + 1, by omega, he⟩
    obtain ⟨b', cur', h2, h3⟩ := HP.app (HG.out.er jr) (row := v.ownBlock) (fun j hj => by rw [rv.out.blk] at hj; injection hj with hj; omega)
      (fun j y hy e => by
        obtain ⟨q, hq, hy⟩ := key j _ hy
        rw [rv.out.blk] at e
        injection e with e
        exact HG.out.2.2 q jr _ _ hq hy hr e)
      (fun j u q hu => by
        obtain ⟨q', _, hu⟩ := key j _ hu
        have hRn := HG.out.rn q' hu
        exact Rn.kept hRn grown (fun y hy => by rw [rv.out.blk] at hy; injection hy with hy; subst hy; exact Rn.ne hRn hB hE)) grown own (by omega) hk hE hat
    exact h b' cur' v' W' (Lib.hid h2) (Lib.hid h3)
/-- append onto the nil slice -/
theorem apN {ops : Array Oper} {rest : List Oper} {o : Oper} {a : Act} {Q : Exit → Act → World → Prop} {g m c bytes : Nat} {news : List Value} {i : TypeInfo} {z : Value} (HG : Hid (HP w0 W L)) (jt : Nat) (s x : Operand) (t : TypeId)
    (hi : Tryz.prog.info? E = some i) (hz : i.zero = some z) (hsize : i.size = k) (hby : i.bytes = bytes) (hzs : z.cells.size = k) (hty : Tryz.prog.underlying t = some (.slice E))
    (h63 : m ≤ maxLen) (hbytes : m * bytes ≤ 140737488355328)
    (h : ∀ b' cur' v' W', Hid (HP w0 W' (L ++ [Sum.inl (b', E, cur')])) → Hid (RowV b' cur' k v' m news) → wpList Tryz.prog ops Q rest (a.put o.dst v') W')
    (ht : L[jt]? = some (Sum.inl (g, E, news.toArray)) := by rfl) (ho : o.op = .call { callee := .builtin .append, args := #[s, x], argTypes := #[t, t] } := by rfl) (hgd : o.guard = none := by rfl)
    (hv : a.eval s = .slice none 0 0 := by rfl) (hx : a.eval x = .slice (some ⟨g, 0, none⟩) m c := by rfl) (hl : news.length = m * k := by rfl) (h1 : ∀ u ∈ news, u.oneCell' = true := by intro u hu; simp at hu; rcases hu with rfl | rfl | rfl | rfl | rfl <;> rfl) (hk : 0 < k := by decide) (hm : 0 < m := by decide) : wpList Tryz.prog ops Q (o :: rest) a W := by
  have hgt := HG.out.bx jt ht
  have hE := (HG.out.2.1 jt _ ht).2.1
  refine wpList_append_own_at W hgd s x t ho w0.heap.size E i z k bytes hty hi hz hsize hby hzs hk (.slice none 0 0) 0 [] hv (World.ownsRow_nil _ _ _ _) ⟨g, 0, none⟩ m c news hx hl (fun j u hj => ?_) h1 (by omega) (by rw [Nat.zero_add]; exact hbytes) HG.out.1.size ?_
  · rw [addr_add, hgt.cells W (Gr.refl _)]; simpa using hj
  · intro v' W' own grown _ hat
    rw [Nat.zero_add, List.nil_append] at own
    obtain ⟨b', cur', h2, h3⟩ := HP.app HG.out (row := none) (fun j hj => by cases hj) (fun j y hy e => by cases e) (fun j u q hu => Rn.kept (HG.out.rn j hu) grown (fun y hy => by cases hy)) grown own hm hk hE hat
    exact h b' cur' v' W' (Lib.hid h2) (Lib.hid h3)
end
end Go.Proofs.YtgdibedgjndcoaaGreatDoor
