/- A pack of texts: Grow, Box, Plan. No condition but those stated. -/
import Derived.Deep.QuietTactic
import Derived.StillTail
import Derived.BigCall
import Derived.WalkKit
import Derived.Below
set_option linter.unusedVariables false
set_option linter.unusedSimpArgs false
namespace Go.Proofs.YtobojnodohjiaaaGreatDoor
section
open Go.RowKit
def Gr (w w':World):Prop:=Below w.heap.size w w'
theorem Gr.refl (w:World):Gr w w:=Below.refl _ _
theorem Gr.trans {a b c:World} (h:Gr a b) (k:Gr b c):Gr a c:=Below.trans h (Below.mono k h.size)
theorem Gr.drew (w:World):Gr w w.drew:=Below.drew (Below.refl _ _)
theorem Gr.alloc (w:World) (o:Obj):Gr w (w.alloc o):=(Below.refl _ w).alloc (Nat.le_refl _) o
theorem Gr.block {w w':World} (h:Gr w w') {k:Nat} {o:Obj} (hk:w.heap[k]?=some o):w'.heap[k]?=some o:=by
 rw [Below.block h k (Array.getElem?_eq_some_iff.1 hk).1];exact hk
section
variable {P:Program} {ops:Array Oper} {md:Region.Mode} {W:World}
def Yg (P:Program) (ops:Array Oper) (W:World) (o:Oper) (v:Value) (a:Act):Prop :=
 (Region.wanted o (yielded ops a.tmps)=true∧∀ w,Gr W w→o.quietAt P a (Gr w) w v)∨(Region.wanted o (yielded ops a.tmps)=false∧v=undef)
def qL8 (P:Program) (o:Oper) (a:Act) (w:World) (K:Act→World→Prop):Result Next→Prop
 | .ok (.value v) w'=>Gr w w'∧K (a.put o.dst v) w'
 | .ok .skip w'=>Gr w w'∧K (a.put o.dst undef) w'
 | .ok (.enter f args) w'=>w'=w∧Calls P f args w fun e w''=>∃ v,e=.returned v∧Gr w w''∧K (a.put o.dst v) w''
 | _=>False
def hOp (P:Program) (ops:Array Oper) (i:Nat) (K:Act→World→Prop) (a:Act) (w:World):Prop :=
 ∃ o,ops[i]?=some o∧if Region.wanted o (yielded ops a.tmps) then qL8 P o a w K ((execOp a.eval o).run P w) else K (a.put o.dst undef) w
theorem qw8 {i:Nat} {K K':Act→World→Prop} {a:Act} {w:World} (h:∀ a' w',Gr w w'→K a' w'→K' a' w') (hh:hOp P ops i K a w):hOp P ops i K' a w:=by
 obtain ⟨o,ho,hh⟩:=hh
 refine ⟨o,ho,?_⟩
 split
 ·rename_i hw
  rw [if_pos hw] at hh
  generalize (execOp a.eval o).run P w=r at *
  cases r with
  | ok n w' =>
   cases n <;> simp only [qL8] at hh ⊢
   case value u=>exact ⟨hh.1,h _ _ hh.1 hh.2⟩
   case skip=>exact ⟨hh.1,h _ _ hh.1 hh.2⟩
   case enter f args =>
    obtain ⟨e,hc⟩:=hh
    exact ⟨e,hc.mono fun e w'' ⟨v,h1,h2,h3⟩=>⟨v,h1,h2,h _ _ h2 h3⟩⟩
  | halt x w'=>exact hh.elim
 rename_i hw
 rw [if_neg hw] at hh
 exact h _ _ (Gr.refl _) hh
theorem qu8 {i:Nat} {K K':Act→World→Prop} {Q:Exit→Act→World→Prop} {a:Act} {w:World} (h:∀ a' w',K a' w'→K' a' w') (hh:hOp P ops i K a w):wpOp P ops Q i K' a w:=by
 obtain ⟨o,ho,hh⟩:=hh
 unfold wpOp
 simp only [ho]
 split
 ·rename_i hw
  rw [if_pos hw] at hh
  refine .inl ?_
  unfold Oper.wp
  generalize (execOp a.eval o).run P w=r at *
  cases r with
  | ok n w' =>
   cases n <;> simp only [qL8] at hh <;> simp only [Oper.upon]
   case value u=>exact h _ _ hh.2
   case skip=>exact h _ _ hh.2
   case enter f args =>
    obtain ⟨e,hc⟩:=hh
    rw [e]
    exact hc.mono fun e w'' ⟨v,h1,h2,h3⟩=>by subst h1;exact h _ _ h3
  | halt x w'=>exact hh.elim
 rename_i hw
 rw [if_neg hw] at hh
 exact h _ _ hh
theorem Yg.hOp {i:Nat} {o:Oper} {v:Value} {a:Act} {w:World} (hi:ops[i]?=some o) (hy:Yg P ops W o v a) (hw:Gr W w) {K:Act→World→Prop} (h:∀ w',Gr w w'→K (a.put o.dst v) w'):hOp P ops i K a w:=by
 refine ⟨o,hi,?_⟩
 rcases hy with ⟨h1,h2⟩|⟨h1,rfl⟩
 ·rw [if_pos h1]
  have h3:=h2 w hw
  unfold Oper.quietAt at h3
  generalize (execOp a.eval o).run P w=r at *
  cases r with
  | ok n w' =>
   cases n <;> simp only [Oper.quietUpon] at h3 <;> simp only [qL8]
   case value u=>obtain ⟨e1,e2⟩:=h3;rw [e1,e2];exact ⟨Gr.refl _,h _ (Gr.refl _)⟩
   case skip=>obtain ⟨e1,e2⟩:=h3;rw [e1,← e2];exact ⟨Gr.refl _,h _ (Gr.refl _)⟩
   case enter f args=>obtain ⟨e1,hc⟩:=h3;exact ⟨e1,hc.mono fun e w'' ⟨he,hg⟩=>⟨v,he,hg,h _ hg⟩⟩
  | halt x w'=>simp only [Oper.quietUpon] at h3
 rw [if_neg (by rw [h1];decide)]
 exact h _ (Gr.refl _)
theorem Yg.of_same {o:Oper} {v:Value} {a a':Act} (hy:Yg P ops W o v a) (he:execOp a'.eval o=execOp a.eval o) (hw:Region.wanted o (yielded ops a'.tmps)=Region.wanted o (yielded ops a.tmps)):Yg P ops W o v a':=by
 unfold Yg Oper.quietAt at *
 rw [he,hw]
 exact hy
theorem xo0 {j:Nat} {oi oj:Oper} {v:Value} (hj:ops[j]?=some oj) (hap:oi.apart ops oj=true) (hsi:∀ cs b,oi.op ≠ .select cs b) (hsj:∀ cs b,oj.op ≠ .select cs b)
  {K:Act→World→Prop} {a:Act} {w:World} (hy:Yg P ops W oi v a) (h:hOp P ops j K (a.put oi.dst v) w):hOp P ops j (fun a' w'=>Yg P ops W oi v a'∧K (a'.put oi.dst v) w') a w:=by
 obtain ⟨h1,h2,h3⟩:=Oper.apart_spec hap
 have keep:∀ u,Yg P ops W oi v (a.put oj.dst u):=fun u=>hy.of_same (execOp_put oi hsi a oj.dst u h3) (wanted_put oi a oj.dst u h3)
 obtain ⟨o,ho,h⟩:=h
 obtain rfl:oj=o:=Option.some.inj (hj.symm.trans ho)
 refine ⟨oj,hj,?_⟩
 rw [wanted_put oj a oi.dst v h1,execOp_put oj hsj a oi.dst v h1] at h
 split
 ·rename_i hw
  rw [if_pos hw] at h
  generalize (execOp a.eval oj).run P w=r at *
  cases r with
  | ok n w' =>
   cases n <;> simp only [qL8] at h ⊢
   case value u=>exact ⟨h.1,keep u,by rw [← Act.put_comm a v u h2];exact h.2⟩
   case skip=>exact ⟨h.1,keep _,by rw [← Act.put_comm a v undef h2];exact h.2⟩
   case enter f args =>
    obtain ⟨e,hc⟩:=h
    exact ⟨e,hc.mono fun e w'' ⟨u,g1,g2,g3⟩=>⟨u,g1,g2,keep u,by rw [← Act.put_comm a v u h2];exact g3⟩⟩
  | halt x w'=>exact h.elim
 rename_i hw
 rw [if_neg hw] at h
 exact ⟨keep _,by rw [← Act.put_comm a v undef h2];exact h⟩
def wpGL (P:Program) (md:Region.Mode) (ops:Array Oper) (n:Nat) (L:Array Bool→Act→World→Prop):Nat→Array Bool→Act→World→Prop
 | 0,listed,a,w=>L listed a w
 | f+1,listed,a,w=>(∃ i,i ∈ Region.ready md ops listed∧i<n)∧∀ i ∈ Region.ready md ops listed,i<n→∀ w',Gr w w'→hOp P ops i (wpGL P md ops n L f (listed.setIfInBounds i true)) a w'
variable {n:Nat} {L:Array Bool→Act→World→Prop}
theorem xa4 (hL:∀ listed a w w',Gr w w'→L listed a w→L listed a w'):∀ (f:Nat) (listed:Array Bool) (a:Act) (w w':World),Gr w w'→wpGL P md ops n L f listed a w→wpGL P md ops n L f listed a w'
 | 0,_,_,_,_,hg,h=>hL _ _ _ _ hg h
 | _+1,_,_,_,_,hg,h=>⟨h.1,fun i hi hin w2 hw2=>h.2 i hi hin w2 (hg.trans hw2)⟩
theorem qP1 {i:Nat} {oi:Oper} {v:Value} (hi:ops[i]?=some oi) (hsel:∀ (j:Nat) (o:Oper) cs b,ops[j]?=some o→o.op ≠ .select cs b) (hin:i<n)
  (hL:∀ listed a w w',Gr w w'→L listed a w→L listed a w') (hdone:∀ listed a w,L listed a w→∀ j ∈ Region.ready md ops listed,n≤j) :
  ∀ (f:Nat) (listed:Array Bool) (a:Act) (w:World),Gr W w →
   (∀ j oj,ops[j]?=some oj→j≠i→listed.getD j true=false→(∀ e ∈ oj.after,Region.binds md e=true→e.on≠i)→oi.apart ops oj=true) →
   i ∈ Region.ready md ops listed→Yg P ops W oi v a→wpGL P md ops n L f (listed.setIfInBounds i true) (a.put oi.dst v) w→wpGL P md ops n L (f+1) listed a w:=by
 intro f
 induction f with
 | zero =>
  intro listed a w hW _ hr hy H
  refine ⟨⟨i,hr,hin⟩,fun j hj hjn w' hw'=>?_⟩
  by_cases hji:j=i
  ·subst hji
   exact hy.hOp hi (hW.trans hw') fun w2 hw2=>hL _ _ _ _ (hw'.trans hw2) H
  have:=hdone _ _ _ H j (ready_mono hj hji)
  omega
 | succ f ih =>
  intro listed a w hW hfree hr hy H
  have hun:=(mem_ready.1 hr).1
  refine ⟨⟨i,hr,hin⟩,fun j hj hjn w' hw'=>?_⟩
  by_cases hji:j=i
  ·subst hji
   exact hy.hOp hi (hW.trans hw') fun w2 hw2=>xa4 hL _ _ _ _ _ (hw'.trans hw2) H
  have h1:=H.2 j (ready_mono hj hji) hjn w' hw'
  obtain ⟨hjun,oj,hoj,hall⟩:=mem_ready.1 hj
  have hnot:∀ e ∈ oj.after,Region.binds md e=true→e.on≠i:=fun e he hb heq=>by
   have h1:=hall e he hb
   rw [heq,getD_both hun] at h1
   cases h1
  have h2:=xo0 hoj (hfree j oj hoj hji hjun hnot) (fun cs b=>hsel i oi cs b hi) (fun cs b=>hsel j oj cs b hoj) hy h1
  have hfree':∀ k ok,ops[k]?=some ok→k≠i→(listed.setIfInBounds j true).getD k true=false →
    (∀ e ∈ ok.after,Region.binds md e=true→e.on≠i)→oi.apart ops ok=true:=fun k ok hk hki hun hno=>by
   refine hfree k ok hk hki ?_ hno
   by_cases hjk:j=k
   ·subst hjk;exact hjun
   rw [getD_set_ne true hjk] at hun;exact hun
  refine qw8 (fun a' w2 hw2 h3=>ih (listed.setIfInBounds j true) a' w2 ((hW.trans hw').trans hw2) hfree' (ready_mono hr (Ne.symm hji)) h3.1 ?_) h2
  rw [Array.setIfInBounds_comm _ _ hji]
  exact h3.2
def PureOp (P:Program) (o:Oper):Prop:=∀ ρ:Operand→Value,(∃ v,∀ w,(execOp ρ o).run P w=.ok (.value v) w)∨∀ w,∃ x w',(execOp ρ o).run P w=.halt x w'
def qw9 (md:Region.Mode) (ops:Array Oper) (n:Nat) (X:List Nat):Bool :=
 (List.range n).all fun i=>(X.contains i || (List.range (n+1)).any fun j=>decide (i<j) && (!X.contains j && Region.waitsFor md ops j i)) && ((ops[i]?).map fun o=>o.after.all fun e=>!Region.binds md e || decide (e.on<i)).getD false
def xk1 (md:Region.Mode) (ops:Array Oper) (n:Nat) (X:List Nat):Bool :=
 X.all fun i=>decide (i<n) && (List.range ops.size).all fun j=>j == i || (Region.waitsFor md ops j i || (Region.waitsFor md ops i j || match ops[i]?,ops[j]? with|some oi,some oj=>oi.apart ops oj|_,_=>false))
theorem qy5 {X:List Nat} {listed:Array Bool} (hs:qw9 md ops n X=true) (hc:Region.chainB md ops n=true) (hn:n<ops.size) (hnX:n ∉ X) (inv:HeadInv md ops n listed) :
  ∀ (d i:Nat),n - i=d→i<n→i ∉ X→listed.getD i true=false→∀ t,n≤t→t ∉ Region.ready md ops listed:=by
 intro d
 induction d using Nat.strongRecOn with
 | _ d ih =>
  intro i hd hi hiX hun t ht hr
  obtain ⟨_,ot,hot,hall⟩:=mem_ready.1 hr
  have htlt:t<ops.size:=(Array.getElem?_eq_some_iff.1 hot).1
  by_cases htn:t=n
  ·subst htn
   have h1:=List.all_eq_true.1 hs i (List.mem_range.2 hi)
   simp only [Bool.and_eq_true,Bool.or_eq_true] at h1
   have h1:=h1.1.resolve_left (by simpa using hiX)
   obtain ⟨j,hj,hj2⟩:=List.any_eq_true.1 h1
   simp only [Bool.and_eq_true,decide_eq_true_eq] at hj2
   obtain ⟨oj,hoj,e,he,hb,hon⟩:=Region.waitsFor_spec hj2.2.2
   have hjX:j ∉ X:=by have:=hj2.2.1;simpa using this
   have hjle:j≤t:=by have:=List.mem_range.1 hj;omega
   by_cases hjt:j=t
   ·subst hjt
    obtain rfl:oj=ot:=Option.some.inj (hoj.symm.trans hot)
    have h2:=hall e he hb
    rw [hon,getD_both hun] at h2
    cases h2
   cases hl:listed.getD j false with
   | true =>
    have h2:=inv.closed j oj hoj hl e he hb
    rw [hon,getD_both hun] at h2
    cases h2
   | false =>
    have hjs:j<listed.size:=by rw [inv.size];omega
    exact ih (t - j) (by omega) j rfl (by omega) hjX (getD_in hjs hl) t (Nat.le_refl _) hr
  have h1:=List.all_eq_true.1 hc t (List.mem_range.2 htlt)
  simp only [Bool.or_eq_true,decide_eq_true_eq] at h1
  rcases h1 with h1|h1
  ·omega
  obtain ⟨o',ho',e,he,hb,hon⟩:=Region.waitsFor_spec h1
  obtain rfl:o'=ot:=Option.some.inj (ho'.symm.trans hot)
  have h2:=hall e he hb
  rw [hon,getD_both (inv.tail (t - 1) (by omega) (by omega))] at h2
  cases h2
theorem qD3 {X:List Nat} {listed:Array Bool} (hs:qw9 md ops n X=true) (hc:Region.chainB md ops n=true) (hn:n<ops.size) (hnX:n ∉ X) (inv:HeadInv md ops n listed)
  {t:Nat} (ht:n≤t) (hr:t ∈ Region.ready md ops listed):∀ (d i:Nat),i=d→i<n→listed.getD i true=false→∃ x,x ∈ X∧x ∈ Region.ready md ops listed:=by
 intro d
 induction d using Nat.strongRecOn with
 | _ d ih =>
  intro i hd hi hun
  have hiX:i ∈ X:=by
   rcases Classical.em (i ∈ X) with h|h
   ·exact h
   exact absurd hr (qy5 hs hc hn hnX inv _ i rfl hi h hun t ht)
  by_cases hri:i ∈ Region.ready md ops listed
  ·exact ⟨i,hiX,hri⟩
  have h1:=List.all_eq_true.1 hs i (List.mem_range.2 hi)
  simp only [Bool.and_eq_true] at h1
  have h2:=h1.2
  cases ho:ops[i]? with
  | none=>rw [ho] at h2;simp at h2
  | some o =>
   rw [ho] at h2
   simp only [Option.map_some,Option.getD_some,Array.all_eq_true_iff_forall_mem,Bool.or_eq_true,Bool.not_eq_true',decide_eq_true_eq] at h2
   have h3:∃ e ∈ o.after,Region.binds md e=true∧listed.getD e.on false=false:=by
    refine Classical.byContradiction fun hno=>hri (mem_ready.2 ⟨hun,o,ho,fun e he hb=>?_⟩)
    cases hh:listed.getD e.on false
    ·exact absurd ⟨e,he,hb,hh⟩ hno
    rfl
   obtain ⟨e,he,hb,hl⟩:=h3
   have hlt:=(h2 e he).resolve_left (by rw [hb];decide)
   exact ih e.on (by omega) e.on rfl (by omega) (getD_in (by rw [inv.size];omega) hl)
theorem qm2 {X:List Nat} {g:Nat} {Q:Exit→Act→World→Prop} (hsel:Region.noSelect ops=true) (hs:qw9 md ops n X=true) (hl:xk1 md ops n X=true) (hc:Region.chainB md ops n=true) (hn:n<ops.size) (hnX:n ∉ X)
  (hX:∀ x ∈ X,∃ o,ops[x]?=some o∧PureOp P o) (hQ:∀ listed a w,HeadInv md ops n listed→L listed a w→wpAny P md ops Q g listed a w) (hp:∀ c a d v w,Q (.panic c) (a.put (some d) v) w→Q (.panic c) a w) :
  ∀ (f:Nat) (listed:Array Bool) (a:Act) (w:World),HeadInv md ops n listed→wpGL P md ops n L f listed a w→wpAny P md ops Q (f+g) listed a w
 | 0,_,_,_,inv,h=>by rw [Nat.zero_add];exact hQ _ _ _ inv h
 | f+1,listed,a,w,inv,h=>by
  rw [show f+1+g=(f+g)+1 by omega]
  rcases Classical.em (∃ x,x ∈ X∧x ∈ Region.ready md ops listed) with ⟨x,hx,hrx⟩|hno
  ·have h1:=List.all_eq_true.1 hl x hx
   simp only [Bool.and_eq_true,decide_eq_true_eq] at h1
   obtain ⟨hxn,h1⟩:=h1
   obtain ⟨o,ho,hpure⟩:=hX x hx
   obtain ⟨o',ho',h2⟩:=h.2 x hrx hxn w (Gr.refl w)
   obtain rfl:o'=o:=Option.some.inj (ho'.symm.trans ho)
   have hfree:∀ j oj,ops[j]?=some oj→j≠x→listed.getD j true=false→(∀ e ∈ oj.after,Region.binds md e=true→e.on≠x)→o'.apart ops oj=true:=fun j oj hj hne hun hnot=>by
    have hjs:j<ops.size:=(Array.getElem?_eq_some_iff.1 hj).1
    have h3:=List.all_eq_true.1 h1 j (List.mem_range.2 hjs)
    simp only [ho,hj,Bool.or_eq_true,beq_iff_eq] at h3
    rcases h3 with h3|h3|h3|h3
    ·exact absurd h3 hne
    ·obtain ⟨oj',hoj',e,he,hb,hon⟩:=Region.waitsFor_spec h3
     obtain rfl:oj'=oj:=Option.some.inj (hoj'.symm.trans hj)
     exact absurd hon (hnot e he hb)
    ·obtain ⟨oi',hoi',e,he,hb,hon⟩:=Region.waitsFor_spec h3
     obtain rfl:oi'=o':=Option.some.inj (hoi'.symm.trans ho)
     obtain ⟨_,o3,ho3,hall⟩:=mem_ready.1 hrx
     obtain rfl:o3=oi':=Option.some.inj (ho3.symm.trans ho)
     have h4:=hall e he hb
     rw [hon,getD_both hun] at h4
     cases h4
    exact h3
   obtain ⟨v,hy,hK⟩:∃ v,Yields P ops o' v a∧wpGL P md ops n L f (listed.setIfInBounds x true) (a.put o'.dst v) w:=by
    split at h2
    ·rename_i hw
     rcases hpure a.eval with ⟨v,hv⟩|hh
     ·rw [hv] at h2
      exact ⟨v,.inl ⟨hw,hv⟩,h2.2⟩
     obtain ⟨x1,w1,he⟩:=hh w
     rw [he] at h2
     exact h2.elim
    rename_i hw
    exact ⟨undef,.inr ⟨by simpa using hw,rfl⟩,h2⟩
   exact wpAny_first ho (Region.noSelect_spec hsel) (fun c a w=>by cases hd:o'.dst with|none=>exact fun h=>h|some d=>exact hp c a d v w) (f+g) listed a w hfree hrx hy (qm2 hsel hs hl hc hn hnX hX hQ hp f _ _ _ (inv.set hrx hxn) hK)
  have hlt:∀ i ∈ Region.ready md ops listed,i<n:=fun i hi=>by
   rcases Nat.lt_or_ge i n with h'|h'
   ·exact h'
   obtain ⟨k,hk,hkn⟩:=h.1
   exact absurd (qD3 hs hc hn hnX inv h' hi _ k rfl hkn (mem_ready.1 hk).1) hno
  refine ⟨fun h0=>?_,fun i hi=>qu8 (fun a' w' h'=>qm2 hsel hs hl hc hn hnX hX hQ hp f _ a' w' (inv.set hi (hlt i hi)) h') (h.2 i hi (hlt i hi) w (Gr.refl w))⟩
  obtain ⟨k,hk,_⟩:=h.1
  rw [h0] at hk
  cases hk
def AllocAt (P:Program) (md:Region.Mode) (ops:Array Oper) (D:Nat→Tmp) (Z:Nat→Obj) (i:Nat):Prop :=
 ∃ o,ops[i]?=some o∧o.dst=some (D i)∧o.guard=none∧(∀ e ∈ o.after,Region.binds md e=false)∧∀ ρ w,(execOp ρ o).run P w=.ok (.value (.pointer (some ⟨w.heap.size,0,none⟩))) (w.alloc (Z i))
def puts (D:Nat→Tmp) (G:Nat→Nat):List Nat→Act→Act
 | [],a=>a
 | i :: is,a=>puts D G is (a.put (some (D i)) (.pointer (some ⟨G i,0,none⟩)))
theorem qv9 {D:Nat→Tmp} {G G':Nat→Nat}:∀ (is:List Nat) (a:Act),(∀ j ∈ is,G j=G' j)→puts D G is a=puts D G' is a
 | [],_,_=>rfl
 | j :: is,a,h=>by unfold puts;rw [h j (by simp)];exact qv9 is _ (fun k hk=>h k (by simp [hk]))
theorem qv_ {D:Nat→Tmp} {G:Nat→Nat} {i:Nat}:∀ (is:List Nat) (a:Act),i ∈ is→is.Nodup→(∀ j ∈ is,∀ k ∈ is,D j=D k→j=k)→puts D G is a=puts D G (is.erase i) (a.put (some (D i)) (.pointer (some ⟨G i,0,none⟩)))
 | [],_,h,_,_=>by cases h
 | j :: is,a,h,hnd,hD=>by
  by_cases e:j=i
  ·subst e;rw [List.erase_cons_head];rfl
  rw [List.erase_cons_tail (by simpa using e)]
  unfold puts
  have hi:i ∈ is:=by
   rcases List.mem_cons.1 h with h|h
   ·exact absurd h.symm e
   exact h
  rw [qv_ is _ hi (List.nodup_cons.1 hnd).2 (fun j hj k hk=>hD j (by simp [hj]) k (by simp [hk]))]
  congr 1
  exact Act.put_comm a _ _ (fun d' hd' e'=>e (by cases hd'; exact (hD _ (by simp [hi]) _ (by simp) (Option.some.inj e')).symm))
def Fresh (Z:Nat→Obj) (is:List Nat) (G:Nat→Nat) (w w':World):Prop :=
 (∀ i ∈ is,w.heap.size≤G i∧w'.heap[G i]?=some (Z i))∧∀ i ∈ is,∀ j ∈ is,G i=G j→i=j
def canon (n s:Nat):Array Bool:=Array.ofFn (n:=s) fun i=>decide (i.val<n)
theorem xc3 {listed:Array Bool} (inv:HeadInv md ops n listed) (hall:∀ i,i<n→listed.getD i true=true):listed=canon n ops.size:=by
 refine Array.ext (by simp [canon,inv.size]) fun i h1 h2=>?_
 simp only [canon,Array.getElem_ofFn]
 by_cases hi:i<n
 ·have:=hall i hi
  simp [h1] at this
  simp [hi,this]
 have:=inv.tail i (by omega) (by rw [← inv.size];exact h1)
 simp [h1] at this
 simp [hi,this]
end
end
section
open Go.RowKit
def Bx (w:World) (b:Nat) (T:TypeId) (cs:Array Value):Prop:=w.heap[b]?=some (.cells cs T (0,0))
section
variable {w w':World} {b:Nat} {T:TypeId} {cs:Array Value}
theorem Bx.lt (h:Bx w b T cs):b<w.heap.size:=(Array.getElem?_eq_some_iff.1 h).1
theorem Bx.gr (h:Bx w b T cs) (hg:Gr w w'):Bx w' b T cs:=hg.block h
theorem Bx.below {B:Nat} (h:Bx w b T cs) (hb:Below B w w') (hlt:b<B):Bx w' b T cs:=(hb.block b hlt).trans h
theorem Bx.cells (h:Bx w b T cs):∀ w',Gr w w'→∀ i,w'.cell? ⟨b,i,none⟩=cs[i]?:=fun w' hg i=>by
 have:=h.gr hg
 unfold Bx at this
 simp [World.cell?,this]
theorem Bx.free (h:Bx w b T cs):∀ w',Gr w w'→∀ i,w'.frozen? ⟨b,i,none⟩=false:=fun w' hg i=>by
 have:=h.gr hg
 unfold Bx at this
 simp [World.frozen?,this]
theorem Bx.new (w:World) (T:TypeId) (cs:Array Value):Bx (w.alloc (.cells cs T)) w.heap.size T cs:=by
 show (w.heap.push _)[w.heap.size]?=_
 simp
theorem Bx.at (h:w.heap.size=b):Bx (w.alloc (.cells cs T)) b T cs:=by subst h;exact Bx.new _ _ _
theorem Bx.alloc (h:Bx w b T cs) (o:Obj):Bx (w.alloc o) b T cs:=h.gr (Gr.alloc w o)
theorem Bx.set (h:Bx w b T cs) (i:Nat) (v:Value):Bx (w.setCell ⟨b,i,none⟩ v) b T (cs.setIfInBounds i v):=by
 unfold Bx at *
 simp only [World.setCell,Array.getElem?_modify,if_pos]
 rw [h]
 rfl
theorem Bx.setOther (h:Bx w b T cs) {a:Addr} (ha:b≠a.block) (v:Value):Bx (w.setCell a v) b T cs:=(Below.heap_setCell w a v b ha).trans h
theorem Bx.eq {cs':Array Value} (h:Bx w b T cs) (e:cs=cs'):Bx w b T cs':=e ▸ h
end
theorem xn6 {P:Program} {c:Code} {Q:Exit→Act→World→Prop} {a:Act} {W:World} (F:World→Prop) (hF:F W) (h:∀ w,F w→c.wp P Q a w):c.wp P Q a W:=h W hF
theorem xn5 {P:Program} {f:Func} {R:Ending→World→Prop} {e:Exit} {a:Act} {W:World} (F:World→Prop) (hF:F W) (h:∀ w,F w→bodyPost P f R e a w):bodyPost P f R e a W:=h W hF
theorem qB7 {P:Program} {x:Code} {Q:Exit→Act→World→Prop} {a:Act} {w:World} (h:∀ K:Act→World→Prop,(∀ a w,Q .normal a w→K a w)→x.wp P (Exit.then K Q) a w):x.wp P Q a w :=
 wp_mono (h _ (fun _ _ h=>h)) (fun e _ _ h=>by cases e <;> exact h)
end
section
open Go.RowKit
section
variable {P:Program} {ops:Array Oper} {md:Region.Mode}
def qb4 (P:Program) (ops:Array Oper) (T:Act→World→Prop):List (Bool × Nat)→Act→World→Prop
 | [],a,w=>T a w
 | (true,i) :: r,a,w=>∃ o v,ops[i]?=some o∧Yg P ops w o v a∧qb4 P ops T r (a.put o.dst v) w
 | (false,i) :: r,a,w=>∀ w',Gr w w'→hOp P ops i (qb4 P ops T r) a w'
theorem wpPlan_nil {T:Act→World→Prop} {a:Act} {w:World} (h:T a w):qb4 P ops T [] a w:=h
theorem qG1 {T:Act→World→Prop} {a:Act} {w:World} {i:Nat} {o:Oper} {r:List (Bool × Nat)} {v:Value} (ho:ops[i]?=some o) (h1:Region.wanted o (yielded ops a.tmps)=true)
  (h2:∀ w',Gr w w'→o.quietAt P a (Gr w') w' v) (h3:qb4 P ops T r (a.put o.dst v) w):qb4 P ops T ((true,i) :: r) a w:=⟨o,v,ho,.inl ⟨h1,h2⟩,h3⟩
theorem qG0 {T:Act→World→Prop} {a:Act} {w:World} {i:Nat} {o:Oper} {r:List (Bool × Nat)} (ho:ops[i]?=some o) (h1:Region.wanted o (yielded ops a.tmps)=false)
  (h3:qb4 P ops T r (a.put o.dst undef) w):qb4 P ops T ((true,i) :: r) a w:=⟨o,undef,ho,.inr ⟨h1,rfl⟩,h3⟩
theorem qF_ {T:Act→World→Prop} {a:Act} {w:World} {i:Nat} {r:List (Bool × Nat)} {v:Value} {f ty:Nat} {xs:Array Operand} {ats:Array TypeId} {pos:String} {af:Array Edge} {g:Option (Nat × Bool)} {d:Option Tmp} {args:Array Value}
  (ho:ops[i]?=some { dst:=d,op:=.call { callee:=.value (.func f),args:=xs,argTypes:=ats },type:=ty,pos:=pos,after:=af,guard:=g })
  (h1:Region.wanted { dst:=d,op:=.call { callee:=.value (.func f),args:=xs,argTypes:=ats },type:=ty,pos:=pos,after:=af,guard:=g } (yielded ops a.tmps)=true)
  (hr:∀ args w,(callFunc f args).run P w=.ok (.enter f args) w)
  (h2:∀ w',Gr w w'→Calls P f args w' fun e w''=>e=.returned v∧Below w'.heap.size w' w'') (ha:(xs.toList.map a.eval).toArray=args)
  (h3:qb4 P ops T r (a.put d v) w):qb4 P ops T ((true,i) :: r) a w:=by
 refine ⟨_,v,ho,.inl ⟨h1,fun w' hw=>?_⟩,h3⟩
 unfold Oper.quietAt
 have e:(#[] ++ xs.map a.eval ++ #[]:Array Value)=args:=by rw [← ha];cases xs;simp
 rw [execOp_call_go,hr,e]
 exact ⟨rfl,h2 w' hw⟩
theorem wpPlan_takeL {l:List Oper} {T:Act→World→Prop} {a:Act} {w:World} {i:Nat} {o:Oper} {r:List (Bool × Nat)} {v:Value} (ho:l[i]?=some o) (h1:Region.wanted o (yielded l.toArray a.tmps)=true)
  (h2:∀ w',Gr w w'→o.quietAt P a (Gr w') w' v) (h3:qb4 P l.toArray T r (a.put o.dst v) w):qb4 P l.toArray T ((true,i) :: r) a w:=qG1 (by rw [List.getElem?_toArray];exact ho) h1 h2 h3
theorem qB6 {l:List Oper} {T:Act→World→Prop} {a:Act} {w:World} {i:Nat} {o:Oper} {r:List (Bool × Nat)} (ho:l[i]?=some o) (h1:Region.wanted o (yielded l.toArray a.tmps)=false)
  (h3:qb4 P l.toArray T r (a.put o.dst undef) w):qb4 P l.toArray T ((true,i) :: r) a w:=qG0 (by rw [List.getElem?_toArray];exact ho) h1 h3
theorem qe9 {l:List Oper} {T:Act→World→Prop} {a:Act} {w:World} {i:Nat} {r:List (Bool × Nat)} {v:Value} {f ty:Nat} {xs:Array Operand} {ats:Array TypeId} {pos:String} {af:Array Edge} {g:Option (Nat × Bool)} {d:Option Tmp} {args:Array Value}
  (ho:l[i]?=some { dst:=d,op:=.call { callee:=.value (.func f),args:=xs,argTypes:=ats },type:=ty,pos:=pos,after:=af,guard:=g })
  (h1:Region.wanted { dst:=d,op:=.call { callee:=.value (.func f),args:=xs,argTypes:=ats },type:=ty,pos:=pos,after:=af,guard:=g } (yielded l.toArray a.tmps)=true)
  (hr:∀ args w,(callFunc f args).run P w=.ok (.enter f args) w)
  (h2:∀ w',Gr w w'→Calls P f args w' fun e w''=>e=.returned v∧Below w'.heap.size w' w'') (ha:(xs.toList.map a.eval).toArray=args)
  (h3:qb4 P l.toArray T r (a.put d v) w):qb4 P l.toArray T ((true,i) :: r) a w:=qF_ (by rw [List.getElem?_toArray];exact ho) h1 hr h2 ha h3
theorem qe8 {l:List Oper} {T:Act→World→Prop} {a:Act} {w:World} {i:Nat} {r:List (Bool × Nat)} {f ty:Nat} {xs:Array Operand} {ats:Array TypeId} {pos:String} {af:Array Edge} {g:Option (Nat × Bool)} {d:Option Tmp} {args:Array Value}
  (ho:l[i]?=some { dst:=d,op:=.call { callee:=.value (.func f),args:=xs,argTypes:=ats },type:=ty,pos:=pos,after:=af,guard:=g })
  (h1:Region.wanted { dst:=d,op:=.call { callee:=.value (.func f),args:=xs,argTypes:=ats },type:=ty,pos:=pos,after:=af,guard:=g } (yielded l.toArray a.tmps)=true)
  (hr:∀ args w,(callFunc f args).run P w=.ok (.enter f args) w) (ha:(xs.toList.map a.eval).toArray=args)
  (h2:∀ w',Gr w w'→Calls P f args w' fun e w''=>∃ v,e=.returned v∧Gr w' w''∧qb4 P l.toArray T r (a.put d v) w''):qb4 P l.toArray T ((false,i) :: r) a w:=fun w' hw=>by
 refine ⟨_,by rw [List.getElem?_toArray];exact ho,?_⟩
 rw [if_pos h1]
 have e:(#[] ++ xs.map a.eval ++ #[]:Array Value)=args:=by rw [← ha];cases xs;simp
 rw [execOp_call_go,hr,e]
 exact ⟨rfl,h2 w' hw⟩
theorem qg1 {l:List Oper} {T:Act→World→Prop} {a:Act} {w:World} {i:Nat} {r:List (Bool × Nat)} {v:Value} {t f ty:Nat} {xs:Array Operand} {ats:Array TypeId} {pos:String} {af:Array Edge} {g:Option (Nat × Bool)} {d:Option Tmp} {args:Array Value} {first cap:Array Value}
  (ho:l[i]?=some { dst:=d,op:=.call { callee:=.value (.tmp t),args:=xs,argTypes:=ats },type:=ty,pos:=pos,after:=af,guard:=g })
  (h1:Region.wanted { dst:=d,op:=.call { callee:=.value (.tmp t),args:=xs,argTypes:=ats },type:=ty,pos:=pos,after:=af,guard:=g } (yielded l.toArray a.tmps)=true)
  (hv:a.eval (.tmp t)=.func (.func f) first cap) (hr:∀ args w,(callFunc f args).run P w=.ok (.enter f args) w)
  (h2:∀ w',Gr w w'→Calls P f args w' fun e w''=>e=.returned v∧Below w'.heap.size w' w'') (ha:(first.toList ++ xs.toList.map a.eval ++ cap.toList).toArray=args)
  (h3:qb4 P l.toArray T r (a.put d v) w):qb4 P l.toArray T ((true,i) :: r) a w:=by
 refine ⟨_,v,(by rw [List.getElem?_toArray];exact ho),.inl ⟨h1,fun w' hw=>?_⟩,h3⟩
 unfold Oper.quietAt
 have e:(execOp a.eval { dst:=d,op:=.call { callee:=.value (.tmp t),args:=xs,argTypes:=ats },type:=ty,pos:=pos,after:=af,guard:=g })=callFunc f (first ++ xs.map a.eval ++ cap):=by
  simp only [execOp,resolve,hv,Deferred.ofValue]
  rfl
 have e2:(first ++ xs.map a.eval ++ cap:Array Value)=args:=by rw [← ha];cases xs;cases first;cases cap;simp
 rw [e,hr,e2]
 exact ⟨rfl,h2 w' hw⟩
theorem qb5 {l:List Oper} {T:Act→World→Prop} {a:Act} {w:World} {i:Nat} {o:Oper} {r:List (Bool × Nat)} {n:Nat} {cs:Array Value} {E:TypeId} (ho:l[i]?=some o) (h1:Region.wanted o (yielded l.toArray a.tmps)=true)
  (hrun:∀ w',Gr w w'→(execOp a.eval o).run P w'=.ok (.value (.slice (some ⟨w'.heap.size,0,none⟩) n n)) (w'.alloc (.cells cs E)))
  (h:∀ g w1,Gr w w1→w.heap.size≤g→Bx w1 g E cs→qb4 P l.toArray T r (a.put o.dst (.slice (some ⟨g,0,none⟩) n n)) w1):qb4 P l.toArray T ((false,i) :: r) a w:=fun w' hw=>by
 refine ⟨o,by rw [List.getElem?_toArray];exact ho,?_⟩
 rw [if_pos h1,hrun w' hw]
 exact ⟨Gr.alloc _ _,h _ _ (hw.trans (Gr.alloc _ _)) hw.size (Bx.new _ _ _)⟩
def qD9 (md:Region.Mode) (ops:Array Oper) (n:Nat):List (Bool × Nat)→Array Bool→Bool
 | [],listed=>decide (listed=canon n ops.size)
 | (true,i) :: r,listed=>decide (i<n) && ((Region.ready md ops listed).contains i && (Region.free md ops listed i && qD9 md ops n r (listed.setIfInBounds i true)))
 | (false,i) :: r,listed=>decide (i<n) && (decide (Region.ready md ops listed = [i]) && qD9 md ops n r (listed.setIfInBounds i true))
theorem qu7 {n:Nat} {T:Act→World→Prop} (hsel:Region.noSelect ops=true)
  (hT:∀ a w w',Gr w w'→T a w→T a w') (hdone:∀ j ∈ Region.ready md ops (canon n ops.size),n≤j) :
  ∀ (plan:List (Bool × Nat)) (listed:Array Bool) (a:Act) (w:World),HeadInv md ops n listed→qD9 md ops n plan listed=true→qb4 P ops T plan a w →
   wpGL P md ops n (fun listed a w=>listed=canon n ops.size∧T a w) plan.length listed a w
 | [],listed,a,w,_,hB,h=>⟨by simpa [qD9] using hB,h⟩
 | (true,i) :: r,listed,a,w,inv,hB,h=>by
  simp only [qD9,Bool.and_eq_true,decide_eq_true_eq] at hB
  obtain ⟨hin,hr,hf,hB'⟩:=hB
  obtain ⟨o,v,ho,hy,hK⟩:=h
  have hr':i ∈ Region.ready md ops listed:=by simpa using hr
  exact qP1 ho (Region.noSelect_spec hsel) hin (fun _ _ _ _ hg h=>⟨h.1,hT _ _ _ hg h.2⟩) (fun listed a w h j hj=>by rw [h.1] at hj;exact hdone j hj)
   r.length listed a w (Gr.refl w) (Region.free_spec ho hf) hr' hy (qu7 hsel hT hdone r _ _ _ (inv.set hr' hin) hB' hK)
 | (false,i) :: r,listed,a,w,inv,hB,h=>by
  simp only [qD9,Bool.and_eq_true,decide_eq_true_eq] at hB
  obtain ⟨hin,hr,hB'⟩:=hB
  have hr':i ∈ Region.ready md ops listed:=by rw [hr];simp
  refine ⟨⟨i,hr',hin⟩,fun j hj _ w' hw'=>?_⟩
  obtain rfl:j=i:=by rw [hr] at hj;simpa using hj
  exact qw8 (fun a2 w2 _ h2=>qu7 hsel hT hdone r _ _ _ (inv.set hr' hin) hB' h2) (h w' hw')
def Com (ops:Array Oper) (n:Nat) (is:List Nat) (E:Act→Act):Prop :=
 ∀ i o,i<n→ops[i]?=some o→i ∉ is→∀ a,execOp (E a).eval o=execOp a.eval o∧Region.wanted o (yielded ops (E a).tmps)=Region.wanted o (yielded ops a.tmps)∧∀ v,(E a).put o.dst v=E (a.put o.dst v)
theorem Com.hOp {n:Nat} {is:List Nat} {E:Act→Act} (hE:Com ops n is E) {i:Nat} (hi:i<n) (his:i ∉ is) {K:Act→World→Prop} {a:Act} {w:World} (h:hOp P ops i K a w) :
  hOp P ops i (fun a' w'=>∃ a2,a'=E a2∧K a2 w') (E a) w:=by
 obtain ⟨o,ho,h⟩:=h
 obtain ⟨e1,e2,e3⟩:=hE i o hi ho his a
 refine ⟨o,ho,?_⟩
 rw [e1,e2]
 split
 ·rename_i hw
  rw [if_pos hw] at h
  generalize (execOp a.eval o).run P w=r at *
  cases r with
  | ok n w' =>
   cases n <;> simp only [qL8] at h ⊢
   case value u=>exact ⟨h.1,_,e3 _,h.2⟩
   case skip=>exact ⟨h.1,_,e3 _,h.2⟩
   case enter f args =>
    obtain ⟨e,hc⟩:=h
    exact ⟨e,hc.mono fun e w'' ⟨v,g1,g2,g3⟩=>⟨v,g1,g2,_,e3 _,g3⟩⟩
  | halt x w'=>exact h.elim
 rename_i hw
 rw [if_neg hw] at h
 exact ⟨_,e3 _,h⟩
def qP8 (ops:Array Oper) (n:Nat) (is:List Nat):Bool :=
 is.all fun i=>(List.range n).all fun j=>is.contains j || match ops[i]?,ops[j]? with|some oi,some oj=>oi.apart ops oj|_,_=>false
theorem Com.put {n:Nat} {is:List Nat} {E:Act→Act} (hE:Com ops n is E) (hsel:Region.noSelect ops=true) (hB:qP8 ops n is=true) {i:Nat} (hi:i ∈ is) {o:Oper} (ho:ops[i]?=some o) (v:Value) :
  Com ops n is fun a=>(E a).put o.dst v:=fun j oj hj hoj hjs a=>by
 have h1:=List.all_eq_true.1 (List.all_eq_true.1 hB i hi) j (List.mem_range.2 hj)
 simp only [ho,hoj,Bool.or_eq_true,List.contains_eq_mem,decide_eq_true_eq] at h1
 have hap:=h1.resolve_left hjs
 obtain ⟨a1,a2,a3⟩:=Oper.apart_spec hap
 obtain ⟨e1,e2,e3⟩:=hE j oj hj hoj hjs a
 refine ⟨?_,?_,fun u=>?_⟩
 ·show execOp ((E a).put o.dst v).eval oj=_
  rw [execOp_put oj (fun cs b=>Region.noSelect_spec hsel j oj cs b hoj) (E a) o.dst v a1,e1]
 ·show Region.wanted oj (yielded ops ((E a).put o.dst v).tmps)=_
  rw [wanted_put oj (E a) o.dst v a1,e2]
 show ((E a).put o.dst v).put oj.dst u=(E (a.put oj.dst u)).put o.dst v
 rw [Act.put_comm (E a) v u a2,e3]
theorem qF9 {n:Nat} {is:List Nat} {D:Nat→Tmp} {Z:Nat→Obj} {L T:Act→World→Prop} (hsel:Region.noSelect ops=true) (hn:n<ops.size)
  (hap:qP8 ops n is=true) (hdone:∀ j ∈ Region.ready md ops (canon n ops.size),n≤j) (hnd:is.Nodup) (hD:∀ j ∈ is,∀ k ∈ is,D j=D k→j=k) (hA:∀ i ∈ is,i<n∧AllocAt P md ops D Z i) :
  ∀ (N f:Nat) (pend:List Nat) (listed listedP:Array Bool) (E:Act→Act) (a:Act) (w wR:World),f+pend.length=N→pend.Nodup→(∀ i ∈ pend,i ∈ is)→HeadInv md ops n listed→HeadInv md ops n listedP →
   (∀ j,j ∉ pend→listed.getD j true=listedP.getD j true)→(∀ j,listed.getD j false=true→listedP.getD j false=true)→(∀ j ∈ pend,listed.getD j true=false)→(∀ j ∈ is,listedP.getD j true=true)→Com ops n is E→Gr w wR →
   wpGL P md ops n (fun listed a w=>listed=canon n ops.size∧L a w) f listedP a w →
   (∀ a2 w2,Gr w w2→L a2 w2→∀ G w',Gr w2 w'→Gr wR w'→Fresh Z pend G wR w'→T (puts D G pend (E a2)) w') →
   wpGL P md ops n (fun listed a w=>listed=canon n ops.size∧T a w) N listed (E a) wR
 | 0,f,pend,listed,listedP,E,a,w,wR,hN,_,_,inv,invP,hl,_,_,_,_,hg,hrun,H=>by
  obtain rfl:f=0:=by omega
  obtain rfl:pend = []:=List.length_eq_zero_iff.1 (by omega)
  obtain ⟨h1,h2⟩:=hrun
  refine ⟨?_,H a w (Gr.refl _) h2 (fun _=>0) wR hg (Gr.refl _) ⟨fun i hi=>(by cases hi),fun i hi=>(by cases hi)⟩⟩
  refine xc3 inv fun i hi=>?_
  rw [hl i (by simp),h1]
  have h3:i<ops.size:=by omega
  simp [canon,h3,hi]
 | N+1,f,pend,listed,listedP,E,a,w,wR,hN,hpn,hps,inv,invP,hl,hll,hpu,hpl,hE,hg,hrun,H=>by
  have hrdA:∀ i ∈ pend,i ∈ Region.ready md ops listed:=fun i hi=>by
   obtain ⟨hin,o,ho,_,_,haf,_⟩:=hA i (hps i hi)
   exact mem_ready.2 ⟨hpu i hi,o,ho,fun e he hb=>by rw [haf e he] at hb;cases hb⟩
  have hrdP:∀ i ∈ Region.ready md ops listed,i ∉ pend→i ∈ Region.ready md ops listedP:=fun i hi hip=>by
   obtain ⟨h0,o,ho,hall⟩:=mem_ready.1 hi
   exact mem_ready.2 ⟨by rw [← hl i hip];exact h0,o,ho,fun e he hb=>hll _ (hall e he hb)⟩
  refine ⟨?_,fun i hi hin w' hw'=>?_⟩
  ·cases pend with
   | cons p ps=>exact ⟨p,hrdA p (by simp),(hA p (hps p (by simp))).1⟩
   | nil =>
    cases f with
    | zero=>simp at hN
    | succ f =>
     obtain ⟨⟨k,hk,hkn⟩,_⟩:=hrun
     have e:listed=listedP:=by
      refine Array.ext (by rw [inv.size,invP.size]) fun j h1 h2=>?_
      have:=hl j (by simp)
      simpa [h1,h2] using this
     exact ⟨k,by rw [e];exact hk,hkn⟩
  by_cases hip:i ∈ pend
  ·obtain ⟨_,o,ho,hd,hgd,haf,hrn⟩:=hA i (hps i hip)
   refine ⟨o,ho,?_⟩
   have hwd:Region.wanted o (yielded ops (E a).tmps)=true:=by unfold Region.wanted;rw [hgd]
   rw [if_pos hwd,hrn]
   refine ⟨Gr.alloc _ _,?_⟩
   have hsub:∀ j,j ∈ pend.erase i→j ∈ pend:=fun j hj=>List.mem_of_mem_erase hj
   have hiL:i<listed.size:=by rw [inv.size];exact Nat.lt_trans (hA i (hps i hip)).1 hn
   refine qF9 hsel hn hap hdone hnd hD hA N f (pend.erase i) _ listedP (fun a=>(E a).put o.dst _) a w _ (by rw [List.length_erase_of_mem hip];have:=List.length_pos_of_mem hip;omega) (hpn.erase i) (fun j hj=>hps j (hsub j hj)) (inv.set hi hin) invP
    (fun j hj=>?_) (fun j hj=>?_) (fun j hj=>?_) hpl (hE.put hsel hap (hps i hip) ho _) ((hg.trans hw').trans (Gr.alloc _ _)) hrun ?_
   ·by_cases e:i=j
    ·subst e
     rw [hpl i (hps i hip)]
     simp [hiL]
    rw [getD_set_ne true e]
    exact hl j (fun h=>hj ((hpn.mem_erase_iff).2 ⟨fun h'=>e h'.symm,h⟩))
   ·by_cases e:i=j
    ·subst e
     have h1:=hpl i (hps i hip)
     have h2:i<listedP.size:=by rw [invP.size];exact Nat.lt_trans (hA i (hps i hip)).1 hn
     simp [h2] at h1 ⊢
     exact h1
    rw [getD_set_ne false e] at hj
    exact hll j hj
   ·have h1:=(hpn.mem_erase_iff).1 hj
    rw [getD_set_ne true (fun e=>h1.1 e.symm)]
    exact hpu j h1.2
   intro a2 w2 hw2 hL G w3 hg3 hgR hf
   have hb:w3.heap[w'.heap.size]?=some (Z i):=hgR.block (by show (w'.heap.push (Z i))[w'.heap.size]?=_;simp)
   have hsz:∀ j ∈ pend.erase i,w'.heap.size<G j:=fun j hj=>by
    have:=(hf.1 j hj).1
    have e:(w'.alloc (Z i)).heap.size=w'.heap.size+1:=by simp
    omega
   have hne:∀ j ∈ pend.erase i,j≠i:=fun j hj=>((hpn.mem_erase_iff).1 hj).1
   have hmem:∀ j ∈ pend,j≠i→j ∈ pend.erase i:=fun j hj hne=>(hpn.mem_erase_iff).2 ⟨hne,hj⟩
   have h1:=H a2 w2 hw2 hL (fun j=>if j=i then w'.heap.size else G j) w3 hg3 (hw'.trans ((Gr.alloc _ _).trans hgR)) ⟨fun j hj=>?_,fun j hj k hk e=>?_⟩
   ·rw [qv_ pend _ hip hpn (fun j hj k hk=>hD j (hps j hj) k (hps k hk))] at h1
    rw [qv9 (G':=G) (pend.erase i) _ (fun j hj=>if_neg (hne j hj))] at h1
    rw [hd]
    simpa using h1
   ·show wR.heap.size≤(if j=i then w'.heap.size else G j)∧w3.heap[(if j=i then w'.heap.size else G j)]?=some (Z j)
    by_cases e:j=i
    ·subst e;rw [if_pos rfl];exact ⟨hw'.size,hb⟩
    rw [if_neg e]
    have h3:=hw'.size
    have h2:=hsz j (hmem j hj e)
    exact ⟨by omega,(hf.1 j (hmem j hj e)).2⟩
   replace e:(if j=i then w'.heap.size else G j)=(if k=i then w'.heap.size else G k):=e
   by_cases ej:j=i <;> by_cases ek:k=i
   ·rw [ej,ek]
   ·rw [if_pos ej,if_neg ek] at e
    have:=hsz k (hmem k hk ek)
    omega
   ·rw [if_neg ej,if_pos ek] at e
    have:=hsz j (hmem j hj ej)
    omega
   rw [if_neg ej,if_neg ek] at e
   exact hf.2 j (hmem j hj ej) k (hmem k hk ek) e
  have hiP:=hrdP i hi hip
  have his:i ∉ is:=fun h=>by
   have h1:=hpl i h
   rw [(mem_ready.1 hiP).1] at h1
   cases h1
  cases f with
  | zero =>
   rw [hrun.1] at hiP
   have:=hdone i hiP
   omega
  | succ f =>
   have h1:=hrun.2 i hiP hin w' (hg.trans hw')
   refine qw8 (fun a' w2 hw2 h3=>?_) (hE.hOp hin his h1)
   obtain ⟨a2,rfl,hK⟩:=h3
   refine qF9 hsel hn hap hdone hnd hD hA N f pend _ _ E a2 w2 w2 (by omega) hpn hps (inv.set hi hin) (invP.set hiP hin) (fun j hj=>?_) (fun j hj=>?_) (fun j hj=>?_) (fun j hj=>?_) hE (Gr.refl _) hK
    (fun a3 w3 hw3 hL G w4 hg4 hgR hf=>H a3 w3 ((hg.trans hw').trans (hw2.trans hw3)) hL G w4 hg4 ((hw'.trans hw2).trans hgR) ⟨fun k hk=>⟨Nat.le_trans (hw'.trans hw2).size (hf.1 k hk).1,(hf.1 k hk).2⟩,hf.2⟩)
   ·by_cases e:i=j
    ·subst e
     have hiL:i<listed.size:=by rw [inv.size];exact Nat.lt_trans hin hn
     have hiL2:i<listedP.size:=by rw [invP.size];exact Nat.lt_trans hin hn
     simp [hiL,hiL2]
    rw [getD_set_ne true e,getD_set_ne true e];exact hl j hj
   ·by_cases e:i=j
    ·subst e
     have hiL2:i<listedP.size:=by rw [invP.size];exact Nat.lt_trans hin hn
     simp [hiL2]
    rw [getD_set_ne false e] at hj ⊢
    exact hll j hj
   ·rw [getD_set_ne true (fun e=>hip (by rw [e];exact hj))]
    exact hpu j hj
   rw [getD_set_ne true (fun e=>his (by rw [e];exact hj))]
   exact hpl j hj
def qq4 (is:List Nat) (s:Nat):Array Bool:=Array.ofFn (n:=s) fun i=>is.contains i.val
def qa9 (md:Region.Mode) (ops:Array Oper) (D:Nat→Tmp) (n:Nat) (is X:List Nat) (plan:List (Bool × Nat)):Bool :=
 Region.noSelect ops && (decide (n<ops.size∧plan.length+is.length=n) && ((qw9 md ops n X && (xk1 md ops n X && !X.contains n)) && (Region.chainB md ops n && (qP8 ops n is && (qD9 md ops n plan (qq4 is ops.size) && (Region.seqB md ops (ops.size - n) n (canon n ops.size) &&
  (decide is.Nodup && (is.all (fun i=>decide (i<n) && (is.all fun j=>decide (D i=D j→i=j)) && ((ops[i]?).map fun o=>o.after.isEmpty).getD false)))))))))
theorem pure_extract {d:Option Tmp} {x:Operand} {i ty:Nat} {pos:String} {af:Array Edge} {g:Option (Nat × Bool)}:PureOp P { dst:=d,op:=.extract x i,type:=ty,pos:=pos,after:=af,guard:=g }:=fun ρ=>by
 simp only [execOp]
 cases h:ρ x with
 | tuple vs =>
  cases h2:vs[i]? with
  | some v=>exact .inl ⟨v,fun w=>by simp [Instr.extract,h2,go_sem]⟩
  | none=>exact .inr fun w=>by simp [Instr.extract,h2,go_sem,stuck]
 | _=>exact .inr fun w=>by simp [Instr.extract,go_sem,stuck]
theorem wp_region_plan {id:Nat} {Q:Exit→Act→World→Prop} {a:Act} {w:World} {l:List Oper} (n:Nat) (is X:List Nat) (D:Nat→Tmp) (Z:Nat→Obj) (plan:List (Bool × Nat)) (hm:P.follows .mixedOrders=true)
  (hB:qa9 .any l.toArray D n is X plan=true) (hA:∀ i ∈ is,AllocAt P .any l.toArray D Z i) (hX:∀ x ∈ X,∃ o,l.toArray[x]?=some o∧PureOp P o) (hp:∀ c a d v w,Q (.panic c) (a.put (some d) v) w→Q (.panic c) a w)
  (h:∀ T:Act→World→Prop,Hid (∀ a' w',(∀ G w2,Gr w' w2→Fresh Z is G w w2→wpList P l.toArray Q (l.drop n) (puts D G is a') w2)→T a' w')→qb4 P l.toArray T plan a w):(Code.region id l.toArray true).wp P Q a w:=by
 simp only [qa9,Bool.and_eq_true,decide_eq_true_eq,List.all_eq_true] at hB
 obtain ⟨hsel,⟨hn,hcount⟩,⟨hs,hlo,hnX⟩,hc,hap,hpl,hseq,hnd,hal⟩:=hB
 have hn':n<l.length:=by simpa using hn
 have hdl:(l.drop n).length=l.toArray.size - n:=by simp
 have hdone:∀ j ∈ Region.ready .any l.toArray (canon n l.toArray.size),n≤j:=fun j hj=>seqB_ready hseq j hj
 have inv0:HeadInv .any l.toArray n (Array.replicate l.toArray.size false) :=
  ⟨by simp,fun j oj _ hl=>(by rw [getD_replicate_false] at hl;cases hl),fun t _ ht=>getD_in (by simpa using ht) (getD_replicate_false _ _)⟩
 have hmk:∀ j d,(qq4 is l.toArray.size).getD j d=if j<l.toArray.size then is.contains j else d:=fun j d=>by
  by_cases h:j<l.toArray.size
  ·rw [if_pos h,Array.getD_eq_getD_getElem?,Array.getElem?_eq_getElem (by simpa [qq4] using h)]
   simp [qq4]
  rw [if_neg h,Array.getD_eq_getD_getElem?,Array.getElem?_eq_none (by simpa [qq4] using h)]
  rfl
 have inv1:HeadInv .any l.toArray n (qq4 is l.toArray.size):=by
  refine ⟨by simp [qq4],fun j oj hj hl e he hb=>?_,fun t ht ht'=>?_⟩
  ·rw [hmk] at hl
   split at hl
   ·have hjs:j ∈ is:=by simpa using hl
    have h3:=(hal j hjs).2
    rw [hj] at h3
    simp only [Option.map_some,Option.getD_some] at h3
    have:oj.after = #[]:=by simpa using h3
    rw [this] at he
    simp at he
   cases hl
  rw [hmk,if_pos ht']
  cases hh:is.contains t
  ·rfl
  have:=((hal t (by simpa using hh)).1).1
  omega
 refine wp_region_any hm ?_
 have H1:=qu7 (P:=P) (md:=.any) (n:=n) (T:=fun a' w'=>∀ G w2,Gr w' w2→Fresh Z is G w w2→wpList P l.toArray Q (l.drop n) (puts D G is a') w2) hsel
  (fun a' w1 w2 hg h G w3 hw3 hf=>h G w3 (hg.trans hw3) hf) hdone plan _ a w inv1 hpl (h _ (fun _ _ h=>h))
 have H2:=qF9 (P:=P) (md:=.any) (n:=n) (is:=is) (D:=D) (Z:=Z) (T:=fun a' w'=>∀ w2,Gr w' w2→wpList P l.toArray Q (l.drop n) a' w2) hsel hn hap hdone hnd
  (fun j hj k hk=>by have:=(hal j hj).1.2 k hk;simpa using this) (fun i hi=>⟨by simpa using (hal i hi).1.1,hA i hi⟩)
  (plan.length+is.length) plan.length is (Array.replicate l.toArray.size false) (qq4 is l.toArray.size) (fun a=>a) a w w.drew rfl hnd (fun _ h=>h) inv0 inv1
  (fun j hj=>?_) (fun j hj=>(by rw [getD_replicate_false] at hj;cases hj)) (fun j hj=>?_) (fun j hj=>?_) (fun _ _ _ _ _ _=>⟨rfl,rfl,fun _=>rfl⟩) (Gr.drew w) H1
  (fun a2 w2 hw2 hL G w' hg2 hgR hf w3 hw3=>hL G w3 (hg2.trans hw3) ⟨fun i hi=>⟨(hf.1 i hi).1,hw3.block (hf.1 i hi).2⟩,hf.2⟩)
 ·have h2:=qm2 (X:=X) (Q:=Q) (g:=l.toArray.size - n) hsel hs hlo hc hn (by simpa using hnX) hX (fun listed a w _ hL=>by
   have h3:=wpAny_of_seq (md:=.any) (Q':=Q) (l.drop n) n listed a w (fun j=>by simp [List.getElem?_drop]) (by rw [hdl,hL.1];exact hseq) (hL.2 w (Gr.refl _))
   rwa [hdl] at h3) hp _ _ _ _ inv0 H2
  have hlen:plan.length+is.length+(l.toArray.size - n)=l.toArray.size:=by
   omega
  rw [hlen] at h2
  exact h2
 ·rw [hmk]
  by_cases h3:j<l.toArray.size
  ·rw [if_pos h3,show is.contains j=false by simpa using hj]
   exact getD_in (by simpa using h3) (getD_replicate_false _ _)
  rw [if_neg h3];simp at h3;simp [h3]
 ·have:=(hal j hj).1.1
  exact getD_in (by simp;omega) (getD_replicate_false _ _)
 have:=(hal j hj).1.1
 rw [hmk,if_pos (by simp;omega)]
 simpa using hj
theorem qu9 {T:Act→World→Prop} (hT:∀ a w w',Gr w w'→T a w→T a w'):∀ (plan:List (Bool × Nat)) (a:Act) (w w':World),Gr w w'→qb4 P ops T plan a w→qb4 P ops T plan a w'
 | [],_,_,_,hg,h=>hT _ _ _ hg h
 | (true,_) :: r,_,_,_,hg,⟨o,v,ho,hy,hK⟩=>⟨o,v,ho,hy.imp (fun h=>⟨h.1,fun w2 hw2=>h.2 w2 (hg.trans hw2)⟩) (fun h=>h),qu9 hT r _ _ _ hg hK⟩
 | (false,_) :: _,_,_,_,hg,h=>fun w2 hw2=>h w2 (hg.trans hw2)
theorem ql2 {Q:Exit→Act→World→Prop} {T:Act→World→Prop} {rest:List Oper} (hT:∀ a w w',Gr w w'→T a w→T a w') (hTw:∀ a w,T a w→wpList P ops Q rest a w) :
  ∀ (l:List Oper) (plan:List (Bool × Nat)) (k:Nat) (a:Act) (w:World),plan.map (·.2)=List.range' k l.length→(∀ j,j<l.length→l[j]?=ops[k+j]?)→qb4 P ops T plan a w→wpList P ops Q (l ++ rest) a w
 | [],plan,k,a,w,hp,_,h=>by
  obtain rfl:plan = []:=by simpa using hp
  exact hTw _ _ h
 | o :: l,[],k,a,w,hp,_,h=>by simp [List.range'] at hp
 | o :: l,(b,i) :: r,k,a,w,hp,hl,h=>by
  simp only [List.length_cons,List.range',List.map_cons,List.cons.injEq] at hp
  obtain ⟨rfl,hp⟩:=hp
  have h0:ops[i]?=some o:=by simpa using (hl 0 (by simp)).symm
  have hh:hOp P ops i (qb4 P ops T r) a w:=by
   cases b with
   | false=>exact h w (Gr.refl w)
   | true =>
    obtain ⟨o',v,ho',hy,hK⟩:=h
    obtain rfl:o'=o:=Option.some.inj (ho'.symm.trans h0)
    exact hy.hOp ho' (Gr.refl w) fun w' hw'=>qu9 hT r _ _ _ hw' hK
  have h1:=qu8 (Q:=Q) (K':=fun a' w'=>wpList P ops Q (l ++ rest) a' w') (fun a' w' hK=>ql2 hT hTw l r (i+1) a' w' hp (fun j hj=>by
   have:=hl (j+1) (by simp;omega)
   simpa [Nat.add_assoc,Nat.add_comm 1 j] using this) hK) hh
  unfold wpOp at h1
  simp only [h0] at h1
  exact h1
theorem qq0 {id:Nat} {Q:Exit→Act→World→Prop} {a:Act} {w:World} {l:List Oper} (n:Nat) (plan:List (Bool × Nat)) (hp:plan.map (·.2)=List.range' 0 n) (hn:n≤l.length)
  (h:∀ T:Act→World→Prop,Hid (∀ a' w',(∀ w2,Gr w' w2→wpList P l.toArray Q (l.drop n) a' w2)→T a' w')→qb4 P l.toArray T plan a w):(Code.region id l.toArray false).wp P Q a w:=by
 refine wp_region_lit ?_
 have hlen:(l.take n).length=n:=by simp;omega
 have:=ql2 (Q:=Q) (P:=P) (ops:=l.toArray) (rest:=l.drop n) (T:=fun a' w'=>∀ w2,Gr w' w2→wpList P l.toArray Q (l.drop n) a' w2) (fun a' w1 w2 hg h w3 hw3=>h w3 (hg.trans hw3)) (fun a' w' h=>h w' (Gr.refl _)) (l.take n) plan 0 a w
  (by rw [hlen];exact hp) (fun j hj=>by
   have hj':j<n:=by rw [hlen] at hj;exact hj
   simp [hj']) (h _ (fun _ _ h=>h))
 rwa [List.take_append_drop] at this
end
end
end Go.Proofs.YtobojnodohjiaaaGreatDoor
