
/- What a walk knows of the world, in one fact: blocks known whole (each its own), numbers of the reference. No condition. -/
import Derived.Test.YtobojnodohjiaaaGreatDoorPI
import Derived.Test.YtobojnodohjiaaaGreatDoorPC
set_option linter.unusedVariables false
set_option linter.unusedSimpArgs false
namespace Go.Proofs.YtobojnodohjiaaaGreatDoor
open Go.RowKit
abbrev Fk:=(Nat × TypeId × Array Value) ⊕ (Value × Nat)
def Fat (W:World) (B:Nat):Fk→Prop
 | Sum.inl (b,T,cs)=>Bx W b T cs∧T≠3∧B≤b
 | .inr (v,n)=>Rn W v n
def HP (w0 W:World) (L:List Fk):Prop :=
 Below w0.heap.size w0 W∧(∀ (i:Nat) (e:Fk),L[i]?=some e→Fat W w0.heap.size e)∧∀ (i j:Nat) (x y:Nat × TypeId × Array Value),i≠j→L[i]?=some (Sum.inl x)→L[j]?=some (Sum.inl y)→x.1≠y.1
section
variable {w0 W W':World} {L:List Fk} {b T i n:Nat} {cs:Array Value} {v:Value}
theorem Fat.gr {e:Fk} {B:Nat} (h:Fat W B e) (g:Gr W W'):Fat W' B e:=by
 rcases e with ⟨b,T,cs⟩|⟨v,n⟩
 ·exact ⟨h.1.gr g,h.2⟩
 exact Rn.gr h g
theorem HP.gr (h:HP w0 W L) (g:Gr W W'):HP w0 W' L:=⟨h.1.trans (Below.mono g h.1.size),fun i e he=>(h.2.1 i e he).gr g,h.2.2⟩
theorem HPb (h:Hid (HP w0 W L)):Hid (Below w0.heap.size w0 W):=h.out.1
theorem HP.bx (h:HP w0 W L) (i:Nat) (hi:L[i]?=some (Sum.inl (b,T,cs))):Bx W b T cs:=(h.2.1 i _ hi).1
theorem HP.c (h:HP w0 W L) (i:Nat) (hi:L[i]?=some (Sum.inl (b,T,cs))):∀ w',Gr W w'→∀ j,w'.cell? ⟨b,j,none⟩=cs[j]?:=(h.bx i hi).cells
theorem HP.f (h:HP w0 W L) (i:Nat) (hi:L[i]?=some (Sum.inl (b,T,cs))):∀ w',Gr W w'→∀ j,w'.frozen? ⟨b,j,none⟩=false:=(h.bx i hi).free
theorem HP.rn (h:HP w0 W L) (i:Nat) (hi:L[i]?=some (Sum.inr (v,n))):Rn W v n:=h.2.1 i _ hi
theorem HP.r (h:HP w0 W L) (i:Nat) (hi:L[i]?=some (Sum.inr (v,n))) (g:Gr W W'):Rn W' v n:=Rn.gr (h.rn i hi) g
theorem HP.ne {c S:Nat} {ds:Array Value} (h:HP w0 W L) (i j:Nat) (hi:L[i]?=some (Sum.inl (b,T,cs))) (hj:L[j]?=some (Sum.inl (c,S,ds))) (hij:i≠j):b≠c∧c≠b :=
 ⟨h.2.2 i j _ _ hij hi hj,fun e=>h.2.2 i j _ _ hij hi hj e.symm⟩
theorem HP.put (h:HP w0 W L) (i o:Nat) (u:Value) (hi:L[i]?=some (Sum.inl (b,T,cs))):HP w0 (W.setCell ⟨b,o,none⟩ u) (L.set i (Sum.inl (b,T,cs.setIfInBounds o u))):=by
 obtain ⟨h1,h2,h3⟩:=h
 have hb:=h2 i _ hi
 have hlt:i<L.length:=(List.getElem?_eq_some_iff.1 hi).1
 refine ⟨h1.setCell hb.2.2 _,fun j e he=>?_,fun j k x y hjk hx hy=>?_⟩
 ·rw [List.getElem?_set] at he
  split at he
  ·injection he with he
   subst he
   exact ⟨hb.1.set o u,hb.2⟩
  rename_i hij
  have he':=h2 j e he
  rcases e with ⟨c,S,ds⟩|⟨v,n⟩
  ·exact ⟨he'.1.setOther (h3 j i _ _ (fun e=>hij e.symm) he hi) u,he'.2⟩
  exact Rn.setOther he' (Rn.ne he' hb.1 hb.2.1) u
 rw [List.getElem?_set] at hx hy
 split at hx <;> split at hy
 ·omega
 ·injection hx with hx
  injection hx with hx
  subst hx
  rename_i h4 h5
  exact h3 i k (b,T,cs) y h5 hi hy
 ·injection hy with hy
  injection hy with hy
  subst hy
  rename_i h4 h5
  exact h3 j i x (b,T,cs) (fun e=>h4 e.symm) hx hi
 exact h3 j k x y hjk hx hy
theorem HP.add (h:HP w0 W L) (hb:Bx W b T cs) (hT:T≠3) (hle:w0.heap.size≤b) (hne:∀ (i:Nat) (x:Nat × TypeId × Array Value),L[i]?=some (Sum.inl x)→x.1≠b):HP w0 W (L ++ [Sum.inl (b,T,cs)]):=by
 obtain ⟨h1,h2,h3⟩:=h
 have key:∀ j e,(L ++ [(Sum.inl (b,T,cs):Fk)])[j]?=some e→L[j]?=some e∨(j=L.length∧e=Sum.inl (b,T,cs)):=fun j e he=>by
  rw [List.getElem?_append] at he
  split at he
  ·exact .inl he
  rename_i hj
  have:j - L.length=0:=by
   rcases Nat.eq_zero_or_pos (j - L.length) with h|h
   ·exact h
   rw [List.getElem?_eq_none (by simp;omega)] at he
   cases he
  rw [this] at he
  simp at he
  exact .inr ⟨by omega,he.symm⟩
 refine ⟨h1,fun j e he=>?_,fun j k x y hjk hx hy=>?_⟩
 ·rcases key j e he with h|⟨_,rfl⟩
  ·exact h2 j e h
  exact ⟨hb,hT,hle⟩
 rcases key j _ hx with h|⟨hj,h⟩ <;> rcases key k _ hy with h'|⟨hk,h'⟩
 ·exact h3 j k x y hjk h h'
 ·injection h' with h'
  subst h'
  exact hne j x h
 ·injection h with h
  subst h
  exact fun e=>hne k y h' e.symm
 omega
theorem HP.ar (h:HP w0 W L) (hr:Rn W v n):HP w0 W (L ++ [Sum.inr (v,n)]):=by
 obtain ⟨h1,h2,h3⟩:=h
 have key:∀ j e,(L ++ [(Sum.inr (v,n):Fk)])[j]?=some e→L[j]?=some e∨e=Sum.inr (v,n):=fun j e he=>by
  rw [List.getElem?_append] at he
  split at he
  ·exact .inl he
  rename_i hj
  have:j - L.length=0:=by
   rcases Nat.eq_zero_or_pos (j - L.length) with h|h
   ·exact h
   rw [List.getElem?_eq_none (by simp;omega)] at he
   cases he
  rw [this] at he
  simp at he
  exact .inr he.symm
 refine ⟨h1,fun j e he=>?_,fun j k x y hjk hx hy=>?_⟩
 ·rcases key j e he with h|rfl
  ·exact h2 j e h
  exact hr
 rcases key j _ hx with h|h
 ·rcases key k _ hy with h'|h'
  ·exact h3 j k x y hjk h h'
  cases h'
 cases h
theorem HP.lt (h:HP w0 W L):∀ (i:Nat) (x:Nat × TypeId × Array Value),L[i]?=some (Sum.inl x)→x.1<W.heap.size:=fun i x hx=>(h.2.1 i _ hx).1.lt
theorem HP.al (h:HP w0 W L) (hb:W.heap.size=b) (hT:T≠3):HP w0 (W.alloc (.cells cs T)) (L ++ [Sum.inl (b,T,cs)]) :=
 (h.gr (Gr.alloc _ _)).add (Bx.at hb) hT (by rw [← hb];exact h.1.size) (fun i x hx=>by have:=h.lt i x hx;omega)
theorem HP.er (h:HP w0 W L) (k:Nat):HP w0 W (L.eraseIdx k):=by
 obtain ⟨h1,h2,h3⟩:=h
 refine ⟨h1,fun j e he=>?_,fun i j x y hij hx hy=>?_⟩
 ·rw [List.getElem?_eraseIdx] at he
  split at he
  ·exact h2 _ e he
  exact h2 _ e he
 rw [List.getElem?_eraseIdx] at hx hy
 split at hx <;> split at hy <;> exact h3 _ _ x y (by omega) hx hy
theorem HP.fr (h:HP w0 W L) {V:World} (hg:Gr W V) {Z:Nat→Obj} {is:List Nat} {G:Nat→Nat} (hf:Fresh Z is G W V) {zs:List (Array Value × TypeId)} (hz:is.map Z=zs.map fun z=>.cells z.1 z.2) (hT:∀ z ∈ zs,z.2≠3) (hnd:is.Nodup) :
  HP w0 V (L ++ (is.zip zs).map fun p=>Sum.inl (G p.1,p.2.2,p.2.1)):=by
 have gen:∀ (is':List Nat) (zs':List (Array Value × TypeId)) (M:List Fk),(∀ i ∈ is',i ∈ is)→is'.Nodup→is'.map Z=zs'.map (fun z=>.cells z.1 z.2)→(∀ z ∈ zs',z.2≠3)→HP w0 V M →
   (∀ (i:Nat) (x:Nat × TypeId × Array Value),M[i]?=some (Sum.inl x)→x.1<W.heap.size∨∃ j ∈ is,j ∉ is'∧x.1=G j)→HP w0 V (M ++ (is'.zip zs').map fun p=>Sum.inl (G p.1,p.2.2,p.2.1)):=by
  intro is'
  induction is' with
  | nil=>intro zs' M _ _ _ _ hM _;simpa using hM
  | cons k ks ih =>
   intro zs' M hs hn hz hT hM hd
   cases zs' with
   | nil=>simp at hz
   | cons z zs' =>
    simp only [List.map_cons,List.cons.injEq] at hz
    have hk:=hf.1 k (hs k (by simp))
    have hbx:Bx V (G k) z.2 z.1:=by
     have:=hk.2
     rw [hz.1] at this
     exact this
    have hM':HP w0 V (M ++ [Sum.inl (G k,z.2,z.1)]):=hM.add hbx (hT z (by simp)) (Nat.le_trans h.1.size hk.1) (fun i x hx e=>by
     rcases hd i x hx with h|⟨j,hj,hjk,hxj⟩
     ·rw [e] at h;omega
     have:=hf.2 j hj k (hs k (by simp)) (hxj.symm.trans e)
     subst this
     exact hjk (by simp))
    have:=ih zs' (M ++ [Sum.inl (G k,z.2,z.1)]) (fun i hi=>hs i (by simp [hi])) (List.nodup_cons.1 hn).2 hz.2 (fun z hz=>hT z (by simp [hz])) hM' (fun i x hx=>by
     rw [List.getElem?_append] at hx
     split at hx
     ·rcases hd i x hx with h|⟨j,hj,hjk,hxj⟩
      ·exact .inl h
      exact .inr ⟨j,hj,fun h=>hjk (by simp [h]),hxj⟩
     rename_i hi
     have h0:i - M.length=0:=by
      rcases Nat.eq_zero_or_pos (i - M.length) with h|h
      ·exact h
      rw [List.getElem?_eq_none (by simp;omega)] at hx
      cases hx
     rw [h0] at hx
     simp at hx
     subst hx
     exact .inr ⟨k,hs k (by simp),(List.nodup_cons.1 hn).1,rfl⟩)
    simpa using this
 exact gen is zs L (fun _ h=>h) hnd hz hT (h.gr hg) (fun i x hx=>.inl (h.lt i x hx))
theorem HP.put2 {u1 u2:Value} (h:HP w0 W L) (i o:Nat) (hi:L[i]?=some (Sum.inl (b,T,cs))):HP w0 ((W.setCell ⟨b,o,none⟩ u1).setCell ⟨b,o+1,none⟩ u2) (L.set i (Sum.inl (b,T,(cs.setIfInBounds o u1).setIfInBounds (o+1) u2))):=by
 have hlt:i<L.length:=(List.getElem?_eq_some_iff.1 hi).1
 have:=(h.put i o u1 hi).put i (o+1) u2 (by rw [List.getElem?_set,if_pos rfl,if_pos hlt])
 rwa [List.set_set] at this
end
theorem qS6 {P:Program} {c:Code} {Q:Exit→Act→World→Prop} {a:Act} {w0 W:World} {L:List Fk} (h:HP w0 W L) (k:∀ W',Hid (HP w0 W' L)→c.wp P Q a W'):c.wp P Q a W:=k W (Lib.hid h)
theorem hp0 (w:World):HP w w []:=⟨Below.refl _ _,fun i e h=>by simp at h,fun i j x y _ h=>by simp at h⟩
theorem lA {α:Type} {l:List α} {i:Nat} {a:α}:l.toArray.setIfInBounds i a=(l.set i a).toArray:=List.setIfInBounds_toArray _ _ _
theorem lB {α:Type} {x:α} {l:List α} {a:α}:(x :: l).set 0 a=a :: l:=rfl
theorem lC {α:Type} {x:α} {l:List α} {n:Nat} {a:α}:(x :: l).set (n+1) a=x :: l.set n a:=rfl
theorem lD {α:Type} {x:α} {l:List α} {n:Nat}:(x :: l).drop (n+1)=l.drop n:=rfl
theorem lE {α:Type} {l:List α}:l.drop 0=l:=rfl
theorem lF {α:Type} {x:α} {l m:List α}:(x :: l) ++ m=x :: (l ++ m):=rfl
theorem lG {α:Type} {l:List α}:[] ++ l=l:=rfl
theorem lH {α:Type} {x:α} {l:List α}:(x :: l).eraseIdx 0=l:=rfl
theorem lI {α:Type} {x:α} {l:List α} {n:Nat}:(x :: l).eraseIdx (n+1)=x :: l.eraseIdx n:=rfl
theorem ok {p:Prop} (h:p:=by first|rfl|omega|(simp;done)|grind):p:=h
theorem om {p:Prop} (h:p:=by first|omega|exact Nat.le_trans (wl_small (by decide)) (by decide)):p:=h
section
variable {P:Program}
theorem kS {Q:Exit→Act→World→Prop} {c d:Code} {a:Act} {w:World} (h:∀ K:Act→World→Prop,Hid (∀ a' w',d.wp P Q a' w'→K a' w')→c.wp P (Exit.then K Q) a w):(c.seq d).wp P Q a w:=wp_seq_k fun K hK=>h K (Lib.hid hK)
theorem kL {x:Code} {Q:Exit→Act→World→Prop} {a:Act} {w:World} (h:∀ K:Act→World→Prop,Hid (∀ a w,Q .normal a w→K a w)→x.wp P (Exit.then K Q) a w):x.wp P Q a w:=qB7 fun K hK=>h K (Lib.hid hK)
theorem sq {id:Nat} {Q:Exit→Act→World→Prop} {a:Act} {w:World} {l:List Oper} (n:Nat) (plan:List (Bool × Nat)) (h:∀ T:Act→World→Prop,Hid (∀ a' w',(∀ w2,Gr w' w2→wpList P l.toArray Q (l.drop n) a' w2)→T a' w')→qb4 P l.toArray T plan a w)
  (hp:plan.map (·.2)=List.range' 0 n:=by rfl) (hn:n≤l.length:=by simp):(Code.region id l.toArray false).wp P Q a w:=qq0 n plan hp hn h
theorem pd {id:Nat} {Q:Exit→Act→World→Prop} {a:Act} {w:World} {l:List Oper} (n:Nat) (plan:List (Bool × Nat))
  (h:∀ T:Act→World→Prop,Hid (∀ a' w',(∀ G w2,Gr w' w2→Fresh (fun _=>.cells #[] 0) [] G w w2→wpList P l.toArray Q (l.drop n) (puts (fun _=>0) G [] a') w2)→T a' w')→qb4 P l.toArray T plan a w)
  (hm:P.follows .mixedOrders=true:=by kernel_rfl) (hB:qa9 .any l.toArray (fun _=>0) n [] [] plan=true:=by kernel_rfl) (hp:∀ c a d v w,Q (.panic c) (a.put (some d) v) w→Q (.panic c) a w:=by exact (fun _ _ _ _ _ h=>h)):(Code.region id l.toArray true).wp P Q a w :=
 wp_region_plan n [] [] (fun _=>0) (fun _=>.cells #[] 0) plan hm hB (fun i hi=>by cases hi) (fun i hi=>by cases hi) hp h
theorem tk {l:List Oper} {T:Act→World→Prop} {a a':Act} {w:World} {i:Nat} {o:Oper} {r:List (Bool × Nat)} {v:Value} (h3:qb4 P l.toArray T r a' w) (ho:l[i]?=some o:=by rfl) (h1:Region.wanted o (yielded l.toArray a.tmps)=true:=by rfl)
  (h2:∀ w',Gr w w'→o.quietAt P a (Gr w') w' v:=by (intro w' hw;go_simp;with_reducible rfl)) (ha:a.put o.dst v=a':=by (simp only [Act.put,lA,lB,lC];rfl)):qb4 P l.toArray T ((true,i) :: r) a w:=wpPlan_takeL ho h1 h2 (ha ▸ h3)
theorem sk {l:List Oper} {T:Act→World→Prop} {a a':Act} {w:World} {i:Nat} {o:Oper} {r:List (Bool × Nat)} (h3:qb4 P l.toArray T r a' w) (ho:l[i]?=some o:=by rfl) (h1:Region.wanted o (yielded l.toArray a.tmps)=false:=by rfl)
  (ha:a.put o.dst undef=a':=by (simp only [Act.put,lA,lB,lC];rfl)):qb4 P l.toArray T ((true,i) :: r) a w:=qB6 ho h1 (ha ▸ h3)
theorem ck {l:List Oper} {T:Act→World→Prop} {a a':Act} {w:World} {i:Nat} {r:List (Bool × Nat)} {v:Value} {f ty:Nat} {xs:Array Operand} {ats:Array TypeId} {pos:String} {af:Array Edge} {g:Option (Nat × Bool)} {d:Option Tmp} {args:Array Value}
  (hr:∀ args w,(callFunc f args).run P w=.ok (.enter f args) w) (h2:∀ w',Gr w w'→Calls P f args w' fun e w''=>e=.returned v∧Below w'.heap.size w' w'') (h3:qb4 P l.toArray T r a' w)
  (ho:l[i]?=some { dst:=d,op:=.call { callee:=.value (.func f),args:=xs,argTypes:=ats },type:=ty,pos:=pos,after:=af,guard:=g }:=by rfl)
  (h1:Region.wanted { dst:=d,op:=.call { callee:=.value (.func f),args:=xs,argTypes:=ats },type:=ty,pos:=pos,after:=af,guard:=g } (yielded l.toArray a.tmps)=true:=by rfl)
  (hx:(xs.toList.map a.eval).toArray=args:=by rfl) (ha:a.put d v=a':=by (simp only [Act.put,lA,lB,lC];rfl)):qb4 P l.toArray T ((true,i) :: r) a w:=qe9 ho h1 hr h2 hx (ha ▸ h3)
theorem nlS {ops:Array Oper} {l l':List Oper} {n:Nat} {Q:Exit→Act→World→Prop} {T:Act→World→Prop} {a:Act} {w0 w:World} {L:List Fk} (hT:Hid (∀ a' w',(∀ w2,Gr w' w2→wpList P ops Q (l.drop n) a' w2)→T a' w')) (HF:Hid (HP w0 w L))
  (h:∀ w2,Hid (HP w0 w2 L)→wpList P ops Q l' a w2) (hd:l.drop n=l':=by (simp only [lD,lE];rfl)):qb4 P ops T [] a w:=hT.out _ _ fun w2 hg=>hd ▸ h w2 (Lib.hid (HF.out.gr hg))
theorem nlD {ops:Array Oper} {l l':List Oper} {n:Nat} {Q:Exit→Act→World→Prop} {T:Act→World→Prop} {a:Act} {w0 w u:World} {L:List Fk} (hT:Hid (∀ a' w',(∀ G w2,Gr w' w2→Fresh (fun _=>.cells #[] 0) [] G u w2→wpList P ops Q (l.drop n) (puts (fun _=>0) G [] a') w2)→T a' w')) (HF:Hid (HP w0 w L))
  (h:∀ w2,Hid (HP w0 w2 L)→wpList P ops Q l' a w2) (hd:l.drop n=l':=by (simp only [lD,lE];rfl)):qb4 P ops T [] a w:=hT.out _ _ fun G w2 hg hf=>hd ▸ h w2 (Lib.hid (HF.out.gr hg))
theorem fH {c:Code} {Q:Exit→Act→World→Prop} {a:Act} {w0 W:World} {L L':List Fk} (h:HP w0 W L) (k:∀ W',Hid (HP w0 W' L')→c.wp P Q a W') (hL:L=L':=by first|(simp only [lA,lB,lC,lF,lG,lH,lI];rfl)|rfl):c.wp P Q a W:=k W (Lib.hid (hL ▸ h))
end
theorem HP.aL {w0 W:World} {L:List Fk} {T:TypeId} {cs:Array Value} (h:HP w0 W L) (b:Nat) (hb:W.heap.size=b:=by first|rfl|simp) (hT:T≠3:=by decide):HP w0 (W.alloc (.cells cs T)) (L ++ [Sum.inl (b,T,cs)]):=h.al hb hT
theorem kO {P:Program} {d:Code} {Q:Exit→Act→World→Prop} {K:Act→World→Prop} {a:Act} {w:World} (h:Hid (∀ a' w',d.wp P Q a' w'→K a' w')) (g:d.wp P Q a w):K a w:=h.out _ _ g
theorem zq1_ {α β:Type} {a:α} {b:β} {l:List α} {m:List β}:(a :: l).zip (b :: m)=(a,b) :: l.zip m:=rfl
theorem zq2_ {α β:Type} {l:List α}:l.zip ([]:List β) = []:=by simp
theorem zq3_ {α β:Type} {f:α→β} {a:α} {l:List α}:(a :: l).map f=f a :: l.map f:=rfl
theorem zq4_ {α β:Type} {f:α→β}:([]:List α).map f = []:=rfl
section
variable {P:Program}
theorem nz {d:Code} {ops:Array Oper} {l:List Oper} {n:Nat} {Q:Exit→Act→World→Prop} {K T:Act→World→Prop} {a:Act} {w0 w:World} {L:List Fk} (hT:Hid (∀ a' w',(∀ w2,Gr w' w2→wpList P ops (Exit.then K Q) (l.drop n) a' w2)→T a' w')) (HF:Hid (HP w0 w L)) (O:Hid (∀ a' w',d.wp P Q a' w'→K a' w')) (k:∀ w2,Hid (HP w0 w2 L)→d.wp P Q a w2) (hd:l.drop n = []:=by rfl):qb4 P ops T [] a w :=
 hT.out _ _ fun w2 hg=>by rw [hd];exact O.out _ _ (k w2 (Lib.hid (HF.out.gr hg)))
theorem nzR {d:Code} {ops:Array Oper} {l:List Oper} {n:Nat} {Q:Exit→Act→World→Prop} {K T:Act→World→Prop} {a:Act} {w0 w:World} {L L':List Fk} (hT:Hid (∀ a' w',(∀ w2,Gr w' w2→wpList P ops (Exit.then K Q) (l.drop n) a' w2)→T a' w')) (O:Hid (∀ a' w',d.wp P Q a' w'→K a' w')) (h:∀ w2,Gr w w2→HP w0 w2 L) (k:∀ w2,Hid (HP w0 w2 L')→d.wp P Q a w2) (hL:L=L':=by first|(simp only [lA,lB,lC,lF,lG,lH,lI];rfl)|rfl) (hd:l.drop n = []:=by rfl):qb4 P ops T [] a w :=
 hT.out _ _ fun w2 hg=>by rw [hd];exact O.out _ _ (k w2 (Lib.hid (hL ▸ h w2 hg)))
theorem kSl {Q:Exit→Act→World→Prop} {id:Nat} {l:List Oper} {d:Code} {a:Act} {w:World} (h:∀ K:Act→World→Prop,Hid (∀ a' w',d.wp P Q a' w'→K a' w')→wpList P l.toArray (Exit.then K Q) l a w):((Code.region id l.toArray false).seq d).wp P Q a w:=kS fun K hK=>wp_region_lit (h K hK)
theorem bR {fn:Func} {R:Ending→World→Prop} {a:Act} {w:World} {v:Value} (hR:R (.returned v) w) (hr:(results fn a.tmps).run P w=.ok v w) (hd:a.defers = []:=by rfl):bodyPost P fn R .ret a w:=bodyPost_ret hr hd hR
theorem csk {o:Operand} {c y:Code} {Q:Exit→Act→World→Prop} {a:Act} {w:World} (g:y.wp P Q a w) (h:a.eval o=.bool false:=by rfl):(Code.cond o c .skip).wp P (Exit.then (y.wp P Q) Q) a w:=wp_cond_false h (wp_skip g)
theorem cst {o:Operand} {c y:Code} {Q:Exit→Act→World→Prop} {a:Act} {w:World} (g:y.wp P Q a w) (h:a.eval o=.bool true:=by rfl):(Code.cond o .skip c).wp P (Exit.then (y.wp P Q) Q) a w:=wp_cond_true h (wp_skip g)
theorem ex_ {α:Sort _} (a:α):∃ z,Hid (a=z):=⟨_,Lib.hid rfl⟩
theorem al1_ {w0 W:World} {L:List Fk} {T0:TypeId} {c0:Array Value} (h:Hid (HP w0 W L)) (h0:T0≠3:=by decide):HP w0 (W.alloc (.cells c0 T0)) (L ++ [Sum.inl (W.heap.size,T0,c0)]):=(h.out.aL (W.heap.size) (by first|rfl|simp) h0)
theorem al2_ {w0 W:World} {L:List Fk} {T0:TypeId} {c0:Array Value} {T1:TypeId} {c1:Array Value} (h:Hid (HP w0 W L)) (h0:T0≠3:=by decide) (h1:T1≠3:=by decide):HP w0 ((W.alloc (.cells c0 T0)).alloc (.cells c1 T1)) ((L ++ [Sum.inl (W.heap.size,T0,c0)]) ++ [Sum.inl (W.heap.size+1,T1,c1)]):=((h.out.aL (W.heap.size) (by first|rfl|simp) h0).aL (W.heap.size+1) (by first|rfl|simp) h1)
theorem al3_ {w0 W:World} {L:List Fk} {T0:TypeId} {c0:Array Value} {T1:TypeId} {c1:Array Value} {T2:TypeId} {c2:Array Value} (h:Hid (HP w0 W L)) (h0:T0≠3:=by decide) (h1:T1≠3:=by decide) (h2:T2≠3:=by decide):HP w0 (((W.alloc (.cells c0 T0)).alloc (.cells c1 T1)).alloc (.cells c2 T2)) (((L ++ [Sum.inl (W.heap.size,T0,c0)]) ++ [Sum.inl (W.heap.size+1,T1,c1)]) ++ [Sum.inl (W.heap.size+1+1,T2,c2)]):=(((h.out.aL (W.heap.size) (by first|rfl|simp) h0).aL (W.heap.size+1) (by first|rfl|simp) h1).aL (W.heap.size+1+1) (by first|rfl|simp) h2)
theorem kg0_ {w0 W W2:World}  {b T:Nat} {cs:Array Value} {L:List Fk} (h:Hid (HP w0 W (Sum.inl (b,T,cs) :: L))) (g:Hid (Gr W W2)):∀ w',Gr W2 w'→∀ j,w'.cell? ⟨b,j,none⟩=cs[j]?:=fun w' hw=>h.out.c 0 rfl w' (g.out.trans hw)
theorem kg1_ {w0 W W2:World} {x0:Fk} {b T:Nat} {cs:Array Value} {L:List Fk} (h:Hid (HP w0 W (x0 :: Sum.inl (b,T,cs) :: L))) (g:Hid (Gr W W2)):∀ w',Gr W2 w'→∀ j,w'.cell? ⟨b,j,none⟩=cs[j]?:=fun w' hw=>h.out.c 1 rfl w' (g.out.trans hw)
theorem kg2_ {w0 W W2:World} {x0 x1:Fk} {b T:Nat} {cs:Array Value} {L:List Fk} (h:Hid (HP w0 W (x0 :: x1 :: Sum.inl (b,T,cs) :: L))) (g:Hid (Gr W W2)):∀ w',Gr W2 w'→∀ j,w'.cell? ⟨b,j,none⟩=cs[j]?:=fun w' hw=>h.out.c 2 rfl w' (g.out.trans hw)
theorem kg3_ {w0 W W2:World} {x0 x1 x2:Fk} {b T:Nat} {cs:Array Value} {L:List Fk} (h:Hid (HP w0 W (x0 :: x1 :: x2 :: Sum.inl (b,T,cs) :: L))) (g:Hid (Gr W W2)):∀ w',Gr W2 w'→∀ j,w'.cell? ⟨b,j,none⟩=cs[j]?:=fun w' hw=>h.out.c 3 rfl w' (g.out.trans hw)
theorem ce1 {l:List Oper} {T:Act→World→Prop} {a:Act} {w w1:World} {i:Nat} {r:List (Bool × Nat)} {f ty:Nat} {xs:Array Operand} {ats:Array TypeId} {pos:String} {af:Array Edge} {gd:Option (Nat × Bool)} {d:Option Tmp} {args:Array Value} {g:Value→Value} {a':Value→Act} {n0:Nat}
  (hr:∀ args w,(callFunc f args).run P w=.ok (.enter f args) w) (HG:Hid (Gr w1 w)) (h2:∀ w',Gr w w'→Calls P f args w' fun e w''=>(∃ v0,e=.returned (g v0)∧Rn w'' v0 n0)∧Below w'.heap.size w' w'')
  (k:∀ w2,Hid (Gr w1 w2)→Hid (Gr w w2)→∀ (o0:Option Addr) (m0 c0:Nat),Hid (Rn w2 (.slice o0 m0 c0) n0)→qb4 P l.toArray T r (a' (.slice o0 m0 c0)) w2)
  (ho:l[i]?=some { dst:=d,op:=.call { callee:=.value (.func f),args:=xs,argTypes:=ats },type:=ty,pos:=pos,after:=af,guard:=gd }:=by rfl)
  (h1:Region.wanted { dst:=d,op:=.call { callee:=.value (.func f),args:=xs,argTypes:=ats },type:=ty,pos:=pos,after:=af,guard:=gd } (yielded l.toArray a.tmps)=true:=by rfl)
  (hx:(xs.toList.map a.eval).toArray=args:=by rfl) (ha:∀ v0,a.put d (g v0)=a' v0:=by (intros;simp only [Act.put,lA,lB,lC];rfl)):qb4 P l.toArray T ((false,i) :: r) a w :=
 qe8 ho h1 hr hx fun w' hw=>(h2 w' hw).mono fun e w2 h=>by
  obtain ⟨⟨v0,rfl,b0⟩,hg⟩:=h
  obtain ⟨o0,m0,c0,rfl⟩:=Rn.sl b0
  exact ⟨_,rfl,hg,by rw [ha];exact k w2 (Lib.hid (HG.out.trans (hw.trans hg))) (Lib.hid (hw.trans hg)) _ _ _ (Lib.hid b0)⟩
theorem ce2 {l:List Oper} {T:Act→World→Prop} {a:Act} {w w1:World} {i:Nat} {r:List (Bool × Nat)} {f ty:Nat} {xs:Array Operand} {ats:Array TypeId} {pos:String} {af:Array Edge} {gd:Option (Nat × Bool)} {d:Option Tmp} {args:Array Value} {g:Value→Value→Value} {a':Value→Value→Act} {n0 n1:Nat}
  (hr:∀ args w,(callFunc f args).run P w=.ok (.enter f args) w) (HG:Hid (Gr w1 w)) (h2:∀ w',Gr w w'→Calls P f args w' fun e w''=>(∃ v0 v1,e=.returned (g v0 v1)∧Rn w'' v0 n0∧Rn w'' v1 n1)∧Below w'.heap.size w' w'')
  (k:∀ w2,Hid (Gr w1 w2)→Hid (Gr w w2)→∀ (o0:Option Addr) (m0 c0:Nat) (o1:Option Addr) (m1 c1:Nat),Hid (Rn w2 (.slice o0 m0 c0) n0)→Hid (Rn w2 (.slice o1 m1 c1) n1)→qb4 P l.toArray T r (a' (.slice o0 m0 c0) (.slice o1 m1 c1)) w2)
  (ho:l[i]?=some { dst:=d,op:=.call { callee:=.value (.func f),args:=xs,argTypes:=ats },type:=ty,pos:=pos,after:=af,guard:=gd }:=by rfl)
  (h1:Region.wanted { dst:=d,op:=.call { callee:=.value (.func f),args:=xs,argTypes:=ats },type:=ty,pos:=pos,after:=af,guard:=gd } (yielded l.toArray a.tmps)=true:=by rfl)
  (hx:(xs.toList.map a.eval).toArray=args:=by rfl) (ha:∀ v0 v1,a.put d (g v0 v1)=a' v0 v1:=by (intros;simp only [Act.put,lA,lB,lC];rfl)):qb4 P l.toArray T ((false,i) :: r) a w :=
 qe8 ho h1 hr hx fun w' hw=>(h2 w' hw).mono fun e w2 h=>by
  obtain ⟨⟨v0,v1,rfl,b0,b1⟩,hg⟩:=h
  obtain ⟨o0,m0,c0,rfl⟩:=Rn.sl b0
  obtain ⟨o1,m1,c1,rfl⟩:=Rn.sl b1
  exact ⟨_,rfl,hg,by rw [ha];exact k w2 (Lib.hid (HG.out.trans (hw.trans hg))) (Lib.hid (hw.trans hg)) _ _ _ _ _ _ (Lib.hid b0) (Lib.hid b1)⟩
end
theorem zb0_ {p:Prop} (h:p:=by first|exact ok|exact Rat.sub_self|exact Rat.add_comm _ _|exact Rat.mul_comm _ _|exact Rat.add_assoc _ _ _|exact Rat.mul_assoc _ _ _|exact Rat.mul_add _ _ _|exact Rat.add_sub_cancel|exact Rat.mul_div_cancel (by assumption)):p:=h
theorem zb1_ {p:Prop} (h:p:=by first|exact ok|exact Rat.sub_self|exact Rat.add_comm _ _|exact Rat.mul_comm _ _|exact Rat.add_assoc _ _ _|exact Rat.mul_assoc _ _ _|exact Rat.mul_add _ _ _|exact Rat.add_sub_cancel|exact Rat.mul_div_cancel (by assumption)|(simp only [← HZ16.out,← HZ14.out,← HZ11.out,← HZ10.out,← HZ7.out,← HZ6.out,← HZ3.out,← HZ1.out] <;> first|exact ok|exact Rat.sub_self|exact Rat.add_comm _ _|exact Rat.mul_comm _ _|exact Rat.add_assoc _ _ _|exact Rat.mul_assoc _ _ _|exact Rat.mul_add _ _ _|exact Rat.add_sub_cancel|exact Rat.mul_div_cancel (by assumption))):p:=h
theorem zb2_ {p:Prop} (h:p:=by first|exact ok|exact Rat.sub_self|exact Rat.add_comm _ _|exact Rat.mul_comm _ _|exact Rat.add_assoc _ _ _|exact Rat.mul_assoc _ _ _|exact Rat.mul_add _ _ _|exact Rat.add_sub_cancel|exact Rat.mul_div_cancel (by assumption)|(simp only [← HZ14.out,← HZ6.out] <;> first|exact ok|exact Rat.sub_self|exact Rat.add_comm _ _|exact Rat.mul_comm _ _|exact Rat.add_assoc _ _ _|exact Rat.mul_assoc _ _ _|exact Rat.mul_add _ _ _|exact Rat.add_sub_cancel|exact Rat.mul_div_cancel (by assumption))):p:=h
theorem zb3_ {p:Prop} (h:p:=by first|exact ok|exact Rat.sub_self|exact Rat.add_comm _ _|exact Rat.mul_comm _ _|exact Rat.add_assoc _ _ _|exact Rat.mul_assoc _ _ _|exact Rat.mul_add _ _ _|exact Rat.add_sub_cancel|exact Rat.mul_div_cancel (by assumption)|(simp only [← HZ6.out] <;> first|exact ok|exact Rat.sub_self|exact Rat.add_comm _ _|exact Rat.mul_comm _ _|exact Rat.add_assoc _ _ _|exact Rat.mul_assoc _ _ _|exact Rat.mul_add _ _ _|exact Rat.add_sub_cancel|exact Rat.mul_div_cancel (by assumption))):p:=h
theorem zb4_ {p:Prop} (h:p:=by first|exact ok|exact Rat.sub_self|exact Rat.add_comm _ _|exact Rat.mul_comm _ _|exact Rat.add_assoc _ _ _|exact Rat.mul_assoc _ _ _|exact Rat.mul_add _ _ _|exact Rat.add_sub_cancel|exact Rat.mul_div_cancel (by assumption)|(simp only [← HZ21.out,← HZ14.out,← HZ6.out] <;> first|exact ok|exact Rat.sub_self|exact Rat.add_comm _ _|exact Rat.mul_comm _ _|exact Rat.add_assoc _ _ _|exact Rat.mul_assoc _ _ _|exact Rat.mul_add _ _ _|exact Rat.add_sub_cancel|exact Rat.mul_div_cancel (by assumption))):p:=h
theorem zb5_ {p:Prop} (h:p:=by have h0:=H0.out;have hb:=HBS.out;have hr:=HRS.out;have hm:=HMS.out;first|exact ok|(simp only [← HZ2.out,← HZ1.out] <;> first|exact ok)):p:=h
theorem zb6_ {p:Prop} (h:p:=by have h0:=H0.out;have hb:=HBS.out;have hr:=HRS.out;first|exact ok|(simp only [← HZ2.out,← HZ1.out] <;> first|exact ok)):p:=h
theorem zb7_ {p:Prop} (h:p:=by intro i hi;simp only [List.mem_cons,List.not_mem_nil,or_false] at hi;rcases hi with rfl|rfl <;> exact ⟨_,rfl,rfl,rfl,by simp,fun ρ w=>by kernel_rfl⟩):p:=h
theorem zb8_ {p:Prop} (h:p:=by have h0:=H0.out;have hb:=HBS.out;have hr:=HRS.out;first|exact ok|(simp only [← HZ1.out] <;> first|exact ok)):p:=h
theorem zb9_ {p:Prop} (h:p:=by first|exact ok|exact Rat.sub_self|exact Rat.add_comm _ _|exact Rat.mul_comm _ _|exact Rat.add_assoc _ _ _|exact Rat.mul_assoc _ _ _|exact Rat.mul_add _ _ _|exact Rat.add_sub_cancel|exact Rat.mul_div_cancel (by assumption)|(simp only [← HZ1.out] <;> first|exact ok|exact Rat.sub_self|exact Rat.add_comm _ _|exact Rat.mul_comm _ _|exact Rat.add_assoc _ _ _|exact Rat.mul_assoc _ _ _|exact Rat.mul_add _ _ _|exact Rat.add_sub_cancel|exact Rat.mul_div_cancel (by assumption))):p:=h
theorem qf5 {p:Prop} (h:p:=by first|exact ok|exact Rat.mkRat_self _|exact a.reduced|exact HW.out):p:=h
theorem qy7 {p:Prop} (h:p:=by first|exact ok|assumption|exact HN.out|exact HD.out|(rw [← HN.out];rfl)|(simp only [← HZ1.out] <;> first|exact ok|assumption|exact HN.out|exact HD.out|(rw [← HN.out];rfl))):p:=h
theorem qu_ {p:Prop} (h:p:=by intro i hi;simp only [List.mem_cons,List.not_mem_nil,or_false] at hi;rcases hi with rfl <;> exact ⟨_,rfl,rfl,rfl,by simp,fun ρ w=>by kernel_rfl⟩):p:=h
theorem xi_ {p:Prop} (h:p:=by first|exact ok|exact Rat.sub_self|exact Rat.add_comm _ _|exact Rat.mul_comm _ _|exact Rat.add_assoc _ _ _|exact Rat.mul_assoc _ _ _|exact Rat.mul_add _ _ _|exact Rat.add_sub_cancel|exact Rat.mul_div_cancel (by assumption)|(simp only [← HZ2.out,← HZ1.out] <;> first|exact ok|exact Rat.sub_self|exact Rat.add_comm _ _|exact Rat.mul_comm _ _|exact Rat.add_assoc _ _ _|exact Rat.mul_assoc _ _ _|exact Rat.mul_add _ _ _|exact Rat.add_sub_cancel|exact Rat.mul_div_cancel (by assumption))):p:=h
theorem qr6 {p:Prop} (h:p:=by intro i hi;simp only [List.mem_cons,List.not_mem_nil,or_false] at hi;rcases hi with rfl <;> exact ⟨_,rfl,pure_extract⟩):p:=h
theorem xs9 {p:Prop} (h:p:=by first|exact ok|exact Rat.sub_self|exact Rat.add_comm _ _|exact Rat.mul_comm _ _|exact Rat.add_assoc _ _ _|exact Rat.mul_assoc _ _ _|exact Rat.mul_add _ _ _|exact Rat.add_sub_cancel|exact Rat.mul_div_cancel (by assumption)|(simp only [← HZ26.out,← HZ22.out,← HZ16.out,← HZ14.out,← HZ11.out,← HZ10.out,← HZ7.out,← HZ6.out,← HZ3.out,← HZ1.out] <;> first|exact ok|exact Rat.sub_self|exact Rat.add_comm _ _|exact Rat.mul_comm _ _|exact Rat.add_assoc _ _ _|exact Rat.mul_assoc _ _ _|exact Rat.mul_add _ _ _|exact Rat.add_sub_cancel|exact Rat.mul_div_cancel (by assumption))):p:=h
theorem xs_ {p:Prop} (h:p:=by have h0:=H0.out;have hb:=HBS.out;have hr:=HRS.out;have hm:=HMS.out;first|exact ok|(simp only [← HZ3.out,← HZ2.out,← HZ1.out] <;> first|exact ok)):p:=h
theorem xt0 {p:Prop} (h:p:=by first|exact ok|exact Rat.sub_self|exact Rat.add_comm _ _|exact Rat.mul_comm _ _|exact Rat.add_assoc _ _ _|exact Rat.mul_assoc _ _ _|exact Rat.mul_add _ _ _|exact Rat.add_sub_cancel|exact Rat.mul_div_cancel (by assumption)|(simp only [← HZ11.out,← HZ9.out,← HZ6.out,← HZ4.out,← HZ2.out,← HZ1.out] <;> first|exact ok|exact Rat.sub_self|exact Rat.add_comm _ _|exact Rat.mul_comm _ _|exact Rat.add_assoc _ _ _|exact Rat.mul_assoc _ _ _|exact Rat.mul_add _ _ _|exact Rat.add_sub_cancel|exact Rat.mul_div_cancel (by assumption))):p:=h
theorem xt1 {p:Prop} (h:p:=by first|exact ok|exact Rat.sub_self|exact Rat.add_comm _ _|exact Rat.mul_comm _ _|exact Rat.add_assoc _ _ _|exact Rat.mul_assoc _ _ _|exact Rat.mul_add _ _ _|exact Rat.add_sub_cancel|exact Rat.mul_div_cancel (by assumption)|(simp only [← HZ10.out,← HZ8.out] <;> first|exact ok|exact Rat.sub_self|exact Rat.add_comm _ _|exact Rat.mul_comm _ _|exact Rat.add_assoc _ _ _|exact Rat.mul_assoc _ _ _|exact Rat.mul_add _ _ _|exact Rat.add_sub_cancel|exact Rat.mul_div_cancel (by assumption))):p:=h
theorem xj0 {p:Prop} (h:p:=by have e9:(0:Rat)=(0:Rat):=(by first|exact ok|exact Rat.sub_self|exact Rat.add_comm _ _|exact Rat.mul_comm _ _|exact Rat.add_assoc _ _ _|exact Rat.mul_assoc _ _ _|exact Rat.mul_add _ _ _|exact Rat.add_sub_cancel|exact Rat.mul_div_cancel (by assumption));exact qh5 e9):p:=h
theorem xz4 {p:Prop} (h:p:=by first|exact ok|exact Rat.sub_self|exact Rat.add_comm _ _|exact Rat.mul_comm _ _|exact Rat.add_assoc _ _ _|exact Rat.mul_assoc _ _ _|exact Rat.mul_add _ _ _|exact Rat.add_sub_cancel|exact Rat.mul_div_cancel (by assumption)|(simp only [← HZ22.out,← HZ16.out,← HZ14.out,← HZ11.out,← HZ10.out,← HZ7.out,← HZ6.out,← HZ3.out,← HZ1.out] <;> first|exact ok|exact Rat.sub_self|exact Rat.add_comm _ _|exact Rat.mul_comm _ _|exact Rat.add_assoc _ _ _|exact Rat.mul_assoc _ _ _|exact Rat.mul_add _ _ _|exact Rat.add_sub_cancel|exact Rat.mul_div_cancel (by assumption))):p:=h
theorem xz5 {p:Prop} (h:p:=by have e9:(0:Rat)=(0:Rat):=(by first|exact ok|exact Rat.sub_self|exact Rat.add_comm _ _|exact Rat.mul_comm _ _|exact Rat.add_assoc _ _ _|exact Rat.mul_assoc _ _ _|exact Rat.mul_add _ _ _|exact Rat.add_sub_cancel|exact Rat.mul_div_cancel (by assumption)|(simp only [← HZ14.out,← HZ6.out] <;> first|exact ok|exact Rat.sub_self|exact Rat.add_comm _ _|exact Rat.mul_comm _ _|exact Rat.add_assoc _ _ _|exact Rat.mul_assoc _ _ _|exact Rat.mul_add _ _ _|exact Rat.add_sub_cancel|exact Rat.mul_div_cancel (by assumption)));exact qh5 e9):p:=h
theorem xj1 {p:Prop} (h:p:=by have h0:=H0.out;have hb:=HBS.out;have hr:=HRS.out;rw [← HR.out];have e9:=dr (a:=a) (b:=b) true (decide_eq_true (by omega)) (by omega) (.inr HM.out);rw [HM.out] at e9;exact e9):p:=h
theorem xz6 {p:Prop} (h:p:=by first|exact ok|exact Rat.sub_self|exact Rat.add_comm _ _|exact Rat.mul_comm _ _|exact Rat.add_assoc _ _ _|exact Rat.mul_assoc _ _ _|exact Rat.mul_add _ _ _|exact Rat.add_sub_cancel|exact Rat.mul_div_cancel (by assumption)|(simp only [← HZ11.out,← HZ10.out,← HZ7.out,← HZ6.out,← HZ3.out,← HZ1.out] <;> first|exact ok|exact Rat.sub_self|exact Rat.add_comm _ _|exact Rat.mul_comm _ _|exact Rat.add_assoc _ _ _|exact Rat.mul_assoc _ _ _|exact Rat.mul_add _ _ _|exact Rat.add_sub_cancel|exact Rat.mul_div_cancel (by assumption))):p:=h
theorem qG3 {p:Prop} (h:p:=by first|exact ok|exact HW.out|exact HL5.out|exact HL6.out|exact HL2.out|exact HL4.out):p:=h
theorem xz7 {p:Prop} (h:p:=by first|exact ok|exact Rat.sub_self|exact Rat.add_comm _ _|exact Rat.mul_comm _ _|exact Rat.add_assoc _ _ _|exact Rat.mul_assoc _ _ _|exact Rat.mul_add _ _ _|exact Rat.add_sub_cancel|exact Rat.mul_div_cancel (by assumption)|(simp only [← HZ11.out,← HZ9.out,← HZ6.out,← HZ2.out,← HZ1.out] <;> first|exact ok|exact Rat.sub_self|exact Rat.add_comm _ _|exact Rat.mul_comm _ _|exact Rat.add_assoc _ _ _|exact Rat.mul_assoc _ _ _|exact Rat.mul_add _ _ _|exact Rat.add_sub_cancel|exact Rat.mul_div_cancel (by assumption))):p:=h
theorem xz8 {p:Prop} (h:p:=by first|exact ok|exact Rat.sub_self|exact Rat.add_comm _ _|exact Rat.mul_comm _ _|exact Rat.add_assoc _ _ _|exact Rat.mul_assoc _ _ _|exact Rat.mul_add _ _ _|exact Rat.add_sub_cancel|exact Rat.mul_div_cancel (by assumption)|(simp only [← HZ7.out,← HZ6.out,← HZ3.out,← HZ1.out] <;> first|exact ok|exact Rat.sub_self|exact Rat.add_comm _ _|exact Rat.mul_comm _ _|exact Rat.add_assoc _ _ _|exact Rat.mul_assoc _ _ _|exact Rat.mul_add _ _ _|exact Rat.add_sub_cancel|exact Rat.mul_div_cancel (by assumption))):p:=h
theorem xz9 {p:Prop} (h:p:=by first|exact ok|exact Rat.sub_self|exact Rat.add_comm _ _|exact Rat.mul_comm _ _|exact Rat.add_assoc _ _ _|exact Rat.mul_assoc _ _ _|exact Rat.mul_add _ _ _|exact Rat.add_sub_cancel|exact Rat.mul_div_cancel (by assumption)|(simp only [← HZ6.out,← HZ4.out,← HZ2.out,← HZ1.out] <;> first|exact ok|exact Rat.sub_self|exact Rat.add_comm _ _|exact Rat.mul_comm _ _|exact Rat.add_assoc _ _ _|exact Rat.mul_assoc _ _ _|exact Rat.mul_add _ _ _|exact Rat.add_sub_cancel|exact Rat.mul_div_cancel (by assumption))):p:=h
theorem xz_ {p:Prop} (h:p:=by first|exact ok|exact Rat.sub_self|exact Rat.add_comm _ _|exact Rat.mul_comm _ _|exact Rat.add_assoc _ _ _|exact Rat.mul_assoc _ _ _|exact Rat.mul_add _ _ _|exact Rat.add_sub_cancel|exact Rat.mul_div_cancel (by assumption)|(simp only [← HZ6.out,← HZ2.out,← HZ1.out] <;> first|exact ok|exact Rat.sub_self|exact Rat.add_comm _ _|exact Rat.mul_comm _ _|exact Rat.add_assoc _ _ _|exact Rat.mul_assoc _ _ _|exact Rat.mul_add _ _ _|exact Rat.add_sub_cancel|exact Rat.mul_div_cancel (by assumption))):p:=h
theorem xj2 {p:Prop} (h:p:=by intro i hi;simp only [List.mem_cons,List.not_mem_nil,or_false] at hi;rcases hi with rfl|rfl|rfl|rfl <;> exact ⟨_,rfl,rfl,rfl,by simp,fun ρ w=>by kernel_rfl⟩):p:=h
theorem xA0 {p:Prop} (h:p:=by first|exact ok|exact Rat.sub_self|exact Rat.add_comm _ _|exact Rat.mul_comm _ _|exact Rat.add_assoc _ _ _|exact Rat.mul_assoc _ _ _|exact Rat.mul_add _ _ _|exact Rat.add_sub_cancel|exact Rat.mul_div_cancel (by assumption)|(simp only [← HZ3.out,← HZ1.out] <;> first|exact ok|exact Rat.sub_self|exact Rat.add_comm _ _|exact Rat.mul_comm _ _|exact Rat.add_assoc _ _ _|exact Rat.mul_assoc _ _ _|exact Rat.mul_add _ _ _|exact Rat.add_sub_cancel|exact Rat.mul_div_cancel (by assumption))):p:=h
theorem xj3 {p:Prop} (h:p:=by have h0:=H0.out;have hb:=HBS.out;have hr:=HRS.out;rw [← HR.out,← HZ2.out];exact dr false (decide_eq_false (by omega)) (by omega) (.inl (by omega))):p:=h
theorem xt2 {p:Prop} (h:p:=by have e9:(m)<(0:Int):=(by have h0:=H0.out;have hb:=HBS.out;have hr:=HRS.out;have hm:=HMS.out;first|exact ok|(simp only [← HZ3.out,← HZ2.out,← HZ1.out] <;> first|exact ok));exact qX_ e9):p:=h
theorem qr7 {p:Prop} (h:p:=by show w.heap.size≤w.heap.size;omega):p:=h
theorem xt3 {p:Prop} (h:p:=by have h0:=H0.out;have hb:=HBS.out;have hr:=HRS.out;have hm:=HMS.out;rw [← HR.out,← (qt3 (a:=a) (b:=b) (by omega) (by omega) HN.out).1,HM.out];omega):p:=h
theorem xA1 {p:Prop} (h:p:=by have e9:(0:Rat) - (0:Rat)=(0:Rat):=(by first|exact ok|exact Rat.sub_self|exact Rat.add_comm _ _|exact Rat.mul_comm _ _|exact Rat.add_assoc _ _ _|exact Rat.mul_assoc _ _ _|exact Rat.mul_add _ _ _|exact Rat.add_sub_cancel|exact Rat.mul_div_cancel (by assumption));exact qh5 e9):p:=h
theorem qP2 {p:Prop} (h:p:=by simp [results,Tryz.results218,go_sem,lx25 _ r0,lx26 _ r0]):p:=h
theorem qG4 {p:Prop} (h:p:=by simp [results,Tryz.results233,go_sem,lx w1 r0]):p:=h
theorem qG5 {p:Prop} (h:p:=by simp [results,Tryz.results222,go_sem,lx0 _ r0]):p:=h
theorem qG6 {p:Prop} (h:p:=by simp [results,Tryz.results152,go_sem,lx0 _ r0]):p:=h
theorem qG7 {p:Prop} (h:p:=by simp [results,Tryz.results151,go_sem,lx1 _ r0]):p:=h
theorem qG8 {p:Prop} (h:p:=by rw [← HW.out];exact (hp0 w).al rfl (by decide)):p:=h
theorem qP3 {p:Prop} (h:p:=by simp [results,Tryz.results42,go_sem,lx2 _ r0,lx3 _ r0]):p:=h
theorem xa7 {p:Prop} (h:p:=by rw [show Int.natAbs (((0:Rat)).num)=0 from rfl];exact Rn.zero _):p:=h
theorem qB9 {p:Prop} (h:p:=by simp [results,Tryz.results59,go_sem]):p:=h
theorem qP4 {p:Prop} (h:p:=by simp [results,Tryz.results158,go_sem,lx0 _ r0]):p:=h
theorem xa8 {p:Prop} (h:p:=by rw [show ((0:Rat)).den - 1=0 from rfl];exact Rn.zero _):p:=h
theorem xA2 {p:Prop} (h:p:=by have e9:(0:Int)<(b):=(by have h0:=H0.out;have hb:=HBS.out;have hr:=HRS.out;have hm:=HMS.out;first|exact ok|(simp only [← HZ3.out,← HZ2.out,← HZ1.out] <;> first|exact ok));exact xx4 e9):p:=h
theorem xA3 {p:Prop} (h:p:=by have h0:=H0.out;have hb:=HBS.out;have hr:=HRS.out;rw [← HQ.out,← HZ1.out];exact dq false false (decide_eq_false (by omega)) (decide_eq_false (by omega)) (by omega) (.inl (by omega))):p:=h
theorem xA4 {p:Prop} (h:p:=by have h0:=H0.out;have hb:=HBS.out;have hr:=HRS.out;rw [← HQ.out,← HZ1.out];exact dq false true (decide_eq_false (by omega)) (decide_eq_true (by omega)) (by omega) (.inl (by omega))):p:=h
theorem xa9 {p:Prop} (h:p:=by simp [results,Tryz.results233,go_sem,lx w2 r0]):p:=h
theorem xA5 {p:Prop} (h:p:=by have h0:=H0.out;have hb:=HBS.out;have hr:=HRS.out;rw [← HQ.out,← HZ1.out];exact dq true false (decide_eq_true (by omega)) (decide_eq_false (by omega)) (by omega) (.inr HM.out)):p:=h
theorem xA6 {p:Prop} (h:p:=by have h0:=H0.out;have hb:=HBS.out;have hr:=HRS.out;rw [← HQ.out,← HZ1.out];exact dq true true (decide_eq_true (by omega)) (decide_eq_true (by omega)) (by omega) (.inr HM.out)):p:=h
theorem xA7 {p:Prop} (h:p:=by intro i hi;simp only [List.mem_cons,List.not_mem_nil,or_false] at hi;rcases hi with rfl|rfl|rfl <;> exact ⟨_,rfl,rfl,rfl,by simp,fun ρ w=>by kernel_rfl⟩):p:=h
theorem xj4 {p:Prop} (h:p:=by simp [results,Tryz.results130,go_sem,lx2 _ r0]):p:=h
theorem xA8 {p:Prop} (h:p:=by intro i hi;simp only [List.mem_cons,List.not_mem_nil,or_false] at hi;rcases hi with rfl|rfl <;> exact ⟨_,rfl,pure_extract⟩):p:=h
theorem xE6 {p:Prop} (h:p:=by first|exact ok|(simp only [← HZ1.out] <;> first|exact ok)):p:=h
theorem xA9 {p:Prop} (h:p:=by rw [← HZ5.out,← HZ2.out,← HZ4.out,← HZ6.out,← HZ1.out,← HZ3.out,← hz.out];exact (Rat.add_def' a b).symm):p:=h
theorem xA_ {p:Prop} (h:p:=by have e9:(a)<(0:Rat):=(by first|exact ok|(simp only [← HZ1.out] <;> first|exact ok));exact qk0 e9):p:=h
theorem xj5 {p:Prop} (h:p:=by simp [results,Tryz.results55,go_sem]):p:=h
theorem xj6 {p:Prop} (h:p:=by simp [results,Tryz.results53,go_sem]):p:=h
abbrev CB (f:FuncId) (xs:Array Value) (w:World) (v:Value):Prop:=Calls Tryz.prog f xs w fun e w'=>e=.returned v∧Below w.heap.size w w'
def SQ_ (P:Program) (Q:Exit→Act→World→Prop) (a:Act) (w:World) (l:List Oper) (n:Nat) (p:List (Bool × Nat)):Prop:=∀ T:Act→World→Prop,Hid (∀ a' w',(∀ w2,Gr w' w2→wpList P l.toArray Q (l.drop n) a' w2)→T a' w')→qb4 P l.toArray T p a w
def KS_ (P:Program) (Q:Exit→Act→World→Prop) (a:Act) (w:World) (l:List Oper) (d:Code) (n:Nat) (p:List (Bool × Nat)):Prop:=∀ K:Act→World→Prop,Hid (∀ a' w',d.wp P Q a' w'→K a' w')→∀ T:Act→World→Prop,Hid (∀ a' w',(∀ w2,Gr w' w2→wpList P l.toArray (Exit.then K Q) (l.drop n) a' w2)→T a' w')→qb4 P l.toArray T p a w
section
variable {P:Program} {id:Nat} {Q:Exit→Act→World→Prop} {a:Act} {w:World} {l:List Oper} {d:Code}
theorem sq3_ (h:SQ_ P Q a w l 3 [(true,0),(true,1),(true,2)]) (hn:3≤l.length:=by simp):(Code.region id l.toArray false).wp P Q a w:=sq 3 _ h (by rfl) hn
theorem ks3_ (h:KS_ P Q a w l d 3 [(true,0),(true,1),(true,2)]) (hn:3≤l.length:=by simp):((Code.region id l.toArray false).seq d).wp P Q a w:=kS fun K hK=>sq 3 _ (h K hK) (by rfl) hn
theorem sq1_ (h:SQ_ P Q a w l 1 [(true,0)]) (hn:1≤l.length:=by simp):(Code.region id l.toArray false).wp P Q a w:=sq 1 _ h (by rfl) hn
theorem ks1_ (h:KS_ P Q a w l d 1 [(true,0)]) (hn:1≤l.length:=by simp):((Code.region id l.toArray false).seq d).wp P Q a w:=kS fun K hK=>sq 1 _ (h K hK) (by rfl) hn
theorem sq2_ (h:SQ_ P Q a w l 2 [(true,0),(true,1)]) (hn:2≤l.length:=by simp):(Code.region id l.toArray false).wp P Q a w:=sq 2 _ h (by rfl) hn
theorem ks2_ (h:KS_ P Q a w l d 2 [(true,0),(true,1)]) (hn:2≤l.length:=by simp):((Code.region id l.toArray false).seq d).wp P Q a w:=kS fun K hK=>sq 2 _ (h K hK) (by rfl) hn
theorem ks7_ (h:KS_ P Q a w l d 7 [(true,0),(true,1),(true,2),(true,3),(true,4),(true,5),(true,6)]) (hn:7≤l.length:=by simp):((Code.region id l.toArray false).seq d).wp P Q a w:=kS fun K hK=>sq 7 _ (h K hK) (by rfl) hn
theorem sq6_ (h:SQ_ P Q a w l 6 [(true,0),(true,1),(true,2),(false,3),(true,4),(true,5)]) (hn:6≤l.length:=by simp):(Code.region id l.toArray false).wp P Q a w:=sq 6 _ h (by rfl) hn
theorem sq4_ (h:SQ_ P Q a w l 4 [(true,0),(false,1),(true,2),(true,3)]) (hn:4≤l.length:=by simp):(Code.region id l.toArray false).wp P Q a w:=sq 4 _ h (by rfl) hn
theorem qY4 (h:SQ_ P Q a w l 2 [(true,0),(false,1)]) (hn:2≤l.length:=by simp):(Code.region id l.toArray false).wp P Q a w:=sq 2 _ h (by rfl) hn
theorem qr5 (h:KS_ P Q a w l d 11 [(true,0),(true,1),(true,2),(true,3),(true,4),(true,5),(true,6),(true,7),(true,8),(true,9),(true,10)]) (hn:11≤l.length:=by simp):((Code.region id l.toArray false).seq d).wp P Q a w:=kS fun K hK=>sq 11 _ (h K hK) (by rfl) hn
theorem ks5_ (h:KS_ P Q a w l d 5 [(true,0),(true,1),(true,2),(true,3),(true,4)]) (hn:5≤l.length:=by simp):((Code.region id l.toArray false).seq d).wp P Q a w:=kS fun K hK=>sq 5 _ (h K hK) (by rfl) hn
theorem qa2 (h:KS_ P Q a w l d 6 [(true,0),(true,1),(true,2),(true,3),(true,4),(true,5)]) (hn:6≤l.length:=by simp):((Code.region id l.toArray false).seq d).wp P Q a w:=kS fun K hK=>sq 6 _ (h K hK) (by rfl) hn
theorem qb2 (h:KS_ P Q a w l d 4 [(true,0),(true,1),(true,2),(true,3)]) (hn:4≤l.length:=by simp):((Code.region id l.toArray false).seq d).wp P Q a w:=kS fun K hK=>sq 4 _ (h K hK) (by rfl) hn
theorem xC0 (h:KS_ P Q a w l d 17 [(true,0),(true,1),(true,2),(true,3),(true,4),(true,5),(true,6),(true,7),(true,8),(true,9),(true,10),(true,11),(true,12),(true,13),(true,14),(true,15),(true,16)]) (hn:17≤l.length:=by simp):((Code.region id l.toArray false).seq d).wp P Q a w:=kS fun K hK=>sq 17 _ (h K hK) (by rfl) hn
theorem xB_ (h:KS_ P Q a w l d 10 [(true,0),(true,1),(true,2),(true,3),(true,4),(true,5),(true,6),(true,7),(true,8),(true,9)]) (hn:10≤l.length:=by simp):((Code.region id l.toArray false).seq d).wp P Q a w:=kS fun K hK=>sq 10 _ (h K hK) (by rfl) hn
theorem xq_ (h:SQ_ P Q a w l 6 [(true,0),(true,1),(true,2),(true,3),(true,4),(false,5)]) (hn:6≤l.length:=by simp):(Code.region id l.toArray false).wp P Q a w:=sq 6 _ h (by rfl) hn
theorem qE9 (h:SQ_ P Q a w l 2 [(false,0),(true,1)]) (hn:2≤l.length:=by simp):(Code.region id l.toArray false).wp P Q a w:=sq 2 _ h (by rfl) hn
theorem xq8 (h:SQ_ P Q a w l 3 [(true,0),(false,1),(false,2)]) (hn:3≤l.length:=by simp):(Code.region id l.toArray false).wp P Q a w:=sq 3 _ h (by rfl) hn
theorem xq9 (h:SQ_ P Q a w l 5 [(true,0),(true,1),(true,2),(false,3),(true,4)]) (hn:5≤l.length:=by simp):(Code.region id l.toArray false).wp P Q a w:=sq 5 _ h (by rfl) hn
theorem sq9_ (h:SQ_ P Q a w l 9 [(true,0),(true,1),(true,2),(false,3),(true,4),(true,5),(true,6),(true,7),(true,8)]) (hn:9≤l.length:=by simp):(Code.region id l.toArray false).wp P Q a w:=sq 9 _ h (by rfl) hn
theorem sq8_ (h:SQ_ P Q a w l 8 [(true,0),(true,1),(false,2),(true,3),(true,4),(true,5),(true,6),(true,7)]) (hn:8≤l.length:=by simp):(Code.region id l.toArray false).wp P Q a w:=sq 8 _ h (by rfl) hn
theorem xr0 (h:SQ_ P Q a w l 8 [(true,0),(true,1),(true,2),(false,3),(true,4),(false,5),(false,6),(true,7)]) (hn:8≤l.length:=by simp):(Code.region id l.toArray false).wp P Q a w:=sq 8 _ h (by rfl) hn
theorem qu6 (h:SQ_ P Q a w l 5 [(true,0),(true,1),(false,2),(true,3),(true,4)]) (hn:5≤l.length:=by simp):(Code.region id l.toArray false).wp P Q a w:=sq 5 _ h (by rfl) hn
theorem qd4 (h:KS_ P Q a w l d 8 [(true,0),(true,1),(true,2),(true,3),(true,4),(true,5),(true,6),(true,7)]) (hn:8≤l.length:=by simp):((Code.region id l.toArray false).seq d).wp P Q a w:=kS fun K hK=>sq 8 _ (h K hK) (by rfl) hn
theorem qj6 (h:KS_ P Q a w l d 9 [(true,0),(true,1),(true,2),(true,3),(true,4),(true,5),(true,6),(true,7),(true,8)]) (hn:9≤l.length:=by simp):((Code.region id l.toArray false).seq d).wp P Q a w:=kS fun K hK=>sq 9 _ (h K hK) (by rfl) hn
theorem qU5 (h:KS_ P Q a w l d 29 [(true,0),(true,1),(true,2),(true,3),(true,4),(true,5),(true,6),(true,7),(true,8),(true,9),(true,10),(true,11),(true,12),(true,13),(true,14),(true,15),(true,16),(true,17),(true,18),(true,19),(true,20),(true,21),(true,22),(true,23),(true,24),(true,25),(true,26),(true,27),(true,28)]) (hn:29≤l.length:=by simp):((Code.region id l.toArray false).seq d).wp P Q a w:=kS fun K hK=>sq 29 _ (h K hK) (by rfl) hn
theorem qM3 (h:KS_ P Q a w l d 19 [(true,0),(true,1),(true,2),(true,3),(true,4),(true,5),(true,6),(true,7),(true,8),(true,9),(true,10),(true,11),(true,12),(true,13),(true,14),(true,15),(true,16),(true,17),(true,18)]) (hn:19≤l.length:=by simp):((Code.region id l.toArray false).seq d).wp P Q a w:=kS fun K hK=>sq 19 _ (h K hK) (by rfl) hn
theorem qm0 (h:SQ_ P Q a w l 7 [(true,0),(true,1),(true,2),(false,3),(true,4),(true,5),(true,6)]) (hn:7≤l.length:=by simp):(Code.region id l.toArray false).wp P Q a w:=sq 7 _ h (by rfl) hn
theorem qf_ (h:SQ_ P Q a w l 10 [(true,0),(true,1),(true,2),(true,3),(false,4),(true,5),(true,6),(true,7),(true,8),(true,9)]) (hn:10≤l.length:=by simp):(Code.region id l.toArray false).wp P Q a w:=sq 10 _ h (by rfl) hn
theorem xq7 (h:SQ_ P Q a w l 3 [(true,0),(true,1),(false,2)]) (hn:3≤l.length:=by simp):(Code.region id l.toArray false).wp P Q a w:=sq 3 _ h (by rfl) hn
theorem qY5 (h:SQ_ P Q a w l 5 [(true,0),(false,1),(true,2),(true,3),(true,4)]) (hn:5≤l.length:=by simp):(Code.region id l.toArray false).wp P Q a w:=sq 5 _ h (by rfl) hn
theorem xv5 (h:KS_ P Q a w l d 12 [(true,0),(true,1),(true,2),(true,3),(true,4),(true,5),(true,6),(true,7),(true,8),(true,9),(true,10),(true,11)]) (hn:12≤l.length:=by simp):((Code.region id l.toArray false).seq d).wp P Q a w:=kS fun K hK=>sq 12 _ (h K hK) (by rfl) hn
theorem qz6 (h:KS_ P Q a w l d 24 [(true,0),(true,1),(true,2),(true,3),(true,4),(true,5),(true,6),(true,7),(true,8),(true,9),(true,10),(true,11),(true,12),(true,13),(true,14),(true,15),(true,16),(true,17),(true,18),(true,19),(true,20),(true,21),(true,22),(true,23)]) (hn:24≤l.length:=by simp):((Code.region id l.toArray false).seq d).wp P Q a w:=kS fun K hK=>sq 24 _ (h K hK) (by rfl) hn
theorem xC1 (h:KS_ P Q a w l d 47 [(true,0),(true,1),(true,2),(true,3),(true,4),(true,5),(true,6),(true,7),(true,8),(true,9),(true,10),(true,11),(true,12),(true,13),(true,14),(true,15),(true,16),(true,17),(true,18),(true,19),(true,20),(true,21),(true,22),(true,23),(true,24),(true,25),(true,26),(true,27),(true,28),(true,29),(true,30),(true,31),(true,32),(true,33),(true,34),(true,35),(true,36),(true,37),(true,38),(true,39),(true,40),(true,41),(true,42),(true,43),(true,44),(true,45),(true,46)]) (hn:47≤l.length:=by simp):((Code.region id l.toArray false).seq d).wp P Q a w:=kS fun K hK=>sq 47 _ (h K hK) (by rfl) hn
theorem xD_ (h:SQ_ P Q a w l 37 [(true,0),(true,1),(true,2),(true,3),(true,4),(true,5),(true,6),(true,7),(true,8),(true,9),(true,10),(true,11),(true,12),(true,13),(true,14),(true,15),(true,16),(true,17),(true,18),(true,19),(true,20),(true,21),(true,22),(true,23),(true,24),(true,25),(true,26),(true,27),(true,28),(true,29),(true,30),(true,31),(false,32),(true,33),(true,34),(true,35),(true,36)]) (hn:37≤l.length:=by simp):(Code.region id l.toArray false).wp P Q a w:=sq 37 _ h (by rfl) hn
end
def PD_ (P:Program) (Q:Exit→Act→World→Prop) (a:Act) (w:World) (l:List Oper) (n:Nat) (p:List (Bool × Nat)):Prop:=∀ T:Act→World→Prop,Hid (∀ a' w',(∀ G w2,Gr w' w2→Fresh (fun _=>.cells #[] 0) [] G w w2→wpList P l.toArray Q (l.drop n) (puts (fun _=>0) G [] a') w2)→T a' w')→qb4 P l.toArray T p a w
theorem pd0_ {P:Program} {id:Nat} {Q:Exit→Act→World→Prop} {a:Act} {w:World} {l:List Oper} (h:PD_ P Q a w l 9 [(true,0),(true,1),(true,2),(true,3),(true,4),(true,5),(true,6),(true,7),(true,8)]) (hm:P.follows .mixedOrders=true:=by kernel_rfl) (hB:qa9 .any l.toArray (fun _=>0) 9 [] [] [(true,0),(true,1),(true,2),(true,3),(true,4),(true,5),(true,6),(true,7),(true,8)]=true:=by kernel_rfl) (hp:∀ c a d v w,Q (.panic c) (a.put (some d) v) w→Q (.panic c) a w:=by exact (fun _ _ _ _ _ h=>h)):(Code.region id l.toArray true).wp P Q a w:=pd 9 _ h hm hB hp
theorem pd1_ {P:Program} {id:Nat} {Q:Exit→Act→World→Prop} {a:Act} {w:World} {l:List Oper} (h:PD_ P Q a w l 65 [(true,0),(true,1),(true,3),(true,4),(true,2),(true,5),(true,6),(true,7),(true,8),(true,9),(true,11),(true,12),(true,10),(true,13),(true,14),(true,15),(true,16),(true,17),(true,18),(true,20),(true,22),(true,23),(true,24),(true,19),(true,21),(true,25),(true,26),(true,27),(true,28),(true,29),(true,30),(true,31),(true,33),(true,35),(true,36),(true,37),(true,32),(true,34),(true,38),(true,39),(true,40),(true,41),(true,42),(true,43),(true,44),(true,45),(true,48),(true,49),(true,51),(true,52),(true,46),(true,47),(true,50),(true,53),(true,54),(true,55),(true,56),(true,57),(true,58),(true,59),(true,61),(true,63),(true,60),(true,62),(true,64)]) (hm:P.follows .mixedOrders=true:=by kernel_rfl) (hB:qa9 .any l.toArray (fun _=>0) 65 [] [] [(true,0),(true,1),(true,3),(true,4),(true,2),(true,5),(true,6),(true,7),(true,8),(true,9),(true,11),(true,12),(true,10),(true,13),(true,14),(true,15),(true,16),(true,17),(true,18),(true,20),(true,22),(true,23),(true,24),(true,19),(true,21),(true,25),(true,26),(true,27),(true,28),(true,29),(true,30),(true,31),(true,33),(true,35),(true,36),(true,37),(true,32),(true,34),(true,38),(true,39),(true,40),(true,41),(true,42),(true,43),(true,44),(true,45),(true,48),(true,49),(true,51),(true,52),(true,46),(true,47),(true,50),(true,53),(true,54),(true,55),(true,56),(true,57),(true,58),(true,59),(true,61),(true,63),(true,60),(true,62),(true,64)]=true:=by kernel_rfl) (hp:∀ c a d v w,Q (.panic c) (a.put (some d) v) w→Q (.panic c) a w:=by exact (fun _ _ _ _ _ h=>h)):(Code.region id l.toArray true).wp P Q a w:=pd 65 _ h hm hB hp
theorem pd2_ {P:Program} {id:Nat} {Q:Exit→Act→World→Prop} {a:Act} {w:World} {l:List Oper} (h:PD_ P Q a w l 34 [(true,0),(true,1),(true,2),(true,3),(true,4),(true,5),(true,6),(true,7),(true,8),(true,9),(true,10),(true,11),(true,12),(true,13),(true,14),(true,15),(true,16),(true,17),(true,18),(true,19),(true,20),(true,21),(true,22),(true,23),(true,24),(true,25),(true,26),(true,27),(true,28),(true,30),(true,31),(true,29),(true,32),(true,33)]) (hm:P.follows .mixedOrders=true:=by kernel_rfl) (hB:qa9 .any l.toArray (fun _=>0) 34 [] [] [(true,0),(true,1),(true,2),(true,3),(true,4),(true,5),(true,6),(true,7),(true,8),(true,9),(true,10),(true,11),(true,12),(true,13),(true,14),(true,15),(true,16),(true,17),(true,18),(true,19),(true,20),(true,21),(true,22),(true,23),(true,24),(true,25),(true,26),(true,27),(true,28),(true,30),(true,31),(true,29),(true,32),(true,33)]=true:=by kernel_rfl) (hp:∀ c a d v w,Q (.panic c) (a.put (some d) v) w→Q (.panic c) a w:=by exact (fun _ _ _ _ _ h=>h)):(Code.region id l.toArray true).wp P Q a w:=pd 34 _ h hm hB hp
theorem pd3_ {P:Program} {id:Nat} {Q:Exit→Act→World→Prop} {a:Act} {w:World} {l:List Oper} (h:PD_ P Q a w l 40 [(true,0),(true,1),(true,3),(true,4),(true,7),(true,8),(true,2),(true,5),(true,6),(true,9),(true,10),(true,11),(true,12),(true,13),(true,15),(true,16),(true,19),(true,20),(true,22),(true,14),(true,17),(true,18),(true,21),(true,23),(true,24),(true,25),(true,26),(true,27),(true,28),(true,29),(true,31),(true,32),(true,30),(true,33),(true,34),(true,35),(true,36),(true,37),(true,38),(true,39)]) (hm:P.follows .mixedOrders=true:=by kernel_rfl) (hB:qa9 .any l.toArray (fun _=>0) 40 [] [] [(true,0),(true,1),(true,3),(true,4),(true,7),(true,8),(true,2),(true,5),(true,6),(true,9),(true,10),(true,11),(true,12),(true,13),(true,15),(true,16),(true,19),(true,20),(true,22),(true,14),(true,17),(true,18),(true,21),(true,23),(true,24),(true,25),(true,26),(true,27),(true,28),(true,29),(true,31),(true,32),(true,30),(true,33),(true,34),(true,35),(true,36),(true,37),(true,38),(true,39)]=true:=by kernel_rfl) (hp:∀ c a d v w,Q (.panic c) (a.put (some d) v) w→Q (.panic c) a w:=by exact (fun _ _ _ _ _ h=>h)):(Code.region id l.toArray true).wp P Q a w:=pd 40 _ h hm hB hp
theorem pd4_ {P:Program} {id:Nat} {Q:Exit→Act→World→Prop} {a:Act} {w:World} {l:List Oper} (h:PD_ P Q a w l 8 [(true,0),(true,1),(true,2),(true,4),(true,3),(false,5),(true,6),(true,7)]) (hm:P.follows .mixedOrders=true:=by kernel_rfl) (hB:qa9 .any l.toArray (fun _=>0) 8 [] [] [(true,0),(true,1),(true,2),(true,4),(true,3),(false,5),(true,6),(true,7)]=true:=by kernel_rfl) (hp:∀ c a d v w,Q (.panic c) (a.put (some d) v) w→Q (.panic c) a w:=by exact (fun _ _ _ _ _ h=>h)):(Code.region id l.toArray true).wp P Q a w:=pd 8 _ h hm hB hp
theorem pd5_ {P:Program} {id:Nat} {Q:Exit→Act→World→Prop} {a:Act} {w:World} {l:List Oper} (h:PD_ P Q a w l 43 [(true,0),(true,1),(true,2),(true,3),(true,4),(true,5),(true,8),(true,6),(true,7),(true,9),(true,10),(true,11),(true,12),(true,13),(true,14),(true,15),(true,16),(true,17),(true,18),(true,19),(true,22),(true,20),(true,21),(true,23),(true,24),(true,25),(true,26),(true,27),(true,28),(true,29),(true,30),(true,31),(true,32),(true,33),(true,34),(true,35),(true,36),(true,37),(true,38),(true,39),(true,40),(true,41),(true,42)]) (hm:P.follows .mixedOrders=true:=by kernel_rfl) (hB:qa9 .any l.toArray (fun _=>0) 43 [] [] [(true,0),(true,1),(true,2),(true,3),(true,4),(true,5),(true,8),(true,6),(true,7),(true,9),(true,10),(true,11),(true,12),(true,13),(true,14),(true,15),(true,16),(true,17),(true,18),(true,19),(true,22),(true,20),(true,21),(true,23),(true,24),(true,25),(true,26),(true,27),(true,28),(true,29),(true,30),(true,31),(true,32),(true,33),(true,34),(true,35),(true,36),(true,37),(true,38),(true,39),(true,40),(true,41),(true,42)]=true:=by kernel_rfl) (hp:∀ c a d v w,Q (.panic c) (a.put (some d) v) w→Q (.panic c) a w:=by exact (fun _ _ _ _ _ h=>h)):(Code.region id l.toArray true).wp P Q a w:=pd 43 _ h hm hB hp
theorem pd6_ {P:Program} {id:Nat} {Q:Exit→Act→World→Prop} {a:Act} {w:World} {l:List Oper} (h:PD_ P Q a w l 11 [(true,0),(true,1),(true,2),(true,3),(true,4),(true,5),(true,7),(true,8),(true,9),(true,6),(true,10)]) (hm:P.follows .mixedOrders=true:=by kernel_rfl) (hB:qa9 .any l.toArray (fun _=>0) 11 [] [] [(true,0),(true,1),(true,2),(true,3),(true,4),(true,5),(true,7),(true,8),(true,9),(true,6),(true,10)]=true:=by kernel_rfl) (hp:∀ c a d v w,Q (.panic c) (a.put (some d) v) w→Q (.panic c) a w:=by exact (fun _ _ _ _ _ h=>h)):(Code.region id l.toArray true).wp P Q a w:=pd 11 _ h hm hB hp
theorem pd7_ {P:Program} {id:Nat} {Q:Exit→Act→World→Prop} {a:Act} {w:World} {l:List Oper} (h:PD_ P Q a w l 6 [(true,0),(true,1),(true,2),(true,3),(true,4),(true,5)]) (hm:P.follows .mixedOrders=true:=by kernel_rfl) (hB:qa9 .any l.toArray (fun _=>0) 6 [] [] [(true,0),(true,1),(true,2),(true,3),(true,4),(true,5)]=true:=by kernel_rfl) (hp:∀ c a d v w,Q (.panic c) (a.put (some d) v) w→Q (.panic c) a w:=by exact (fun _ _ _ _ _ h=>h)):(Code.region id l.toArray true).wp P Q a w:=pd 6 _ h hm hB hp
theorem pd8_ {P:Program} {id:Nat} {Q:Exit→Act→World→Prop} {a:Act} {w:World} {l:List Oper} (h:PD_ P Q a w l 5 [(true,0),(true,1),(true,2),(true,3),(true,4)]) (hm:P.follows .mixedOrders=true:=by kernel_rfl) (hB:qa9 .any l.toArray (fun _=>0) 5 [] [] [(true,0),(true,1),(true,2),(true,3),(true,4)]=true:=by kernel_rfl) (hp:∀ c a d v w,Q (.panic c) (a.put (some d) v) w→Q (.panic c) a w:=by exact (fun _ _ _ _ _ h=>h)):(Code.region id l.toArray true).wp P Q a w:=pd 5 _ h hm hB hp
theorem pd9_ {P:Program} {id:Nat} {Q:Exit→Act→World→Prop} {a:Act} {w:World} {l:List Oper} (h:PD_ P Q a w l 10 [(true,0),(true,1),(true,3),(false,2),(true,4),(false,5),(false,6),(false,7),(true,8),(false,9)]) (hm:P.follows .mixedOrders=true:=by kernel_rfl) (hB:qa9 .any l.toArray (fun _=>0) 10 [] [] [(true,0),(true,1),(true,3),(false,2),(true,4),(false,5),(false,6),(false,7),(true,8),(false,9)]=true:=by kernel_rfl) (hp:∀ c a d v w,Q (.panic c) (a.put (some d) v) w→Q (.panic c) a w:=by exact (fun _ _ _ _ _ h=>h)):(Code.region id l.toArray true).wp P Q a w:=pd 10 _ h hm hB hp
theorem xC3 {P:Program} {id:Nat} {Q:Exit→Act→World→Prop} {a:Act} {w:World} {l:List Oper} (h:PD_ P Q a w l 5 [(true,0),(true,2),(true,1),(true,3),(true,4)]) (hm:P.follows .mixedOrders=true:=by kernel_rfl) (hB:qa9 .any l.toArray (fun _=>0) 5 [] [] [(true,0),(true,2),(true,1),(true,3),(true,4)]=true:=by kernel_rfl) (hp:∀ c a d v w,Q (.panic c) (a.put (some d) v) w→Q (.panic c) a w:=by exact (fun _ _ _ _ _ h=>h)):(Code.region id l.toArray true).wp P Q a w:=pd 5 _ h hm hB hp
theorem xC4 {P:Program} {id:Nat} {Q:Exit→Act→World→Prop} {a:Act} {w:World} {l:List Oper} (h:PD_ P Q a w l 6 [(true,0),(true,1),(true,2),(true,3),(false,4),(false,5)]) (hm:P.follows .mixedOrders=true:=by kernel_rfl) (hB:qa9 .any l.toArray (fun _=>0) 6 [] [] [(true,0),(true,1),(true,2),(true,3),(false,4),(false,5)]=true:=by kernel_rfl) (hp:∀ c a d v w,Q (.panic c) (a.put (some d) v) w→Q (.panic c) a w:=by exact (fun _ _ _ _ _ h=>h)):(Code.region id l.toArray true).wp P Q a w:=pd 6 _ h hm hB hp
theorem xC5 {P:Program} {id:Nat} {Q:Exit→Act→World→Prop} {a:Act} {w:World} {l:List Oper} (h:PD_ P Q a w l 7 [(true,0),(true,1),(true,2),(true,3),(true,4),(true,5),(true,6)]) (hm:P.follows .mixedOrders=true:=by kernel_rfl) (hB:qa9 .any l.toArray (fun _=>0) 7 [] [] [(true,0),(true,1),(true,2),(true,3),(true,4),(true,5),(true,6)]=true:=by kernel_rfl) (hp:∀ c a d v w,Q (.panic c) (a.put (some d) v) w→Q (.panic c) a w:=by exact (fun _ _ _ _ _ h=>h)):(Code.region id l.toArray true).wp P Q a w:=pd 7 _ h hm hB hp
theorem xw5 {P:Program} {id:Nat} {Q:Exit→Act→World→Prop} {a:Act} {w:World} {l:List Oper} (h:PD_ P Q a w l 21 [(true,0),(true,2),(true,1),(true,3),(true,4),(true,5),(true,7),(true,6),(true,8),(true,9),(true,10),(true,11),(true,13),(true,12),(true,14),(true,15),(true,16),(true,17),(true,19),(true,18),(true,20)]) (hm:P.follows .mixedOrders=true:=by kernel_rfl) (hB:qa9 .any l.toArray (fun _=>0) 21 [] [] [(true,0),(true,2),(true,1),(true,3),(true,4),(true,5),(true,7),(true,6),(true,8),(true,9),(true,10),(true,11),(true,13),(true,12),(true,14),(true,15),(true,16),(true,17),(true,19),(true,18),(true,20)]=true:=by kernel_rfl) (hp:∀ c a d v w,Q (.panic c) (a.put (some d) v) w→Q (.panic c) a w:=by exact (fun _ _ _ _ _ h=>h)):(Code.region id l.toArray true).wp P Q a w:=pd 21 _ h hm hB hp
theorem xg0 {P:Program} {id:Nat} {Q:Exit→Act→World→Prop} {a:Act} {w:World} {l:List Oper} (h:PD_ P Q a w l 15 [(true,0),(true,1),(true,2),(true,3),(true,4),(true,5),(true,6),(true,7),(true,8),(true,9),(true,10),(true,11),(true,12),(true,13),(true,14)]) (hm:P.follows .mixedOrders=true:=by kernel_rfl) (hB:qa9 .any l.toArray (fun _=>0) 15 [] [] [(true,0),(true,1),(true,2),(true,3),(true,4),(true,5),(true,6),(true,7),(true,8),(true,9),(true,10),(true,11),(true,12),(true,13),(true,14)]=true:=by kernel_rfl) (hp:∀ c a d v w,Q (.panic c) (a.put (some d) v) w→Q (.panic c) a w:=by exact (fun _ _ _ _ _ h=>h)):(Code.region id l.toArray true).wp P Q a w:=pd 15 _ h hm hB hp
theorem xg1 {P:Program} {id:Nat} {Q:Exit→Act→World→Prop} {a:Act} {w:World} {l:List Oper} (h:PD_ P Q a w l 27 [(true,0),(true,1),(true,2),(true,3),(true,4),(true,6),(true,5),(true,7),(true,8),(true,9),(true,10),(true,11),(true,12),(true,13),(true,14),(true,15),(true,16),(true,17),(true,18),(true,19),(true,20),(true,21),(true,23),(true,22),(true,24),(true,25),(true,26)]) (hm:P.follows .mixedOrders=true:=by kernel_rfl) (hB:qa9 .any l.toArray (fun _=>0) 27 [] [] [(true,0),(true,1),(true,2),(true,3),(true,4),(true,6),(true,5),(true,7),(true,8),(true,9),(true,10),(true,11),(true,12),(true,13),(true,14),(true,15),(true,16),(true,17),(true,18),(true,19),(true,20),(true,21),(true,23),(true,22),(true,24),(true,25),(true,26)]=true:=by kernel_rfl) (hp:∀ c a d v w,Q (.panic c) (a.put (some d) v) w→Q (.panic c) a w:=by exact (fun _ _ _ _ _ h=>h)):(Code.region id l.toArray true).wp P Q a w:=pd 27 _ h hm hB hp
theorem xC6 {P:Program} {id:Nat} {Q:Exit→Act→World→Prop} {a:Act} {w:World} {l:List Oper} (h:PD_ P Q a w l 7 [(true,0),(true,3),(true,5),(true,1),(true,2),(true,4),(true,6)]) (hm:P.follows .mixedOrders=true:=by kernel_rfl) (hB:qa9 .any l.toArray (fun _=>0) 7 [] [] [(true,0),(true,3),(true,5),(true,1),(true,2),(true,4),(true,6)]=true:=by kernel_rfl) (hp:∀ c a d v w,Q (.panic c) (a.put (some d) v) w→Q (.panic c) a w:=by exact (fun _ _ _ _ _ h=>h)):(Code.region id l.toArray true).wp P Q a w:=pd 7 _ h hm hB hp
theorem xw6 {P:Program} {id:Nat} {Q:Exit→Act→World→Prop} {a:Act} {w:World} {l:List Oper} (h:PD_ P Q a w l 4 [(true,0),(true,1),(true,2),(true,3)]) (hm:P.follows .mixedOrders=true:=by kernel_rfl) (hB:qa9 .any l.toArray (fun _=>0) 4 [] [] [(true,0),(true,1),(true,2),(true,3)]=true:=by kernel_rfl) (hp:∀ c a d v w,Q (.panic c) (a.put (some d) v) w→Q (.panic c) a w:=by exact (fun _ _ _ _ _ h=>h)):(Code.region id l.toArray true).wp P Q a w:=pd 4 _ h hm hB hp
theorem xC7 {P:Program} {id:Nat} {Q:Exit→Act→World→Prop} {a:Act} {w:World} {l:List Oper} (h:PD_ P Q a w l 6 [(true,0),(true,1),(true,3),(true,4),(true,2),(true,5)]) (hm:P.follows .mixedOrders=true:=by kernel_rfl) (hB:qa9 .any l.toArray (fun _=>0) 6 [] [] [(true,0),(true,1),(true,3),(true,4),(true,2),(true,5)]=true:=by kernel_rfl) (hp:∀ c a d v w,Q (.panic c) (a.put (some d) v) w→Q (.panic c) a w:=by exact (fun _ _ _ _ _ h=>h)):(Code.region id l.toArray true).wp P Q a w:=pd 6 _ h hm hB hp
theorem xw7 {P:Program} {id:Nat} {Q:Exit→Act→World→Prop} {a:Act} {w:World} {l:List Oper} (h:PD_ P Q a w l 17 [(true,0),(true,1),(true,2),(true,5),(true,6),(true,7),(true,11),(true,13),(true,3),(true,4),(true,8),(true,9),(true,10),(true,12),(true,14),(true,15),(true,16)]) (hm:P.follows .mixedOrders=true:=by kernel_rfl) (hB:qa9 .any l.toArray (fun _=>0) 17 [] [] [(true,0),(true,1),(true,2),(true,5),(true,6),(true,7),(true,11),(true,13),(true,3),(true,4),(true,8),(true,9),(true,10),(true,12),(true,14),(true,15),(true,16)]=true:=by kernel_rfl) (hp:∀ c a d v w,Q (.panic c) (a.put (some d) v) w→Q (.panic c) a w:=by exact (fun _ _ _ _ _ h=>h)):(Code.region id l.toArray true).wp P Q a w:=pd 17 _ h hm hB hp
theorem xC8 {P:Program} {id:Nat} {Q:Exit→Act→World→Prop} {a:Act} {w:World} {l:List Oper} (h:PD_ P Q a w l 8 [(true,0),(true,1),(true,2),(true,3),(true,5),(true,4),(true,6),(true,7)]) (hm:P.follows .mixedOrders=true:=by kernel_rfl) (hB:qa9 .any l.toArray (fun _=>0) 8 [] [] [(true,0),(true,1),(true,2),(true,3),(true,5),(true,4),(true,6),(true,7)]=true:=by kernel_rfl) (hp:∀ c a d v w,Q (.panic c) (a.put (some d) v) w→Q (.panic c) a w:=by exact (fun _ _ _ _ _ h=>h)):(Code.region id l.toArray true).wp P Q a w:=pd 8 _ h hm hB hp
theorem xw8 {P:Program} {id:Nat} {Q:Exit→Act→World→Prop} {a:Act} {w:World} {l:List Oper} (h:PD_ P Q a w l 11 [(true,0),(true,1),(true,2),(true,3),(true,5),(true,7),(true,4),(true,6),(true,8),(true,9),(true,10)]) (hm:P.follows .mixedOrders=true:=by kernel_rfl) (hB:qa9 .any l.toArray (fun _=>0) 11 [] [] [(true,0),(true,1),(true,2),(true,3),(true,5),(true,7),(true,4),(true,6),(true,8),(true,9),(true,10)]=true:=by kernel_rfl) (hp:∀ c a d v w,Q (.panic c) (a.put (some d) v) w→Q (.panic c) a w:=by exact (fun _ _ _ _ _ h=>h)):(Code.region id l.toArray true).wp P Q a w:=pd 11 _ h hm hB hp
theorem xC9 {P:Program} {id:Nat} {Q:Exit→Act→World→Prop} {a:Act} {w:World} {l:List Oper} (h:PD_ P Q a w l 11 [(true,0),(true,1),(true,2),(true,5),(true,6),(true,7),(true,3),(true,4),(true,8),(true,9),(true,10)]) (hm:P.follows .mixedOrders=true:=by kernel_rfl) (hB:qa9 .any l.toArray (fun _=>0) 11 [] [] [(true,0),(true,1),(true,2),(true,5),(true,6),(true,7),(true,3),(true,4),(true,8),(true,9),(true,10)]=true:=by kernel_rfl) (hp:∀ c a d v w,Q (.panic c) (a.put (some d) v) w→Q (.panic c) a w:=by exact (fun _ _ _ _ _ h=>h)):(Code.region id l.toArray true).wp P Q a w:=pd 11 _ h hm hB hp
theorem xC_ {P:Program} {id:Nat} {Q:Exit→Act→World→Prop} {a:Act} {w:World} {l:List Oper} (h:PD_ P Q a w l 8 [(true,0),(true,1),(true,4),(true,2),(true,3),(true,5),(true,6),(true,7)]) (hm:P.follows .mixedOrders=true:=by kernel_rfl) (hB:qa9 .any l.toArray (fun _=>0) 8 [] [] [(true,0),(true,1),(true,4),(true,2),(true,3),(true,5),(true,6),(true,7)]=true:=by kernel_rfl) (hp:∀ c a d v w,Q (.panic c) (a.put (some d) v) w→Q (.panic c) a w:=by exact (fun _ _ _ _ _ h=>h)):(Code.region id l.toArray true).wp P Q a w:=pd 8 _ h hm hB hp
theorem xD0 {P:Program} {id:Nat} {Q:Exit→Act→World→Prop} {a:Act} {w:World} {l:List Oper} (h:PD_ P Q a w l 8 [(true,0),(true,1),(true,4),(true,2),(true,3),(false,5),(true,6),(true,7)]) (hm:P.follows .mixedOrders=true:=by kernel_rfl) (hB:qa9 .any l.toArray (fun _=>0) 8 [] [] [(true,0),(true,1),(true,4),(true,2),(true,3),(false,5),(true,6),(true,7)]=true:=by kernel_rfl) (hp:∀ c a d v w,Q (.panic c) (a.put (some d) v) w→Q (.panic c) a w:=by exact (fun _ _ _ _ _ h=>h)):(Code.region id l.toArray true).wp P Q a w:=pd 8 _ h hm hB hp
theorem xD1 {P:Program} {id:Nat} {Q:Exit→Act→World→Prop} {a:Act} {w:World} {l:List Oper} (h:PD_ P Q a w l 11 [(true,0),(true,1),(true,2),(true,3),(true,4),(true,5),(true,6),(true,7),(true,8),(false,9),(false,10)]) (hm:P.follows .mixedOrders=true:=by kernel_rfl) (hB:qa9 .any l.toArray (fun _=>0) 11 [] [] [(true,0),(true,1),(true,2),(true,3),(true,4),(true,5),(true,6),(true,7),(true,8),(false,9),(false,10)]=true:=by kernel_rfl) (hp:∀ c a d v w,Q (.panic c) (a.put (some d) v) w→Q (.panic c) a w:=by exact (fun _ _ _ _ _ h=>h)):(Code.region id l.toArray true).wp P Q a w:=pd 11 _ h hm hB hp
theorem xp3 {P:Program} {id:Nat} {Q:Exit→Act→World→Prop} {a:Act} {w:World} {l:List Oper} (h:PD_ P Q a w l 8 [(true,0),(true,1),(true,2),(true,3),(true,4),(true,5),(false,6),(false,7)]) (hm:P.follows .mixedOrders=true:=by kernel_rfl) (hB:qa9 .any l.toArray (fun _=>0) 8 [] [] [(true,0),(true,1),(true,2),(true,3),(true,4),(true,5),(false,6),(false,7)]=true:=by kernel_rfl) (hp:∀ c a d v w,Q (.panic c) (a.put (some d) v) w→Q (.panic c) a w:=by exact (fun _ _ _ _ _ h=>h)):(Code.region id l.toArray true).wp P Q a w:=pd 8 _ h hm hB hp
theorem xp4 {P:Program} {id:Nat} {Q:Exit→Act→World→Prop} {a:Act} {w:World} {l:List Oper} (h:PD_ P Q a w l 4 [(true,0),(true,1),(false,2),(false,3)]) (hm:P.follows .mixedOrders=true:=by kernel_rfl) (hB:qa9 .any l.toArray (fun _=>0) 4 [] [] [(true,0),(true,1),(false,2),(false,3)]=true:=by kernel_rfl) (hp:∀ c a d v w,Q (.panic c) (a.put (some d) v) w→Q (.panic c) a w:=by exact (fun _ _ _ _ _ h=>h)):(Code.region id l.toArray true).wp P Q a w:=pd 4 _ h hm hB hp
theorem xD2 {P:Program} {id:Nat} {Q:Exit→Act→World→Prop} {a:Act} {w:World} {l:List Oper} (h:PD_ P Q a w l 6 [(true,0),(true,1),(true,3),(true,4),(false,2),(true,5)]) (hm:P.follows .mixedOrders=true:=by kernel_rfl) (hB:qa9 .any l.toArray (fun _=>0) 6 [] [] [(true,0),(true,1),(true,3),(true,4),(false,2),(true,5)]=true:=by kernel_rfl) (hp:∀ c a d v w,Q (.panic c) (a.put (some d) v) w→Q (.panic c) a w:=by exact (fun _ _ _ _ _ h=>h)):(Code.region id l.toArray true).wp P Q a w:=pd 6 _ h hm hB hp
theorem xD3 {P:Program} {id:Nat} {Q:Exit→Act→World→Prop} {a:Act} {w:World} {l:List Oper} (h:PD_ P Q a w l 17 [(true,0),(true,1),(true,2),(true,5),(true,6),(true,7),(true,11),(true,13),(false,3),(false,4),(false,8),(false,9),(false,10),(false,12),(false,14),(false,15),(false,16)]) (hm:P.follows .mixedOrders=true:=by kernel_rfl) (hB:qa9 .any l.toArray (fun _=>0) 17 [] [] [(true,0),(true,1),(true,2),(true,5),(true,6),(true,7),(true,11),(true,13),(false,3),(false,4),(false,8),(false,9),(false,10),(false,12),(false,14),(false,15),(false,16)]=true:=by kernel_rfl) (hp:∀ c a d v w,Q (.panic c) (a.put (some d) v) w→Q (.panic c) a w:=by exact (fun _ _ _ _ _ h=>h)):(Code.region id l.toArray true).wp P Q a w:=pd 17 _ h hm hB hp
theorem xD4 {P:Program} {id:Nat} {Q:Exit→Act→World→Prop} {a:Act} {w:World} {l:List Oper} (h:PD_ P Q a w l 11 [(true,0),(true,1),(true,2),(true,3),(true,5),(true,7),(false,4),(false,6),(false,8),(false,9),(false,10)]) (hm:P.follows .mixedOrders=true:=by kernel_rfl) (hB:qa9 .any l.toArray (fun _=>0) 11 [] [] [(true,0),(true,1),(true,2),(true,3),(true,5),(true,7),(false,4),(false,6),(false,8),(false,9),(false,10)]=true:=by kernel_rfl) (hp:∀ c a d v w,Q (.panic c) (a.put (some d) v) w→Q (.panic c) a w:=by exact (fun _ _ _ _ _ h=>h)):(Code.region id l.toArray true).wp P Q a w:=pd 11 _ h hm hB hp
theorem xD5 {P:Program} {id:Nat} {Q:Exit→Act→World→Prop} {a:Act} {w:World} {l:List Oper} (h:PD_ P Q a w l 12 [(true,0),(true,1),(true,2),(true,3),(true,4),(true,7),(true,8),(true,9),(false,5),(false,6),(false,10),(false,11)]) (hm:P.follows .mixedOrders=true:=by kernel_rfl) (hB:qa9 .any l.toArray (fun _=>0) 12 [] [] [(true,0),(true,1),(true,2),(true,3),(true,4),(true,7),(true,8),(true,9),(false,5),(false,6),(false,10),(false,11)]=true:=by kernel_rfl) (hp:∀ c a d v w,Q (.panic c) (a.put (some d) v) w→Q (.panic c) a w:=by exact (fun _ _ _ _ _ h=>h)):(Code.region id l.toArray true).wp P Q a w:=pd 12 _ h hm hB hp
theorem xD6 {P:Program} {id:Nat} {Q:Exit→Act→World→Prop} {a:Act} {w:World} {l:List Oper} (h:PD_ P Q a w l 7 [(true,0),(true,1),(true,4),(true,5),(true,2),(true,3),(true,6)]) (hm:P.follows .mixedOrders=true:=by kernel_rfl) (hB:qa9 .any l.toArray (fun _=>0) 7 [] [] [(true,0),(true,1),(true,4),(true,5),(true,2),(true,3),(true,6)]=true:=by kernel_rfl) (hp:∀ c a d v w,Q (.panic c) (a.put (some d) v) w→Q (.panic c) a w:=by exact (fun _ _ _ _ _ h=>h)):(Code.region id l.toArray true).wp P Q a w:=pd 7 _ h hm hB hp
theorem xp5 {P:Program} {id:Nat} {Q:Exit→Act→World→Prop} {a:Act} {w:World} {l:List Oper} (h:PD_ P Q a w l 14 [(true,0),(true,8),(true,10),(true,1),(true,2),(true,3),(true,4),(true,5),(true,6),(true,7),(true,9),(true,11),(true,12),(true,13)]) (hm:P.follows .mixedOrders=true:=by kernel_rfl) (hB:qa9 .any l.toArray (fun _=>0) 14 [] [] [(true,0),(true,8),(true,10),(true,1),(true,2),(true,3),(true,4),(true,5),(true,6),(true,7),(true,9),(true,11),(true,12),(true,13)]=true:=by kernel_rfl) (hp:∀ c a d v w,Q (.panic c) (a.put (some d) v) w→Q (.panic c) a w:=by exact (fun _ _ _ _ _ h=>h)):(Code.region id l.toArray true).wp P Q a w:=pd 14 _ h hm hB hp
theorem xp6 {P:Program} {id:Nat} {Q:Exit→Act→World→Prop} {a:Act} {w:World} {l:List Oper} (h:PD_ P Q a w l 17 [(true,0),(true,1),(true,2),(true,3),(true,4),(true,5),(true,6),(true,7),(true,8),(true,9),(true,10),(true,11),(true,12),(true,13),(true,14),(true,15),(true,16)]) (hm:P.follows .mixedOrders=true:=by kernel_rfl) (hB:qa9 .any l.toArray (fun _=>0) 17 [] [] [(true,0),(true,1),(true,2),(true,3),(true,4),(true,5),(true,6),(true,7),(true,8),(true,9),(true,10),(true,11),(true,12),(true,13),(true,14),(true,15),(true,16)]=true:=by kernel_rfl) (hp:∀ c a d v w,Q (.panic c) (a.put (some d) v) w→Q (.panic c) a w:=by exact (fun _ _ _ _ _ h=>h)):(Code.region id l.toArray true).wp P Q a w:=pd 17 _ h hm hB hp
theorem xD7 {P:Program} {id:Nat} {Q:Exit→Act→World→Prop} {a:Act} {w:World} {l:List Oper} (h:PD_ P Q a w l 36 [(true,0),(true,1),(true,2),(true,3),(true,4),(true,5),(true,6),(true,7),(true,8),(true,9),(true,10),(true,11),(true,12),(true,13),(true,16),(true,14),(true,15),(true,17),(true,18),(true,19),(true,20),(true,21),(true,22),(true,23),(true,24),(true,25),(true,26),(true,27),(true,28),(true,29),(true,30),(true,31),(true,32),(true,33),(true,34),(true,35)]) (hm:P.follows .mixedOrders=true:=by kernel_rfl) (hB:qa9 .any l.toArray (fun _=>0) 36 [] [] [(true,0),(true,1),(true,2),(true,3),(true,4),(true,5),(true,6),(true,7),(true,8),(true,9),(true,10),(true,11),(true,12),(true,13),(true,16),(true,14),(true,15),(true,17),(true,18),(true,19),(true,20),(true,21),(true,22),(true,23),(true,24),(true,25),(true,26),(true,27),(true,28),(true,29),(true,30),(true,31),(true,32),(true,33),(true,34),(true,35)]=true:=by kernel_rfl) (hp:∀ c a d v w,Q (.panic c) (a.put (some d) v) w→Q (.panic c) a w:=by exact (fun _ _ _ _ _ h=>h)):(Code.region id l.toArray true).wp P Q a w:=pd 36 _ h hm hB hp
theorem xg2 {P:Program} {id:Nat} {Q:Exit→Act→World→Prop} {a:Act} {w:World} {l:List Oper} (h:PD_ P Q a w l 53 [(true,0),(true,1),(true,2),(true,3),(true,4),(true,5),(true,6),(true,8),(true,9),(true,7),(false,10),(true,11),(true,12),(true,13),(true,14),(true,15),(true,16),(true,18),(true,19),(true,17),(false,20),(true,21),(true,22),(true,23),(true,24),(true,25),(true,26),(true,28),(true,29),(true,27),(false,30),(true,31),(true,32),(true,33),(true,34),(true,35),(true,36),(true,37),(false,38),(true,39),(true,40),(true,41),(true,42),(true,43),(true,44),(true,45),(true,46),(true,47),(true,48),(true,49),(true,50),(true,51),(true,52)]) (hm:P.follows .mixedOrders=true:=by kernel_rfl) (hB:qa9 .any l.toArray (fun _=>0) 53 [] [] [(true,0),(true,1),(true,2),(true,3),(true,4),(true,5),(true,6),(true,8),(true,9),(true,7),(false,10),(true,11),(true,12),(true,13),(true,14),(true,15),(true,16),(true,18),(true,19),(true,17),(false,20),(true,21),(true,22),(true,23),(true,24),(true,25),(true,26),(true,28),(true,29),(true,27),(false,30),(true,31),(true,32),(true,33),(true,34),(true,35),(true,36),(true,37),(false,38),(true,39),(true,40),(true,41),(true,42),(true,43),(true,44),(true,45),(true,46),(true,47),(true,48),(true,49),(true,50),(true,51),(true,52)]=true:=by kernel_rfl) (hp:∀ c a d v w,Q (.panic c) (a.put (some d) v) w→Q (.panic c) a w:=by exact (fun _ _ _ _ _ h=>h)):(Code.region id l.toArray true).wp P Q a w:=pd 53 _ h hm hB hp
theorem xg3 {P:Program} {id:Nat} {Q:Exit→Act→World→Prop} {a:Act} {w:World} {l:List Oper} (h:PD_ P Q a w l 46 [(true,0),(true,2),(true,1),(false,3),(true,4),(true,5),(true,6),(true,8),(true,7),(false,9),(true,10),(true,11),(true,12),(true,13),(true,15),(true,14),(true,16),(true,17),(true,18),(true,19),(true,20),(true,21),(true,23),(true,22),(true,24),(true,25),(true,26),(true,27),(true,28),(true,29),(true,30),(true,31),(true,32),(true,33),(true,34),(true,35),(true,38),(true,36),(true,37),(false,39),(true,40),(true,41),(true,42),(true,43),(true,44),(true,45)]) (hm:P.follows .mixedOrders=true:=by kernel_rfl) (hB:qa9 .any l.toArray (fun _=>0) 46 [] [] [(true,0),(true,2),(true,1),(false,3),(true,4),(true,5),(true,6),(true,8),(true,7),(false,9),(true,10),(true,11),(true,12),(true,13),(true,15),(true,14),(true,16),(true,17),(true,18),(true,19),(true,20),(true,21),(true,23),(true,22),(true,24),(true,25),(true,26),(true,27),(true,28),(true,29),(true,30),(true,31),(true,32),(true,33),(true,34),(true,35),(true,38),(true,36),(true,37),(false,39),(true,40),(true,41),(true,42),(true,43),(true,44),(true,45)]=true:=by kernel_rfl) (hp:∀ c a d v w,Q (.panic c) (a.put (some d) v) w→Q (.panic c) a w:=by exact (fun _ _ _ _ _ h=>h)):(Code.region id l.toArray true).wp P Q a w:=pd 46 _ h hm hB hp
theorem xw9 {P:Program} {id:Nat} {Q:Exit→Act→World→Prop} {a:Act} {w:World} {l:List Oper} (h:PD_ P Q a w l 6 [(true,0),(true,3),(true,4),(false,1),(false,2),(false,5)]) (hm:P.follows .mixedOrders=true:=by kernel_rfl) (hB:qa9 .any l.toArray (fun _=>0) 6 [] [] [(true,0),(true,3),(true,4),(false,1),(false,2),(false,5)]=true:=by kernel_rfl) (hp:∀ c a d v w,Q (.panic c) (a.put (some d) v) w→Q (.panic c) a w:=by exact (fun _ _ _ _ _ h=>h)):(Code.region id l.toArray true).wp P Q a w:=pd 6 _ h hm hB hp
theorem lh_ {p:Prop} (h:p):Hid p:=Lib.hid h
theorem kF_ {P:Program} {d:Code} {Q:Exit→Act→World→Prop} {K:Act→World→Prop} {a:Act} {w0 W:World} {L L':List Fk} (h:Hid (∀ a' w',d.wp P Q a' w'→K a' w')) (hp:HP w0 W L) (k:∀ W',Hid (HP w0 W' L')→d.wp P Q a W') (hL:L=L':=by first|(simp only [lA,lB,lC,lF,lG,lH,lI];rfl)|rfl):K a W:=h.out _ _ (k W (Lib.hid (hL ▸ hp)))
theorem tk2_ {P:Program} {l:List Oper} {T:Act→World→Prop} {w:World} {r:List (Bool × Nat)} {a0 a1 a2:Act} {i0 i1:Nat} {o0 o1:Oper} {v0 v1:Value} (h3:qb4 P l.toArray T r a2 w) (ho0:l[i0]?=some o0:=by rfl) (h10:Region.wanted o0 (yielded l.toArray a0.tmps)=true:=by rfl) (h20:∀ w',Gr w w'→o0.quietAt P a0 (Gr w') w' v0:=by (intro w' hw;go_simp;with_reducible rfl)) (ha0:a0.put o0.dst v0=a1:=by (simp only [Act.put,lA,lB,lC];rfl)) (ho1:l[i1]?=some o1:=by rfl) (h11:Region.wanted o1 (yielded l.toArray a1.tmps)=true:=by rfl) (h21:∀ w',Gr w w'→o1.quietAt P a1 (Gr w') w' v1:=by (intro w' hw;go_simp;with_reducible rfl)) (ha1:a1.put o1.dst v1=a2:=by (simp only [Act.put,lA,lB,lC];rfl)):qb4 P l.toArray T ((true,i0) :: (true,i1) :: r) a0 w:=(tk (tk h3 ho1 h11 h21 ha1) ho0 h10 h20 ha0)
theorem tk3_ {P:Program} {l:List Oper} {T:Act→World→Prop} {w:World} {r:List (Bool × Nat)} {a0 a1 a2 a3:Act} {i0 i1 i2:Nat} {o0 o1 o2:Oper} {v0 v1 v2:Value} (h3:qb4 P l.toArray T r a3 w) (ho0:l[i0]?=some o0:=by rfl) (h10:Region.wanted o0 (yielded l.toArray a0.tmps)=true:=by rfl) (h20:∀ w',Gr w w'→o0.quietAt P a0 (Gr w') w' v0:=by (intro w' hw;go_simp;with_reducible rfl)) (ha0:a0.put o0.dst v0=a1:=by (simp only [Act.put,lA,lB,lC];rfl)) (ho1:l[i1]?=some o1:=by rfl) (h11:Region.wanted o1 (yielded l.toArray a1.tmps)=true:=by rfl) (h21:∀ w',Gr w w'→o1.quietAt P a1 (Gr w') w' v1:=by (intro w' hw;go_simp;with_reducible rfl)) (ha1:a1.put o1.dst v1=a2:=by (simp only [Act.put,lA,lB,lC];rfl)) (ho2:l[i2]?=some o2:=by rfl) (h12:Region.wanted o2 (yielded l.toArray a2.tmps)=true:=by rfl) (h22:∀ w',Gr w w'→o2.quietAt P a2 (Gr w') w' v2:=by (intro w' hw;go_simp;with_reducible rfl)) (ha2:a2.put o2.dst v2=a3:=by (simp only [Act.put,lA,lB,lC];rfl)):qb4 P l.toArray T ((true,i0) :: (true,i1) :: (true,i2) :: r) a0 w:=(tk (tk (tk h3 ho2 h12 h22 ha2) ho1 h11 h21 ha1) ho0 h10 h20 ha0)
theorem kc0_ {w0 W:World}  {b T:Nat} {cs:Array Value} {L:List Fk} (h:Hid (HP w0 W (Sum.inl (b,T,cs) :: L))):∀ w',Gr W w'→∀ j,w'.cell? ⟨b,j,none⟩=cs[j]?:=h.out.c 0 rfl
theorem kf0_ {w0 W:World}  {b T:Nat} {cs:Array Value} {L:List Fk} (h:Hid (HP w0 W (Sum.inl (b,T,cs) :: L))):∀ w',Gr W w'→∀ j,w'.frozen? ⟨b,j,none⟩=false:=h.out.f 0 rfl
theorem kc1_ {w0 W:World} {x0:Fk} {b T:Nat} {cs:Array Value} {L:List Fk} (h:Hid (HP w0 W (x0 :: Sum.inl (b,T,cs) :: L))):∀ w',Gr W w'→∀ j,w'.cell? ⟨b,j,none⟩=cs[j]?:=h.out.c 1 rfl
theorem kf1_ {w0 W:World} {x0:Fk} {b T:Nat} {cs:Array Value} {L:List Fk} (h:Hid (HP w0 W (x0 :: Sum.inl (b,T,cs) :: L))):∀ w',Gr W w'→∀ j,w'.frozen? ⟨b,j,none⟩=false:=h.out.f 1 rfl
theorem kc2_ {w0 W:World} {x0 x1:Fk} {b T:Nat} {cs:Array Value} {L:List Fk} (h:Hid (HP w0 W (x0 :: x1 :: Sum.inl (b,T,cs) :: L))):∀ w',Gr W w'→∀ j,w'.cell? ⟨b,j,none⟩=cs[j]?:=h.out.c 2 rfl
theorem kf2_ {w0 W:World} {x0 x1:Fk} {b T:Nat} {cs:Array Value} {L:List Fk} (h:Hid (HP w0 W (x0 :: x1 :: Sum.inl (b,T,cs) :: L))):∀ w',Gr W w'→∀ j,w'.frozen? ⟨b,j,none⟩=false:=h.out.f 2 rfl
theorem kc3_ {w0 W:World} {x0 x1 x2:Fk} {b T:Nat} {cs:Array Value} {L:List Fk} (h:Hid (HP w0 W (x0 :: x1 :: x2 :: Sum.inl (b,T,cs) :: L))):∀ w',Gr W w'→∀ j,w'.cell? ⟨b,j,none⟩=cs[j]?:=h.out.c 3 rfl
theorem kf3_ {w0 W:World} {x0 x1 x2:Fk} {b T:Nat} {cs:Array Value} {L:List Fk} (h:Hid (HP w0 W (x0 :: x1 :: x2 :: Sum.inl (b,T,cs) :: L))):∀ w',Gr W w'→∀ j,w'.frozen? ⟨b,j,none⟩=false:=h.out.f 3 rfl
theorem kc4_ {w0 W:World} {x0 x1 x2 x3:Fk} {b T:Nat} {cs:Array Value} {L:List Fk} (h:Hid (HP w0 W (x0 :: x1 :: x2 :: x3 :: Sum.inl (b,T,cs) :: L))):∀ w',Gr W w'→∀ j,w'.cell? ⟨b,j,none⟩=cs[j]?:=h.out.c 4 rfl
theorem kf4_ {w0 W:World} {x0 x1 x2 x3:Fk} {b T:Nat} {cs:Array Value} {L:List Fk} (h:Hid (HP w0 W (x0 :: x1 :: x2 :: x3 :: Sum.inl (b,T,cs) :: L))):∀ w',Gr W w'→∀ j,w'.frozen? ⟨b,j,none⟩=false:=h.out.f 4 rfl
theorem kc5_ {w0 W:World} {x0 x1 x2 x3 x4:Fk} {b T:Nat} {cs:Array Value} {L:List Fk} (h:Hid (HP w0 W (x0 :: x1 :: x2 :: x3 :: x4 :: Sum.inl (b,T,cs) :: L))):∀ w',Gr W w'→∀ j,w'.cell? ⟨b,j,none⟩=cs[j]?:=h.out.c 5 rfl
theorem kf5_ {w0 W:World} {x0 x1 x2 x3 x4:Fk} {b T:Nat} {cs:Array Value} {L:List Fk} (h:Hid (HP w0 W (x0 :: x1 :: x2 :: x3 :: x4 :: Sum.inl (b,T,cs) :: L))):∀ w',Gr W w'→∀ j,w'.frozen? ⟨b,j,none⟩=false:=h.out.f 5 rfl
theorem kc6_ {w0 W:World} {x0 x1 x2 x3 x4 x5:Fk} {b T:Nat} {cs:Array Value} {L:List Fk} (h:Hid (HP w0 W (x0 :: x1 :: x2 :: x3 :: x4 :: x5 :: Sum.inl (b,T,cs) :: L))):∀ w',Gr W w'→∀ j,w'.cell? ⟨b,j,none⟩=cs[j]?:=h.out.c 6 rfl
theorem kf6_ {w0 W:World} {x0 x1 x2 x3 x4 x5:Fk} {b T:Nat} {cs:Array Value} {L:List Fk} (h:Hid (HP w0 W (x0 :: x1 :: x2 :: x3 :: x4 :: x5 :: Sum.inl (b,T,cs) :: L))):∀ w',Gr W w'→∀ j,w'.frozen? ⟨b,j,none⟩=false:=h.out.f 6 rfl
theorem kc8_ {w0 W:World} {x0 x1 x2 x3 x4 x5 x6 x7:Fk} {b T:Nat} {cs:Array Value} {L:List Fk} (h:Hid (HP w0 W (x0 :: x1 :: x2 :: x3 :: x4 :: x5 :: x6 :: x7 :: Sum.inl (b,T,cs) :: L))):∀ w',Gr W w'→∀ j,w'.cell? ⟨b,j,none⟩=cs[j]?:=h.out.c 8 rfl
theorem kf8_ {w0 W:World} {x0 x1 x2 x3 x4 x5 x6 x7:Fk} {b T:Nat} {cs:Array Value} {L:List Fk} (h:Hid (HP w0 W (x0 :: x1 :: x2 :: x3 :: x4 :: x5 :: x6 :: x7 :: Sum.inl (b,T,cs) :: L))):∀ w',Gr W w'→∀ j,w'.frozen? ⟨b,j,none⟩=false:=h.out.f 8 rfl
theorem kc9_ {w0 W:World} {x0 x1 x2 x3 x4 x5 x6 x7 x8:Fk} {b T:Nat} {cs:Array Value} {L:List Fk} (h:Hid (HP w0 W (x0 :: x1 :: x2 :: x3 :: x4 :: x5 :: x6 :: x7 :: x8 :: Sum.inl (b,T,cs) :: L))):∀ w',Gr W w'→∀ j,w'.cell? ⟨b,j,none⟩=cs[j]?:=h.out.c 9 rfl
theorem kf9_ {w0 W:World} {x0 x1 x2 x3 x4 x5 x6 x7 x8:Fk} {b T:Nat} {cs:Array Value} {L:List Fk} (h:Hid (HP w0 W (x0 :: x1 :: x2 :: x3 :: x4 :: x5 :: x6 :: x7 :: x8 :: Sum.inl (b,T,cs) :: L))):∀ w',Gr W w'→∀ j,w'.frozen? ⟨b,j,none⟩=false:=h.out.f 9 rfl
end Go.Proofs.YtobojnodohjiaaaGreatDoor
