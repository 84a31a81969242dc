
/- A slice of congruences. -/
import Derived.Test.YtobojnodohjiaaaGreatDoorHp
import Derived.Maps.AppendAt
import Derived.Test.YtobojnodohjiaaaGreatDoorPL
import Derived.Test.YtobojnodohjiaaaGreatDoorCrtP
set_option linter.unusedVariables false
set_option linter.unusedSimpArgs false
namespace Go.Proofs.YtobojnodohjiaaaGreatDoor
section
open Go.RowKit
def RowV (b:Nat) (cur:Array Value) (k:Nat) (v:Value) (n:Nat) (xs:List Value):Prop :=
 ∃ cap,v=.slice (some ⟨b,0,none⟩) n cap∧n≤cap∧cap≤maxLen∧cur.size=cap*k∧cur.toList.take (n*k)=xs∧xs.length=n*k
section
variable {w0 W W':World} {L:List Fk} {b E k n:Nat} {cur:Array Value} {v:Value} {xs:List Value}
theorem RowV.own (h:RowV b cur k v n xs) (hB:Bx W b E cur) (hle:w0.heap.size≤b):W.ownsRow w0.heap.size E k v n xs:=by
 obtain ⟨cap,rfl,h1,h2,h3,h4,h5⟩:=h
 exact ⟨h5,.inr ⟨b,cap,cur,rfl,hle,hB,h1,h2,h3,h4⟩⟩
theorem RowV.blk (h:RowV b cur k v n xs):v.ownBlock=some b:=by
 obtain ⟨cap,rfl,_⟩:=h;rfl
theorem RowV.sl (h:RowV b cur k v n xs):∃ cap,v=.slice (some ⟨b,0,none⟩) n cap:=by
 obtain ⟨cap,e,_⟩:=h;exact ⟨cap,e⟩
theorem RowV.cell (h:RowV b cur k v n xs) (hB:Bx W b E cur) (g:Gr W W') (i:Nat) (hi:i<n*k):W'.cell? ⟨b,i,none⟩=xs[i]?:=by
 obtain ⟨cap,rfl,h1,h2,h3,h4,h5⟩:=h
 rw [hB.cells W' g,← h4,List.getElem?_take_of_lt hi,Array.getElem?_toList]
theorem HP.app {row:Option Nat} {v':Value} {n':Nat} {xs':List Value} {M:List Fk} (h:HP w0 W M) (hrow:∀ j,row=some j→w0.heap.size≤j) (hM:∀ (i:Nat) (x:Nat × TypeId × Array Value),M[i]?=some (Sum.inl x)→some x.1≠row)
  (hR:∀ (i:Nat) (v:Value) (m:Nat),M[i]?=some (Sum.inr (v,m))→Rn W' v m)
  (g:W.grownBy W' row) (own:W'.ownsRow w0.heap.size E k v' n' xs') (hn:0<n') (hk:0<k) (hE:E≠3) (hat:v'.ownBlock=row∨v'.ownBlock=some W.heap.size) :
  ∃ b' cur',HP w0 W' (M ++ [Sum.inl (b',E,cur')])∧RowV b' cur' k v' n' xs':=by
 obtain ⟨hl,h2|⟨b',cap,cur',hv,hb,hc,h4,h5,h6,h7⟩⟩:=own
 ·omega
 ·have hb':v'.ownBlock=some b':=by rw [hv];rfl
  have hbase:HP w0 W' M:=by
   obtain ⟨h1,h2,h3⟩:=h
   refine ⟨h1.grown g h1.size hrow,fun i e he=>?_,h3⟩
   have:=h2 i e he
   rcases e with ⟨c,S,ds⟩|⟨u,m⟩
   ·exact ⟨(g.block c this.1.lt (hM i _ he)).trans this.1,this.2⟩
   ·exact hR i u m he
  refine ⟨b',cur',hbase.add hc hE hb (fun i x hx e=>?_),⟨cap,hv,h4,h5,h6,h7,hl⟩⟩
  rcases hat with ha|ha
  ·exact hM i x hx (by rw [← ha,hb',e])
  ·have:=h.lt i x hx
   rw [hb'] at ha
   injection ha with ha
   omega
theorem Rn.kept {u:Value} {m:Nat} {row:Option Nat} (h:Rn W u m) (g:W.grownBy W' row) (hne:∀ j,row=some j→u.ownBlock≠some j):Rn W' u m:=by
 refine World.ownsRow.kept h g ?_
 cases hr:row with
 | none=>cases hu:u.ownBlock with
  | none=>exact .inl rfl
  | some j=>exact .inr (by simp)
 | some j=>exact .inr (hne j hr)
theorem qF5 (g j:Nat):(⟨g,0,none⟩:Addr).add j=⟨g,j,none⟩:=by unfold Addr.add;split <;> simp_all
theorem apS {ops:Array Oper} {rest:List Oper} {o:Oper} {a:Act} {Q:Exit→Act→World→Prop} {g m c bytes:Nat} {news:List Value} {i:TypeInfo} {z:Value} (I:Hid (HP w0 W L)) (rv:Hid (RowV b cur k v n xs)) (jr jt:Nat) (s x:Operand) (t:TypeId)
  (hi:Tryz.prog.info? E=some i) (hz:i.zero=some z) (hsize:i.size=k) (hby:i.bytes=bytes) (hzs:z.cells.size=k) (hty:Tryz.prog.underlying t=some (.slice E))
  (h63:n+m≤maxLen) (hbytes:(n+m)*bytes≤140737488355328)
  (h:∀ b' cur' v' W',Hid (HP w0 W' (L.eraseIdx jr ++ [Sum.inl (b',E,cur')]))→Hid (RowV b' cur' k v' (n+m) (xs ++ news))→wpList Tryz.prog ops Q rest (a.put o.dst v') W')
  (hr:L[jr]?=some (Sum.inl (b,E,cur)):=by rfl) (ht:L[jt]?=some (Sum.inl (g,E,news.toArray)):=by rfl) (ho:o.op=.call { callee:=.builtin .append,args:=#[s,x],argTypes:=#[t,t] }:=by rfl) (hgd:o.guard=none:=by rfl)
  (hv:a.eval s=v:=by rfl) (hx:a.eval x=.slice (some ⟨g,0,none⟩) m c:=by rfl) (hl:news.length=m*k:=by rfl) (h1:∀ u ∈ news,u.oneCell'=true:=by intro u hu;simp at hu;rcases hu with rfl|rfl|rfl|rfl|rfl <;> rfl) (hk:0<k:=by decide) (hm:0<m:=by decide):wpList Tryz.prog ops Q (o :: rest) a W:=by
 have hB:=I.out.bx jr hr
 have hle:=(I.out.2.1 jr _ hr).2.2
 have hE:=(I.out.2.1 jr _ hr).2.1
 have hgt:=I.out.bx jt ht
 refine wpList_append_own_at W hgd s x t ho w0.heap.size E i z k bytes hty hi hz hsize hby hzs hk v n xs hv (rv.out.own hB hle) ⟨g,0,none⟩ m c news hx hl (fun j u hj=>?_) h1 h63 hbytes I.out.1.size ?_
 ·rw [qF5,hgt.cells W (Gr.refl _)];simpa using hj
 ·intro v' W' own grown _ hat
  have key:∀ (j:Nat) (e:Fk),(L.eraseIdx jr)[j]?=some e→∃ q,q≠jr∧L[q]?=some e:=fun j e he=>by
   rw [List.getElem?_eraseIdx] at he
   split at he
   ·exact ⟨j,by omega,he⟩
   ·exact ⟨j+1,by omega,he⟩
  obtain ⟨b',cur',h2,h3⟩:=HP.app (I.out.er jr) (row:=v.ownBlock) (fun j hj=>by rw [rv.out.blk] at hj;injection hj with hj;omega)
   (fun j y hy e=>by
    obtain ⟨q,hq,hy⟩:=key j _ hy
    rw [rv.out.blk] at e
    injection e with e
    exact I.out.2.2 q jr _ _ hq hy hr e)
   (fun j u q hu=>by
    obtain ⟨q',_,hu⟩:=key j _ hu
    have hRn:=I.out.rn q' hu
    exact Rn.kept hRn grown (fun y hy=>by rw [rv.out.blk] at hy;injection hy with hy;subst hy;exact Rn.ne hRn hB hE)) grown own om hk hE hat
  exact h b' cur' v' W' (lh_ h2) (lh_ h3)
theorem apN {ops:Array Oper} {rest:List Oper} {o:Oper} {a:Act} {Q:Exit→Act→World→Prop} {g m c bytes:Nat} {news:List Value} {i:TypeInfo} {z:Value} (I:Hid (HP w0 W L)) (jt:Nat) (s x:Operand) (t:TypeId)
  (hi:Tryz.prog.info? E=some i) (hz:i.zero=some z) (hsize:i.size=k) (hby:i.bytes=bytes) (hzs:z.cells.size=k) (hty:Tryz.prog.underlying t=some (.slice E))
  (h63:m≤maxLen) (hbytes:m*bytes≤140737488355328)
  (h:∀ b' cur' v' W',Hid (HP w0 W' (L ++ [Sum.inl (b',E,cur')]))→Hid (RowV b' cur' k v' m news)→wpList Tryz.prog ops Q rest (a.put o.dst v') W')
  (ht:L[jt]?=some (Sum.inl (g,E,news.toArray)):=by rfl) (ho:o.op=.call { callee:=.builtin .append,args:=#[s,x],argTypes:=#[t,t] }:=by rfl) (hgd:o.guard=none:=by rfl)
  (hv:a.eval s=.slice none 0 0:=by rfl) (hx:a.eval x=.slice (some ⟨g,0,none⟩) m c:=by rfl) (hl:news.length=m*k:=by rfl) (h1:∀ u ∈ news,u.oneCell'=true:=by intro u hu;simp at hu;rcases hu with rfl|rfl|rfl|rfl|rfl <;> rfl) (hk:0<k:=by decide) (hm:0<m:=by decide):wpList Tryz.prog ops Q (o :: rest) a W:=by
 have hgt:=I.out.bx jt ht
 have hE:=(I.out.2.1 jt _ ht).2.1
 refine wpList_append_own_at W hgd s x t ho w0.heap.size E i z k bytes hty hi hz hsize hby hzs hk (.slice none 0 0) 0 [] hv (World.ownsRow_nil _ _ _ _) ⟨g,0,none⟩ m c news hx hl (fun j u hj=>?_) h1 om (by rw [Nat.zero_add];exact hbytes) I.out.1.size ?_
 ·rw [qF5,hgt.cells W (Gr.refl _)];simpa using hj
 ·intro v' W' own grown _ hat
  rw [Nat.zero_add,List.nil_append] at own
  obtain ⟨b',cur',h2,h3⟩:=HP.app I.out (row:=none) (fun j hj=>by cases hj) (fun j y hy e=>by cases e) (fun j u q hu=>Rn.kept (I.out.rn j hu) grown (fun y hy=>by cases hy)) grown own hm hk hE hat
  exact h b' cur' v' W' (lh_ h2) (lh_ h3)
end
end
section
open Go.RowKit
def fcl (q:Rat):List Value:=[.int .u64 (lo q.num.natAbs),.string (bg q.num.natAbs),.bool (q.num<0),.int .u64 (lo (q.den - 1)),.string (bg (q.den - 1))]
def Fs (w:World) (v:Value) (n:Nat) (f:Nat→Rat):Prop :=
 (∃ ao c,v=.slice ao n c∧n=0)∨∃ b o c,v=.slice (some ⟨b,o,none⟩) n c∧b<w.heap.size∧∀ i,i<n→∀ j,j<5→w.cell? ⟨b,o+i*5+j,none⟩=(fcl (f i))[j]?
theorem Fs.gr {w w':World} {v:Value} {n:Nat} {f:Nat→Rat} (h:Fs w v n f) (hg:Gr w w'):Fs w' v n f:=by
 rcases h with h|⟨b,o,c,rfl,hb,hc⟩
 ·exact .inl h
 ·exact .inr ⟨b,o,c,rfl,Nat.lt_of_lt_of_le hb hg.size,fun i hi j hj=>(Below.cell hg (p:=⟨b,o+i*5+j,none⟩) hb).trans (hc i hi j hj)⟩
theorem Fs.slice {w:World} {v:Value} {n:Nat} {f:Nat→Rat} (h:Fs w v n f):∃ ao c,v=.slice ao n c:=by
 rcases h with ⟨ao,c,rfl,_⟩|⟨b,o,c,rfl,_⟩
 ·exact ⟨_,_,rfl⟩
 ·exact ⟨_,_,rfl⟩
end
section
open Go.RowKit
section
variable {w0 W:World} {L:List Fk} {E k n:Nat} {v:Value} {xs:List Value}
def Apart (L:List Fk) (v:Value):Prop:=∀ (i:Nat) (x:Nat × TypeId × Array Value),L[i]?=some (Sum.inl x)→v.ownBlock≠some x.1
theorem HP.grown {W':World} {row:Option Nat} (h:HP w0 W L) (hrow:∀ j,row=some j→w0.heap.size≤j) (hM:∀ (i:Nat) (x:Nat × TypeId × Array Value),L[i]?=some (Sum.inl x)→row≠some x.1)
  (hR:∀ (i:Nat) (v:Value) (m:Nat),L[i]? ≠ some (Sum.inr (v,m))) (g:W.grownBy W' row):HP w0 W' L:=by
 obtain ⟨h1,h2,h3⟩:=h
 refine ⟨h1.grown g h1.size hrow,fun i e he=>?_,h3⟩
 have:=h2 i e he
 rcases e with ⟨c,S,ds⟩|⟨u,m⟩
 ·exact ⟨(g.block c this.1.lt (fun e=>hM i _ he e.symm)).trans this.1,this.2⟩
 ·exact absurd he (hR i u m)
theorem xi9 (own:W.ownsRow w0.heap.size E k v n xs):∀ j,v.ownBlock=some j→w0.heap.size≤j:=by
 obtain ⟨_,⟨rfl,_⟩|⟨g,cap,cur,rfl,h,_⟩⟩:=own
 ·intro j hj;cases hj
 ·intro j hj;injection hj with hj;subst hj;exact h
theorem apX {ops:Array Oper} {rest:List Oper} {o:Oper} {a:Act} {Q:Exit→Act→World→Prop} {ad:Addr} {m c bytes:Nat} {news:List Value} {i:TypeInfo} {z:Value} (I:Hid (HP w0 W L)) (own:Hid (W.ownsRow w0.heap.size E k v n xs)) (HA:Hid (Apart L v)) (s x:Operand) (t:TypeId)
  (hi:Tryz.prog.info? E=some i) (hz:i.zero=some z) (hsize:i.size=k) (hby:i.bytes=bytes) (hzs:z.cells.size=k) (hty:Tryz.prog.underlying t=some (.slice E))
  (h63:n+m≤maxLen) (hbytes:(n+m)*bytes≤140737488355328) (hR:∀ (i:Nat) (v:Value) (m:Nat),L[i]? ≠ some (Sum.inr (v,m)))
  (hv:a.eval s=v) (hx:a.eval x=.slice (some ad) m c) (hnews:Hid (∀ j u,news[j]?=some u→W.cell? (ad.add j)=some u)) (hl:news.length=m*k) (h1:∀ u ∈ news,u.oneCell'=true) (hk:0<k)
  (ho:o.op=.call { callee:=.builtin .append,args:=#[s,x],argTypes:=#[t,t] }) (hgd:o.guard=none)
  (h:∀ v' W',Hid (HP w0 W' L)→Hid (W'.ownsRow w0.heap.size E k v' (n+m) (xs ++ news))→Hid (Apart L v')→wpList Tryz.prog ops Q rest (a.put o.dst v') W'):wpList Tryz.prog ops Q (o :: rest) a W:=by
 refine wpList_append_own_at W hgd s x t ho w0.heap.size E i z k bytes hty hi hz hsize hby hzs hk v n xs hv own.out ad m c news hx hl hnews.out h1 h63 hbytes I.out.1.size ?_
 intro v' W' own' grown _ hat
 refine h v' W' (lh_ (I.out.grown (xi9 own.out) HA.out hR grown)) (lh_ own') (lh_ fun j y hy e=>?_)
 rcases hat with ha|ha
 ·exact HA.out j y hy (ha ▸ e)
 ·have:=I.out.lt j y hy
  rw [e] at ha
  injection ha with ha
  omega
theorem qe4 {B:Nat} {W':World} (h:W.ownsRow B E k v n xs) (hg:Gr W W'):W'.ownsRow B E k v n xs:=by
 obtain ⟨hl,h|⟨g,cap,cur,rfl,h0,hc,h1⟩⟩:=h
 ·exact ⟨hl,.inl h⟩
 ·exact ⟨hl,.inr ⟨g,cap,cur,rfl,h0,Bx.gr (show Bx W g E cur from hc) hg,h1⟩⟩
theorem xi_ (h:HP w0 W L) (own:W.ownsRow w0.heap.size E k v n xs) (ha:Apart L v) (hn:0<n) (hE:E≠3):∃ g cur,HP w0 W (L ++ [Sum.inl (g,E,cur)])∧RowV g cur k v n xs:=by
 obtain ⟨hl,⟨_,h0⟩|⟨g,cap,cur,rfl,hg,hc,h1,h2,h3,h4⟩⟩:=own
 ·omega
 ·exact ⟨g,cur,h.add hc hE hg (fun i x hx e=>ha i x hx (by show some g=some x.1;rw [e])),⟨cap,rfl,h1,h2,h3,h4,hl⟩⟩
end
end
section
open Go.RowKit
def rcl (q:Int × Nat):List Value:=[.int .u64 (lo (Int.natAbs (q.1))),.string (bg (Int.natAbs (q.1))),.bool (decide ((q.1)<0)),.int .u64 (lo (q.2)),.string (bg (q.2))]
def Rs (w:World) (v:Value) (n:Nat) (f:Nat→Int × Nat):Prop :=
 (∃ ao c,v=.slice ao n c∧n=0)∨∃ b o c,v=.slice (some ⟨b,o,none⟩) n c∧b<w.heap.size∧∀ i,i<n→∀ j,j<5→w.cell? ⟨b,o+i*5+j,none⟩=(rcl (f i))[j]?
theorem Rs.gr {w w':World} {v:Value} {n:Nat} {f:Nat→Int × Nat} (h:Rs w v n f) (hg:Gr w w'):Rs w' v n f:=by
 rcases h with h|⟨b,o,c,rfl,hb,hc⟩
 ·exact .inl h
 ·exact .inr ⟨b,o,c,rfl,Nat.lt_of_lt_of_le hb hg.size,fun i hi j hj=>(Below.cell hg (p:=⟨b,o+i*5+j,none⟩) hb).trans (hc i hi j hj)⟩
theorem Rs.slice {w:World} {v:Value} {n:Nat} {f:Nat→Int × Nat} (h:Rs w v n f):∃ ao c,v=.slice ao n c:=by
 rcases h with ⟨ao,c,rfl,_⟩|⟨b,o,c,rfl,_⟩
 ·exact ⟨_,_,rfl⟩
 ·exact ⟨_,_,rfl⟩
def rcs (f:Nat→Int × Nat):Nat→List Value
 | 0=>[]
 | k+1=>rcs f k ++ rcl (f k)
theorem qm8 (f:Nat→Int × Nat) (n:Nat):(rcs f n).length=n*5:=by
 induction n with
 | zero=>rfl
 | succ n ih=>rw [rcs,List.length_append,ih];show _+5=_;omega
theorem qV7 (f:Nat→Int × Nat) (n i j:Nat) (hi:i<n) (hj:j<5):(rcs f n)[i*5+j]?=(rcl (f i))[j]?:=by
 induction n with
 | zero=>omega
 | succ n ih =>
  have hl:=qm8 f n
  rcases Nat.lt_or_ge i n with h|h
  ·rw [rcs,List.getElem?_append_left om]
   exact ih h
  ·obtain rfl:i=n:=by omega
   rw [rcs,List.getElem?_append_right om,hl,Nat.add_sub_cancel_left]
theorem qV9 (f:Nat→Int × Nat) (n:Nat):∀ u ∈ rcs f n,u.oneCell'=true:=by
 induction n with
 | zero=>intro u hu;cases hu
 | succ n ih =>
  intro u hu
  rw [rcs] at hu
  rcases List.mem_append.1 hu with hu|hu
  ·exact ih u hu
  ·simp [rcl] at hu
   rcases hu with rfl|rfl|rfl|rfl|rfl <;> rfl
theorem qD7 (f:Nat→Int × Nat) (n m:Nat):rcs f (n+m)=rcs f n ++ rcs (fun i=>f (n+i)) m:=by
 induction m with
 | zero=>simp [rcs]
 | succ m ih=>rw [← Nat.add_assoc,rcs,ih,rcs,List.append_assoc]
theorem qV8 (f g:Nat→Int × Nat) (n:Nat) (h:∀ i,i<n→f i=g i):rcs f n=rcs g n:=by
 induction n with
 | zero=>rfl
 | succ n ih=>rw [rcs,rcs,ih (fun i hi=>h i om),h n om]
theorem qs2 {W:World} {g E n:Nat} {cur:Array Value} {v:Value} {f:Nat→Int × Nat} (h:RowV g cur 5 v n (rcs f n)) (hB:Bx W g E cur):Rs W v n f:=by
 obtain ⟨cap,rfl,h1,h2,h3,h4,h5⟩:=h
 refine .inr ⟨g,0,cap,rfl,hB.lt,fun i hi j hj=>?_⟩
 have hlt:i*5+j<n*5:=by omega
 rw [Nat.zero_add,hB.cells W (Gr.refl _),← qV7 f n i j hi hj,← h4,List.getElem?_take_of_lt hlt,Array.getElem?_toList]
theorem qA2 {W:World} {g E n:Nat} {cur:Array Value} {v:Value} {f:Nat→Int × Nat} (h:RowV g cur 5 v n (rcs f n)) (hB:Bx W g E cur) (a m:Nat) (ham:a+m≤n) :
  ∀ j u,(rcs (fun i=>f (a+i)) m)[j]?=some u→W.cell? ((⟨g,a*5,none⟩:Addr).add j)=some u:=by
 obtain ⟨cap,rfl,h1,h2,h3,h4,h5⟩:=h
 intro j u hj
 have hl:j<m*5:=by have:=(List.getElem?_eq_some_iff.1 hj).1;rwa [qm8] at this
 have e:rcs f n=rcs f (a+m) ++ rcs (fun i=>f (a+m+i)) (n - (a+m)):=by rw [← qD7];congr 1;omega
 have hlt:a*5+j<n*5:=by omega
 have hq:(rcs f n)[a*5+j]?=some u:=by
  rw [e,List.getElem?_append_left (by rw [qm8];omega),qD7,List.getElem?_append_right (by rw [qm8];omega),qm8,Nat.add_sub_cancel_left]
  exact hj
 rw [← h4,List.getElem?_take_of_lt hlt,Array.getElem?_toList] at hq
 rw [Go.WideShapes.add_plain,hB.cells W (Gr.refl _)]
 exact hq
end
end Go.Proofs.YtobojnodohjiaaaGreatDoor
