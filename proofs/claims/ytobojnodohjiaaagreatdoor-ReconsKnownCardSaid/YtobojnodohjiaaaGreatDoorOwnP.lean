
/- rows of one's own beside each other; rows of integers. No condition but those stated. -/
import Derived.Test.YtobojnodohjiaaaGreatDoorJoiP
import Derived.Test.YtobojnodohjiaaaGreatDoorRr7
import Derived.Test.YtobojnodohjiaaaGreatDoorRsP
set_option linter.unusedVariables false
set_option linter.unusedSimpArgs false
namespace Go.Proofs.YtobojnodohjiaaaGreatDoor
open Go.RowKit
def Isl (w:World) (v:Value) (n:Nat) (g:Nat→Int):Prop :=
 (∃ ao c,v=.slice ao n c∧n=0)∨∃ b o c,v=.slice (some ⟨b,o,none⟩) n c∧b<w.heap.size∧∀ i,i<n→w.cell? ⟨b,o+i,none⟩=some (.int .i64 (g i))
theorem Isl.slice {w:World} {v:Value} {n:Nat} {g:Nat→Int} (h:Isl w v n g):∃ ao c,v=.slice ao n c:=by
 rcases h with ⟨ao,c,rfl,_⟩|⟨b,o,c,rfl,_⟩
 ·exact ⟨_,_,rfl⟩
 ·exact ⟨_,_,rfl⟩
def lcms (f:Nat→Int × Nat):Nat→Nat
 | 0=>1
 | k+1=>Nat.lcm (lcms f k) (f k).2
def sat7 (f:Nat→Int × Nat) (n:Nat) (x:Nat):Prop:=∀ i,i<n→((f i).2:Int) ∣ (x:Int) - (f i).1
theorem qq6 (f:Nat→Int × Nat):∀ {k i:Nat},i<k→(f i).2 ∣ lcms f k
 | k+1,i,h=>by
  rcases Nat.lt_succ_iff_lt_or_eq.1 h with h|rfl
  ·exact Nat.dvd_trans (qq6 f h) (Nat.dvd_lcm_left _ _)
  ·exact Nat.dvd_lcm_right _ _
theorem qH2 (f:Nat→Int × Nat) {z:Nat}:∀ {k:Nat},(∀ i,i<k→(f i).2 ∣ z)→lcms f k ∣ z
 | 0,_=>Nat.one_dvd z
 | k+1,h=>Nat.lcm_dvd (qH2 f fun i hi=>h i (Nat.lt_succ_of_lt hi)) (h k (Nat.lt_succ_self k))
theorem qq7 (f:Nat→Int × Nat):∀ {k:Nat},(∀ i,i<k→0<(f i).2)→0<lcms f k
 | 0,_=>Nat.one_pos
 | k+1,h=>Nat.lcm_pos (qq7 f fun i hi=>h i (Nat.lt_succ_of_lt hi)) (h k (Nat.lt_succ_self k))
theorem qQ0 {f:Nat→Int × Nat} {n x L:Nat} (hp:∀ i,i<n→0<(f i).2) (hl:lcms f n=L) (hs:sat7 f n x) (hx:x<L):chn f n=some (((x:Nat):Int),L):=by
 subst hl
 exact qG3 hp hs (fun i hi=>qq6 f hi) (fun z hz=>qH2 f hz) om om
theorem qZ9 {f:Nat→Int × Nat} {n L:Nat} (hp:∀ i,i<n→0<(f i).2) (hl:lcms f n=L) (hn:∀ y,y<L→¬ sat7 f n y):chn f n=none:=by
 refine xh9 hp fun A hA=>?_
 have hL:0<L:=by rw [← hl];exact qq7 f hp
 have hb:=qo6 (a:=A) hL
 obtain ⟨y,hy⟩:∃ y:Nat,A % ((L:Nat):Int)=(y:Int):=⟨(A % ((L:Nat):Int)).toNat,by omega⟩
 refine hn y om fun i hi=>?_
 rw [← hy]
 exact qR0 (Int.dvd_trans (Int.ofNat_dvd.2 (by rw [← hl];exact qq6 f hi)) (qv7 A L)) (hA i hi)
theorem qT3 {L m j:Nat} (hL:0<L) (hm:0<m) (hj:1≤j) (h:m ∣ L*j) (hmin:∀ j',1≤j'→j'<j→¬ m ∣ L*j'):Nat.lcm L m=L*j:=by
 obtain ⟨t,ht⟩:=Nat.dvd_lcm_left L m
 have h0:=Nat.lcm_pos hL hm
 have ht0:1≤t:=by
  rcases Nat.eq_zero_or_pos t with h|h
  ·rw [h,Nat.mul_zero] at ht;omega
  ·exact h
 have h1:Nat.lcm L m ∣ L*j:=Nat.lcm_dvd (Nat.dvd_mul_right _ _) h
 have h2:m ∣ L*t:=by rw [← ht];exact Nat.dvd_lcm_right L m
 have h3:¬ t<j:=fun h=>hmin t ht0 h h2
 have h4:=Nat.le_of_dvd (Nat.mul_pos hL hj) h1
 rw [ht] at h4
 have h5:t≤j:=Nat.le_of_mul_le_mul_left h4 hL
 rw [ht,show t=j by omega]
theorem qx1 {f:Nat→Int × Nat} {i x:Nat}:sat7 f (i+1) x ↔ sat7 f i x∧((f i).2:Int) ∣ (x:Int) - (f i).1 :=
 ⟨fun h=>⟨fun j hj=>h j om,h i om⟩,fun h j hj=>by
  rcases Nat.lt_succ_iff_lt_or_eq.1 hj with hj|rfl
  ·exact h.1 j hj
  ·exact h.2⟩
theorem xj2 (a m z:Int) (w:World) (hz:a % m=z) (ha:-1000000000000≤a) (ha2:a≤1000000000000) (hm:0<m) (hm2:m≤1000000000000) :
  Calls Tryz.prog 108 #[.int .i64 a,.int .i64 m] w fun e w'=>e=.returned (.int .i64 z)∧Below w.heap.size w w':=hz ▸ xz5 a m w ha ha2 hm hm2
theorem xy7 {i:Nat} (h:i≤4):12 ^ i≤20736:=Nat.pow_le_pow_right (by decide) h
end Go.Proofs.YtobojnodohjiaaaGreatDoor

set_option linter.unusedVariables false
set_option linter.unusedSimpArgs false
namespace Go.Proofs.YtobojnodohjiaaaGreatDoor
open Go.RowKit
section
variable {w0 W:World} {L:List Fk} {E k n:Nat} {v:Value} {xs:List Value}
theorem qz6 {W':World} {B:Nat} {row:Option Nat} (own:W.ownsRow B E k v n xs) (g:W.grownBy W' row) (hne:∀ j,v.ownBlock=some j→row≠some j):W'.ownsRow B E k v n xs:=by
 obtain ⟨hl,h|⟨b,cap,cur,rfl,h0,hc,h1⟩⟩:=own
 ·exact ⟨hl,.inl h⟩
 ·exact ⟨hl,.inr ⟨b,cap,cur,rfl,h0,(g.block b (show Bx W b E cur from hc).lt (fun e=>hne b rfl e.symm)).trans hc,h1⟩⟩
def Dj (v v2:Value):Prop:=∀ j,v.ownBlock=some j→v2.ownBlock≠some j
theorem Dj.symm {v v2:Value} (h:Dj v v2):Dj v2 v:=fun j h1 h2=>h j h2 h1
theorem qQ_ (v:Value):Dj (.slice none 0 0) v:=fun j h=>by cases h
theorem apY {ops:Array Oper} {rest:List Oper} {o:Oper} {a:Act} {Q:Exit→Act→World→Prop} {ad:Addr} {m c bytes:Nat} {news:List Value} {i:TypeInfo} {z:Value} {E2 k2 n2 E3 k3 n3:Nat} {v2 v3:Value} {xs2 xs3:List Value} (I:Hid (HP w0 W L)) (own:Hid (W.ownsRow w0.heap.size E k v n xs)) (HA:Hid (Apart L v)) (o2:Hid (W.ownsRow w0.heap.size E2 k2 v2 n2 xs2)) (o3:Hid (W.ownsRow w0.heap.size E3 k3 v3 n3 xs3)) (d2:Hid (Dj v v2)) (d3:Hid (Dj v v3)) (s x:Operand) (t:TypeId)
  (hi:Tryz.prog.info? E=some i) (hz:i.zero=some z) (hsize:i.size=k) (hby:i.bytes=bytes) (hzs:z.cells.size=k) (hty:Tryz.prog.underlying t=some (.slice E))
  (h63:n+m≤maxLen) (hbytes:(n+m)*bytes≤140737488355328) (hR:∀ (i:Nat) (v:Value) (m:Nat),L[i]? ≠ some (Sum.inr (v,m)))
  (hv:a.eval s=v) (hx:a.eval x=.slice (some ad) m c) (hnews:Hid (∀ j u,news[j]?=some u→W.cell? (ad.add j)=some u)) (hl:news.length=m*k) (h1:∀ u ∈ news,u.oneCell'=true) (hk:0<k)
  (ho:o.op=.call { callee:=.builtin .append,args:=#[s,x],argTypes:=#[t,t] }) (hgd:o.guard=none)
  (h:∀ v' W',Hid (HP w0 W' L)→Hid (W'.ownsRow w0.heap.size E k v' (n+m) (xs ++ news))→Hid (Apart L v')→Hid (W'.ownsRow w0.heap.size E2 k2 v2 n2 xs2)→Hid (W'.ownsRow w0.heap.size E3 k3 v3 n3 xs3)→Hid (Dj v' v2)→Hid (Dj v' v3)→wpList Tryz.prog ops Q rest (a.put o.dst v') W'):wpList Tryz.prog ops Q (o :: rest) a W:=by
 refine wpList_append_own_at W hgd s x t ho w0.heap.size E i z k bytes hty hi hz hsize hby hzs hk v n xs hv own.out ad m c news hx hl hnews.out h1 h63 hbytes I.out.1.size ?_
 intro v' W' own' grown _ hat
 have dj:∀ {E2 k2 n2:Nat} {v2:Value} {xs2:List Value},W.ownsRow w0.heap.size E2 k2 v2 n2 xs2→Dj v v2→Dj v' v2:=fun o d j hj e=>by
  rcases hat with ha|ha
  ·exact d j (ha ▸ hj) e
  ·have h2:=World.ownsRow.lt o j e
   rw [ha] at hj
   injection hj with hj
   omega
 refine h v' W' (lh_ (I.out.grown (xi9 own.out) HA.out hR grown)) (lh_ own') (lh_ fun j y hy e=>?_) (lh_ (qz6 o2.out grown fun j hj e=>d2.out j e hj)) (lh_ (qz6 o3.out grown fun j hj e=>d3.out j e hj)) (lh_ (dj o2.out d2.out)) (lh_ (dj o3.out d3.out))
 rcases hat with ha|ha
 ·exact HA.out j y hy (ha ▸ e)
 ·have:=I.out.lt j y hy
  rw [e] at ha
  injection ha with ha
  omega
theorem qp2 {B:Nat} {a:Addr} {u:Value} (own:W.ownsRow B E k v n xs) (hne:∀ j,v.ownBlock=some j→j≠a.block):(W.setCell a u).ownsRow B E k v n xs:=by
 obtain ⟨hl,h|⟨b,cap,cur,rfl,h0,hc,h1⟩⟩:=own
 ·exact ⟨hl,.inl h⟩
 ·exact ⟨hl,.inr ⟨b,cap,cur,rfl,h0,(show Bx W b E cur from hc).setOther (hne b rfl) u,h1⟩⟩
end
def ics (g:Nat→Int):Nat→List Value
 | 0=>[]
 | k+1=>ics g k ++ [.int .i64 (g k)]
theorem xn4 (g:Nat→Int) (n:Nat):(ics g n).length=n*1:=by
 induction n with
 | zero=>rfl
 | succ n ih=>rw [ics,List.length_append,ih];show _+1=_;omega
theorem xw3 (g:Nat→Int) (n i:Nat) (hi:i<n):(ics g n)[i]?=some (.int .i64 (g i)):=by
 induction n with
 | zero=>omega
 | succ n ih =>
  have hl:=xn4 g n
  rcases Nat.lt_or_ge i n with h|h
  ·rw [ics,List.getElem?_append_left om]
   exact ih h
  ·obtain rfl:i=n:=by omega
   rw [ics,List.getElem?_append_right om,hl,Nat.mul_one,Nat.sub_self];rfl
theorem qU6 {W:World} {B E n:Nat} {v:Value} {g:Nat→Int} (h:W.ownsRow B E 1 v n (ics g n)) (hn:0<n):Isl W v n g:=by
 obtain ⟨hl,⟨_,h0⟩|⟨b,cap,cur,rfl,hg,hc,h1,h2,h3,h4⟩⟩:=h
 ·omega
 ·refine .inr ⟨b,0,cap,rfl,(Array.getElem?_eq_some_iff.1 hc).1,fun i hi=>?_⟩
  have hlt:i<n*1:=by omega
  have hB:Bx W b E cur:=hc
  rw [Nat.zero_add,hB.cells W (Gr.refl _),← xw3 g n i hi,← h4,List.getElem?_take_of_lt hlt,Array.getElem?_toList]
theorem xo7 {W:World} {B E n:Nat} {v:Value} {f:Nat→Int × Nat} (h:W.ownsRow B E 5 v n (rcs f n)) (hn:0<n):Rs W v n f:=by
 obtain ⟨hl,⟨_,h0⟩|⟨g,cap,cur,rfl,hg,hc,h1,h2,h3,h4⟩⟩:=h
 ·omega
 ·refine .inr ⟨g,0,cap,rfl,(Array.getElem?_eq_some_iff.1 hc).1,fun i hi j hj=>?_⟩
  have hlt:i*5+j<n*5:=by omega
  have hB:Bx W g E cur:=hc
  rw [Nat.zero_add,hB.cells W (Gr.refl _),← qV7 f n i j hi hj,← h4,List.getElem?_take_of_lt hlt,Array.getElem?_toList]
theorem qS6 (W:World) (g:Nat→Int):Isl W (.slice none 0 0) 0 g:=.inl ⟨none,0,rfl,rfl⟩
theorem qK7:(Tryz.prog.info? 3).map (fun i=>(i.zero,i.size,i.bytes))=some (some (.int .i64 0),1,8):=by kernel_rfl
theorem fO {P:World→Prop} {c:Code} {Q:Exit→Act→World→Prop} {a:Act} {w0 W:World} {L L':List Fk} (h:HP w0 W L) (p:P W) (k:∀ W',Hid (HP w0 W' L')→P W'→c.wp Tryz.prog Q a W') (hL:L=L':=by first|(simp only [lA,lB,lC,lF,lG,lH,lI];rfl)|rfl):c.wp Tryz.prog Q a W:=k W (lh_ (hL ▸ h)) p
theorem qO3 {g T:Nat} {cs:Array Value} {v:Value} (h:∀ j,v.ownBlock=some j→j≠g):Apart [Sum.inl (g,T,cs)] v:=fun i x hx e=>by
 rcases i with _|i
 ·simp at hx;subst hx;exact h _ e rfl
 ·simp at hx
theorem Isl.gr {w w':World} {v:Value} {n:Nat} {g:Nat→Int} (h:Isl w v n g) (hg:Gr w w'):Isl w' v n g:=by
 rcases h with h|⟨b,o,c,rfl,hb,hc⟩
 ·exact .inl h
 ·exact .inr ⟨b,o,c,rfl,Nat.lt_of_lt_of_le hb hg.size,fun i hi=>(Below.cell hg (p:=⟨b,o+i,none⟩) hb).trans (hc i hi)⟩
theorem xu9 {f:Nat→Int × Nat} {n:Nat} (h:∃ i,i<n∧(f i).2=0):chv f n 0 0 5 :=
 ⟨fun _=>⟨rfl,rfl,rfl⟩,fun h2=>by obtain ⟨i,hi,h0⟩:=h;have:=h2 i hi;omega⟩
theorem xu8 (f:Nat→Int × Nat) (n:Nat) (hm:∀ i,i<n→(f i).2≤12) (hn:n≤4):∃ R M c,chv f n R M c∧0≤R∧R≤100000000∧M≤100000000∧(c=0∨c=5∨c=6):=by
 by_cases h0:∃ i,i<n∧(f i).2=0
 ·exact ⟨0,0,5,xu9 h0,by omega,by omega,by omega,by omega⟩
 ·have hp:∀ i,i<n→0<(f i).2:=fun i hi=>by
   rcases Nat.eq_zero_or_pos (f i).2 with h|h
   ·exact absurd ⟨i,hi,h⟩ h0
   ·exact h
  cases hc:chn f n with
  | none=>exact ⟨0,0,6,qv4 hp hc,by omega,by omega,by omega,by omega⟩
  | some p =>
   obtain ⟨R,M⟩:=p
   obtain ⟨a1,a2,a3,_⟩:=qf3 hp hc
   have hl:∀ k,k≤n→lcms f k≤12 ^ k:=fun k=>by
    induction k with
    | zero=>intro _;exact Nat.le_refl 1
    | succ k ih =>
     intro hk
     have h1:=ih om
     have h2:=hm k om
     rw [lcms,Nat.pow_succ]
     refine Nat.le_trans (Nat.le_of_dvd ?_ (Nat.lcm_dvd_mul _ _)) (Nat.mul_le_mul h1 h2)
     exact Nat.mul_pos (qq7 f fun i hi=>hp i om) (hp k om)
   have e1:(M:Int) ∣ ((lcms f n:Nat):Int):=qr2 hc _ (fun i hi=>Int.ofNat_dvd.2 (qq6 f hi))
   have e2:=Nat.le_of_dvd (qq7 f hp) (Int.ofNat_dvd.1 e1)
   have e3:=Nat.le_trans e2 (Nat.le_trans (hl n (Nat.le_refl n)) (xy7 hn))
   exact ⟨R,M,0,qg1 hp hc,a2,by omega,by omega,by omega⟩
end Go.Proofs.YtobojnodohjiaaaGreatDoor
