/- A pack of texts: Ten, TenRow, RefA, RefB, RefC, RefD, RefE. No condition but those stated. -/
import Derived.Test.YtobojnodohjiaaaGreatDoorPA
import Derived.Test.YtobojnodohjiaaaGreatDoorPC
set_option maxRecDepth 100000
set_option maxHeartbeats 16000000
set_option linter.unusedVariables false
set_option linter.unusedSimpArgs false
namespace Go.Proofs.YtobojnodohjiaaaGreatDoor
section
def tp (n:Nat):Nat:=10000 ^ n
theorem qp9:tp 0=1:=rfl
theorem qf8 (n:Nat):tp (n+1)=10000*tp n:=by unfold tp;rw [Nat.pow_succ,Nat.mul_comm]
theorem qj0 (m n:Nat):tp (m+n)=tp m*tp n:=by unfold tp;rw [Nat.pow_add]
theorem ql1 (n:Nat):0<tp n:=by unfold tp;exact Nat.pow_pos (by decide)
theorem ql0 {m n:Nat} (h:m≤n):tp m≤tp n:=by unfold tp;exact Nat.pow_le_pow_right (by decide) h
theorem xl4:tp 1=10000:=rfl
def tv (f:Nat→Nat):Nat→Nat
 | 0=>0
 | n+1=>tv f n+f n*tp n
theorem qF1 (f:Nat→Nat):tv f 0=0:=rfl
theorem qc6 (f:Nat→Nat) (n:Nat):tv f (n+1)=tv f n+f n*tp n:=rfl
theorem qs9 {f g:Nat→Nat} {n:Nat} (h:∀ i,i<n→f i=g i):tv f n=tv g n:=by
 induction n with
 | zero=>rfl
 | succ n ih=>rw [qc6,qc6,ih (fun i hi=>h i (by omega)),h n (by omega)]
theorem qZ2 {f:Nat→Nat} {n:Nat} (h:∀ i,i<n→f i<10000):tv f n<tp n:=by
 induction n with
 | zero=>simp [tv,tp]
 | succ n ih =>
  have h1:=ih (fun i hi=>h i (by omega))
  have h2:=h n (by omega)
  have h3:f n*tp n≤9999*tp n:=Nat.mul_le_mul_right _ (by omega)
  rw [qc6,qf8]
  omega
theorem qs_ (f:Nat→Nat) (m n:Nat):tv f (m+n)=tv f m+tp m*tv (fun i=>f (m+i)) n:=by
 induction n with
 | zero=>simp [tv]
 | succ n ih =>
  rw [← Nat.add_assoc,qc6,ih,qc6,Nat.mul_add,qj0,Nat.add_assoc]
  congr 2
  rw [← Nat.mul_assoc,← Nat.mul_assoc,Nat.mul_comm (f (m+n))]
theorem qZ0 (f:Nat→Nat) (n:Nat):tv f (n+1)=f 0+10000*tv (fun i=>f (i+1)) n:=by
 rw [Nat.add_comm n 1,qs_]
 simp [tv,xl4,qp9,Nat.add_comm]
theorem xr6 {f:Nat→Nat} {m n:Nat} (hmn:m≤n) (h:∀ i,m≤i→i<n→f i=0):tv f n=tv f m:=by
 induction n with
 | zero =>
      obtain rfl:m=0:=by omega
      rfl
 | succ n ih =>
  by_cases hm:m=n+1
  ·rw [hm]
  rw [qc6,ih (by omega) (fun i h1 h2=>h i h1 (by omega)),h n (by omega) (by omega)];simp
theorem xy5 {f:Nat→Nat} {n:Nat} (h:f n≠0):tp n≤tv f (n+1):=by
 rw [qc6]
 have:1*tp n≤f n*tp n:=Nat.mul_le_mul_right _ (by omega)
 omega
theorem qZ1 {f g:Nat→Nat} {n i:Nat} (hi:i<n) (hf:∀ j,j<n→f j<10000) (he:∀ j,i<j→j<n→f j=g j) (hl:f i<g i):tv f n<tv g n:=by
 have h1:tv f n=tv f (i+1)+tp (i+1)*tv (fun j=>f (i+1+j)) (n - (i+1)):=by
  rw [← qs_];congr 1;omega
 have h2:tv g n=tv g (i+1)+tp (i+1)*tv (fun j=>g (i+1+j)) (n - (i+1)):=by
  rw [← qs_];congr 1;omega
 have h3:tv (fun j=>f (i+1+j)) (n - (i+1))=tv (fun j=>g (i+1+j)) (n - (i+1)):=qs9 (fun j hj=>he _ (by omega) (by omega))
 have h4:tv f (i+1)<tv g (i+1):=by
  rw [qc6,qc6]
  have h5:=qZ2 (f:=f) (n:=i) (fun j hj=>hf j (by omega))
  have h6:(f i+1)*tp i≤g i*tp i:=Nat.mul_le_mul_right _ (by omega)
  rw [Nat.add_mul] at h6
  omega
 rw [h1,h2,h3];omega
def tg (n i:Nat):Nat:=n / tp i % 10000
theorem qf4 (n i:Nat):tg n i<10000:=Nat.mod_lt _ (by decide)
theorem qZ3 (n k:Nat):tv (tg n) k=n % tp k:=by
 induction k with
 | zero=>simp [tv,tp,Nat.mod_one]
 | succ k ih =>
  rw [qc6,ih,tg,qf8,Nat.mul_comm 10000,Nat.mod_mul,Nat.mul_comm (tp k)]
theorem qc1 {n k:Nat} (h:n<tp k):tv (tg n) k=n:=by rw [qZ3,Nat.mod_eq_of_lt h]
theorem xy2 {f:Nat→Nat} {n:Nat} (hf:∀ j,j<n→f j<10000) {i:Nat} (hi:i<n):tg (tv f n) i=f i:=by
 have h1:tv f n=tv f i+tp i*tv (fun j=>f (i+j)) (n - i):=by
  rw [← qs_];congr 1;omega
 have h2:tv f i<tp i:=qZ2 (fun j hj=>hf j (by omega))
 rw [tg,h1,Nat.add_mul_div_left _ _ (ql1 i),Nat.div_eq_of_lt h2,Nat.zero_add,show n - i=(n - i - 1)+1 by omega,qZ0]
 rw [Nat.add_mul_mod_self_left]
 exact Nat.mod_eq_of_lt (hf _ hi)
def tw (n:Nat):Nat:=if n=0 then 0 else tw (n / 10000)+1
decreasing_by omega
theorem qe_ {n k:Nat}:tw n≤k ↔ n<tp k:=by
 induction n using Nat.strongRecOn generalizing k with
 | ind n ih =>
  rw [tw]
  split
  ·next h=>subst h;simp [ql1]
  ·next h =>
   cases k with
   | zero=>rw [qp9];omega
   | succ k =>
    rw [Nat.add_le_add_iff_right,ih (n / 10000) (by omega),qf8]
    omega
theorem qz_ {n k:Nat}:k<tw n ↔ tp k≤n:=by
 have:=@qe_ n k
 omega
theorem qb1 (n:Nat):n<tp (tw n):=qe_.1 (Nat.le_refl _)
theorem qf3:tw 0=0:=by rw [tw];rfl
theorem qo1 {n:Nat} (h:0<n):0<tw n:=qz_.2 (by rw [qp9];exact h)
theorem qh1 {n:Nat}:tw n=0 ↔ n=0:=by
 have:=@qe_ n 0
 rw [qp9] at this
 omega
theorem qc7 {m n:Nat} (h:m≤n):tw m≤tw n:=qe_.2 (Nat.lt_of_le_of_lt h (qb1 n))
theorem xE0 {n k:Nat} (h1:tp k≤n) (h2:n<tp (k+1)):tw n=k+1:=by
 have a:=qe_.2 h2
 have b:=qz_.2 h1
 omega
theorem qJ8 (a b:Nat):tw (a+b)≤max (tw a) (tw b)+1:=by
 apply qe_.2
 rw [qf8]
 have h1:=Nat.lt_of_lt_of_le (qb1 a) (ql0 (Nat.le_max_left (tw a) (tw b)))
 have h2:=Nat.lt_of_lt_of_le (qb1 b) (ql0 (Nat.le_max_right (tw a) (tw b)))
 omega
theorem qj1 (a b:Nat):tw (a*b)≤tw a+tw b:=by
 apply qe_.2
 rw [qj0]
 exact Nat.mul_lt_mul_of_lt_of_le (qb1 a) (Nat.le_of_lt (qb1 b)) (ql1 _)
theorem xl6 (a b:Nat):tw (a - b)≤tw a:=qc7 (Nat.sub_le _ _)
theorem qo0 (a b:Nat):tw (a / b)≤tw a:=qc7 (Nat.div_le_self _ _)
theorem qr3 (a b:Nat):tw (a % b)≤tw a:=qc7 (Nat.mod_le _ _)
theorem qF3 (a b:Nat) (h:0<a):tw (Nat.gcd a b)≤tw a:=qc7 (Nat.le_of_dvd h (Nat.gcd_dvd_left _ _))
theorem xy6 (a b:Nat):tw (Nat.gcd a b)≤max (tw a) (tw b):=by
 by_cases h:a=0
 ·subst h;rw [Nat.gcd_zero_left];omega
 have:=qF3 a b (by omega);omega
theorem qk9 {n:Nat} (h:n<10000):tw n≤1:=qe_.2 (by rw [xl4];exact h)
theorem xE1 {f:Nat→Nat} {n:Nat} (hf:∀ j,j<n→f j<10000) (ht:0<n→f (n - 1)≠0):tw (tv f n)=n:=by
 cases n with
 | zero=>exact qf3
 | succ n=>exact xE0 (xy5 (ht (by omega))) (qZ2 hf)
theorem xr2 {n k i:Nat} (h:n<tp k) (hi:k≤i):tg n i=0:=by
 rw [tg,Nat.div_eq_of_lt (Nat.lt_of_lt_of_le h (ql0 hi))]
end
section
open Go.RowKit
theorem xr7 (f:Nat→Nat) (n:Nat):tv f (tl f n)=tv f n:=by
 induction n with
 | zero=>rfl
 | succ n ih =>
  unfold tl
  split
  ·next e=>rw [ih,qc6,e];simp
  rfl
theorem xy3 {f:Nat→Nat} {n:Nat} (hf:∀ i,i<n→f i<10000):tl f n=tw (tv f n):=by
 rw [← xr7]
 have:=qO7 f n
 exact (xE1 (fun j hj=>hf j (by omega)) xl3).symm
def dvs (f:Nat→Nat) (n:Nat):List Value:=(List.range n).map fun i=>.int .i64 ((f i:Nat):Int)
theorem qp1 (f:Nat→Nat) (n:Nat):(dvs f n).length=n:=by simp [dvs]
theorem qC9 (f:Nat→Nat) {n i:Nat} (h:i<n):(dvs f n)[i]?=some (.int .i64 ((f i:Nat):Int)):=by simp [dvs,h]
theorem qR6 {f g:Nat→Nat} {n:Nat} (h:∀ i,i<n→f i=g i):dvs f n=dvs g n:=by
 apply List.map_congr_left
 intro i hi
 rw [h i (by simpa using hi)]
theorem xc1 (f:Nat→Nat) (n d:Nat):dvs f n ++ [.int .i64 ((d:Nat):Int)]=dvs (fun i=>if i=n then d else f i) (n+1):=by
 unfold dvs
 rw [List.range_succ,List.map_append]
 congr 1
 ·apply List.map_congr_left
  intro i hi
  have:i<n:=by simpa using hi
  simp [Nat.ne_of_lt this]
 simp
theorem xc2 (f:Nat→Nat) {m n:Nat} (h:m≤n):(dvs f n).take m=dvs f m:=by
 unfold dvs
 rw [← List.map_take,List.take_range,Nat.min_eq_left h]
def Dr (w:World) (B:Nat) (v:Value) (n:Nat) (f:Nat→Nat):Prop:=w.ownsRow B 3 1 v n (dvs f n)
def Rn (w:World) (v:Value) (n:Nat):Prop:=Dr w 0 v (tw n) (tg n)
section
variable {w w':World} {B n:Nat} {v:Value} {f g:Nat→Nat}
theorem Dr.cases (h:Dr w B v n f):(v=.slice none 0 0∧n=0)∨∃ b c,v=.slice (some ⟨b,0,none⟩) n c∧B≤b∧b<w.heap.size∧n≤c∧c≤9223372036854775807∧(∀ i,i<n→w.cell? ⟨b,i,none⟩=some (.int .i64 ((f i:Nat):Int)))∧(∀ i,w.frozen? ⟨b,i,none⟩=false):=by
 have h0:=h
 rcases h.2 with hn|⟨b,c,cur,rfl,hb,hg,hc,hm,hs,ht⟩
 ·exact .inl hn
 refine .inr ⟨b,c,rfl,hb,(Array.getElem?_eq_some_iff.1 hg).1,hc,hm,fun i hi=>?_,fun i=>h0.frozenAt i⟩
 rw [World.ownsRow.cellAt h0 i (by omega),qC9 f hi]
theorem Dr.slice (h:Dr w B v n f):∃ ao c,v=.slice ao n c∧n≤c∧c≤9223372036854775807:=by
 rcases h.cases with ⟨rfl,rfl⟩|⟨b,c,rfl,_,_,h1,h2,_⟩
 ·exact ⟨none,0,rfl,Nat.le_refl _,by decide⟩
 exact ⟨_,_,rfl,h1,h2⟩
theorem Dr.congr (h:Dr w B v n f) (e:∀ i,i<n→f i=g i):Dr w B v n g:=by unfold Dr at *; rw [← qR6 e];exact h
theorem Dr.gr (h:Dr w B v n f) (hg:Gr w w'):Dr w' B v n f:=by
 refine ⟨h.1,?_⟩
 rcases h.2 with hn|⟨b,c,cur,rfl,hb,hh,rest⟩
 ·exact .inl hn
 exact .inr ⟨b,c,cur,rfl,hb,hg.block hh,rest⟩
theorem Dr.mono {C:Nat} (h:Dr w B v n f) (hC:C≤B):Dr w C v n f:=by
 refine ⟨h.1,?_⟩
 rcases h.2 with hn|⟨b,c,cur,rfl,hb,rest⟩
 ·exact .inl hn
 exact .inr ⟨b,c,cur,rfl,Nat.le_trans hC hb,rest⟩
theorem Dr.below {C:Nat} (h:Dr w 0 v n f) (hb:Below C w w') (hlt:∀ k,v.ownBlock=some k→k<C):Dr w' 0 v n f:=by
 refine ⟨h.1,?_⟩
 rcases h.2 with hn|⟨b,c,cur,rfl,hb0,hh,rest⟩
 ·exact .inl hn
 exact .inr ⟨b,c,cur,rfl,hb0,(hb.block b (hlt b rfl)).trans hh,rest⟩
theorem Dr.drew (h:Dr w B v n f):Dr w.drew B v n f:=h
theorem Dr.drewN (h:Dr w B v n f) (k:Nat):Dr (w.drewN k) B v n f:=h
theorem Dr.alloc (h:Dr w B v n f) (o:Obj):Dr (w.alloc o) B v n f:=h.gr (Gr.alloc w o)
theorem Dr.nil (w:World) (B:Nat) (f:Nat→Nat):Dr w B (.slice none 0 0) 0 f:=World.ownsRow_nil _ _ _ _
theorem Dr.take {m:Nat} {ao:Option Addr} {c:Nat} (h:Dr w B (.slice ao n c) n f) (hm:m≤n):Dr w B (.slice ao m c) m f:=by
 refine ⟨by simp [qp1],?_⟩
 rcases h.2 with ⟨e,rfl⟩|⟨b,c',cur,e,hb,hh,h1,h2,h3,h4⟩
 ·obtain rfl:m=0:=by omega
  exact .inl ⟨e,rfl⟩
 injection e with e1 e2 e3
 subst e1 e3
 refine .inr ⟨b,c,cur,rfl,hb,hh,Nat.le_trans hm h1,h2,h3,?_⟩
 have e:=congrArg (List.take (m*1)) h4
 rw [List.take_take,Nat.min_eq_left (by omega)] at e
 rw [e,Nat.mul_one,xc2 f hm]
theorem Dr.snoc {d:Nat} (h:w.ownsRow B 3 1 v (n+1) (dvs f n ++ [.int .i64 ((d:Nat):Int)])):Dr w B v (n+1) (fun i=>if i=n then d else f i):=by
 unfold Dr
 rw [← xc1]
 exact h
theorem Dr.own (h:Dr w B v n f):∀ k,v.ownBlock=some k→B≤k∧k<w.heap.size:=World.ownsRow.lt h
theorem Rn.of (h:Dr w B v (tl f n) f) (hf:∀ i,i<n→f i<10000):Rn w v (tv f n):=by
 have e:=xy3 hf
 have hle:=qO7 f n
 unfold Rn
 rw [← e]
 refine (h.mono (Nat.zero_le _)).congr fun i hi=>?_
 rw [← xr7,xy2 (fun j hj=>hf j (by omega)) hi]
theorem Rn.gr {k:Nat} (h:Rn w v k) (hg:Gr w w'):Rn w' v k:=Dr.gr h hg
end
theorem qg6 (W:World) (x:Value) (T:TypeId):∀ j u,[x][j]?=some u→(W.alloc (.cells #[x] T)).cell? ((⟨W.heap.size,0,none⟩:Addr).add j)=some u:=by
 intro j u hj
 match j,hj with
 | 0,hj=>simp at hj;subst hj;simp [Addr.add,go_sem]
theorem ql6 (k:IntKind) (n:Int):∀ u ∈ [Value.int k n],u.oneCell'=true:=by intro u hu;simp at hu;subst hu;rfl
theorem qk3:(Tryz.prog.info? 3).map (fun i=>(i.zero,i.size,i.bytes))=some (some (.int .i64 0),1,8):=by kernel_rfl
end
section
open Go.RowKit
theorem qh4 {w0 wr w1:World} {v v':Value} {k d:Nat} {f:Nat→Nat} {o:Obj} (hb:Below w0.heap.size w0 wr) (ho:Dr wr w0.heap.size v k f)
  (hown:w1.ownsRow w0.heap.size 3 1 v' (k+1) (dvs f k ++ [.int .i64 ((d:Nat):Int)])) (hg:(wr.alloc o).grownBy w1 v.ownBlock) :
  Below w0.heap.size w0 w1∧Dr w1 w0.heap.size v' (k+1) (fun i=>if i=k then d else f i) :=
 ⟨(hb.alloc hb.size o).grown hg (Nat.le_trans hb.size (by simp)) (fun j hj=>(ho.own j hj).1),Dr.snoc hown⟩
theorem qh_ (v:Value) (B n:Nat) (f:Nat→Nat) (w:World) (h:Dr w B v n f) :
  Calls Tryz.prog 243 #[v] w fun e w'=>(∃ v',e=.returned v'∧Dr w B v' (tl f n) f)∧w=w':=by
 rcases h.cases with ⟨rfl,rfl⟩|⟨b,c,rfl,_,_,hnc,hc,hcell,_⟩
 ·have HD:=Lib.hid h
  clear h
  go_enter Tryz.func243,Tryz.ntmps243
  go_wp2
  go_loop [0] (fun l=>l=.slice none 0 0) (fun l=>qM4 l)
  case atStart=>rfl
  case round =>
   obtain rfl:=hrel
   go_wp2
   go_ret
   exact ⟨⟨_,rfl,HD.out⟩,rfl⟩
 have HD:=Lib.hid h
 clear h
 go_enter Tryz.func243,Tryz.ntmps243
 go_wp2
 go_loop [0] (fun l=>∃ m:Nat,m≤n∧l=.slice (some ⟨b,0,none⟩) m c∧Hid (tl f m=tl f n)) (fun l=>qM4 l)
 case atStart=>exact ⟨n,Nat.le_refl _,rfl,Lib.hid rfl⟩
 case round =>
  obtain ⟨m,hm,rfl,HT⟩:=hrel
  rcases m with _|m
  ·go_wp2
   go_ret
   exact ⟨⟨_,rfl,by rw [← HT.out];exact HD.out.take (Nat.zero_le _)⟩,rfl⟩
  have h1:=hcell m (by omega)
  clear hcell
  by_cases h0:f m=0
  ·have h2:(((f m:Nat):Int) == 0)=true:=by simp [h0]
   have H0:=Lib.hid h0
   clear h0
   go_wp2
   go_round
   case rel=>exact ⟨m,by omega,rfl,Lib.hid (by rw [← HT.out,qY_ H0.out])⟩
   case measure=>simp [qM4]
  have h2:(((f m:Nat):Int) == 0)=false:=by simpa using h0
  have H0:=Lib.hid h0
  clear h0
  go_wp2
  go_ret
  exact ⟨⟨_,rfl,by rw [← HT.out,qY9 H0.out];exact HD.out.take hm⟩,rfl⟩
theorem xu1 (v:Value) (B n:Nat) (f:Nat→Nat) (w:World) (i:Nat) (hi:i≤4611686018427387904) (h:Dr w B v n f) :
  Calls Tryz.prog 245 #[v,.int .i64 ((i:Nat):Int)] w fun e w'=>e=.returned (.int .i64 ((if i<n then f i else 0:Nat):Int))∧w=w':=by
 rcases h.cases with ⟨rfl,rfl⟩|⟨b,c,rfl,_,_,hnc,hc,hcell,_⟩
 ·clear h
  rw [if_neg (Nat.not_lt_zero i)]
  go_enter Tryz.func245,Tryz.ntmps245
  go_wp2
  go_ret
  exact ⟨rfl,rfl⟩
 clear h
 by_cases hlt:i<n
 ·have h1:=hcell i hlt
  clear hcell
  rw [if_pos hlt]
  go_enter Tryz.func245,Tryz.ntmps245
  go_wp2
  go_ret
  exact ⟨rfl,rfl⟩
 clear hcell
 rw [if_neg hlt]
 go_enter Tryz.func245,Tryz.ntmps245
 go_wp2
 go_ret
 exact ⟨rfl,rfl⟩
theorem qF0 (N k:Nat):N / tp k % 10000=tg N k:=rfl
theorem qH5 (N k:Nat):N / tp k / 10000=N / tp (k+1):=by rw [Nat.div_div_eq_div_mul,qf8,Nat.mul_comm]
theorem qj_ (N:Nat) (w:World) (hN:N<18446744073709551616) :
  Calls Tryz.prog 179 #[.int .u64 ((N:Nat):Int)] w fun e w'=>(∃ v',e=.returned v'∧Rn w' v' N)∧Below w.heap.size w w':=by
 obtain ⟨i0,hi,hz0,hz1,hz2⟩:=info_parts qk3
 have hwN:tw N≤5:=qe_.2 (Nat.lt_of_lt_of_le hN (by decide))
 go_enter Tryz.func179,Tryz.ntmps179
 go_wp2
 go_loopw [0,3] (fun m v wr=>∃ k:Nat,k≤tw N∧m=.int .u64 ((N / tp k:Nat):Int)∧Hid (Dr wr w.heap.size v k (tg N))∧Hid (Below w.heap.size w wr)) (fun m _ _=>(intOf m).toNat)
 case atStart=>exact ⟨0,Nat.zero_le _,by rw [qp9,Nat.div_one],Lib.hid (Dr.nil _ _ _),Lib.hid (Below.refl _ _)⟩
 case round =>
  obtain ⟨k,hk,rfl,HD,HB⟩:=hrel
  obtain ⟨m,hm⟩:∃ m,N / tp k=m:=⟨_,rfl⟩
  have hmN:m≤N:=by rw [← hm];exact Nat.div_le_self _ _
  have HM:=Lib.hid hm
  rw [hm]
  clear hm
  by_cases h0:m=0
  ·have e:tw N=k:=by
    have h1:tw N≤k:=qe_.2 (by have:=HM.out;rw [h0] at this;exact (Nat.div_eq_zero_iff.1 this).resolve_left (Nat.ne_of_gt (ql1 k)))
    omega
   have HE:=Lib.hid e
   subst h0
   clear e
   go_wp2
   go_ret
   refine ⟨⟨_,rfl,?_⟩,HB.out⟩
   unfold Rn
   rw [HE.out]
   exact HD.out.mono (Nat.zero_le _)
  have hk1:k+1≤tw N:=qz_.2 (by
   have h2:=HM.out
   rcases Nat.lt_or_ge N (tp k) with h3|h3
   ·rw [Nat.div_eq_of_lt h3] at h2;exact absurd h2.symm h0
   exact h3)
  have hsz:=HB.out.size
  go_wp2_with (first
   | (at_builtin;refine wpList_append_own _ rfl (.tmp 6) (.tmp 10) 43 rfl w.heap.size 3 i0 (.int .i64 0) 1 8 Tryz.underlying43 hi hz0 hz1 hz2 rfl (by decide) _ _ _ rfl (HD.out.alloc _) ⟨wr.heap.size,0,none⟩ 1 1 [.int .i64 ((m % 10000:Nat):Int)] (by simp [Act.eval,Act.put]) rfl ?c1 ?c2 ?c3 ?c4 ?c5 ?_)
   | fail)
  case c1 =>
   intro j u hj
   match j,hj with
   | 0,hj=>simp at hj;subst hj;simp [Addr.add]
  case c2=>intro u hu;simp at hu;subst hu;rfl
  case c3=>unfold maxLen;omega
  case c4=>omega
  case c5=>simp;omega
  ·intro v' w1 hown' hgrow _
   have R:=qh4 HB.out HD.out hown' hgrow
   have H1:=Lib.hid R.1
   have H2:=Lib.hid R.2
   clear R hown' hgrow
   go_wp2
   go_roundw
   case rel =>
    refine ⟨k+1,hk1,by rw [← qH5,HM.out];go_num,Lib.hid (H2.out.congr fun i hi=>?_),H1⟩
    split
    ·next e=>rw [e,← qF0,HM.out];rfl
    rfl
   case measure=>simp [intOf];omega
end
section
open Go.RowKit
theorem ql_ (v:Value) (x:Nat) (w:World) (i:Nat) (hi:i≤4611686018427387904) (h:Rn w v x) :
  Calls Tryz.prog 245 #[v,.int .i64 ((i:Nat):Int)] w fun e w'=>e=.returned (.int .i64 ((tg x i:Nat):Int))∧w=w':=by
 refine (xu1 v 0 (tw x) (tg x) w i hi h).mono ?_
 rintro e w' ⟨rfl,rfl⟩
 refine ⟨?_,rfl⟩
 by_cases hlt:i<tw x
 ·rw [if_pos hlt]
 rw [if_neg hlt,xr2 (qb1 x) (by omega)]
def rac (F G:Nat→Nat):Nat→Nat
 | 0=>0
 | k+1=>(F k+G k+rac F G k) / 10000
def rad (F G:Nat→Nat) (k:Nat):Nat:=(F k+G k+rac F G k) % 10000
theorem qn4 (F G:Nat→Nat) (k:Nat):rac F G (k+1)=(F k+G k+rac F G k) / 10000:=rfl
theorem xx1 {F G:Nat→Nat} (hF:∀ i,F i<10000) (hG:∀ i,G i<10000) (k:Nat):rac F G k≤1:=by
 induction k with
 | zero=>exact Nat.zero_le _
 | succ k ih=>have:=hF k;have:=hG k;rw [qn4];omega
theorem qW_ (F G:Nat→Nat) (k:Nat):tv (rad F G) k+rac F G k*tp k=tv F k+tv G k:=by
 induction k with
 | zero=>simp [tv,rac]
 | succ k ih =>
  rw [qc6,qc6,qc6,qn4,qf8]
  have e:rad F G k+10000*((F k+G k+rac F G k) / 10000)=F k+G k+rac F G k:=Nat.mod_add_div _ _
  generalize (F k+G k+rac F G k) / 10000=q at *
  have e2:(rad F G k+10000*q)*tp k=(F k+G k+rac F G k)*tp k:=by rw [e]
  have e3:q*(10000*tp k)=10000*q*tp k:=by rw [← Nat.mul_assoc,Nat.mul_comm q]
  rw [e3]
  simp only [Nat.add_mul] at e2
  omega
theorem xx2 (F G:Nat→Nat) (k:Nat):rad F G k<10000:=Nat.mod_lt _ (by decide)
theorem qx8 (v u:Value) (x y:Nat) (w:World) (hx:Rn w v x) (hy:Rn w u y) (bx:tw x≤1000000000) (by':tw y≤1000000000) :
  Calls Tryz.prog 220 #[v,u] w fun e w'=>(∃ v',e=.returned v'∧Rn w' v' (x+y))∧Below w.heap.size w w':=by
 obtain ⟨i0,hi,hz0,hz1,hz2⟩:=info_parts qk3
 obtain ⟨ao,ca,rfl,hca,hca2⟩:=hx.slice
 obtain ⟨bo,cb,rfl,hcb,hcb2⟩:=hy.slice
 obtain ⟨n,hn⟩:∃ n,tw x=n:=⟨_,rfl⟩
 obtain ⟨m,hm⟩:∃ m,tw y=m:=⟨_,rfl⟩
 rw [hn] at hx hca bx ⊢
 rw [hm] at hy hcb by' ⊢
 have HN:=Lib.hid hn
 have HM:=Lib.hid hm
 have HX:=Lib.hid hx
 have HY:=Lib.hid hy
 clear hx hy hn hm
 go_enter Tryz.func220,Tryz.ntmps220
 go_wp2
 go_loopw [5,6,7] (fun v c i wr=>∃ k c':Nat,k≤n+m+1∧i=.int .i64 ((k:Nat):Int)∧c=.int .i64 ((c':Nat):Int)∧Hid (rac (tg x) (tg y) k=c')∧Hid (Dr wr w.heap.size v k (rad (tg x) (tg y)))∧Hid (Below w.heap.size w wr)) (fun _ _ i _=>n+m+2 - (intOf i).toNat)
 case atStart=>exact ⟨0,0,Nat.zero_le _,rfl,rfl,Lib.hid rfl,Lib.hid (Dr.nil _ _ _),Lib.hid (Below.refl _ _)⟩
 case round =>
  obtain ⟨k,c,hk,rfl,rfl,HC,HD,HB⟩:=hrel
  have hc1:c≤1:=by rw [← HC.out];exact xx1 (qf4 x) (qf4 y) k
  have hend:n≤k→m≤k→0<c→k<n+m+1:=by
   intro h1 h2 h3
   rcases Nat.lt_or_ge k (n+m+1) with h|h
   ·exact h
   exfalso
   have e:=qW_ (tg x) (tg y) k
   rw [HC.out,qZ3,qZ3] at e
   have e1:1*tp k≤c*tp k:=Nat.mul_le_mul_right _ h3
   have hxk:x<tp (k - 1):=Nat.lt_of_lt_of_le (qb1 x) (ql0 (by rw [HN.out];omega))
   have hyk:y<tp (k - 1):=Nat.lt_of_lt_of_le (qb1 y) (ql0 (by rw [HM.out];omega))
   have h4:x % tp k≤x:=Nat.mod_le _ _
   have h5:y % tp k≤y:=Nat.mod_le _ _
   have h6:tp k=10000*tp (k - 1):=by rw [← qf8];congr 1;omega
   omega
  by_cases h1:k<n
  ·replace hend:k<n+m+1:=by omega
   have hsz:=HB.out.size
   have hD:=qf4 x k
   have hE:=qf4 y k
   go_wp2_with fail
   refine (ql_ _ x wr k (by omega) (HX.out.gr HB.out)).mono ?_
   rintro e w1 ⟨rfl,rfl⟩
   go_wp2_with fail
   refine (ql_ _ y wr k (by omega) (HY.out.gr HB.out)).mono ?_
   rintro e w1 ⟨rfl,rfl⟩
   obtain ⟨s,HS⟩:∃ s,Hid (tg x k+tg y k+c=s):=⟨_,Lib.hid rfl⟩
   have hs:((tg x k:Nat):Int)+((tg y k:Nat):Int)+((c:Nat):Int)=((s:Nat):Int):=by have:=HS.out;omega
   have hs2:s≤20000:=by have:=HS.out;omega
   go_wp2_with (first|(at_builtin;refine wpList_append_own _ rfl (.tmp 34) (.tmp 37) 43 rfl w.heap.size 3 i0 (.int .i64 0) 1 8 Tryz.underlying43 hi hz0 hz1 hz2 rfl (by decide) _ _ _ (by simp [Act.eval,Act.put]) (HD.out.alloc _) ⟨wr.heap.size,0,none⟩ 1 1 [.int .i64 ((s % 10000:Nat):Int)] (by simp [Act.eval,Act.put]) rfl (qg6 _ _ _) (ql6 _ _) (by unfold maxLen;omega) (by omega) (by simp;omega) ?_)|fail)
   ·intro v' w1 hown' hgrow _
    have R:=qh4 HB.out HD.out hown' hgrow
    have H1:=Lib.hid R.1
    have H2:=Lib.hid R.2
    clear R hown' hgrow
    go_wp2
    go_roundw
    case rel =>
     refine ⟨k+1,s / 10000,by omega,by go_num,by go_num,Lib.hid (by rw [qn4,HC.out,HS.out]),Lib.hid (H2.out.congr fun i hi=>?_),H1⟩
     split
     ·next e=>rw [e,rad,HC.out,HS.out];rfl
     rfl
    case measure=>simp [intOf];omega
  by_cases h2:k<m
  ·replace hend:k<n+m+1:=by omega
   have hsz:=HB.out.size
   have hD:=qf4 x k
   have hE:=qf4 y k
   go_wp2_with fail
   refine (ql_ _ x wr k (by omega) (HX.out.gr HB.out)).mono ?_
   rintro e w1 ⟨rfl,rfl⟩
   go_wp2_with fail
   refine (ql_ _ y wr k (by omega) (HY.out.gr HB.out)).mono ?_
   rintro e w1 ⟨rfl,rfl⟩
   obtain ⟨s,HS⟩:∃ s,Hid (tg x k+tg y k+c=s):=⟨_,Lib.hid rfl⟩
   have hs:((tg x k:Nat):Int)+((tg y k:Nat):Int)+((c:Nat):Int)=((s:Nat):Int):=by have:=HS.out;omega
   have hs2:s≤20000:=by have:=HS.out;omega
   go_wp2_with (first|(at_builtin;refine wpList_append_own _ rfl (.tmp 34) (.tmp 37) 43 rfl w.heap.size 3 i0 (.int .i64 0) 1 8 Tryz.underlying43 hi hz0 hz1 hz2 rfl (by decide) _ _ _ (by simp [Act.eval,Act.put]) (HD.out.alloc _) ⟨wr.heap.size,0,none⟩ 1 1 [.int .i64 ((s % 10000:Nat):Int)] (by simp [Act.eval,Act.put]) rfl (qg6 _ _ _) (ql6 _ _) (by unfold maxLen;omega) (by omega) (by simp;omega) ?_)|fail)
   ·intro v' w1 hown' hgrow _
    have R:=qh4 HB.out HD.out hown' hgrow
    have H1:=Lib.hid R.1
    have H2:=Lib.hid R.2
    clear R hown' hgrow
    go_wp2
    go_roundw
    case rel =>
     refine ⟨k+1,s / 10000,by omega,by go_num,by go_num,Lib.hid (by rw [qn4,HC.out,HS.out]),Lib.hid (H2.out.congr fun i hi=>?_),H1⟩
     split
     ·next e=>rw [e,rad,HC.out,HS.out];rfl
     rfl
    case measure=>simp [intOf];omega
  by_cases h3:0<c
  ·replace hend:k<n+m+1:=hend (by omega) (by omega) h3
   have hsz:=HB.out.size
   have hD:=qf4 x k
   have hE:=qf4 y k
   go_wp2_with fail
   refine (ql_ _ x wr k (by omega) (HX.out.gr HB.out)).mono ?_
   rintro e w1 ⟨rfl,rfl⟩
   go_wp2_with fail
   refine (ql_ _ y wr k (by omega) (HY.out.gr HB.out)).mono ?_
   rintro e w1 ⟨rfl,rfl⟩
   obtain ⟨s,HS⟩:∃ s,Hid (tg x k+tg y k+c=s):=⟨_,Lib.hid rfl⟩
   have hs:((tg x k:Nat):Int)+((tg y k:Nat):Int)+((c:Nat):Int)=((s:Nat):Int):=by have:=HS.out;omega
   have hs2:s≤20000:=by have:=HS.out;omega
   go_wp2_with (first|(at_builtin;refine wpList_append_own _ rfl (.tmp 34) (.tmp 37) 43 rfl w.heap.size 3 i0 (.int .i64 0) 1 8 Tryz.underlying43 hi hz0 hz1 hz2 rfl (by decide) _ _ _ (by simp [Act.eval,Act.put]) (HD.out.alloc _) ⟨wr.heap.size,0,none⟩ 1 1 [.int .i64 ((s % 10000:Nat):Int)] (by simp [Act.eval,Act.put]) rfl (qg6 _ _ _) (ql6 _ _) (by unfold maxLen;omega) (by omega) (by simp;omega) ?_)|fail)
   ·intro v' w1 hown' hgrow _
    have R:=qh4 HB.out HD.out hown' hgrow
    have H1:=Lib.hid R.1
    have H2:=Lib.hid R.2
    clear R hown' hgrow
    go_wp2
    go_roundw
    case rel =>
     refine ⟨k+1,s / 10000,by omega,by go_num,by go_num,Lib.hid (by rw [qn4,HC.out,HS.out]),Lib.hid (H2.out.congr fun i hi=>?_),H1⟩
     split
     ·next e=>rw [e,rad,HC.out,HS.out];rfl
     rfl
    case measure=>simp [intOf];omega
  clear hend
  have hsz:=HB.out.size
  go_wp2_with fail
  refine (qh_ _ _ _ _ _ HD.out).mono ?_
  rintro e w1 ⟨⟨v',rfl,hv⟩,rfl⟩
  have HV:=Lib.hid hv
  clear hv
  go_wp2
  go_ret
  refine ⟨⟨_,rfl,?_⟩,HB.out⟩
  have R:=Rn.of HV.out (fun i _=>xx2 _ _ i)
  have e:=qW_ (tg x) (tg y) k
  rw [HC.out,qZ3,qZ3] at e
  have hxk:x<tp k:=Nat.lt_of_lt_of_le (qb1 x) (ql0 (by rw [HN.out];omega))
  have hyk:y<tp k:=Nat.lt_of_lt_of_le (qb1 y) (ql0 (by rw [HM.out];omega))
  rw [Nat.mod_eq_of_lt hxk,Nat.mod_eq_of_lt hyk] at e
  have e0:c*tp k=0:=by rw [show c=0 by omega,Nat.zero_mul]
  rw [show x+y=tv (rad (tg x) (tg y)) k by omega]
  exact R
end
section
open Go.RowKit
theorem xy7 {x y:Nat} (h:tw x<tw y):x<y:=Nat.lt_of_lt_of_le (qb1 x) (qz_.1 h)
theorem qn5 (v u:Value) (x y:Nat) (w:World) (hx:Rn w v x) (hy:Rn w u y) (bx:tw x≤1000000000) (by':tw y≤1000000000) :
  Calls Tryz.prog 219 #[v,u] w fun e w'=>e=.returned (.int .i64 (cmpI x y))∧Below w.heap.size w w':=by
 obtain ⟨n,HN⟩:∃ n,Hid (tw x=n):=⟨_,Lib.hid rfl⟩
 obtain ⟨m,HM⟩:∃ m,Hid (tw y=m):=⟨_,Lib.hid rfl⟩
 have hcx:=hx.cases
 have hcy:=hy.cases
 rw [HN.out] at hcx bx
 rw [HM.out] at hcy by'
 clear hx hy
 have hlt:n<m→cmpI x y = -1:=fun h=>ql3 (by have:=xy7 (x:=x) (y:=y) (by rw [HN.out,HM.out];exact h);omega)
 have hgt:m<n→cmpI x y=1:=fun h=>qo9 (by have:=xy7 (x:=y) (y:=x) (by rw [HN.out,HM.out];exact h);omega)
 by_cases hnm:n=m
 ·subst hnm
  clear hlt hgt
  by_cases h0:n=0
  ·subst h0
   have hxy:cmpI x y=0:=qw5 (by
    have a:=qh1.1 HN.out
    have b:=qh1.1 HM.out
    omega)
   have HE:=Lib.hid hxy
   clear hxy
   obtain ⟨ao,ca,rfl⟩:∃ ao ca,v=.slice ao 0 ca:=by rcases hcx with ⟨e,_⟩|⟨b,c,e,_⟩; exact ⟨_,_,e⟩; exact ⟨_,_,e⟩
   obtain ⟨bo,cb,rfl⟩:∃ ao ca,u=.slice ao 0 ca:=by rcases hcy with ⟨e,_⟩|⟨b,c,e,_⟩; exact ⟨_,_,e⟩; exact ⟨_,_,e⟩
   clear hcx hcy
   go_enter Tryz.func219,Tryz.ntmps219
   go_wp2_with fail
   go_loop [5] (fun i=>i=.int .i64 (-1)) (fun _=>0)
   case atStart=>rfl
   case round =>
    obtain rfl:=hrel
    go_wp2
    go_ret
    exact ⟨by rw [HE.out];rfl,Below.refl _ _⟩
  obtain ⟨b,ca,rfl,-,-,hca,hca2,hx,-⟩:=hcx.resolve_left (fun h=>h0 h.2)
  obtain ⟨b',cb,rfl,-,-,hcb,hcb2,hy,-⟩:=hcy.resolve_left (fun h=>h0 h.2)
  have HX:=Lib.hid hx
  have HY:=Lib.hid hy
  clear hcx hcy hx hy
  go_enter Tryz.func219,Tryz.ntmps219
  go_wp2_with fail
  go_loopw [5] (fun i wr=>∃ j:Nat,j≤n∧i=.int .i64 ((j:Int) - 1)∧(∀ t,j≤t→t<n→tg x t=tg y t)∧∃ q,wr=w.drewN q) (fun i _=>(intOf i+1).toNat)
  case atStart=>exact ⟨n,Nat.le_refl _,by simp,fun t h1 h2=>by omega,0,rfl⟩
  case round =>
   obtain ⟨j,hj,rfl,heq,q,rfl⟩:=hrel
   rcases j with _|j
   ·have hxy:x=y:=by
     rw [← qc1 (qb1 x),← qc1 (qb1 y),HN.out,HM.out]
     exact qs9 fun t ht=>heq t (Nat.zero_le _) ht
    have HE:=Lib.hid hxy
    clear heq hxy
    rw [show (((0:Nat):Int) - 1) = -1 from rfl]
    go_wp2
    go_ret
    exact ⟨by rw [HE.out,qw5 rfl];rfl,qa0 (Below.refl _ _) _⟩
   rw [show (((j+1:Nat):Int) - 1)=(j:Int) from by omega]
   have h1:=HX.out j (by omega)
   have h2:=HY.out j (by omega)
   have HQ:=Lib.hid heq
   clear heq
   have hi0:(0:Int)≤(j:Int):=by omega
   have hi1:(j:Int)<(n:Int):=by omega
   by_cases e:tg x j=tg y j
   ·have e1:¬ tg x j<tg y j:=by omega
    have e2:¬ tg y j<tg x j:=by omega
    have HE:=Lib.hid e
    clear e
    go_wp2_with fail
    go_quiet (fail)
    go_wp2_with fail
    go_quiet (fail)
    go_wp2
    go_roundw
    case rel=>exact ⟨j,by omega,rfl,fun t h1 h2=>by
     rcases Nat.eq_or_lt_of_le h1 with h|h
     ·exact h ▸ HE.out
     exact HQ.out t h h2,_,rfl⟩
    case measure=>simp [intOf]
   have HE:=Lib.hid e
   clear e
   by_cases l:tg x j<tg y j
   ·have hres:x<y:=by
     rw [← qc1 (qb1 x),← qc1 (qb1 y),HN.out,HM.out]
     exact qZ1 (i:=j) (by omega) (fun _ _=>qf4 _ _) (fun t h1 h2=>HQ.out t h1 h2) l
    have HR:=Lib.hid (show cmpI x y = -1 from ql3 (by omega))
    clear hres
    go_wp2_with fail
    go_quiet (fail)
    go_wp2
    go_ret
    exact ⟨by rw [HR.out];rfl,qa0 (qa0 (Below.refl _ _) _) _⟩
   have hres:y<x:=by
    rw [← qc1 (qb1 x),← qc1 (qb1 y),HN.out,HM.out]
    exact qZ1 (i:=j) (by omega) (fun _ _=>qf4 _ _) (fun t h1 h2=>(HQ.out t h1 h2).symm) (by have:=HE.out;omega)
   have HR:=Lib.hid (show cmpI x y=1 from qo9 (by omega))
   have l2:tg y j<tg x j:=by have:=HE.out;omega
   clear hres
   go_wp2_with fail
   go_quiet (fail)
   go_wp2_with fail
   go_quiet (fail)
   go_wp2
   go_ret
   exact ⟨by rw [HR.out];rfl,qa0 (qa0 (qa0 (Below.refl _ _) _) _) _⟩
 rcases Nat.lt_or_ge n m with h|h
 ·have HR:=Lib.hid (hlt h)
  obtain ⟨ao,ca,rfl⟩:∃ ao ca,v=.slice ao n ca:=by rcases hcx with ⟨e,e2⟩|⟨b,c,e,_⟩; exact ⟨_,_,by rw [e,e2]⟩; exact ⟨_,_,e⟩
  obtain ⟨bo,cb,rfl⟩:∃ ao ca,u=.slice ao m ca:=by rcases hcy with ⟨e,e2⟩|⟨b,c,e,_⟩; exact ⟨_,_,by rw [e,e2]⟩; exact ⟨_,_,e⟩
  clear hcx hcy hlt hgt
  go_enter Tryz.func219,Tryz.ntmps219
  go_wp2_with fail
  go_ret
  exact ⟨by rw [HR.out];rfl,Below.refl _ _⟩
 have hgm:m<n:=by omega
 have HR:=Lib.hid (hgt hgm)
 obtain ⟨ao,ca,rfl⟩:∃ ao ca,v=.slice ao n ca:=by rcases hcx with ⟨e,e2⟩|⟨b,c,e,_⟩; exact ⟨_,_,by rw [e,e2]⟩; exact ⟨_,_,e⟩
 obtain ⟨bo,cb,rfl⟩:∃ ao ca,u=.slice ao m ca:=by rcases hcy with ⟨e,e2⟩|⟨b,c,e,_⟩; exact ⟨_,_,by rw [e,e2]⟩; exact ⟨_,_,e⟩
 clear hcx hcy hlt hgt
 go_enter Tryz.func219,Tryz.ntmps219
 go_wp2_with fail
 go_ret
 exact ⟨by rw [HR.out];rfl,Below.refl _ _⟩
theorem qz7 (x k:Nat):10000*(x / tp (k+1))+tg x k=x / tp k:=by
 rw [← qH5,← qF0]
 omega
theorem qI2 (v:Value) (x s:Nat) (w:World) (hx:Rn w v x) (bx:tw x≤s+4) (hs:s≤1000000000) :
  Calls Tryz.prog 242 #[v,.int .i64 ((s:Nat):Int)] w fun e w'=>e=.returned (.int .i64 ((x / tp s:Nat):Int))∧w=w':=by
 obtain ⟨n,HN⟩:∃ n,Hid (tw x=n):=⟨_,Lib.hid rfl⟩
 have hcx:=hx.cases
 rw [HN.out] at hcx bx
 clear hx
 have hbig:x / tp s<10000000000000000:=by
  refine Nat.div_lt_of_lt_mul ?_
  have h1:=qb1 x
  have h2:tp (tw x)≤tp (s+4):=ql0 (by rw [HN.out];exact bx)
  rw [qj0] at h2
  have h3:tp 4=10000000000000000:=by decide
  rw [h3] at h2
  omega
 have hmono:∀ k,s≤k→x / tp k≤x / tp s:=fun k hk=>Nat.div_le_div_left (ql0 hk) (ql1 s)
 obtain ⟨r0,HR0⟩:∃ r,Hid (x / tp s=r):=⟨_,Lib.hid rfl⟩
 rw [HR0.out] at hbig hmono ⊢
 have HMO:=Lib.hid hmono
 clear hmono
 by_cases hns:n≤s
 ·obtain rfl:r0=0:=by rw [← HR0.out];exact Nat.div_eq_of_lt (Nat.lt_of_lt_of_le (qb1 x) (ql0 (by rw [HN.out];exact hns)))
  obtain ⟨ao,ca,rfl⟩:∃ ao ca,v=.slice ao n ca:=by rcases hcx with ⟨e,e2⟩|⟨b,c,e,_⟩; exact ⟨_,_,by rw [e,e2]⟩; exact ⟨_,_,e⟩
  clear hcx
  go_enter Tryz.func242,Tryz.ntmps242
  go_wp2_with fail
  go_loop [5,6] (fun z i=>z=.int .i64 0∧i=.int .i64 ((n:Int) - 1)) (fun _ _=>0)
  case atStart=>exact ⟨rfl,rfl⟩
  case round =>
   obtain ⟨rfl,rfl⟩:=hrel
   have h1:decide ((s:Int)≤(n:Int) - 1)=false:=decide_eq_false (by omega)
   go_wp2
   go_ret
   exact ⟨rfl,rfl⟩
 obtain ⟨b,ca,rfl,-,-,hca,hca2,hx,-⟩:=hcx.resolve_left (fun h=>by omega)
 have HX:=Lib.hid hx
 clear hcx hx
 go_enter Tryz.func242,Tryz.ntmps242
 go_wp2_with fail
 go_loop [5,6] (fun z i=>∃ k q:Nat,s≤k∧k≤n∧i=.int .i64 ((k:Int) - 1)∧z=.int .i64 ((q:Nat):Int)∧Hid (x / tp k=q)) (fun _ i=>(intOf i+1).toNat)
 case atStart=>exact ⟨n,0,by omega,Nat.le_refl _,by simp,rfl,Lib.hid (Nat.div_eq_of_lt (by rw [← HN.out];exact qb1 x))⟩
 case round =>
  obtain ⟨k,q,hsk,hkn,rfl,rfl,HQ⟩:=hrel
  by_cases h:s=k
  ·subst h
   obtain rfl:q=r0:=by rw [← HQ.out,← HR0.out]
   have h1:decide ((s:Int)≤(s:Int) - 1)=false:=decide_eq_false (by omega)
   go_wp2
   go_ret
   exact ⟨rfl,rfl⟩
  obtain ⟨j,rfl⟩:∃ j,k=j+1:=⟨k - 1,by omega⟩
  rw [show (((j+1:Nat):Int) - 1)=(j:Int) from by omega]
  have h1:=HX.out j (by omega)
  have hm:=HMO.out j (by omega)
  have hl:=qz7 x j
  have hd:=qf4 x j
  obtain ⟨r,HR⟩:∃ r,Hid (x / tp j=r):=⟨_,Lib.hid rfl⟩
  rw [HQ.out,HR.out] at hl
  rw [HR.out] at hm
  have HL:=Lib.hid hl
  have hqr:10000*q≤r:=by omega
  have hsj:(s:Int)≤(j:Int):=by omega
  clear hl
  go_wp2
  go_round
  case rel=>exact ⟨j,r,by omega,by omega,rfl,by rw [← HL.out];go_num,HR⟩
  case measure=>simp [intOf]
end
section
open Go.RowKit
theorem xq0 (v:Value) (x:Nat) (w:World) (i:Nat) (hi:i≤4611686018427387904) (h:Rn w v x) :
  Calls Tryz.prog 245 #[v,.int .i64 ((i:Nat):Int)] w fun e w'=>e=.returned (.int .i64 ((tg x i:Nat):Int))∧w'=w :=
 (ql_ v x w i hi h).mono fun _ _ h=>⟨h.1,h.2.symm⟩
def rlb (F G:Nat→Nat):Nat→Nat
 | 0=>0
 | k+1=>if F k<G k+rlb F G k then 1 else 0
def rld (F G:Nat→Nat) (k:Nat):Nat:=F k+10000*rlb F G (k+1) - (G k+rlb F G k)
theorem qs7 (F G:Nat→Nat) (k:Nat):rlb F G (k+1)=if F k<G k+rlb F G k then 1 else 0:=rfl
theorem xk6 (F G:Nat→Nat) (k:Nat):rlb F G k≤1:=by
 cases k with
 | zero=>exact Nat.zero_le _
 | succ k=>rw [qs7];split <;> omega
theorem xk7 {F G:Nat→Nat} (hG:∀ i,G i<10000) (k:Nat):rld F G k+(G k+rlb F G k)=F k+10000*rlb F G (k+1):=by
 unfold rld
 have h1:=hG k
 have h2:=xk6 F G k
 rw [qs7]
 split <;> omega
theorem xk8 {F G:Nat→Nat} (hF:∀ i,F i<10000) (hG:∀ i,G i<10000) (k:Nat):rld F G k<10000:=by
 have h:=xk7 (F:=F) hG k
 have h0:=hF k
 rw [qs7] at h
 split at h <;> omega
theorem xq1 {F G:Nat→Nat} (hG:∀ i,G i<10000) (k:Nat):tv F k+rlb F G k*tp k=tv G k+tv (rld F G) k:=by
 induction k with
 | zero=>simp [tv,rlb]
 | succ k ih =>
  rw [qc6,qc6,qc6,qf8]
  have e:=xk7 (F:=F) hG k
  generalize rlb F G (k+1)=q at *
  have e2:(rld F G k+(G k+rlb F G k))*tp k=(F k+10000*q)*tp k:=by rw [e]
  have e3:q*(10000*tp k)=10000*q*tp k:=by rw [← Nat.mul_assoc,Nat.mul_comm q]
  rw [e3]
  simp only [Nat.add_mul] at e2
  omega
theorem qJ5 (v u:Value) (x y:Nat) (w:World) (hx:Rn w v x) (hy:Rn w u y) (hle:y≤x) (bx:tw x≤1000000000) (by':tw y≤1000000000) :
  Calls Tryz.prog 244 #[v,u] w fun e w'=>(∃ v',e=.returned v'∧Rn w' v' (x - y))∧Below w.heap.size w w':=by
 obtain ⟨i0,hi,hz0,hz1,hz2⟩:=info_parts qk3
 obtain ⟨bo,cb,rfl,hcb,hcb2⟩:=hy.slice
 obtain ⟨n,hn⟩:∃ n,tw x=n:=⟨_,rfl⟩
 have hcx:=hx.cases
 obtain ⟨m,hm⟩:∃ m,tw y=m:=⟨_,rfl⟩
 rw [hn] at hcx bx
 rw [hm] at hy hcb by' ⊢
 have HN:=Lib.hid hn
 have HY:=Lib.hid hy
 have HLE:=Lib.hid hle
 clear hx hy hn hm hle
 have hdone:∀ (k c:Nat) (v:Value) (wr:World),n=k→rlb (tg x) (tg y) k=c→Dr wr w.heap.size v (tl (rld (tg x) (tg y)) k) (rld (tg x) (tg y))→Rn wr v (x - y):=by
  intro k c v wr hk hc hd
  have R:=Rn.of hd (fun i _=>xk8 (qf4 x) (qf4 y) i)
  have e:=xq1 (F:=tg x) (qf4 y) k
  have hxk:x<tp k:=by rw [← hk,← HN.out];exact qb1 x
  have hyk:y<tp k:=Nat.lt_of_le_of_lt HLE.out hxk
  rw [qc1 hxk,qc1 hyk] at e
  have h1:=qZ2 (f:=rld (tg x) (tg y)) (n:=k) (fun i _=>xk8 (qf4 x) (qf4 y) i)
  have h2:=xk6 (tg x) (tg y) k
  have h3:=HLE.out
  rcases (show rlb (tg x) (tg y) k=0∨rlb (tg x) (tg y) k=1 by omega) with h|h
  ·rw [h,Nat.zero_mul] at e
   rw [show x - y=tv (rld (tg x) (tg y)) k by omega]
   exact R
  rw [h,Nat.one_mul] at e
  omega
 have HDONE:=Lib.hid hdone
 clear hdone
 by_cases hn0:n=0
 ·subst hn0
  obtain ⟨ao,ca,rfl⟩:∃ ao ca,v=.slice ao 0 ca:=by rcases hcx with ⟨e,_⟩|⟨b,c,e,_⟩; exact ⟨_,_,e⟩; exact ⟨_,_,e⟩
  clear hcx
  go_enter Tryz.func244,Tryz.ntmps244
  go_wp2
  go_loopw [5,6,7] (fun v c i wr=>v=.slice none 0 0∧i=.int .i64 0∧c=.int .i64 0∧w=wr) (fun _ _ i _=>0)
  case atStart=>exact ⟨rfl,rfl,rfl,rfl⟩
  case round =>
   obtain ⟨rfl,rfl,rfl,rfl⟩:=hrel
   go_wp2_with fail
   refine (qh_ _ w.heap.size 0 (rld (tg x) (tg y)) _ (Dr.nil _ _ _)).mono ?_
   rintro e w1 ⟨⟨v',rfl,hv⟩,rfl⟩
   have HV:=Lib.hid hv
   clear hv
   go_wp2
   go_ret
   exact ⟨⟨_,rfl,HDONE.out 0 0 _ _ rfl rfl HV.out⟩,Below.refl _ _⟩
 obtain ⟨b,ca,rfl,-,hbl,hca,hca2,hx,-⟩:=hcx.resolve_left (fun h=>hn0 h.2)
 have HX:=Lib.hid hx
 clear hcx hx
 go_enter Tryz.func244,Tryz.ntmps244
 go_wp2
 go_loopw [5,6,7] (fun v c i wr=>∃ k c':Nat,k≤n∧c'≤1∧i=.int .i64 ((k:Nat):Int)∧c=.int .i64 ((c':Nat):Int)∧Hid (rlb (tg x) (tg y) k=c')∧Hid (Dr wr w.heap.size v k (rld (tg x) (tg y)))∧Hid (Below w.heap.size w wr)) (fun _ _ i _=>n - (intOf i).toNat)
 case atStart=>exact ⟨0,0,Nat.zero_le _,by decide,rfl,rfl,Lib.hid rfl,Lib.hid (Dr.nil _ _ _),Lib.hid (Below.refl _ _)⟩
 case round =>
  obtain ⟨k,c,hk,hc1,rfl,rfl,HC,HD,HB⟩:=hrel
  by_cases hkn:k<n
  ·have hsz:=HB.out.size
   have h1:wr.cell? ⟨b,k,none⟩=some (.int .i64 ((tg x k:Nat):Int)):=(HB.out.cell (p:=⟨b,k,none⟩) hbl).trans (HX.out k hkn)
   have hD:=qf4 x k
   have hE:=qf4 y k
   obtain ⟨s,hs⟩:∃ s:Int,((tg x k:Nat):Int) - ((tg y k:Nat):Int) - ((c:Nat):Int)=s:=⟨_,rfl⟩
   have hs1:-10000≤s:=by omega
   have hs2:s≤9999:=by omega
   have hld:rld (tg x) (tg y) k=tg x k+10000*rlb (tg x) (tg y) (k+1) - (tg y k+c):=by rw [← HC.out];rfl
   have hlb:rlb (tg x) (tg y) (k+1)=if tg x k<tg y k+c then 1 else 0:=by rw [qs7,HC.out]
   have HP:Hid (0≤s→rlb (tg x) (tg y) (k+1)=0∧((rld (tg x) (tg y) k:Nat):Int)=s):=Lib.hid (by
    intro h;rw [if_neg (by omega)] at hlb;rw [hlb] at hld;exact ⟨hlb,by omega⟩)
   have HQ:Hid (s<0→rlb (tg x) (tg y) (k+1)=1∧((rld (tg x) (tg y) k:Nat):Int)=s+10000):=Lib.hid (by
    intro h;rw [if_pos (by omega)] at hlb;rw [hlb] at hld;exact ⟨hlb,by omega⟩)
   clear hlb hld
   go_wp2_with fail
   go_quiet (first|(go_at_call 245;exact Calls.quiet_of_same (xq0 _ y _ k (by omega) (HY.out.gr (qa0 HB.out _))))|fail)
   obtain ⟨wq,HWQ⟩:∃ wq,Hid (wr.drewN nq=wq):=⟨_,Lib.hid rfl⟩
   rw [HWQ.out]
   replace HB:Hid (Below w.heap.size w wq):=Lib.hid (by rw [← HWQ.out];exact qa0 HB.out _)
   replace HD:Hid (Dr wq w.heap.size _ k (rld (tg x) (tg y))):=Lib.hid (by rw [← HWQ.out];exact HD.out.drewN nq)
   replace hsz:=HB.out.size
   try rw [show IntKind.i64.wrap (IntKind.i64.wrap (((tg x k:Nat):Int) - ((tg y k:Nat):Int)) - ((c:Nat):Int))=s by rw [IntKind.wrap_i64,IntKind.wrap_i64];omega]
   clear h1 HWQ hs
   by_cases hneg:s<0
   ·obtain ⟨d,hd⟩:∃ d:Nat,s+10000=((d:Nat):Int):=⟨(s+10000).toNat,by omega⟩
    have HLB:=Lib.hid (HQ.out hneg).1
    have HLD:Hid (rld (tg x) (tg y) k=d):=Lib.hid (by have:=(HQ.out hneg).2;omega)
    go_wp2_with (first|(at_builtin;refine wpList_append_own _ rfl (.tmp 29) (.tmp 31) 43 rfl w.heap.size 3 i0 (.int .i64 0) 1 8 Tryz.underlying43 hi hz0 hz1 hz2 rfl (by decide) _ _ _ (by simp [Act.eval,Act.put]) (HD.out.alloc _) ⟨wq.heap.size,0,none⟩ 1 1 [.int .i64 ((d:Nat):Int)] (by simp [Act.eval,Act.put]) rfl (qg6 _ _ _) (ql6 _ _) (by unfold maxLen;omega) (by omega) (by simp;omega) ?_)|fail)
    ·intro v' w1 hown' hgrow _
     have R:=qh4 HB.out HD.out hown' hgrow
     have H1:=Lib.hid R.1
     have H2:=Lib.hid R.2
     clear R hown' hgrow
     go_wp2
     go_roundw
     case rel =>
      refine ⟨k+1,1,by omega,by decide,by go_num,rfl,Lib.hid HLB.out,Lib.hid (H2.out.congr fun i hi=>?_),H1⟩
      split
      ·next e=>rw [e];exact (HLD.out).symm
      rfl
     case measure=>simp [intOf];omega
   obtain ⟨d,rfl⟩:∃ d:Nat,s=((d:Nat):Int):=⟨s.toNat,by omega⟩
   have HLB:=Lib.hid (HP.out (by omega)).1
   have HLD:Hid (rld (tg x) (tg y) k=d):=Lib.hid (by have:=(HP.out (by omega)).2;omega)
   go_wp2_with (first|(at_builtin;refine wpList_append_own _ rfl (.tmp 29) (.tmp 31) 43 rfl w.heap.size 3 i0 (.int .i64 0) 1 8 Tryz.underlying43 hi hz0 hz1 hz2 rfl (by decide) _ _ _ (by simp [Act.eval,Act.put]) (HD.out.alloc _) ⟨wq.heap.size,0,none⟩ 1 1 [.int .i64 ((d:Nat):Int)] (by simp [Act.eval,Act.put]) rfl (qg6 _ _ _) (ql6 _ _) (by unfold maxLen;omega) (by omega) (by simp;omega) ?_)|fail)
   ·intro v' w1 hown' hgrow _
    have R:=qh4 HB.out HD.out hown' hgrow
    have H1:=Lib.hid R.1
    have H2:=Lib.hid R.2
    clear R hown' hgrow
    go_wp2
    go_roundw
    case rel =>
     refine ⟨k+1,0,by omega,by decide,by go_num,rfl,Lib.hid HLB.out,Lib.hid (H2.out.congr fun i hi=>?_),H1⟩
     split
     ·next e=>rw [e];exact (HLD.out).symm
     rfl
    case measure=>simp [intOf];omega
  obtain rfl:n=k:=by omega
  have hsz:=HB.out.size
  go_wp2_with fail
  refine (qh_ _ _ _ _ _ HD.out).mono ?_
  rintro e w1 ⟨⟨v',rfl,hv⟩,rfl⟩
  have HV:=Lib.hid hv
  clear hv
  go_wp2
  go_ret
  exact ⟨⟨_,rfl,HDONE.out _ _ _ _ rfl rfl HV.out⟩,HB.out⟩
end
section
open Go.RowKit
theorem qg2 {z:Int} (h0:-9223372036854775808≤z) (h1:z≤9223372036854775807):IntKind.i64.wrap z=z:=by rw [IntKind.wrap_i64];omega
theorem xl5 (F:Nat→Nat) {j N:Nat} (v:Nat) (hj:j<N):tv (fun t=>if t=j then v else F t) N+F j*tp j=tv F N+v*tp j:=by
 induction N with
 | zero=>omega
 | succ N ih =>
  rw [qc6,qc6]
  by_cases e:j=N
  ·subst e
   rw [if_pos rfl,qs9 (g:=F) (fun i hi=>by simp [show ¬ i=j by omega])]
   omega
  have:=ih (by omega)
  rw [if_neg (by omega)]
  omega
theorem qA4 {A A' V y d e f c Yk Pk Pi r q t Pj:Nat} (hPj:Pj=Pi*Pk) (ht:t=f+d*e+c) (hr:r+10000*q=t)
  (hA:A'+f*Pj=A+r*Pj) (h:A+c*Pj=V*y+d*Yk*Pi):A'+q*(10000*Pj)=V*y+d*(Yk+e*Pk)*Pi:=by
 have h1:r*Pj+q*(10000*Pj)=(f+d*e+c)*Pj:=by rw [← ht,← hr];grind
 have h2:(f+d*e+c)*Pj=d*e*Pj+f*Pj+c*Pj:=by grind
 have h3:d*(Yk+e*Pk)*Pi=d*Yk*Pi+d*e*Pj:=by rw [hPj];grind
 omega
section
variable {w:World} {B n g cap:Nat} {f:Nat→Nat}
theorem Dr.cellAt (h:Dr w B (.slice (some ⟨g,0,none⟩) n cap) n f) {i:Nat} (hi:i<n):w.cell? ⟨g,i,none⟩=some (.int .i64 ((f i:Nat):Int)):=by
 rw [World.ownsRow.cellAt h i (by omega),qC9 f hi]
theorem Dr.frozenAt (h:Dr w B (.slice (some ⟨g,0,none⟩) n cap) n f) (i:Nat):w.frozen? ⟨g,i,none⟩=false:=World.ownsRow.frozenAt h i
theorem xn1 (f:Nat→Nat) (n j d:Nat):(dvs f n).set j (.int .i64 ((d:Nat):Int))=dvs (fun i=>if i=j then d else f i) n:=by
 apply List.ext_getElem?
 intro i
 unfold dvs
 rw [List.getElem?_set]
 by_cases hi:i<n
 ·by_cases e:j=i
  ·subst e;simp [hi]
  simp [hi,e,Ne.symm e]
 by_cases e:j=i
 ·subst e;simp [hi]
 simp [hi,e]
theorem Dr.store (h:Dr w B (.slice (some ⟨g,0,none⟩) n cap) n f) (j d:Nat) (_hj:j<n):Dr (w.setCell ⟨g,j,none⟩ (.int .i64 ((d:Nat):Int))) B (.slice (some ⟨g,0,none⟩) n cap) n (fun i=>if i=j then d else f i):=by
 have:=(World.ownsRow.stored h j (.int .i64 ((d:Nat):Int))).1
 rw [xn1] at this
 exact this
theorem Dr.made (W:World) (hB:B≤W.heap.size) (n:Nat) (hn:n≤1000000000000):Dr (W.alloc (.cells (madeCells #[.int .i64 0] n) 3)) B (.slice (some ⟨W.heap.size,0,none⟩) n n) n (fun _=>0):=by
 have h:=World.ownsRow_lit (base:=B) (e:=3) (size:=1) W (madeCells #[.int .i64 0] n) n hB (by unfold maxLen;omega) (by simp [madeCells])
 rw [toList_madeCells_one] at h
 unfold Dr
 rw [show dvs (fun _=>0) n=List.replicate n (.int .i64 0) from by unfold dvs;rw [List.map_const'];simp]
 exact h
end
theorem qD6 (k:Int) (n:Nat) (hk:k=(n:Int)) (h:n≤1000000000000) (W:World):(Instr.makeSlice 43 (.int .i64 k) (.int .i64 k)).run Tryz.prog W=.ok (.slice (some ⟨W.heap.size,0,none⟩) n n) (W.alloc (.cells (madeCells #[.int .i64 0] n) 3)):=by
 subst hk
 exact run_make_row' (P:=Tryz.prog) 43 3 (.int .i64 0) 8 Tryz.underlying43 qk3 rfl .i64 .i64 n (by omega) (by omega) W
theorem qs8 (v u:Value) (x y:Nat) (w:World) (hx:Rn w v x) (hy:Rn w u y) (bx:tw x≤1000000000) (by':tw y≤1000000000) :
  Calls Tryz.prog 178 #[v,u] w fun e w'=>(∃ v',e=.returned v'∧Rn w' v' (x*y))∧Below w.heap.size w w':=by
 obtain ⟨bo,cb,rfl,hcb,hcb2⟩:=hy.slice
 obtain ⟨n,hn⟩:∃ n,tw x=n:=⟨_,rfl⟩
 have hcx:=hx.cases
 obtain ⟨m,hm⟩:∃ m,tw y=m:=⟨_,rfl⟩
 rw [hn] at hcx bx
 rw [hm] at hy hcb by' ⊢
 have HN:=Lib.hid hn
 have HM:=Lib.hid hm
 have HY:=Lib.hid hy
 clear hx hy hn hm
 have hdone:∀ (v:Value) (wr:World) (F:Nat→Nat),Dr wr w.heap.size v (tl F (n+m)) F→(∀ t,t<n+m→F t<10000)→tv F (n+m)=tv (tg x) n*y→Rn wr v (x*y):=by
  intro v wr F hd hF hv
  have R:=Rn.of hd hF
  rw [hv,qc1 (by rw [← HN.out];exact qb1 x)] at R
  exact R
 have HDONE:=Lib.hid hdone
 clear hdone
 have hmk:=qD6 ((n:Int)+(m:Int)) (n+m) (by omega) (by omega)
 have HMADE:=Lib.hid (Dr.made (B:=w.heap.size) w (Nat.le_refl _) (n+m) (by omega))
 have hz0:Hid (tv (fun _=>0) (n+m)=0):=Lib.hid (by rw [xr6 (m:=0) (Nat.zero_le _) (fun _ _ _=>rfl)];rfl)
 by_cases hn0:n=0
 ·subst hn0
  obtain ⟨ao,ca,rfl⟩:∃ ao ca,v=.slice ao 0 ca:=by rcases hcx with ⟨e,_⟩|⟨b,c,e,_⟩; exact ⟨_,_,e⟩; exact ⟨_,_,e⟩
  clear hcx hmk
  have hmk:=qD6 (m:Int) m rfl (by omega)
  go_enter Tryz.func178,Tryz.ntmps178
  go_wp2_with fail
  rw [show (0:Nat)+m=m from Nat.zero_add m] at *
  obtain ⟨W1,HW⟩:∃ W1,Hid (w.alloc (.cells (madeCells #[.int .i64 0] m) 3)=W1):=⟨_,Lib.hid rfl⟩
  have HB1:Hid (Below w.heap.size w W1):=Lib.hid (by rw [← HW.out];exact (Below.refl _ _).alloc (Nat.le_refl _) _)
  rw [HW.out] at HMADE ⊢
  clear hmk HW
  go_loopw [6] (fun i wr=>i=.int .i64 0∧W1=wr) (fun i _=>0)
  case atStart=>exact ⟨rfl,rfl⟩
  case round =>
   obtain ⟨rfl,rfl⟩:=hrel
   go_wp2_with fail
   have hdr:Dr W1 w.heap.size (.slice (some ⟨w.heap.size,0,none⟩) m m) m (fun _=>0):=HMADE.out
   refine (qh_ _ w.heap.size m (fun _=>0) _ hdr).mono ?_
   rintro e w1 ⟨⟨v',rfl,hv⟩,rfl⟩
   have HV:=Lib.hid hv
   clear hv hdr
   go_wp2
   go_ret
   exact ⟨⟨_,rfl,HDONE.out _ _ _ HV.out (fun _ _=>(by decide:0<10000)) (by rw [hz0.out,qF1,Nat.zero_mul])⟩,HB1.out⟩
 obtain ⟨b,ca,rfl,-,hbl,hca,hca2,hx,-⟩:=hcx.resolve_left (fun h=>hn0 h.2)
 have HX:=Lib.hid hx
 clear hcx hx
 go_enter Tryz.func178,Tryz.ntmps178
 go_wp2_with fail
 obtain ⟨W1,HW⟩:∃ W1,Hid (w.alloc (.cells (madeCells #[.int .i64 0] (n+m)) 3)=W1):=⟨_,Lib.hid rfl⟩
 have HB1:Hid (Below w.heap.size w W1):=Lib.hid (by rw [← HW.out];exact (Below.refl _ _).alloc (Nat.le_refl _) _)
 rw [HW.out] at HMADE ⊢
 clear hmk HW
 go_loopw [6] (fun i wr=>∃ (i':Nat) (F:Nat→Nat),i'≤n∧i=.int .i64 ((i':Nat):Int)∧Hid (Dr wr w.heap.size (.slice (some ⟨w.heap.size,0,none⟩) (n+m) (n+m)) (n+m) F)∧Hid (∀ t,t<n+m→F t<10000)∧Hid (tv F (n+m)=tv (tg x) i'*y)∧Hid (Below w.heap.size w wr)) (fun i _=>n - (intOf i).toNat)
 case atStart=>exact ⟨0,fun _=>0,Nat.zero_le _,rfl,HMADE,Lib.hid (fun _ _=>(by decide:0<10000)),Lib.hid (by rw [hz0.out,qF1,Nat.zero_mul]),HB1⟩
 case round =>
  obtain ⟨i,F,hi,rfl,HD,HF,HV,HB⟩:=hrel
  clear HB1 HMADE
  by_cases hin:i<n
  ·have hk0:IntKind.i64.wrap 0=0:=rfl
   go_wp2_with fail
   obtain ⟨wo,rfl⟩:∃ wo:World,wo=wr:=⟨_,rfl⟩
   go_loopw [7,8] (fun c k wr=>∃ (k' c':Nat) (F:Nat→Nat),k'≤m+1∧c'≤9999+9999∧k=.int .i64 ((k':Nat):Int)∧c=.int .i64 ((c':Nat):Int)∧Hid (Dr wr w.heap.size (.slice (some ⟨w.heap.size,0,none⟩) (n+m) (n+m)) (n+m) F)∧Hid (∀ t,t<n+m→F t<10000)∧Hid (tv F (n+m)+c'*tp (i+k')=tv (tg x) i*y+tg x i*tv (tg y) k'*tp i)∧Hid (Below w.heap.size w wr)) (fun _ k _=>m+2 - (intOf k).toNat)
   case atStart=>exact ⟨0,0,F,by omega,by omega,rfl,rfl,HD,HF,Lib.hid (by rw [HV.out,qF1];simp),HB⟩
   case round =>
    clear HD HF HV HB
    obtain ⟨k,c,F,hk,hc,rfl,rfl,HD,HF,HV,HB⟩:=hrel
    have hlast:m≤k→0<c→k<m+1∧i+k<n+m:=by
     intro h1 h2
     have e:=HV.out
     have hy2:tv (tg y) k=y:=qc1 (Nat.lt_of_lt_of_le (qb1 y) (ql0 (by rw [HM.out];exact h1)))
     rw [hy2] at e
     have h3:1*tp (i+k)≤c*tp (i+k):=Nat.mul_le_mul_right _ h2
     have h4:tv (tg x) i*y+tg x i*y*tp i=tv (tg x) (i+1)*y:=by rw [qc6];grind
     have h5:tv (tg x) (i+1)<tp (i+1):=qZ2 (fun j _=>qf4 x j)
     have h6:y<tp m:=by rw [← HM.out];exact qb1 y
     have h7:tv (tg x) (i+1)*y<tp (i+1+m):=by rw [qj0];exact Nat.mul_lt_mul_of_lt_of_le h5 (Nat.le_of_lt h6) (ql1 _)
     have h8:tp (i+k)<tp (i+1+m):=by omega
     have h9:i+k<i+1+m:=by
      rcases Nat.lt_or_ge (i+k) (i+1+m) with h|h
      ·exact h
      exact absurd (ql0 h) (by omega)
     omega
    by_cases hkm:k<m
    ·have hik:i+k<n+m:=by omega
     clear hlast
     have hsz:=HB.out.size
     obtain ⟨j,hj⟩:∃ j:Nat,(i:Int)+(k:Int)=(j:Int):=⟨i+k,by omega⟩
     have hji:i+k=j:=by omega
     rw [hji] at hik
     have h1:wr.cell? ⟨b,i,none⟩=some (.int .i64 ((tg x i:Nat):Int)):=(HB.out.cell (p:=⟨b,i,none⟩) hbl).trans (HX.out i hin)
     have h2:=HD.out.cellAt (i:=j) hik
     have hD:=qf4 x i
     have hE:=qf4 y k
     have hF:=HF.out j hik
     obtain ⟨P,hP,HP⟩:∃ P:Nat,((tg x i:Nat):Int)*((tg y k:Nat):Int)=(P:Int)∧Hid (tg x i*tg y k=P):=⟨tg x i*tg y k,(Int.natCast_mul _ _).symm,Lib.hid rfl⟩
     have hPb:P≤99980001:=by rw [← HP.out];exact Nat.mul_le_mul (show tg x i≤9999 by omega) (show tg y k≤9999 by omega)
     obtain ⟨f,HFF⟩:∃ f,Hid (F j=f):=⟨_,Lib.hid rfl⟩
     rw [HFF.out] at h2 hF
     have HJI:=Lib.hid hji
     have hj0:(0:Int)≤(j:Int):=by omega
     have hj1:(j:Int)<(n:Int)+(m:Int):=by omega
     have hwj:IntKind.i64.wrap ((j:Nat):Int)=(j:Int):=qg2 (by omega) (by omega)
     have hin':(i:Int)<(n:Int):=by omega
     clear hji
     go_wp2_with fail
     go_quiet (first|(go_at_call 245;exact Calls.quiet_of_same (xq0 _ y _ k (by omega) (HY.out.gr (qa0 HB.out _))))|fail)
     obtain ⟨wq,HWQ⟩:∃ wq,Hid (wr.drewN nq=wq):=⟨_,Lib.hid rfl⟩
     rw [HWQ.out]
     replace HB:Hid (Below w.heap.size w wq):=Lib.hid (by rw [← HWQ.out];exact qa0 HB.out _)
     replace HD:Hid (Dr wq w.heap.size (.slice (some ⟨w.heap.size,0,none⟩) (n+m) (n+m)) (n+m) F):=Lib.hid (by rw [← HWQ.out];exact HD.out.drewN nq)
     replace hsz:=HB.out.size
     obtain ⟨s,hs⟩:∃ s,f+P+c=s:=⟨_,rfl⟩
     have hs2:s≤100010000:=by omega
     first
      | rw [show IntKind.i64.wrap (IntKind.i64.wrap (((f:Nat):Int)+IntKind.i64.wrap ((P:Nat):Int))+((c:Nat):Int))=((s:Nat):Int) by rw [qg2 (z:=((P:Nat):Int)) (by omega) (by omega),qg2 (z:=((f:Nat):Int)+((P:Nat):Int)) (by omega) (by omega),qg2 (by omega) (by omega)];omega]
      | rw [show ((f:Nat):Int)+((P:Nat):Int)+((c:Nat):Int)=((s:Nat):Int) by omega]
     have HS:=Lib.hid hs
     have hfr:=HD.out.frozenAt j
     have h3:=HD.out.cellAt (i:=j) hik
     clear h1 h2 HWQ hs hP
     go_wp2_with fail
     go_roundw
     case rel =>
      refine ⟨k+1,s / 10000,_,by omega,by omega,by go_num,by go_num,Lib.hid (HD.out.store j (s % 10000) hik),Lib.hid (fun t ht=>?_),Lib.hid ?_,Lib.hid (HB.out.setCell (Nat.le_refl _) _)⟩
      ·by_cases e:t=j
       ·simp [e];omega
       simp [e];exact HF.out t ht
      have hv:=HV.out
      rw [← Nat.add_assoc,HJI.out,qf8,qc6]
      rw [HJI.out] at hv
      refine qA4 (by rw [← HJI.out];exact qj0 i k) ?_ (Nat.mod_add_div _ _) (xl5 F _ hik) hv
      rw [HP.out,HFF.out]
      have:=HS.out
      omega
     case measure=>simp [intOf];omega
    by_cases hc0:0<c
    ·obtain ⟨hk',hik⟩:=hlast (by omega) hc0
     clear hlast
     have hsz:=HB.out.size
     obtain ⟨j,hj⟩:∃ j:Nat,(i:Int)+(k:Int)=(j:Int):=⟨i+k,by omega⟩
     have hji:i+k=j:=by omega
     rw [hji] at hik
     have h1:wr.cell? ⟨b,i,none⟩=some (.int .i64 ((tg x i:Nat):Int)):=(HB.out.cell (p:=⟨b,i,none⟩) hbl).trans (HX.out i hin)
     have h2:=HD.out.cellAt (i:=j) hik
     have hD:=qf4 x i
     have hE:=qf4 y k
     have hF:=HF.out j hik
     obtain ⟨P,hP,HP⟩:∃ P:Nat,((tg x i:Nat):Int)*((tg y k:Nat):Int)=(P:Int)∧Hid (tg x i*tg y k=P):=⟨tg x i*tg y k,(Int.natCast_mul _ _).symm,Lib.hid rfl⟩
     have hPb:P≤99980001:=by rw [← HP.out];exact Nat.mul_le_mul (show tg x i≤9999 by omega) (show tg y k≤9999 by omega)
     obtain ⟨f,HFF⟩:∃ f,Hid (F j=f):=⟨_,Lib.hid rfl⟩
     rw [HFF.out] at h2 hF
     have HJI:=Lib.hid hji
     have hj0:(0:Int)≤(j:Int):=by omega
     have hj1:(j:Int)<(n:Int)+(m:Int):=by omega
     have hwj:IntKind.i64.wrap ((j:Nat):Int)=(j:Int):=qg2 (by omega) (by omega)
     have hin':(i:Int)<(n:Int):=by omega
     clear hji
     go_wp2_with fail
     go_quiet (first|(go_at_call 245;exact Calls.quiet_of_same (xq0 _ y _ k (by omega) (HY.out.gr (qa0 HB.out _))))|fail)
     obtain ⟨wq,HWQ⟩:∃ wq,Hid (wr.drewN nq=wq):=⟨_,Lib.hid rfl⟩
     rw [HWQ.out]
     replace HB:Hid (Below w.heap.size w wq):=Lib.hid (by rw [← HWQ.out];exact qa0 HB.out _)
     replace HD:Hid (Dr wq w.heap.size (.slice (some ⟨w.heap.size,0,none⟩) (n+m) (n+m)) (n+m) F):=Lib.hid (by rw [← HWQ.out];exact HD.out.drewN nq)
     replace hsz:=HB.out.size
     obtain ⟨s,hs⟩:∃ s,f+P+c=s:=⟨_,rfl⟩
     have hs2:s≤100010000:=by omega
     first
      | rw [show IntKind.i64.wrap (IntKind.i64.wrap (((f:Nat):Int)+IntKind.i64.wrap ((P:Nat):Int))+((c:Nat):Int))=((s:Nat):Int) by rw [qg2 (z:=((P:Nat):Int)) (by omega) (by omega),qg2 (z:=((f:Nat):Int)+((P:Nat):Int)) (by omega) (by omega),qg2 (by omega) (by omega)];omega]
      | rw [show ((f:Nat):Int)+((P:Nat):Int)+((c:Nat):Int)=((s:Nat):Int) by omega]
     have HS:=Lib.hid hs
     have hfr:=HD.out.frozenAt j
     have h3:=HD.out.cellAt (i:=j) hik
     clear h1 h2 HWQ hs hP
     go_wp2_with fail
     go_roundw
     case rel =>
      refine ⟨k+1,s / 10000,_,by omega,by omega,by go_num,by go_num,Lib.hid (HD.out.store j (s % 10000) hik),Lib.hid (fun t ht=>?_),Lib.hid ?_,Lib.hid (HB.out.setCell (Nat.le_refl _) _)⟩
      ·by_cases e:t=j
       ·simp [e];omega
       simp [e];exact HF.out t ht
      have hv:=HV.out
      rw [← Nat.add_assoc,HJI.out,qf8,qc6]
      rw [HJI.out] at hv
      refine qA4 (by rw [← HJI.out];exact qj0 i k) ?_ (Nat.mod_add_div _ _) (xl5 F _ hik) hv
      rw [HP.out,HFF.out]
      have:=HS.out
      omega
     case measure=>simp [intOf];omega
    clear hlast
    obtain rfl:c=0:=by omega
    have hend:tv F (n+m)=tv (tg x) (i+1)*y:=by
     have e:=HV.out
     have hy2:tv (tg y) k=y:=qc1 (Nat.lt_of_lt_of_le (qb1 y) (ql0 (by rw [HM.out];omega)))
     rw [hy2,Nat.zero_mul] at e
     rw [qc6]
     have:(tv (tg x) i+tg x i*tp i)*y=tv (tg x) i*y+tg x i*y*tp i:=by grind
     omega
    have HEND:=Lib.hid hend
    clear hend
    go_wp2_with fail
    go_roundw
    case rel=>exact ⟨i+1,F,by omega,by go_num,HD,HF,HEND,HB⟩
    case measure=>simp [intOf];omega
  obtain rfl:i=n:=by omega
  have hsz:=HB.out.size
  go_wp2_with fail
  refine (qh_ _ w.heap.size (i+m) F _ HD.out).mono ?_
  rintro e w1 ⟨⟨v',rfl,hv⟩,rfl⟩
  have HW:=Lib.hid hv
  clear hv
  go_wp2
  go_ret
  exact ⟨⟨_,rfl,HDONE.out _ _ _ HW.out HF.out HV.out⟩,HB.out⟩
end
end Go.Proofs.YtobojnodohjiaaaGreatDoor
