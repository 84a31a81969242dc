
/- plain facts for ReconsJoins; cells of rows of congruences. No condition but those stated. -/
import Derived.Test.YtobojnodohjiaaaGreatDoorModP
import Derived.Test.YtobojnodohjiaaaGreatDoorIntE
set_option linter.unusedVariables false
set_option linter.unusedSimpArgs false
namespace Go.Proofs.YtobojnodohjiaaaGreatDoor
open Go.RowKit
theorem qh7 (d:Nat) (a:Int) (m:Nat) (w:World):(Op.equalIn (d+5) 71 (.agg #[.int .u64 (lo a.natAbs),.string (bg a.natAbs),.bool (a<0),.int .u64 (lo m),.string (bg m)]) (.agg #[.int .u64 (lo a.natAbs),.string (bg a.natAbs),.bool (a<0),.int .u64 (lo m),.string (bg m)])).run Tryz.prog w=.ok true w:=by
 simp [go_sem,qc8,qb8]
theorem qk8 {W:World} {g E n j i:Nat} {cur:Array Value} {v:Value} {f:Nat→Int × Nat} (h:RowV g cur 5 v n (rcs f n)) (hB:Bx W g E cur) (hj:j<n) (hi:i<5):W.cell? ⟨g,j*5+i,none⟩=(rcl (f j))[i]?:=by
 obtain ⟨cap,rfl,h1,h2,h3,h4,h5⟩:=h
 have hx:=qV7 f n j i hj hi
 have hlt:j*5+i<n*5:=by omega
 rw [← h4,List.getElem?_take_of_lt hlt,Array.getElem?_toList] at hx
 rw [hB.cells W (Gr.refl _)]
 exact hx
section
variable {W:World} {g E n j:Nat} {cur:Array Value} {v:Value} {f:Nat→Int × Nat} {r:Int} {m:Nat}
theorem qk3 (h:RowV g cur 5 v n (rcs f n)) (hB:Bx W g E cur) (hj:j<n) (hq:f j=(r,m)):W.cell? ⟨g,j*5,none⟩=some (.int .u64 (lo (Int.natAbs r))):=(qk8 h hB hj (i:=0) (by decide)).trans (by rw [hq];rfl)
theorem qk4 (h:RowV g cur 5 v n (rcs f n)) (hB:Bx W g E cur) (hj:j<n) (hq:f j=(r,m)):W.cell? ⟨g,j*5+1,none⟩=some (.string (bg (Int.natAbs r))):=(qk8 h hB hj (i:=1) (by decide)).trans (by rw [hq];rfl)
theorem qk5 (h:RowV g cur 5 v n (rcs f n)) (hB:Bx W g E cur) (hj:j<n) (hq:f j=(r,m)):W.cell? ⟨g,j*5+2,none⟩=some (.bool (decide (r<0))):=(qk8 h hB hj (i:=2) (by decide)).trans (by rw [hq];rfl)
theorem qk6 (h:RowV g cur 5 v n (rcs f n)) (hB:Bx W g E cur) (hj:j<n) (hq:f j=(r,m)):W.cell? ⟨g,j*5+3,none⟩=some (.int .u64 ((lo m:Nat):Int)):=(qk8 h hB hj (i:=3) (by decide)).trans (by rw [hq];rfl)
theorem qk7 (h:RowV g cur 5 v n (rcs f n)) (hB:Bx W g E cur) (hj:j<n) (hq:f j=(r,m)):W.cell? ⟨g,j*5+4,none⟩=some (.string (bg m)):=(qk8 h hB hj (i:=4) (by decide)).trans (by rw [hq];rfl)
end
theorem rs2 {W:World} {g T:Nat} {r1 r2:Int} {m1 m2:Nat} (h:Bx W g T #[.int .u64 (lo r1.natAbs),.string (bg r1.natAbs),.bool (r1<0),.int .u64 (lo m1),.string (bg m1),.int .u64 (lo r2.natAbs),.string (bg r2.natAbs),.bool (r2<0),.int .u64 (lo m2),.string (bg m2)]):Rs W (.slice (some ⟨g,0,none⟩) 2 2) 2 (f2r r1 m1 r2 m2):=by
 refine .inr ⟨g,0,2,rfl,h.lt,fun i hi j hj=>?_⟩
 rw [h.cells W (Gr.refl _)]
 rcases (show i=0∨i=1 by omega) with rfl|rfl <;> rcases (show j=0∨j=1∨j=2∨j=3∨j=4 by omega) with rfl|rfl|rfl|rfl|rfl <;> rfl
def rrot (f:Nat→Int × Nat) (k n i:Nat):Int × Nat:=if i<n - k then f (k+i) else f (i - (n - k))
theorem qs3 (f:Nat→Int × Nat) (k n i:Nat) (hk:k<n) (hi:i<n):∃ j,j<n∧rrot f k n i=f j:=by
 unfold rrot
 split
 ·exact ⟨k+i,by omega,rfl⟩
 ·exact ⟨i - (n - k),by omega,rfl⟩
theorem xf8 (f:Nat→Int × Nat) (k n j:Nat) (hk:k<n) (hj:j<n):∃ i,i<n∧rrot f k n i=f j:=by
 unfold rrot
 rcases Nat.lt_or_ge j k with h|h
 ·exact ⟨j+(n - k),by omega,by rw [if_neg om,Nat.add_sub_cancel]⟩
 ·exact ⟨j - k,by omega,by rw [if_pos om,Nat.add_sub_cancel' h]⟩
theorem qM7 (f:Nat→Int × Nat) (k n:Nat) (hk:k<n):rcs (fun i=>f (k+i)) (n - k) ++ rcs f k=rcs (rrot f k n) n:=by
 have h1:rcs (rrot f k n) ((n - k)+k)=_:=qD7 _ _ _
 rw [show n - k+k=n by omega] at h1
 rw [h1,qV8 (rrot f k n) (fun i=>f (k+i)) (n - k) (fun i hi=>by unfold rrot;rw [if_pos hi]),qV8 (fun i=>rrot f k n (n - k+i)) f k (fun i hi=>by
  show rrot f k n (n - k+i)=_
  unfold rrot
  rw [if_neg om,Nat.add_sub_cancel_left])]
def jf (a:Int) (fw:Nat→Nat) (i:Nat):Int × Nat:=(a+(if i % 2=0 then -((max (fw i) 1:Nat):Int) else ((max (fw i) 1:Nat):Int)),max (fw i) 1)
theorem qn3 (a:Int) (fw:Nat→Nat) (i:Nat):0<(jf a fw i).2:=by show 0<max (fw i) 1;omega
theorem xi6 (a:Int) (fw:Nat→Nat) (i:Nat):((jf a fw i).2:Int) ∣ a - (jf a fw i).1:=by
 unfold jf
 generalize max (fw i) 1=m
 show (m:Int) ∣ a - (a+_)
 split
 ·exact ⟨1,by omega⟩
 ·exact ⟨-1,by omega⟩
theorem xF0 {a:Int} {fw:Nat→Nat} {i:Nat} (ha:wl a.natAbs≤8) (h:fw i<4294967296):wl (jf a fw i).1.natAbs≤9∧wl (jf a fw i).2≤1:=by
 have h1:wl (max (fw i) 1)≤1:=qa6 om
 refine ⟨?_,h1⟩
 have h2:=qf7 a (if i % 2=0 then -((max (fw i) 1:Nat):Int) else ((max (fw i) 1:Nat):Int))
 have h3:wl (Int.natAbs (if i % 2=0 then -((max (fw i) 1:Nat):Int) else ((max (fw i) 1:Nat):Int)))≤1:=by
  split
  ·rw [Int.natAbs_neg,Int.natAbs_natCast];exact h1
  ·rw [Int.natAbs_natCast];exact h1
 show wl (Int.natAbs (a+_))≤9
 omega
theorem xi5 (a:Int) (fw:Nat→Nat) (k:Nat):∃ M,chn (jf a fw) k=some (a % ((M:Nat):Int),M)∧0<M:=qy2 (fun i _=>qn3 a fw i) (fun i _=>xi6 a fw i)
theorem qo6 {a:Int} {M:Nat} (h:0<M):0≤a % ((M:Nat):Int)∧a % ((M:Nat):Int)<((M:Nat):Int):=⟨Int.emod_nonneg a om,Int.emod_lt_of_pos a om⟩
theorem qv7 (a:Int) (M:Nat):((M:Nat):Int) ∣ a % ((M:Nat):Int) - a:=by
 have:=Int.mul_ediv_add_emod a ((M:Nat):Int)
 exact ⟨-(a / ((M:Nat):Int)),by rw [Int.mul_neg];omega⟩
theorem qR0 {x y z p:Int} (h1:p ∣ x - y) (h2:p ∣ y - z):p ∣ x - z:=by
 have:=Int.dvd_add h1 h2
 rwa [show x - y+(y - z)=x - z by omega] at this
theorem xw_ {a:Int} {fw:Nat→Nat} {n k M:Nat} (hk:k<n) (h:chn (jf a fw) n=some (a % ((M:Nat):Int),M)) (hM:0<M):chn (rrot (jf a fw) k n) n=some (a % ((M:Nat):Int),M):=by
 have e:=(qf3 (fun i _=>qn3 a fw i) h).2.2.2
 refine qG3 (fun i hi=>?_) (fun i hi=>?_) (fun i hi=>?_) (fun z hz=>?_) (qo6 hM).1 (qo6 hM).2
 ·obtain ⟨j,hj,ej⟩:=qs3 (jf a fw) k n i hk hi;rw [ej];exact qn3 a fw j
 ·obtain ⟨j,hj,ej⟩:=qs3 (jf a fw) k n i hk hi;rw [ej];exact (e j hj).1
 ·obtain ⟨j,hj,ej⟩:=qs3 (jf a fw) k n i hk hi;rw [ej];exact (e j hj).2
 ·refine Int.ofNat_dvd.1 (qr2 h _ fun i hi=>?_)
  obtain ⟨j,hj,ej⟩:=xf8 (jf a fw) k n i hk hi
  rw [← ej]
  exact Int.ofNat_dvd.2 (hz j hj)
theorem xn7 {a:Int} {fw:Nat→Nat} {k M:Nat} {r:Int} {m:Nat} (h:chn (jf a fw) k=some (a % ((M:Nat):Int),M)) (hM:0<M) (hf:jf a fw k=(r,m)):∃ M2,chn (jf a fw) (k+1)=some (a % ((M2:Nat):Int),M2)∧0<M2∧chn (f2r (a % ((M:Nat):Int)) M r m) 2=some (a % ((M2:Nat):Int),M2):=by
 obtain ⟨M2,h2,hM2⟩:=xi5 a fw (k+1)
 have hm:0<m:=by have:=qn3 a fw k;rw [hf] at this;exact this
 have hd:(m:Int) ∣ a - r:=by have:=xi6 a fw k;rw [hf] at this;exact this
 have e2:=(qf3 (fun i _=>qn3 a fw i) h2).2.2.2
 have hl:crm M m=M2:=by
  rw [chn,h] at h2
  have h2:(if ((jf a fw k).1 - a % ((M:Nat):Int)) % (egcd (M:Int) ((jf a fw k).2:Int)).1=0 then some (crt (a % ((M:Nat):Int)) M (jf a fw k).1 (jf a fw k).2,crm M (jf a fw k).2) else none)=some (a % ((M2:Nat):Int),M2):=h2
  split at h2
  ·injection h2 with h2;injection h2 with h3 h4;rw [← h4,hf]
  ·cases h2
 have d1:((M:Nat):Int) ∣ ((M2:Nat):Int):=by rw [← hl];exact qG5 M m
 have d2:((m:Nat):Int) ∣ ((M2:Nat):Int):=by rw [← hl];exact qG6 M m
 refine ⟨M2,h2,hM2,qG3 (qg7 hM hm) (qg7 (P:=fun i=>((f2r (a % ((M:Nat):Int)) M r m i).2:Int) ∣ a % ((M2:Nat):Int) - (f2r (a % ((M:Nat):Int)) M r m i).1) ?_ ?_) (qg7 (P:=fun i=>(f2r (a % ((M:Nat):Int)) M r m i).2 ∣ M2) (Int.ofNat_dvd.1 d1) (Int.ofNat_dvd.1 d2)) (fun z hz=>?_) (qo6 hM2).1 (qo6 hM2).2⟩
 ·show ((M:Nat):Int) ∣ a % ((M2:Nat):Int) - a % ((M:Nat):Int)
  have h3:=qv7 a M
  have h4:=Int.dvd_trans d1 (qv7 a M2)
  refine qR0 h4 ?_
  obtain ⟨x,hx⟩:=h3
  exact ⟨-x,by rw [Int.mul_neg];omega⟩
 ·show ((m:Nat):Int) ∣ a % ((M2:Nat):Int) - r
  exact qR0 (Int.dvd_trans d2 (qv7 a M2)) hd
 ·rw [← hl]
  exact Int.ofNat_dvd.1 (qB9 (Int.ofNat_dvd.2 (hz 0 (by decide))) (Int.ofNat_dvd.2 (hz 1 (by decide))))
theorem xw8 {a:Int} {fw:Nat→Nat} {n i M:Nat} {r:Int} {m:Nat} (h:chn (jf a fw) n=some (a % ((M:Nat):Int),M)) (hi:i<n) (hf:jf a fw i=(r,m)):M % m=0:=by
 have e:=((qf3 (fun i _=>qn3 a fw i) h).2.2.2 i hi).2
 rw [hf] at e
 exact Nat.mod_eq_zero_of_dvd e
theorem xw7 {a:Int} {fw:Nat→Nat} {n i M:Nat} {r:Int} {m:Nat} (h:chn (jf a fw) n=some (a % ((M:Nat):Int),M)) (hM:0<M) (hi:i<n) (hf:jf a fw i=(r,m)) (h1:m≠1):chn (f2r (a % ((M:Nat):Int)) M (r+1) m) 2=none:=by
 have e:=(qf3 (fun i _=>qn3 a fw i) h).2.2.2 i hi
 rw [hf] at e
 have hm:0<m:=by have:=qn3 a fw i;rw [hf] at this;exact this
 refine qt8 hM hm fun h0=>h1 ?_
 have hg:Nat.gcd M m=m:=Nat.gcd_eq_right e.2
 rw [hg] at h0
 have h2:=Int.dvd_add (Int.dvd_of_emod_eq_zero h0) e.1
 rw [show r+1 - a % ((M:Nat):Int)+(a % ((M:Nat):Int) - r)=1 by omega] at h2
 exact Nat.dvd_one.1 (Int.ofNat_dvd.1 (show ((m:Nat):Int) ∣ ((1:Nat):Int) from h2))
theorem xw9 {R:Int} {M:Nat} {r:Int} (hM:0<M):∃ R2 M2,chn (f2r R M r 1) 2=some (R2,M2)∧wl M2≤3+2*wl M:=by
 obtain ⟨M2,h,_⟩:=qy2 (f:=f2r R M r 1) (k:=2) (A:=R) (qg7 hM (show 0<1 by decide)) (qg7 (P:=fun i=>((f2r R M r 1 i).2:Int) ∣ R - (f2r R M r 1 i).1) ⟨0,by show R - R=_;omega⟩ (Int.one_dvd _))
 have h1:wl 1≤1:=qa6 (by decide)
 have e:=qt9 (c:=1+wl M) (qg7 (P:=fun i=>wl (f2r R M r 1 i).2≤1+wl M) (by show wl M≤_;omega) (by show wl 1≤_;omega)) h
 exact ⟨_,M2,h,by omega⟩
theorem qv8 {r1 r2:Int} {m1 m2:Nat} (h1:0<m1) (h2:0<m2):∀ i,i<2→0<(f2r r1 m1 r2 m2 i).2:=qg7 h1 h2
theorem qR4 {r1 r2:Int} {m1 m2:Nat} (h1:wl r1.natAbs≤100) (h2:wl m1≤10) (h3:wl r2.natAbs≤100) (h4:wl m2≤10):∀ i,i<2→wl (f2r r1 m1 r2 m2 i).1.natAbs≤100∧wl (f2r r1 m1 r2 m2 i).2≤10:=qg7 (P:=fun i=>wl (f2r r1 m1 r2 m2 i).1.natAbs≤100∧wl (f2r r1 m1 r2 m2 i).2≤10) ⟨h1,h2⟩ ⟨h3,h4⟩
theorem qE6 {a:Int} {M k:Nat} (h:0<M) (hk:wl M≤k):wl (Int.natAbs (a % ((M:Nat):Int)))≤k:=by
 have:=qo6 (a:=a) h
 exact Nat.le_trans (qa4 om) hk
end Go.Proofs.YtobojnodohjiaaaGreatDoor
