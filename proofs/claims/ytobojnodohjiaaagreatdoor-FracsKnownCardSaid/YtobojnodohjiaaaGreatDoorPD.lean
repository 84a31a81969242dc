/- A pack of texts: Pow, Pow2, Pow3, Pow4. No condition but those stated. -/
import Derived.Test.YtobojnodohjiaaaGreatDoorPA
import Derived.Test.YtobojnodohjiaaaGreatDoorPM
import Derived.Test.YtobojnodohjiaaaGreatDoorPC
set_option maxRecDepth 100000
set_option maxHeartbeats 16000000
set_option linter.unusedVariables false
set_option linter.unusedSimpArgs false
namespace Go.Proofs.YtobojnodohjiaaaGreatDoor
section
open Go.RowKit
def nb (n:Nat):Nat:=if n=0 then 0 else Nat.log2 n+1
theorem nb_le {n k:Nat}:nb n≤k ↔ n<2 ^ k:=by
 unfold nb
 split
 ·next h=>subst h;simp [Nat.pow_pos]
 ·next h=>rw [← Nat.log2_lt h];omega
theorem xo_ {x:Nat} (h:x≠0):nb x=1+nb (x / 2):=by
 have h1:∀ k,nb x≤k+1 ↔ nb (x / 2)≤k:=fun k=>by rw [nb_le,nb_le,Nat.pow_succ,Nat.div_lt_iff_lt_mul (by decide)]
 have h2:0<nb x:=by
  rcases Nat.eq_zero_or_pos (nb x) with e|e
  ·have:=nb_le.1 (Nat.le_of_eq e);simp at this;exact absurd this h
  exact e
 have h3:=(h1 (nb x - 1)).1 (by omega)
 have h4:=(h1 (nb (x / 2))).2 (Nat.le_refl _)
 omega
theorem qQ2 (x:Nat) (h:x<18446744073709551616):Lib.bitLen x=nb x:=by
 induction x using Nat.strongRecOn with
 | ind x ih =>
  by_cases h0:x=0
  ·subst h0;rfl
  rw [Lib.bitLen_half x h0 (by simpa using h),xo_ h0,ih (x / 2) (by omega) (by omega)]
theorem xf8 {n:Nat} (h:0<n):32*(wl n - 1)+nb (dg n (wl n - 1))=nb n:=by
 have hp:=qo5 h
 obtain ⟨k,hk⟩:∃ k,wl n=k+1:=⟨wl n - 1,by omega⟩
 rw [hk,Nat.add_sub_cancel]
 have h1:bp k≤n:=qx2.1 (by omega)
 have h2:=qa6 n
 rw [hk,qb7,Nat.mul_comm] at h2
 have h3:dg n k=n / bp k:=by
  unfold dg
  exact Nat.mod_eq_of_lt (Nat.div_lt_of_lt_mul (by rw [Nat.mul_comm] at h2;rw [Nat.mul_comm];exact h2))
 rw [h3]
 have h4:∀ j,nb (n / bp k)≤j ↔ nb n≤32*k+j:=fun j=>by
  rw [nb_le,nb_le,Nat.div_lt_iff_lt_mul (qm4 k),qK7,← Nat.pow_add,Nat.add_comm j]
 have h5:=(h4 (nb (n / bp k))).1 (Nat.le_refl _)
 have h6:32*k≤nb n:=by
  rcases Nat.le_total (32*k) (nb n) with e|e
  ·exact e
  have:n<2 ^ (32*k):=nb_le.1 e
  rw [← qK7] at this
  omega
 have h7:=(h4 (nb n - 32*k)).2 (by omega)
 omega
theorem xb3 (n:Nat) (w:World) (hn:wl n≤1000000) :
  Calls Tryz.prog 237 #[(Value.agg #[.int .u64 (lo n),.string (bg n)])] w fun e w'=>e=.returned (.int .i64 ((nb n:Nat):Int))∧Below w.heap.size w w':=by
 obtain ⟨W0,HW⟩:∃ W0,Hid (w.alloc (.cells #[.int .u64 ((lo n:Nat):Int),.string (bg n)] 30)=W0):=⟨_,Lib.hid rfl⟩
 have HB0:Hid (Below w.heap.size w W0):=Lib.hid (by rw [← HW.out];exact (Below.refl _ _).alloc (Nat.le_refl _) _)
 obtain ⟨m,hm⟩:∃ m,wl n=m:=⟨_,rfl⟩
 have HM:=Lib.hid hm
 have HWO:=Lib.hid (qd6 n W0 (by omega))
 rw [hm] at hn
 clear hm
 go_enter Tryz.func237,Tryz.ntmps237
 go_wp2_with fail
 rw [HW.out]
 refine HWO.out.mono ?_
 rintro e w1 ⟨b,c,rfl,hb,hc,hc2,hws,hbel⟩
 rw [HM.out] at hc hc2 ⊢
 have HB1:Hid (Below w.heap.size w w1):=Lib.hid (HB0.out.trans (hbel.mono HB0.out.size))
 have HWS:=Lib.hid hws
 clear hws hbel hb HW
 by_cases h0:m=0
 ·subst h0
  have HNB:Hid (nb n=0):=Lib.hid (by rw [qP0.1 HM.out];rfl)
  go_wp2_with fail
  go_ret
  exact ⟨by rw [HNB.out];rfl,HB1.out⟩
 have hcell:=HWS.out.cell (i:=m - 1) (by omega)
 obtain ⟨t,ht⟩:∃ t,dg n (m - 1)=t:=⟨_,rfl⟩
 rw [ht] at hcell
 have htl:t<4294967296:=by rw [← ht];exact qd1 _ _
 obtain ⟨j,hj⟩:∃ j:Nat,(m:Int) - 1=(j:Int):=⟨m - 1,by omega⟩
 rw [show m - 1=j by omega] at hcell
 have hjm:(j:Int)<(m:Int):=by omega
 have HR:Hid (32*j+nb t=nb n):=Lib.hid (by
  have h1:=xf8 (n:=n) (Nat.pos_of_ne_zero (fun e=>h0 (by rw [← HM.out,e];rfl)))
  rw [HM.out,ht,show m - 1=j by omega] at h1
  exact h1)
 have hnt:nb t≤32:=nb_le.2 (by simpa using htl)
 have hjs:j<1000000:=by omega
 obtain ⟨z,hz⟩:∃ z,nb t=z:=⟨_,rfl⟩
 have HLEN:=Lib.hid (qz8 ((t:Nat):Int) w1 (by omega) (by omega))
 have HBL:Hid (Lib.bitLen (((t:Nat):Int)).toNat=z):=Lib.hid (by rw [Int.toNat_natCast,qQ2 t (by omega),hz])
 rw [hz] at hnt
 have HZ:=Lib.hid hz
 clear ht hz
 go_wp2_with fail
 refine HLEN.out.mono ?_
 rintro e w2 ⟨rfl,rfl⟩
 rw [HBL.out]
 have hfin:(32:Int)*(j:Int)+(z:Int)=((nb n:Nat):Int):=by have:=HR.out;rw [HZ.out] at this;omega
 have HFIN:=Lib.hid hfin
 go_wp2_with fail
 go_ret
 exact ⟨by first|rfl|(rw [← HFIN.out];rfl),HB1.out⟩
end
section
open Go.RowKit
theorem xr9 (n:Nat) (w:World) :
  Calls Tryz.prog 47 #[(Value.agg #[.int .u64 (lo n),.string (bg n)])] w fun e w'=>e=.returned (.tuple #[.int .u64 ((lo n:Nat):Int),.bool (decide (n<18446744073709551616))])∧Below w.heap.size w w':=by
 obtain ⟨W0,HW⟩:∃ W0,Hid (w.alloc (.cells #[.int .u64 ((lo n:Nat):Int),.string (bg n)] 30)=W0):=⟨_,Lib.hid rfl⟩
 have HB0:Hid (Below w.heap.size w W0):=Lib.hid (by rw [← HW.out];exact (Below.refl _ _).alloc (Nat.le_refl _) _)
 have bx:Bx W0 w.heap.size 30 #[.int .u64 ((lo n:Nat):Int),.string (bg n)]:=by rw [← HW.out];exact Bx.new _ _ _
 have c0:W0.cell? ⟨w.heap.size,0,none⟩=some (.int .u64 ((lo n:Nat):Int)):=by rw [bx.cells W0 (Gr.refl _)];rfl
 have c1:W0.cell? ⟨w.heap.size,1,none⟩=some (.string (bg n)):=by rw [bx.cells W0 (Gr.refl _)];rfl
 clear bx
 by_cases h:n<18446744073709551616
 ·have p1:(bg n).toList.isEmpty=true:=by rw [qb9,decide_eq_true h]
  have HD:=Lib.hid (decide_eq_true h)
  clear h
  go_enter Tryz.func47,Tryz.ntmps47
  go_wp2_with fail
  rw [HW.out]
  go_quiet (fail)
  go_wp2
  go_ret2
  exact ⟨by rw [HD.out];rfl,qa0 HB0.out _⟩
 have p1:(bg n).toList.isEmpty=false:=by rw [qb9,decide_eq_false h]
 have HD:=Lib.hid (decide_eq_false h)
 clear h
 go_enter Tryz.func47,Tryz.ntmps47
 go_wp2_with fail
 rw [HW.out]
 go_quiet (fail)
 go_wp2
 go_ret2
 exact ⟨by rw [HD.out];rfl,qa0 HB0.out _⟩
theorem xv8 (a b:Nat):nb (a*b)≤nb a+nb b:=by
 rw [nb_le,Nat.pow_add]
 have h1:a<2 ^ nb a:=nb_le.1 (Nat.le_refl _)
 have h2:b<2 ^ nb b:=nb_le.1 (Nat.le_refl _)
 exact Nat.mul_lt_mul_of_lt_of_le h1 (Nat.le_of_lt h2) (Nat.pow_pos (by decide))
theorem xv9 (a n:Nat) (hn:0<n):nb (a ^ n)≤n*nb a:=by
 induction n with
 | zero=>omega
 | succ n ih =>
  by_cases h:n=0
  ·subst h;simp
  rw [Nat.pow_succ,Nat.succ_mul]
  have h1:=xv8 (a ^ n) a
  have h2:=ih (by omega)
  omega
theorem xE2 {n k:Nat} (h:nb n≤32*k):wl n≤k:=by
 rw [wl_le,qK7]
 exact nb_le.1 h
theorem nb_wl (n:Nat):nb n≤32*wl n:=by
 rw [nb_le,← qK7]
 exact qa6 n
theorem wl_pow (a n:Nat) (h:n*nb a≤262144):wl (a ^ n)≤8192:=by
 by_cases h0:n=0
 ·subst h0
  exact Nat.le_trans (wl_small (n:=a ^ 0) (by simp)) (by decide)
 exact xE2 (Nat.le_trans (xv9 a n (by omega)) h)
def PowAt (A N k a o:Nat):Prop:=o*a ^ k=A ^ N∧(o=0→a=0)∧wl a≤10000∧wl o≤10000
theorem PowAt.odd {A N k a o:Nat} (h:PowAt A N (k+1) a o) (hp:wl (A ^ N)≤8192):PowAt A N k a (o*a):=by
 obtain ⟨h1,h2,h3,h4⟩:=h
 have e:o*a*a ^ k=A ^ N:=by rw [← h1,Nat.pow_succ,Nat.mul_assoc,Nat.mul_comm a]
 refine ⟨e,fun h=>?_,h3,?_⟩
 ·rcases Nat.mul_eq_zero.1 h with h|h
  ·exact h2 h
  exact h
 by_cases ha:a=0
 ·subst ha;rw [Nat.mul_zero];exact Nat.zero_le _
 have:o*a≤A ^ N:=by
  rw [← e]
  exact Nat.le_mul_of_pos_right _ (Nat.pow_pos (by omega))
 exact Nat.le_trans (qb6 this) (by omega)
theorem PowAt.sq {A N k a o:Nat} (h:PowAt A N (2*k) a o) (hk:0<k) (hp:wl (A ^ N)≤8192):PowAt A N k (a*a) o:=by
 obtain ⟨h1,h2,h3,h4⟩:=h
 have e:o*(a*a) ^ k=A ^ N:=by rw [← h1,Nat.pow_mul,Nat.pow_two]
 refine ⟨e,fun h=>by rw [h2 h],?_,h4⟩
 by_cases ho:o=0
 ·rw [h2 ho];exact Nat.zero_le _
 have h5:a*a≤(a*a) ^ k:=by
  by_cases ha:a*a=0
  ·rw [ha];exact Nat.zero_le _
  obtain ⟨j,rfl⟩:∃ j,k=j+1:=⟨k - 1,by omega⟩
  rw [Nat.pow_succ]
  exact Nat.le_mul_of_pos_left _ (Nat.pow_pos (by omega))
 have h6:(a*a) ^ k≤A ^ N:=by rw [← e];exact Nat.le_mul_of_pos_left _ (by omega)
 exact Nat.le_trans (qb6 (Nat.le_trans h5 h6)) (by omega)
end
section
open Go.RowKit
theorem xw2 (w:World):Calls Tryz.prog 24 #[.int .u64 1] w fun e w'=>e=.returned (Value.agg #[.int .u64 (lo (1)),.string (bg (1))])∧Below w.heap.size w w':=qx4 1 w (by decide) (by decide)
theorem and1 (g:Nat) (h:g≤4096):bits .and .i64 (g:Int) 1=((g % 2:Nat):Int):=by
 have h1:=bits_nat .i64 62 (by decide) (fun n h0 h1=>by rw [IntKind.wrap_i64];omega) g 1 (by omega) (by decide)
 have:=h1.1
 rw [show ((1:Nat):Int)=1 from rfl] at this
 rw [this,Nat.and_one_is_mod]
theorem xw_ (a N:Nat) (w:World) (hN:N≤4096) (hb:N*nb a≤262144) (ha:wl a≤8192) :
  Calls Tryz.prog 164 #[(Value.agg #[.int .u64 (lo a),.string (bg a)]),.int .i64 ((N:Nat):Int)] w fun e w'=>e=.returned (.tuple #[(Value.agg #[.int .u64 (lo (a ^ N)),.string (bg (a ^ N))]),.int .i64 0])∧Below w.heap.size w w':=by
 obtain ⟨W0,HW⟩:∃ W0,Hid ((w.alloc (.cells #[.int .u64 (lo a),.string (bg a)] 30)).alloc (.cells #[.int .u64 0,.string ⟨#[]⟩] 30)=W0):=⟨_,Lib.hid rfl⟩
 have HB0:Hid (Below w.heap.size w W0):=Lib.hid (by rw [← HW.out];exact ((Below.refl _ _).alloc (Nat.le_refl _) _).alloc (by simp) _)
 have HA0:Hid (Bx W0 w.heap.size 30 #[.int .u64 (lo a),.string (bg a)]):=Lib.hid (by rw [← HW.out];exact (Bx.new _ _ _).alloc _)
 have HR0:Hid (Bx W0 (w.heap.size+1) 30 #[.int .u64 0,.string ⟨#[]⟩]):=Lib.hid (by rw [← HW.out];exact Bx.at (by simp))
 have c0:W0.cell? ⟨w.heap.size,0,none⟩=some (.int .u64 ((lo a:Nat):Int)):=by rw [HA0.out.cells W0 (Gr.refl _)];rfl
 have c1:W0.cell? ⟨w.heap.size,1,none⟩=some (.string (bg a)):=by rw [HA0.out.cells W0 (Gr.refl _)];rfl
 obtain ⟨z,hz⟩:∃ z,nb a=z:=⟨_,rfl⟩
 have HBITS:=Lib.hid (xb3 a W0 (by omega))
 have hzb:z≤262144:=by rw [← hz];have:=nb_wl a;omega
 obtain ⟨p,hp⟩:∃ p:Nat,((N:Nat):Int)*((z:Nat):Int)=((p:Nat):Int):=⟨N*z,(Int.natCast_mul _ _).symm⟩
 have hp2:p≤262144:=by
  rw [hz] at hb
  have:((N*z:Nat):Int)=((p:Nat):Int):=by rw [← hp];exact Int.natCast_mul _ _
  omega
 have HPW:=Lib.hid (wl_pow a N hb)
 have HZ:=Lib.hid hz
 clear hb hz
 go_enter Tryz.func164,Tryz.ntmps164
 go_wp2_with fail
 rw [HW.out]
 refine HBITS.out.mono ?_
 rintro e w1 ⟨rfl,hb1⟩
 rw [HZ.out]
 have HG1:Hid (Gr W0 w1):=Lib.hid hb1
 clear hb1 c0 c1 HBITS HW
 go_wp2_with fail
 refine (xw2 w1).mono ?_
 rintro e w2 ⟨rfl,hb2⟩
 have HG2:Hid (Gr W0 w2):=Lib.hid (Gr.trans HG1.out hb2)
 clear hb2
 go_wp2_with fail
 obtain ⟨so,hso⟩:∃ so,w2.heap.size=so:=⟨_,rfl⟩
 have HS:Hid (w.heap.size+1<so∧so=w2.heap.size):=Lib.hid ⟨by have h1:=HR0.out.lt;have h2:=HG2.out.size;omega,hso.symm⟩
 obtain ⟨W1,HW1⟩:∃ W1,Hid (w2.alloc (.cells #[.int .u64 (lo (1)),.string (bg (1))] 30)=W1):=⟨_,Lib.hid rfl⟩
 have HA1:Hid (Bx W1 w.heap.size 30 #[.int .u64 (lo a),.string (bg a)]):=Lib.hid (by rw [← HW1.out];exact (HA0.out.gr HG2.out).alloc _)
 have HR1:Hid (Bx W1 (w.heap.size+1) 30 #[.int .u64 0,.string ⟨#[]⟩]):=Lib.hid (by rw [← HW1.out];exact (HR0.out.gr HG2.out).alloc _)
 have HO1:Hid (Bx W1 so 30 #[.int .u64 (lo (1)),.string (bg (1))]):=Lib.hid (by rw [← HW1.out];exact Bx.at hso)
 have HB1:Hid (Below w.heap.size w W1):=Lib.hid (by rw [← HW1.out];exact (HB0.out.trans (HG2.out.mono HB0.out.size)).alloc (by have:=HS.out;omega) _)
 rw [hso,HW1.out]
 clear hso HW1 HA0 HR0 HB0 HG1 HG2 hp
 go_loopg [1] N (fun k v wr=>v=.int .i64 ((k:Nat):Int)∧k≤4096∧∃ x o,Hid (PowAt a N k x o)∧Hid (Bx wr w.heap.size 30 #[.int .u64 (lo x),.string (bg x)])∧Hid (Bx wr (w.heap.size+1) 30 #[.int .u64 0,.string ⟨#[]⟩])∧Hid (Bx wr so 30 #[.int .u64 (lo o),.string (bg o)])∧Hid (Below w.heap.size w wr))
 case atStart=>exact ⟨rfl,hN,a,1,Lib.hid ⟨Nat.one_mul _,fun h=>absurd h (by decide),by omega,Nat.le_trans (wl_small (n:=1) (by decide)) (by decide)⟩,HA1,HR1,HO1,HB1⟩
 case round =>
  obtain ⟨rfl,hgk,x,o,HP,HX,HZR,HO,HB⟩:=hrel
  clear HA1 HR1 HO1 HB1
  have x0:wr.cell? ⟨w.heap.size,0,none⟩=some (.int .u64 ((lo x:Nat):Int)):=by rw [HX.out.cells wr (Gr.refl _)];rfl
  have x1:wr.cell? ⟨w.heap.size,1,none⟩=some (.string (bg x)):=by rw [HX.out.cells wr (Gr.refl _)];rfl
  have o0:wr.cell? ⟨so,0,none⟩=some (.int .u64 ((lo o:Nat):Int)):=by rw [HO.out.cells wr (Gr.refl _)];rfl
  have o1:wr.cell? ⟨so,1,none⟩=some (.string (bg o)):=by rw [HO.out.cells wr (Gr.refl _)];rfl
  by_cases hk0:gk=0
  ·subst hk0
   have r0:wr.cell? ⟨w.heap.size+1,0,none⟩=some (.int .u64 0):=by rw [HZR.out.cells wr (Gr.refl _)];rfl
   have r1:wr.cell? ⟨w.heap.size+1,1,none⟩=some (.string ⟨#[]⟩):=by rw [HZR.out.cells wr (Gr.refl _)];rfl
   have f0:=HZR.out.free wr (Gr.refl _)
   have e:Hid (o=a ^ N):=Lib.hid (by have:=HP.out.1;rwa [Nat.pow_zero,Nat.mul_one] at this)
   go_wp2_with fail
   rw [show lo o=lo (a ^ N) by rw [e.out],show bg o=bg (a ^ N) by rw [e.out]]
   have hne:so≠w.heap.size+1:=by have:=HS.out;omega
   exact bodyPost_ret (v:=.tuple #[(Value.agg #[.int .u64 (lo (a ^ N)),.string (bg (a ^ N))]),.int .i64 0]) (by simp [results,Tryz.results164,go_sem,r0,r1]) rfl ⟨rfl,(HB.out.setCell (by show w.heap.size≤w.heap.size+1;omega) _).setCell (by show w.heap.size≤w.heap.size+1;omega) _⟩
  have fo:=HO.out.free wr (Gr.refl _)
  have fx:=HX.out.free wr (Gr.refl _)
  obtain ⟨j,hj⟩:∃ j:Nat,(gk:Int) / 2=(j:Int):=⟨gk / 2,by omega⟩
  have hjg:j<gk:=by omega
  have hg0:(0:Int)<(gk:Int):=by omega
  clear hk0
  by_cases hev:gk % 2=0
  ·have hg1:(1:Int)<(gk:Int):=by omega
   have hbit:=and1 gk hgk
   rw [hev] at hbit
   have HE:Hid (gk=2*j∧0<j):=Lib.hid (by omega)
   clear hev
   have HM:=Lib.hid (qp5 x x wr (by have:=HP.out.2.2.1;omega) (by have:=HP.out.2.2.1;omega))
   go_wp2_with fail
   refine HM.out.mono ?_
   rintro e w3 ⟨rfl,hb3⟩
   have HG:=Lib.hid (show Gr wr w3 from hb3)
   clear hb3
   have fx:=HX.out.free w3 HG.out
   have x0:w3.cell? ⟨w.heap.size,0,none⟩=some (.int .u64 ((lo x:Nat):Int)):=by rw [HX.out.cells w3 HG.out];rfl
   have x1:w3.cell? ⟨w.heap.size,1,none⟩=some (.string (bg x)):=by rw [HX.out.cells w3 HG.out];rfl
   go_wp2_with fail
   go_roundg j
   case measure=>exact hjg
   case rel =>
    have hP:PowAt a N j (x*x) o:=by
     have h:=HP.out
     rw [HE.out.1] at h
     exact h.sq HE.out.2 HPW.out
    have hs:=HS.out
    exact ⟨rfl,by omega,x*x,o,Lib.hid hP,Lib.hid ((((HX.out.gr HG.out).set 0 _).set 1 _).eq rfl),Lib.hid (((HZR.out.gr HG.out).setOther (by show w.heap.size+1≠w.heap.size;omega) _).setOther (by show w.heap.size+1≠w.heap.size;omega) _),
     Lib.hid (((HO.out.gr HG.out).setOther (by show so≠w.heap.size;omega) _).setOther (by show so≠w.heap.size;omega) _),Lib.hid (((HB.out.trans (HG.out.mono HB.out.size)).setCell (Nat.le_refl _) _).setCell (Nat.le_refl _) _)⟩
  have hev:gk % 2=1:=by omega
  have hbit:=and1 gk hgk
  rw [hev] at hbit
  have HE:Hid (gk=2*j+1):=Lib.hid (by omega)
  clear hev
  have HM:=Lib.hid (qp5 o x wr (by have:=HP.out.2.2.2;omega) (by have:=HP.out.2.2.1;omega))
  by_cases hj0:j=0
  ·have hg1:¬ (1:Int)<(gk:Int):=by have:=HE.out;omega
   have HJ:=Lib.hid hj0
   clear hj0
   go_wp2_with fail
   refine HM.out.mono ?_
   rintro e w3 ⟨rfl,hb3⟩
   have HG:=Lib.hid (show Gr wr w3 from hb3)
   clear hb3
   have fo:=HO.out.free w3 HG.out
   have o0:w3.cell? ⟨so,0,none⟩=some (.int .u64 ((lo o:Nat):Int)):=by rw [HO.out.cells w3 HG.out];rfl
   have o1:w3.cell? ⟨so,1,none⟩=some (.string (bg o)):=by rw [HO.out.cells w3 HG.out];rfl
   go_wp2_with fail
   go_roundg j
   case measure=>exact hjg
   case rel =>
    have hP:PowAt a N j x (o*x):=by
     have h:=HP.out
     rw [show gk=j+1 by have:=HE.out;have:=HJ.out;omega] at h
     exact h.odd HPW.out
    have hs:=HS.out
    exact ⟨rfl,by omega,x,o*x,Lib.hid hP,Lib.hid (((HX.out.gr HG.out).setOther (by show w.heap.size≠so;omega) _).setOther (by show w.heap.size≠so;omega) _),Lib.hid (((HZR.out.gr HG.out).setOther (by show w.heap.size+1≠so;omega) _).setOther (by show w.heap.size+1≠so;omega) _),
     Lib.hid ((((HO.out.gr HG.out).set 0 _).set 1 _).eq rfl),Lib.hid (((HB.out.trans (HG.out.mono HB.out.size)).setCell (by show w.heap.size≤so;omega) _).setCell (by show w.heap.size≤so;omega) _)⟩
  have hg1:(1:Int)<(gk:Int):=by have:=HE.out;omega
  have HJ:=Lib.hid hj0
  clear hj0
  have hP0:PowAt a N (2*j) x (o*x):=by
   have h:=HP.out
   rw [HE.out] at h
   exact h.odd HPW.out
  have HP2:=Lib.hid hP0
  clear hP0
  go_wp2_with fail
  refine HM.out.mono ?_
  rintro e w3 ⟨rfl,hb3⟩
  have HG:=Lib.hid (show Gr wr w3 from hb3)
  clear hb3
  have fo:=HO.out.free w3 HG.out
  have o0:w3.cell? ⟨so,0,none⟩=some (.int .u64 ((lo o:Nat):Int)):=by rw [HO.out.cells w3 HG.out];rfl
  have o1:w3.cell? ⟨so,1,none⟩=some (.string (bg o)):=by rw [HO.out.cells w3 HG.out];rfl
  have fx:=HX.out.free w3 HG.out
  have x0:w3.cell? ⟨w.heap.size,0,none⟩=some (.int .u64 ((lo x:Nat):Int)):=by rw [HX.out.cells w3 HG.out];rfl
  have x1:w3.cell? ⟨w.heap.size,1,none⟩=some (.string (bg x)):=by rw [HX.out.cells w3 HG.out];rfl
  obtain ⟨W4,HW4⟩:∃ W4,Hid ((w3.setCell ⟨so,0,none⟩ (.int .u64 (lo (o*x)))).setCell ⟨so,1,none⟩ (.string (bg (o*x)))=W4):=⟨_,Lib.hid rfl⟩
  have hs:=HS.out
  have hX4:Bx W4 w.heap.size 30 #[.int .u64 (lo x),.string (bg x)]:=by rw [← HW4.out];exact ((HX.out.gr HG.out).setOther (by show w.heap.size≠so;omega) _).setOther (by show w.heap.size≠so;omega) _
  have hR4:Bx W4 (w.heap.size+1) 30 #[.int .u64 0,.string ⟨#[]⟩]:=by rw [← HW4.out];exact ((HZR.out.gr HG.out).setOther (by show w.heap.size+1≠so;omega) _).setOther (by show w.heap.size+1≠so;omega) _
  have hO4:Bx W4 so 30 #[.int .u64 (lo (o*x)),.string (bg (o*x))]:=by rw [← HW4.out];exact (((HO.out.gr HG.out).set 0 _).set 1 _).eq rfl
  have hB4:Below w.heap.size w W4:=by rw [← HW4.out];exact ((HB.out.trans (HG.out.mono HB.out.size)).setCell (by show w.heap.size≤so;omega) _).setCell (by show w.heap.size≤so;omega) _
  have HX4:=Lib.hid hX4
  have HR4:=Lib.hid hR4
  have HO4:=Lib.hid hO4
  have HB4:=Lib.hid hB4
  clear hX4 hR4 hO4 hB4 hs
  have y0:W4.cell? ⟨w.heap.size,0,none⟩=some (.int .u64 ((lo x:Nat):Int)):=by rw [HX4.out.cells W4 (Gr.refl _)];rfl
  have y1:W4.cell? ⟨w.heap.size,1,none⟩=some (.string (bg x)):=by rw [HX4.out.cells W4 (Gr.refl _)];rfl
  have HM2:=Lib.hid (qp5 x x W4 (by have:=HP.out.2.2.1;omega) (by have:=HP.out.2.2.1;omega))
  have hne:w.heap.size≠so:=by have:=HS.out;omega
  have hne2:so≠w.heap.size:=by have:=HS.out;omega
  go_wp2_with fail
  rw [HW4.out]
  refine HM2.out.mono ?_
  rintro e w5 ⟨rfl,hb5⟩
  have HG5:=Lib.hid (show Gr W4 w5 from hb5)
  clear hb5
  have fx:=HX4.out.free w5 HG5.out
  have x0:w5.cell? ⟨w.heap.size,0,none⟩=some (.int .u64 ((lo x:Nat):Int)):=by rw [HX4.out.cells w5 HG5.out];rfl
  have x1:w5.cell? ⟨w.heap.size,1,none⟩=some (.string (bg x)):=by rw [HX4.out.cells w5 HG5.out];rfl
  go_wp2_with fail
  go_roundg j
  case measure=>exact hjg
  case rel =>
   have hs:=HS.out
   exact ⟨rfl,by omega,x*x,o*x,Lib.hid (HP2.out.sq (Nat.pos_of_ne_zero HJ.out) HPW.out),Lib.hid ((((HX4.out.gr HG5.out).set 0 _).set 1 _).eq rfl),Lib.hid (((HR4.out.gr HG5.out).setOther (by show w.heap.size+1≠w.heap.size;omega) _).setOther (by show w.heap.size+1≠w.heap.size;omega) _),
    Lib.hid (((HO4.out.gr HG5.out).setOther (by show so≠w.heap.size;omega) _).setOther (by show so≠w.heap.size;omega) _),Lib.hid (((HB4.out.trans (HG5.out.mono HB4.out.size)).setCell (Nat.le_refl _) _).setCell (Nat.le_refl _) _)⟩
end
section
open Go.RowKit
theorem qp3:lo 0=0:=qb0 (by decide)
theorem qo7:bg 0=⟨#[]⟩:=qc_ (by decide)
end
end Go.Proofs.YtobojnodohjiaaaGreatDoor
