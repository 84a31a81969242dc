/- A pack of texts: Root, Root2. No condition but those stated. -/
import Derived.Test.YtaflakcemiilaaaGreatDoorPD
import Derived.Test.YtaflakcemiilaaaGreatDoorPB
import Derived.Test.YtaflakcemiilaaaGreatDoorPM
import Derived.Test.YtaflakcemiilaaaGreatDoorPC
set_option maxRecDepth 100000
set_option maxHeartbeats 16000000
set_option linter.unusedVariables false
set_option linter.unusedSimpArgs false
namespace Go.Proofs.YtaflakcemiilaaaGreatDoor
section
open Go.RowKit
def rtTo (a:Nat):Nat→Nat
 | 0=>0
 | k+1=>if (k+1)*(k+1)≤a then k+1 else rtTo a k
def rt (a:Nat):Nat:=rtTo a a
theorem xp7 (a k:Nat):rtTo a k*rtTo a k≤a:=by
 induction k with
 | zero=>exact Nat.zero_le _
 | succ k ih=>unfold rtTo;split <;> assumption
theorem xq5 (a k:Nat) (h:a<(k+1)*(k+1)):a<(rtTo a k+1)*(rtTo a k+1):=by
 induction k with
 | zero=>exact h
 | succ k ih =>
  unfold rtTo
  split
  ·exact h
  ·next hn=>exact ih (by omega)
theorem qQ7 (a:Nat):rt a*rt a≤a:=xp7 a a
theorem qY8 (a:Nat):a<(rt a+1)*(rt a+1):=xq5 a a (by
 have:a+1≤(a+1)*(a+1):=Nat.le_mul_of_pos_right _ (by omega)
 omega)
theorem xb8 {a b:Nat} (h:a*a<b*b):a<b:=by
 rcases Nat.lt_or_ge a b with e|e
 ·exact e
 ·exact absurd (Nat.mul_le_mul e e) (by omega)
theorem xC1 {a r:Nat} (h1:r*r≤a) (h2:a<(r+1)*(r+1)):rt a=r:=by
 have h3:rt a<r+1:=xb8 (Nat.lt_of_le_of_lt (qQ7 a) h2)
 have h4:r<rt a+1:=xb8 (Nat.lt_of_le_of_lt h1 (qY8 a))
 omega
theorem qm6 (a:Nat):rt a≤a:=by
 rcases Nat.eq_zero_or_pos (rt a) with h|h
 ·omega
 ·exact Nat.le_trans (Nat.le_mul_of_pos_right _ h) (qQ7 a)
theorem qP5 (a x:Nat) (hx:0<x):rt a≤(x+a / x) / 2:=by
 have h1:=qQ7 a
 generalize rt a=s at h1
 have h2:2*s - x≤a / x:=by
  rw [Nat.le_div_iff_mul_le hx]
  rcases Nat.le_total (2*s) x with e|e
  ·rw [Nat.sub_eq_zero_of_le e,Nat.zero_mul];exact Nat.zero_le _
  ·refine Nat.le_trans ?_ h1
   obtain ⟨d,hd⟩:∃ d,2*s=x+d:=⟨2*s - x,by omega⟩
   rw [hd,Nat.add_sub_cancel_left]
   have h3:(x+d)*(x+d)=4*(s*s):=by rw [← hd];simp only [Nat.mul_comm,Nat.mul_left_comm,Nat.mul_assoc]
   have h4:4*(d*x)≤(x+d)*(x+d):=by
    rcases Nat.le_total x d with f|f
    ·obtain ⟨t,rfl⟩:∃ t,d=x+t:=⟨d - x,by omega⟩
     simp only [Nat.mul_add,Nat.add_mul,Nat.mul_comm t x]
     omega
    ·obtain ⟨t,rfl⟩:∃ t,x=d+t:=⟨x - d,by omega⟩
     simp only [Nat.mul_add,Nat.add_mul,Nat.mul_comm t d]
     omega
   omega
 omega
theorem qK1 (a x:Nat) (hx:0<x) (h:rt a≤x) (hy:x≤(x+a / x) / 2):rt a=x:=by
 have h1:x≤a / x:=by omega
 have h2:=(Nat.le_div_iff_mul_le hx).1 h1
 have h3:x<rt a+1:=xb8 (Nat.lt_of_le_of_lt h2 (qY8 a))
 omega
theorem xg8 (a:Nat):rt a≤2 ^ ((nb a+1) / 2):=by
 have h1:a<2 ^ nb a:=qn2.1 (Nat.le_refl _)
 have h2:2 ^ nb a≤2 ^ ((nb a+1) / 2)*2 ^ ((nb a+1) / 2):=by
  rw [← Nat.pow_add]
  exact Nat.pow_le_pow_right (by decide) (by omega)
 have h3:=qQ7 a
 have:rt a<2 ^ ((nb a+1) / 2):=xb8 (by omega)
 omega
theorem qx1 {i k:Nat} (h:i<32*k):wl (2 ^ i)≤k:=by
 rw [qa4,qE7]
 exact Nat.pow_lt_pow_right (by decide) h
theorem Bx.c0 {w w':World} {b:Nat} {T:TypeId} {u v:Value} (h:Bx w b T #[u,v]) (hg:Gr w w'):w'.cell? ⟨b,0,none⟩=some u:=by rw [h.cells w' hg];rfl
theorem Bx.c1 {w w':World} {b:Nat} {T:TypeId} {u v:Value} (h:Bx w b T #[u,v]) (hg:Gr w w'):w'.cell? ⟨b,1,none⟩=some v:=by rw [h.cells w' hg];rfl
theorem Bx.set2 {w:World} {b:Nat} {T:TypeId} {u v:Value} (h:Bx w b T #[u,v]) (u' v':Value):Bx ((w.setCell ⟨b,0,none⟩ u').setCell ⟨b,1,none⟩ v') b T #[u',v']:=(((h.set 0 _).set 1 _).eq rfl)
theorem Bx.keep2 {w:World} {b:Nat} {T:TypeId} {cs:Array Value} (h:Bx w b T cs) {b':Nat} (hb:b≠b') (u' v':Value):Bx ((w.setCell ⟨b',0,none⟩ u').setCell ⟨b',1,none⟩ v') b T cs:=(h.setOther hb _).setOther hb _
theorem qj1 {B:Nat} {w w':World} (h:Below B w w') {b:Nat} (hb:B≤b) (u' v':Value):Below B w ((w'.setCell ⟨b,0,none⟩ u').setCell ⟨b,1,none⟩ v'):=(h.setCell hb _).setCell hb _
end
section
open Go.RowKit
theorem of_2 (w:World):Calls Tryz.prog 124 #[.int .u64 2] w fun e w'=>e=.returned (Value.agg #[.int .u64 (lo (2)),.string (bg (2))])∧Below w.heap.size w w':=qt4 2 w (by decide) (by decide)
theorem xf2 (a:Nat) (w:World) (ha:wl a≤900000) :
  Calls Tryz.prog 117 #[(Value.agg #[.int .u64 (lo a),.string (bg a)])] w fun e w'=>e=.returned (Value.agg #[.int .u64 (lo (rt a)),.string (bg (rt a))])∧Below w.heap.size w w':=by
 obtain ⟨W0,HW⟩:∃ W0,Hid ((w.alloc (.cells #[.int .u64 (lo a),.string (bg a)] 30)).alloc (.cells #[.int .u64 0,.string ⟨#[]⟩] 30)=W0):=⟨_,Lib.hid rfl⟩
 have HB0:Hid (Below w.heap.size w W0):=Lib.hid (by rw [← HW.out];exact ((Below.refl _ _).alloc (Nat.le_refl _) _).alloc (by simp) _)
 have HA0:Hid (Bx W0 w.heap.size 30 #[.int .u64 (lo a),.string (bg a)]):=Lib.hid (by rw [← HW.out];exact (Bx.new _ _ _).alloc _)
 have HR0:Hid (Bx W0 (w.heap.size+1) 30 #[.int .u64 0,.string ⟨#[]⟩]):=Lib.hid (by rw [← HW.out];exact Bx.at (by simp))
 go_enter Tryz.func117,Tryz.ntmps117
 go_wp2_with fail
 rw [HW.out]
 refine (xh4 W0).mono ?_
 rintro e w1 ⟨rfl,hb1⟩
 have HG1:Hid (Gr W0 w1):=Lib.hid hb1
 clear hb1 HW
 obtain ⟨so,hso⟩:∃ so,w1.heap.size=so:=⟨_,rfl⟩
 have HS:Hid (w.heap.size+1<so∧so=w1.heap.size):=Lib.hid ⟨by have h1:=HR0.out.lt;have h2:=HG1.out.size;omega,hso.symm⟩
 obtain ⟨W1,HW1⟩:∃ W1,Hid (w1.alloc (.cells #[.int .u64 (lo (1)),.string (bg (1))] 30)=W1):=⟨_,Lib.hid rfl⟩
 have HA1:Hid (Bx W1 w.heap.size 30 #[.int .u64 (lo a),.string (bg a)]):=Lib.hid (by rw [← HW1.out];exact (HA0.out.gr HG1.out).alloc _)
 have HR1:Hid (Bx W1 (w.heap.size+1) 30 #[.int .u64 0,.string ⟨#[]⟩]):=Lib.hid (by rw [← HW1.out];exact (HR0.out.gr HG1.out).alloc _)
 have HO1:Hid (Bx W1 so 30 #[.int .u64 (lo (1)),.string (bg (1))]):=Lib.hid (by rw [← HW1.out];exact Bx.at hso)
 have HB1:Hid (Below w.heap.size w W1):=Lib.hid (by rw [← HW1.out];exact (HB0.out.trans (HG1.out.mono HB0.out.size)).alloc (by have:=HS.out;omega) _)
 obtain ⟨z,hz⟩:∃ z,nb a=z:=⟨_,rfl⟩
 have HBITS:=Lib.hid (qH8 a W1 (by omega))
 have hzb:z≤28800000:=by rw [← hz];have:=qL5 a;omega
 obtain ⟨H,hH⟩:∃ H:Nat,((z:Int)+1).tdiv 2=(H:Int):=⟨(z+1) / 2,by rw [Int.tdiv_eq_ediv_of_nonneg (by omega)];omega⟩
 have hH2:H=(z+1) / 2:=by rw [Int.tdiv_eq_ediv_of_nonneg (by omega)] at hH;omega
 have HZ:Hid (rt a≤2 ^ H∧H≤14400001):=Lib.hid ⟨by rw [hH2,← hz];exact xg8 a,by omega⟩
 have HZ2:=Lib.hid hz
 have x0:(w1.alloc (.cells #[.int .u64 (lo (1)),.string (bg (1))] 30)).cell? ⟨w.heap.size,0,none⟩=some (.int .u64 ((lo a:Nat):Int)):=by rw [HW1.out];exact HA1.out.c0 (Gr.refl _)
 have x1:(w1.alloc (.cells #[.int .u64 (lo (1)),.string (bg (1))] 30)).cell? ⟨w.heap.size,1,none⟩=some (.string (bg a)):=by rw [HW1.out];exact HA1.out.c1 (Gr.refl _)
 have hne:w.heap.size≠so:=by have:=HS.out;omega
 clear hz HA0 HR0 HB0 HG1 hH2
 go_wp2_with fail
 rw [HW1.out]
 clear hso HW1 hne
 refine HBITS.out.mono ?_
 rintro e w2 ⟨rfl,hb2⟩
 rw [HZ2.out]
 have HG2:Hid (Gr W1 w2):=Lib.hid hb2
 clear hb2 x0 x1 HBITS
 have HA2:=Lib.hid (HA1.out.gr HG2.out)
 have HR2:=Lib.hid (HR1.out.gr HG2.out)
 have HO2:=Lib.hid (HO1.out.gr HG2.out)
 have HB2:=Lib.hid (HB1.out.trans (HG2.out.mono HB1.out.size))
 clear HA1 HR1 HO1 HB1 HG2
 go_wp2_with fail
 rw [show wrap64 (H:Int)=(H:Int) by have:=HZ.out;unfold wrap64;omega]
 clear hH
 go_loopg [15] H (fun k v wr=>∃ i:Nat,v=.int .i64 (i:Int)∧Hid (i+k=H)∧i≤H∧Hid (Bx wr w.heap.size 30 #[.int .u64 (lo a),.string (bg a)])∧Hid (Bx wr (w.heap.size+1) 30 #[.int .u64 0,.string ⟨#[]⟩])∧Hid (Bx wr so 30 #[.int .u64 (lo (2 ^ i)),.string (bg (2 ^ i))])∧Hid (Below w.heap.size w wr))
 case atStart=>exact ⟨0,rfl,Lib.hid (Nat.zero_add _),Nat.zero_le _,HA2,HR2,HO2,HB2⟩
 case round =>
  obtain ⟨i,rfl,hik,hiH,HX,HZR,HO,HB⟩:=hrel
  clear HA2 HR2 HO2 HB2
  by_cases hi:i<H
  ·have hi2:(i:Int)<(H:Int):=by omega
   have HE:Hid (i<H):=Lib.hid hi
   clear hi
   have x0:=HO.out.c0 (Gr.refl _)
   have x1:=HO.out.c1 (Gr.refl _)
   have hwl:=qx1 (i:=i) (k:=1000000) (by have:=HZ.out;omega)
   have HM:=Lib.hid (qu8 (2 ^ i) (2 ^ i) wr (by omega) (by omega))
   rw [show 2 ^ i+2 ^ i=2 ^ (i+1) by rw [Nat.pow_succ];omega] at HM
   obtain ⟨p,hp⟩:∃ p,2 ^ i=p:=⟨_,rfl⟩
   obtain ⟨p',hp'⟩:∃ p',2 ^ (i+1)=p':=⟨_,rfl⟩
   rw [hp] at HM x0 x1 HO
   rw [hp'] at HM
   have HP:=Lib.hid hp'
   have hHs:H≤14400001:=HZ.out.2
   clear hp hp' hwl
   go_wp2_with fail
   refine HM.out.mono ?_
   rintro e w3 ⟨rfl,hb3⟩
   have HG:=Lib.hid (show Gr wr w3 from hb3)
   clear hb3 x0 x1
   have x0:=HO.out.c0 HG.out
   have x1:=HO.out.c1 HG.out
   have fx:=HO.out.free w3 HG.out
   go_wp2_with fail
   go_roundg (gk - 1)
   case measure=>have:=HE.out;have:=hik.out;omega
   case rel =>
    have hs:=HS.out
    have hlt:=HE.out
    refine ⟨i+1,rfl,Lib.hid (by have:=hik.out;omega),by omega,Lib.hid ((HX.out.gr HG.out).keep2 (by omega) _ _),Lib.hid ((HZR.out.gr HG.out).keep2 (by omega) _ _),?_,Lib.hid (qj1 (HB.out.trans (HG.out.mono HB.out.size)) (by omega) _ _)⟩
    rw [HP.out]
    exact Lib.hid ((HO.out.gr HG.out).set2 _ _)
  ·have hi2:¬ (i:Int)<(H:Int):=by omega
   have HE:Hid (i=H):=Lib.hid (by omega)
   clear hi
   have x0:=HX.out.c0 (Gr.refl _)
   have x1:=HX.out.c1 (Gr.refl _)
   have HZA:=Lib.hid (qk9 a wr)
   go_wp2_with fail
   refine HZA.out.mono ?_
   rintro e w3 ⟨rfl,hb3⟩
   have HG:=Lib.hid (show Gr wr w3 from hb3)
   clear hb3 x0 x1
   have hhe:i=H:=HE.out
   subst hhe
   have HX3:=Lib.hid (HX.out.gr HG.out)
   have HR3:=Lib.hid (HZR.out.gr HG.out)
   have HO3:=Lib.hid (HO.out.gr HG.out)
   have HB3:=Lib.hid (HB.out.trans (HG.out.mono HB.out.size))
   clear HX HZR HO HB HG HZA HE hik hi2 hiH
   have x0:=HX3.out.c0 (Gr.refl _)
   have x1:=HX3.out.c1 (Gr.refl _)
   have r0:=HR3.out.c0 (Gr.refl _)
   have r1:=HR3.out.c1 (Gr.refl _)
   have fr:=HR3.out.free w3 (Gr.refl _)
   by_cases h0:a=0
   ·have hd:decide (a=0)=true:=decide_eq_true h0
    have HRT:Hid (rt a=a):=Lib.hid (by rw [h0];rfl)
    clear h0
    go_wp2_with fail
    rw [show rt a=a from HRT.out]
    exact bodyPost_ret (v:=(Value.agg #[.int .u64 (lo a),.string (bg a)])) (by simp [results,Tryz.results117,go_sem,r0,r1]) rfl ⟨rfl,qj1 HB3.out (Nat.le_succ _) _ _⟩
   ·have hd:decide (a=0)=false:=decide_eq_false h0
    clear h0 x0 x1 r0 r1 fr
    go_wp2_with fail
    go_loopg [] (2 ^ i) (fun x wr=>rt a≤x∧0<x∧wl x≤1000000∧Hid (Bx wr w.heap.size 30 #[.int .u64 (lo a),.string (bg a)])∧Hid (Bx wr (w.heap.size+1) 30 #[.int .u64 0,.string ⟨#[]⟩])∧Hid (Bx wr so 30 #[.int .u64 (lo x),.string (bg x)])∧Hid (Below w.heap.size w wr))
    case atStart=>exact ⟨HZ.out.1,Nat.pow_pos (by decide),qx1 (k:=1000000) (by have:=HZ.out;omega),HX3,HR3,HO3,HB3⟩
    case round =>
     obtain ⟨hge,hpos,hxw,HX,HZR,HO,HB⟩:=hrel
     clear HX3 HR3 HO3 HB3
     have x0:=HX.out.c0 (Gr.refl _)
     have x1:=HX.out.c1 (Gr.refl _)
     have o0:=HO.out.c0 (Gr.refl _)
     have o1:=HO.out.c1 (Gr.refl _)
     have HGE:=Lib.hid hge
     have HPOS:=Lib.hid hpos
     have HD:=Lib.hid (qu4 a gk wr (by omega) (by omega))
     have hne0:Hid (gk≠0):=Lib.hid (by omega)
     clear hge hpos
     go_wp2_with fail
     refine HD.out.mono ?_
     rintro e w5 ⟨he,hb5⟩
     rw [if_neg hne0.out] at he
     subst he
     have HG5:=Lib.hid (show Gr wr w5 from hb5)
     clear hb5 x0 x1 o0 o1 HD
     have HX5:=Lib.hid (HX.out.gr HG5.out)
     have HR5:=Lib.hid (HZR.out.gr HG5.out)
     have HO5:=Lib.hid (HO.out.gr HG5.out)
     have HB5:=Lib.hid (HB.out.trans (HG5.out.mono HB.out.size))
     clear HX HZR HO HB HG5
     obtain ⟨q,hq⟩:∃ q,a / gk=q:=⟨_,rfl⟩
     obtain ⟨r,hr⟩:∃ r,a % gk=r:=⟨_,rfl⟩
     rw [hq,hr]
     have hqw:wl q≤900000:=by rw [← hq];exact Nat.le_trans (qb4 (Nat.div_le_self _ _)) ha
     have HQ:=Lib.hid hq
     clear hq hr
     obtain ⟨W6,HW6⟩:∃ W6,Hid ((w5.alloc (.cells #[.int .u64 (lo q),.string (bg q)] 30)).alloc (.cells #[.int .u64 (lo r),.string (bg r)] 30)=W6):=⟨_,Lib.hid rfl⟩
     have HX6:Hid (Bx W6 w.heap.size 30 #[.int .u64 (lo a),.string (bg a)]):=Lib.hid (by rw [← HW6.out];exact (HX5.out.alloc _).alloc _)
     have HR6:Hid (Bx W6 (w.heap.size+1) 30 #[.int .u64 0,.string ⟨#[]⟩]):=Lib.hid (by rw [← HW6.out];exact (HR5.out.alloc _).alloc _)
     have HO6:Hid (Bx W6 so 30 #[.int .u64 (lo gk),.string (bg gk)]):=Lib.hid (by rw [← HW6.out];exact (HO5.out.alloc _).alloc _)
     have HQ6:Hid (Bx W6 w5.heap.size 30 #[.int .u64 (lo q),.string (bg q)]):=Lib.hid (by rw [← HW6.out];exact (Bx.new _ _ _).alloc _)
     have hs5:w.heap.size≤w5.heap.size:=HB5.out.size
     have HB6:Hid (Below w.heap.size w W6):=Lib.hid (by rw [← HW6.out];exact ((HB5.out).alloc hs5 _).alloc (by simp;omega) _)
     have o0:((w5.alloc (.cells #[.int .u64 (lo q),.string (bg q)] 30)).alloc (.cells #[.int .u64 (lo r),.string (bg r)] 30)).cell? ⟨so,0,none⟩=some (.int .u64 ((lo gk:Nat):Int)):=by rw [HW6.out];exact HO6.out.c0 (Gr.refl _)
     have o1:((w5.alloc (.cells #[.int .u64 (lo q),.string (bg q)] 30)).alloc (.cells #[.int .u64 (lo r),.string (bg r)] 30)).cell? ⟨so,1,none⟩=some (.string (bg gk)):=by rw [HW6.out];exact HO6.out.c1 (Gr.refl _)
     clear HX5 HR5 HO5 HB5
     go_wp2_with fail
     rw [HW6.out]
     refine (qu8 gk q W6 (by omega) (by omega)).mono ?_
     rintro e w7 ⟨rfl,hb7⟩
     have HG7:=Lib.hid (show Gr W6 w7 from hb7)
     clear hb7 HW6 o0 o1
     go_wp2_with fail
     refine (of_2 w7).mono ?_
     rintro e w8 ⟨rfl,hb8⟩
     have HG8:=Lib.hid (Gr.trans HG7.out hb8)
     have hsw:wl (gk+q)≤1000001:=by have:=qo3 gk q;omega
     clear hb8 HG7
     go_wp2_with fail
     refine (qu4 (gk+q) 2 w8 (by omega) (Nat.le_trans (qe5 (n:=2) (by decide)) (by decide))).mono ?_
     rintro e w9 ⟨he,hb9⟩
     rw [if_neg (by decide)] at he
     subst he
     have HG9:=Lib.hid (Gr.trans HG8.out hb9)
     clear hb9 HG8
     obtain ⟨y,hy⟩:∃ y,(gk+q) / 2=y:=⟨_,rfl⟩
     obtain ⟨r2,hr2⟩:∃ r2,(gk+q) % 2=r2:=⟨_,rfl⟩
     rw [hy,hr2]
     have hyw:wl y≤1000001:=by rw [← hy];exact Nat.le_trans (qb4 (Nat.div_le_self _ _)) hsw
     have hge:rt a≤y:=by rw [← hy,← HQ.out];exact qP5 a gk HPOS.out
     have hend:gk≤y→rt a=gk:=by rw [← hy,← HQ.out];exact qK1 a gk HPOS.out HGE.out
     have hpos:0<y:=by
      have h1:=HPOS.out
      rw [← hy]
      rcases Nat.eq_zero_or_pos ((gk+q) / 2) with h|h
      ·exfalso
       have h2:gk=1:=by omega
       have h3:q=0:=by omega
       have h4:=HQ.out
       rw [h2,Nat.div_one,h3] at h4
       rw [h4] at hd
       exact absurd hd (by decide)
      ·exact h
     have HF:=Lib.hid (And.intro hge (And.intro hend hpos))
     clear hy hr2 hge hend hpos hsw
     obtain ⟨W10,HW10⟩:∃ W10,Hid ((w9.alloc (.cells #[.int .u64 (lo y),.string (bg y)] 30)).alloc (.cells #[.int .u64 (lo r2),.string (bg r2)] 30)=W10):=⟨_,Lib.hid rfl⟩
     have HX10:Hid (Bx W10 w.heap.size 30 #[.int .u64 (lo a),.string (bg a)]):=Lib.hid (by rw [← HW10.out];exact ((HX6.out.gr HG9.out).alloc _).alloc _)
     have HR10:Hid (Bx W10 (w.heap.size+1) 30 #[.int .u64 0,.string ⟨#[]⟩]):=Lib.hid (by rw [← HW10.out];exact ((HR6.out.gr HG9.out).alloc _).alloc _)
     have HO10:Hid (Bx W10 so 30 #[.int .u64 (lo gk),.string (bg gk)]):=Lib.hid (by rw [← HW10.out];exact ((HO6.out.gr HG9.out).alloc _).alloc _)
     have HY10:Hid (Bx W10 w9.heap.size 30 #[.int .u64 (lo y),.string (bg y)]):=Lib.hid (by rw [← HW10.out];exact (Bx.new _ _ _).alloc _)
     have hs9:w.heap.size≤w9.heap.size:=by have:=HB6.out.size;have:=HG9.out.size;omega
     have HB10:Hid (Below w.heap.size w W10):=Lib.hid (by rw [← HW10.out];exact ((HB6.out.trans (HG9.out.mono HB6.out.size)).alloc hs9 _).alloc (by simp;omega) _)
     have HS9:Hid (so<w9.heap.size):=Lib.hid (by have h1:=HO6.out.lt;have h2:=HG9.out.size;omega)
     have o0:((w9.alloc (.cells #[.int .u64 (lo y),.string (bg y)] 30)).alloc (.cells #[.int .u64 (lo r2),.string (bg r2)] 30)).cell? ⟨so,0,none⟩=some (.int .u64 ((lo gk:Nat):Int)):=by rw [HW10.out];exact HO10.out.c0 (Gr.refl _)
     have o1:((w9.alloc (.cells #[.int .u64 (lo y),.string (bg y)] 30)).alloc (.cells #[.int .u64 (lo r2),.string (bg r2)] 30)).cell? ⟨so,1,none⟩=some (.string (bg gk)):=by rw [HW10.out];exact HO10.out.c1 (Gr.refl _)
     clear HX6 HR6 HO6 HB6 HG9 HQ6
     go_wp2_with fail
     rw [HW10.out]
     refine (qo1 y gk W10 (by omega) (by omega)).mono ?_
     rintro e w11 ⟨rfl,hb11⟩
     have HG11:=Lib.hid (show Gr W10 w11 from hb11)
     clear hb11 o0 o1 HW10
     have o0:=HO10.out.c0 HG11.out
     have o1:=HO10.out.c1 HG11.out
     have y0:=HY10.out.c0 HG11.out
     have y1:=HY10.out.c1 HG11.out
     have r0:=HR10.out.c0 HG11.out
     have r1:=HR10.out.c1 HG11.out
     have fr:=HR10.out.free w11 HG11.out
     have fo:=HO10.out.free w11 HG11.out
     have HB11:=Lib.hid (HB10.out.trans (HG11.out.mono HB10.out.size))
     by_cases hyg:y<gk
     ·have hc:cmpI (y:Int) (gk:Int) = -1:=qm7 (by omega)
      rw [hc]
      have HL:=Lib.hid hyg
      clear hyg hc
      go_wp2_with fail
      go_roundg y
      case measure=>exact HL.out
      case rel =>
       have hs:=HS.out
       exact ⟨HF.out.1,HF.out.2.2,Nat.le_trans (qb4 (Nat.le_of_lt HL.out)) hxw,Lib.hid ((HX10.out.gr HG11.out).keep2 (by omega) _ _),Lib.hid ((HR10.out.gr HG11.out).keep2 (by omega) _ _),Lib.hid ((HO10.out.gr HG11.out).set2 _ _),Lib.hid (qj1 HB11.out (by omega) _ _)⟩
     ·have hc:cmpI (y:Int) (gk:Int)=0∨cmpI (y:Int) (gk:Int)=1:=by
       rcases Nat.lt_or_ge gk y with h|h
       ·exact .inr (qr0 (by omega))
       ·exact .inl (qu9 (by omega))
      obtain ⟨s,hs⟩:∃ s,cmpI (y:Int) (gk:Int)=s:=⟨_,rfl⟩
      rw [hs] at hc
      rw [hs]
      have hs0:0≤s:=by omega
      have HRT:=Lib.hid (HF.out.2.1 (by omega))
      clear hs hc hyg
      go_wp2_with fail
      rw [HRT.out]
      exact bodyPost_ret (v:=(Value.agg #[.int .u64 (lo gk),.string (bg gk)])) (by simp [results,Tryz.results117,go_sem,r0,r1]) rfl ⟨rfl,qj1 HB11.out (Nat.le_succ _) _ _⟩
end
end Go.Proofs.YtaflakcemiilaaaGreatDoor
