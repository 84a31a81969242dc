/- A pack of texts: Rat, RefR, RefS. No condition but those stated. -/
import Derived.Test.YtobojnodohjiaaaGreatDoorPG
import Derived.Test.YtobojnodohjiaaaGreatDoorPC
import Derived.Test.YtobojnodohjiaaaGreatDoorPD
import Derived.Test.YtobojnodohjiaaaGreatDoorPR
import Derived.Test.YtobojnodohjiaaaGreatDoorPE
import Derived.Test.YtobojnodohjiaaaGreatDoorPP
import Derived.Test.YtobojnodohjiaaaGreatDoorPA
set_option maxRecDepth 100000
set_option maxHeartbeats 16000000
set_option linter.unusedVariables false
set_option linter.unusedSimpArgs false
namespace Go.Proofs.YtobojnodohjiaaaGreatDoor
section
open Go.RowKit
theorem xb4 (k:Nat):bp k≤tp (3*k):=by
 unfold bp tp
 rw [Nat.pow_mul]
 exact Nat.pow_le_pow_left (by decide) k
theorem qF5 (n:Nat):tw n≤3*wl n:=qe_.2 (Nat.lt_of_lt_of_le (qa6 n) (xb4 _))
theorem qF2:tw 4294967296≤3:=qe_.2 (by decide)
def upv (f:Nat→Nat) (k j:Nat):Nat:=vl (fun t=>f (j+t)) (k - j)
theorem qZ6 (f:Nat→Nat) (k:Nat):upv f k 0=vl f k:=by
 unfold upv
 exact qd0 fun i _=>by rw [Nat.zero_add]
theorem qJ9 (f:Nat→Nat) (k:Nat):upv f k k=0:=by unfold upv;rw [Nat.sub_self];rfl
theorem qJ_ (f:Nat→Nat) {k j:Nat} (h:j<k):upv f k j=upv f k (j+1)*4294967296+f j:=by
 unfold upv
 obtain ⟨m,hm⟩:∃ m,k - j=m+1:=⟨k - j - 1,by omega⟩
 rw [hm,qZ7,show k - (j+1)=m by omega,Nat.add_zero]
 have e:vl (fun i=>f (j+(i+1))) m=vl (fun t=>f (j+1+t)) m:=qd0 fun i _=>by rw [show j+(i+1)=j+1+i by omega]
 rw [e]
 omega
theorem xl7 {f:Nat→Nat} {k:Nat} (hf:∀ i,i<k→f i<4294967296) (j:Nat):wl (upv f k j)≤k:=by
 refine Nat.le_trans (wl_le.2 (vl_lt (fun i hi=>hf (j+i) (by omega)))) (by omega)
theorem Rn.nil (w:World):Rn w (.slice none 0 0) 0:=by unfold Rn;rw [qf3];exact Dr.nil _ _ _
def Wa (w:World) (v:Value) (k:Nat) (f:Nat→Nat):Prop :=
 (∃ ao c,v=.slice ao k c∧k=0)∨∃ b o c,v=.slice (some ⟨b,o,none⟩) k c∧b<w.heap.size∧∀ i,i<k→w.cell? ⟨b,o+i,none⟩=some (.int .u32 ((f i:Nat):Int))
theorem Wa.gr {w w':World} {v:Value} {k:Nat} {f:Nat→Nat} (h:Wa w v k f) (hg:Gr w w'):Wa w' v k f:=by
 rcases h with h|⟨b,o,c,rfl,hb,hc⟩
 ·exact .inl h
 exact .inr ⟨b,o,c,rfl,Nat.lt_of_lt_of_le hb hg.size,fun i hi=>(Below.cell hg (p:=⟨b,o+i,none⟩) hb).trans (hc i hi)⟩
theorem Wa.slice {w:World} {v:Value} {k:Nat} {f:Nat→Nat} (h:Wa w v k f):∃ ao c,v=.slice ao k c:=by
 rcases h with ⟨ao,c,rfl,_⟩|⟨b,o,c,rfl,_⟩
 ·exact ⟨_,_,rfl⟩
 exact ⟨_,_,rfl⟩
theorem xh3 (v:Value) (k:Nat) (f:Nat→Nat) (w:World) (hk:k≤1000000) (h:Wa w v k f) (hf:∀ i,i<k→f i<4294967296) :
  Calls Tryz.prog 251 #[v] w fun e w'=>(∃ v',e=.returned v'∧Rn w' v' (vl f k))∧Below w.heap.size w w':=by
 have HF:=Lib.hid hf
 have HW:=Lib.hid h
 obtain ⟨ao,c,rfl⟩:=h.slice
 clear hf h
 go_enter Tryz.func251,Tryz.ntmps251
 go_wp2_with fail
 go_loopg [3,4] k (fun j u i wr=>i=.int .i64 ((j:Int) - 1)∧j≤k∧Hid (Rn wr u (upv f k j))∧Hid (Gr w wr))
 case atStart=>exact ⟨rfl,Nat.le_refl _,Lib.hid (by rw [qJ9];exact Rn.nil w),Lib.hid (Gr.refl _)⟩
 case round =>
  obtain ⟨rfl,hj,HR,HG⟩:=hrel
  by_cases h0:gk=0
  ·subst h0
   have HV:Hid (Rn wr u3 (vl f k)):=Lib.hid (by rw [← qZ6];exact HR.out)
   go_wp2_with fail
   go_ret
   exact ⟨⟨_,rfl,HV.out⟩,HG.out⟩
  obtain ⟨j,rfl⟩:∃ j,gk=j+1:=⟨gk - 1,by omega⟩
  have hj2:((j+1:Nat):Int) - 1=(j:Int):=by omega
  rw [hj2]
  rcases HW.out with ⟨_,_,_,h⟩|⟨b,o,c2,hv,hb,hcell⟩
  ·omega
  injection hv with hv1 _ hv3
  subst hv1 hv3
  obtain ⟨d,hd⟩:∃ d,f j=d:=⟨_,rfl⟩
  have hd2:d<4294967296:=by rw [← hd];exact HF.out j (by omega)
  have hc:∀ w',Gr wr w'→w'.cell? ⟨b,o+j,none⟩=some (.int .u32 (d:Int)):=fun w' hw=>by
   rw [← hd,← hcell j (by omega)]
   exact Below.cell (HG.out.trans hw) (p:=⟨b,o+j,none⟩) hb
  go_wp2_with fail
  have HC:=Lib.hid hc
  have HBW:Hid (tw (upv f k (j+1))≤3000000):=Lib.hid (Nat.le_trans (qF5 _) (by have:=xl7 HF.out (j+1);omega))
  obtain ⟨x,hx⟩:∃ x,upv f k (j+1)=x:=⟨_,rfl⟩
  rw [hx] at HR HBW
  have HX:=Lib.hid hx
  have hst:=qJ_ f (show j<k by omega)
  rw [hx,hd] at hst
  have HST:=Lib.hid hst
  clear hx hst hcell hc HW
  refine wp_region_plan 10 [] [] (fun _=>0) (fun _=>.cells #[] 0) [(true,0),(true,3),(true,4),(true,5),(true,6),(true,7),(false,1),(false,2),(false,8),(false,9)] (by kernel_rfl) (by kernel_rfl) (fun i hi=>by cases hi) (fun i hi=>by cases hi) (fun _ _ _ _ _ h=>h) (fun T hT=>?_)
  have lx:=HC.out
  have hjk:j<k:=by omega
  have hwr:IntKind.u64.wrap (d:Int)=(d:Int):=by rw [IntKind.wrap_u64];omega
  iterate 6
   refine wpPlan_takeL (v:=?_) rfl (by rfl) (fun w' hw=>?_) ?_
   rotate_left
   ·go_simp
    with_reducible rfl
   simp only [Act.put,List.setIfInBounds_toArray,List.set_cons_zero,List.set_cons_succ]
  refine qe8 rfl (by rfl) Tryz.call179 (by rfl) (fun w' hw=>(qj_ 4294967296 _ (by decide)).mono ?_)
  rintro e vv1 ⟨⟨rv1,rfl,R1⟩,hg0⟩
  refine ⟨_,rfl,hg0,?_⟩
  have HG1:=Lib.hid (Gr.trans hw hg0);clear hw hg0
  have HR1:=Lib.hid R1;clear R1
  simp only [Act.put,List.setIfInBounds_toArray,List.set_cons_zero,List.set_cons_succ]
  refine qe8 rfl (by rfl) Tryz.call178 (by rfl) (fun w' hw=>(qs8 _ _ x 4294967296 _ (HR.out.gr (HG1.out.trans hw)) (HR1.out.gr hw) (by have:=HBW.out;omega) (by have:=qF2;omega)).mono ?_)
  rintro e vv2 ⟨⟨rv2,rfl,R2⟩,hg0⟩
  refine ⟨_,rfl,hg0,?_⟩
  have HG2:=Lib.hid (HG1.out.trans (Gr.trans hw hg0));clear hw hg0 HG1 HR1
  have HR2:=Lib.hid R2;clear R2
  simp only [Act.put,List.setIfInBounds_toArray,List.set_cons_zero,List.set_cons_succ]
  refine qe8 rfl (by rfl) Tryz.call179 (by rfl) (fun w' hw=>(qj_ d _ (by omega)).mono ?_)
  rintro e vv3 ⟨⟨rv3,rfl,R3⟩,hg0⟩
  refine ⟨_,rfl,hg0,?_⟩
  have HG3:=Lib.hid (HG2.out.trans (Gr.trans hw hg0))
  have HR2':=Lib.hid (HR2.out.gr (Gr.trans hw hg0));clear hw hg0 HG2 HR2
  have HR3:=Lib.hid R3;clear R3
  simp only [Act.put,List.setIfInBounds_toArray,List.set_cons_zero,List.set_cons_succ]
  refine qe8 rfl (by rfl) Tryz.call220 (by rfl) (fun w' hw=>(qx8 _ _ (x*4294967296) d _ (HR2'.out.gr hw) (HR3.out.gr hw) (by have:=HBW.out;have:=qj1 x 4294967296;have:=qF2;omega) (by have:=qF2;have:=qc7 (show d≤4294967296 by omega);omega)).mono ?_)
  rintro e vv4 ⟨⟨rv4,rfl,R4⟩,hg0⟩
  refine ⟨_,rfl,hg0,?_⟩
  have HG4:=Lib.hid (HG3.out.trans (Gr.trans hw hg0));clear hw hg0 HG3 HR3 HR2'
  have HR4:=Lib.hid (show Rn vv4 rv4 (upv f k j) by rw [HST.out];exact R4);clear R4
  simp only [Act.put,List.setIfInBounds_toArray,List.set_cons_zero,List.set_cons_succ]
  refine wpPlan_nil (hT.out _ _ ?_);clear hT T
  intro G vw1 hg hf
  simp only [puts,Act.put,List.setIfInBounds_toArray,List.set_cons_zero,List.set_cons_succ,List.drop_succ_cons,List.drop_zero,↓reduceIte,Nat.reduceEqDiff]
  have HG5:=Lib.hid (HG4.out.trans hg)
  have HR5:=Lib.hid (HR4.out.gr hg)
  clear hg hf HG4 HR4 HC lx
  go_wp2_with fail
  go_roundg j
  case measure=>omega
  case rel=>exact ⟨rfl,by omega,HR5,Lib.hid (HG.out.trans HG5.out)⟩
end
section
open Go.RowKit
theorem xf7 (n:Nat):nb n≤14*tw n:=by
 rw [nb_le]
 refine Nat.lt_of_lt_of_le (qb1 n) ?_
 unfold tp
 rw [Nat.pow_mul]
 exact Nat.pow_le_pow_left (by decide) _
theorem qO9 (i k:Nat) (h:i≤13*k):tw (2 ^ i)≤k+1:=by
 refine qe_.2 ?_
 have h1:2 ^ i≤2 ^ (13*k):=Nat.pow_le_pow_right (by decide) h
 have h2:2 ^ (13*k)≤tp k:=by
  unfold tp
  rw [Nat.pow_mul]
  exact Nat.pow_le_pow_left (by decide) _
 have h3:=qf8 k
 have h4:0<tp k:=by unfold tp;exact Nat.pow_pos (by decide)
 omega
theorem qX0 (v:Value) (x:Nat) (w:World) (hx:Rn w v x) (bx:tw x≤10000000) :
  Calls Tryz.prog 149 #[v] w fun e w'=>e=.returned (.int .i64 (nb x:Int))∧Below w.heap.size w w':=by
 have HX:=Lib.hid hx
 have HN:Hid (nb x≤140000000):=Lib.hid (by have:=xf7 x;omega)
 clear hx
 go_enter Tryz.func149,Tryz.ntmps149
 go_wp2_with fail
 refine (qj_ 1 w (by decide)).mono ?_
 rintro e w1 ⟨⟨rv1,rfl,R1⟩,hg⟩
 have HR1:=Lib.hid (show Rn w1 rv1 (2 ^ 0) by rw [Nat.pow_zero];exact R1)
 have HG1:=Lib.hid (show Gr w w1 from hg)
 clear R1 hg
 go_wp2_with fail
 go_loopg [3,4] (nb x) (fun k n u wr=>∃ j:Nat,n=.int .i64 (j:Int)∧Hid (j+k=nb x)∧Hid (Rn wr u (2 ^ j))∧Hid (Gr w wr))
 case atStart=>exact ⟨0,rfl,Lib.hid (Nat.zero_add _),HR1,HG1⟩
 case round =>
  obtain ⟨j,rfl,HJ,HR,HG⟩:=hrel
  have hj:j≤140000000:=by have:=HJ.out;have:=HN.out;omega
  have HBJ:Hid (tw (2 ^ j)≤20000001):=Lib.hid (qO9 j 20000000 (by omega))
  have HC:=Lib.hid (qn5 _ v (2 ^ j) x wr HR.out (HX.out.gr HG.out) (by have:=HBJ.out;omega) (by omega))
  clear HG1 HR1
  by_cases h:2 ^ j≤x
  ·obtain ⟨s,hs⟩:∃ s,cmpI ((2 ^ j:Nat):Int) (x:Int)=s:=⟨_,rfl⟩
   have hs0:s≤0:=by rw [← hs];exact qQ7.2 (by omega)
   rw [hs] at HC
   have HJ1:Hid (j<nb x):=Lib.hid (by
    rcases Nat.lt_or_ge j (nb x) with e|e
    ·exact e
    have:=nb_le.1 e
    omega)
   clear h hs
   go_wp2_with fail
   refine HC.out.mono ?_
   rintro e w2 ⟨rfl,hg⟩
   have HR2:=Lib.hid (HR.out.gr hg)
   have HG2:=Lib.hid (HG.out.trans hg)
   clear hg HC HR HG
   have HA:=Lib.hid (qx8 _ _ (2 ^ j) (2 ^ j) w2 HR2.out HR2.out (by have:=HBJ.out;omega) (by have:=HBJ.out;omega))
   go_wp2_with fail
   refine HA.out.mono ?_
   rintro e w3 ⟨⟨rv3,rfl,R3⟩,hg⟩
   have HR3:=Lib.hid (show Rn w3 rv3 (2 ^ (j+1)) by rw [show 2 ^ (j+1)=2 ^ j+2 ^ j by rw [Nat.pow_succ];omega];exact R3)
   have HG3:=Lib.hid (HG2.out.trans hg)
   clear R3 hg HA HG2 HR2
   go_wp2_with fail
   go_roundg (gk - 1)
   case measure=>have:=HJ.out;have:=HJ1.out;omega
   case rel=>exact ⟨j+1,rfl,Lib.hid (by have:=HJ.out;have:=HJ1.out;omega),HR3,HG3⟩
  have hs:cmpI ((2 ^ j:Nat):Int) (x:Int)=1:=qo9 (by omega)
  rw [hs] at HC
  have HJN:Hid (j=nb x):=Lib.hid (by
   have h1:nb x≤j:=nb_le.2 (by omega)
   have:=HJ.out
   omega)
  clear h hs
  go_wp2_with fail
  refine HC.out.mono ?_
  rintro e w2 ⟨rfl,hg⟩
  have HG2:=Lib.hid (HG.out.trans hg)
  clear hg HC HR HG
  go_wp2_with fail
  go_ret
  exact ⟨by rw [← HJN.out];rfl,HG2.out⟩
end
section
open Go.RowKit
def RootAt (w:World) (r n g j:Nat) (wr:World):Prop :=
 Dr wr w.heap.size (.slice (some ⟨g,0,none⟩) n n) n (fun t=>if t<j then 0 else tg r t)∧Below w.heap.size w wr∧g<wr.heap.size
theorem RootAt.next {w wr:World} {r n g j d:Nat} (hgw:w.heap.size≤g) (h:RootAt w r n g (j+1) wr) (hd:tg r j=d) (hj:j<n):RootAt w r n g j (wr.setCell ⟨g,j,none⟩ (.int .i64 ((d:Nat):Int))):=by
 refine ⟨(h.1.store j d hj).congr fun i hi=>?_,h.2.1.setCell hgw _,by simpa using h.2.2⟩
 by_cases e:i=j
 ·subst e;simp [hd]
 by_cases e2:i<j
 ·simp [e,e2,show i<j+1 by omega]
 simp [e,e2,show ¬ i<j+1 by omega]
end
end Go.Proofs.YtobojnodohjiaaaGreatDoor

set_option maxRecDepth 100000
set_option maxHeartbeats 16000000
set_option linter.unusedVariables false
set_option linter.unusedSimpArgs false
namespace Go.Proofs.YtobojnodohjiaaaGreatDoor
open Go.RowKit
theorem xe1 {y:Nat} (h:y≠0):hd y=hd (y / 10) ++ [UInt8.ofNat (48+y % 10)]:=by
 unfold hd
 rw [if_neg h]
 by_cases h1:y<10
 ·rw [if_pos (by omega),Lib.decDigits_one h1,show y % 10=y by omega];rfl
 rw [if_neg (by omega),qc5 h1]
def cutd (x i k:Nat):Nat:=x / 10 ^ (4*i+k)
theorem qz0 (x i:Nat):cutd x (i+1) 0=cutd x i 4:=rfl
theorem qy_ (x i k:Nat):cutd x i (k+1)=cutd x i k / 10:=by
 unfold cutd
 rw [show 4*i+(k+1)=4*i+k+1 by omega,Nat.pow_succ,Nat.div_div_eq_div_mul]
theorem xr1 (x i:Nat):tg x i=cutd x i 0 % 10 ^ 4:=by
 unfold tg cutd tp
 rw [Nat.add_zero,Nat.pow_mul]
theorem xb8 {x i k:Nat} (h:i+1<tw x) (hk:k≤4):0<cutd x i k:=by
 unfold cutd
 apply Nat.div_pos _ (Nat.pow_pos (by decide))
 have h1:tp (i+1)≤x:=qz_.1 (by omega)
 refine Nat.le_trans ?_ h1
 unfold tp
 rw [show (10000:Nat)=10 ^ 4 from rfl,← Nat.pow_mul]
 exact Nat.pow_le_pow_right (by decide) (by omega)
theorem qv3 {x i k:Nat} (h:tw x≤i+1) (hk:k≤4):cutd x i k<10 ^ (4 - k):=by
 unfold cutd
 rw [Nat.div_lt_iff_lt_mul (Nat.pow_pos (by decide)),← Nat.pow_add]
 have h1:x<tp (i+1):=qe_.1 h
 unfold tp at h1
 rw [show (10000:Nat)=10 ^ 4 from rfl,← Nat.pow_mul] at h1
 exact Nat.lt_of_lt_of_le h1 (Nat.pow_le_pow_right (by decide) (by omega))
theorem qX1 {y k d:Nat} (hk:k<4) (h:d=y % 10 ^ (4 - k)):d / 10=(y / 10) % 10 ^ (4 - (k+1))∧d % 10=y % 10:=by
 have e:10 ^ (4 - k)=10*10 ^ (4 - (k+1)):=by rw [show 4 - k=(4 - (k+1))+1 by omega,Nat.pow_succ,Nat.mul_comm]
 rw [h,e]
 exact ⟨Nat.mod_mul_right_div_self _ _ _,Nat.mod_mul_right_mod _ _ _⟩
theorem xB8 (s:ByteArray):(⟨s.data.toList.toArray⟩:ByteArray)=s:=by cases s;simp
theorem qR7 {e:Nat} (h:e<10):Utf8.encode (48+(e:Int))=⟨#[UInt8.ofNat (48+e)]⟩:=by
 match e,h with
 | 0,_=>rfl
 | 1,_=>rfl
 | 2,_=>rfl
 | 3,_=>rfl
 | 4,_=>rfl
 | 5,_=>rfl
 | 6,_=>rfl
 | 7,_=>rfl
 | 8,_=>rfl
 | 9,_=>rfl
attribute [local irreducible] Utf8.encode
theorem qu0 (v:Value) (x:Nat) (w:World) (hx:Rn w v x) (bx:tw x≤10000000) :
  Calls Tryz.prog 177 #[v] w fun e w'=>e=.returned (.string ⟨(Lib.decDigits x).toArray⟩)∧Below w.heap.size w w':=by
 obtain ⟨n,hn⟩:∃ n,tw x=n:=⟨_,rfl⟩
 rw [hn] at bx
 have HNX:=Lib.hid hn
 have HX:=Lib.hid hx
 rcases Dr.cases hx with ⟨rfl,h0⟩|⟨b,c,rfl,_,hbl,hnc,hc,hcell,_⟩
 ·have h1:x=0:=qh1.1 h0
  subst h1
  clear hx
  go_enter Tryz.func177,Tryz.ntmps177
  go_wp2_with fail
  go_ret
  exact ⟨by rw [Lib.decDigits_one (by decide)];rfl,Below.refl _ _⟩
 rw [hn] at hcell hnc ⊢
 rw [hn] at hx
 by_cases h0:n=0
 ·subst h0
  have h1:x=0:=qh1.1 hn
  subst h1
  clear hx
  go_enter Tryz.func177,Tryz.ntmps177
  go_wp2_with fail
  go_ret
  exact ⟨by rw [Lib.decDigits_one (by decide)];rfl,Below.refl _ _⟩
 have hnp:0<n:=by omega
 have HC:=Lib.hid hcell
 have HX0:Hid (x≠0):=Lib.hid (by intro e;subst e;rw [qf3] at hn;omega)
 clear hx hcell hn h0
 go_enter Tryz.func177,Tryz.ntmps177
 go_wp2_with fail
 have hnz:((n:Int) == 0)=false:=by
  rw [beq_eq_false_iff_ne]
  omega
 rw [hnz]
 go_loopg [3,4] n (fun j S i wr=>∃ (t:Nat) (s:ByteArray),i=.int .i64 (t:Int)∧S=.string s∧t≤n∧Hid (t+j=n)∧s.size≤4*t∧Hid (Lib.decDigits x=hd (cutd x t 0) ++ s.data.toList)∧Hid (Gr w wr))
 case atStart=>exact ⟨0,⟨#[]⟩,rfl,rfl,Nat.zero_le _,Lib.hid (Nat.zero_add _),Nat.zero_le _,Lib.hid (by unfold cutd hd;rw [if_neg (by simpa using HX0.out)];simp),Lib.hid (Gr.refl _)⟩
 case round =>
  obtain ⟨t,s,rfl,rfl,ht,HT,hs,HD,HG⟩:=hrel
  by_cases htn:t<n
  ·have htn2:(t:Int)<(n:Int):=by omega
   obtain ⟨d,hd⟩:∃ d,tg x t=d:=⟨_,rfl⟩
   have hcell:wr.cell? ⟨b,t,none⟩=some (.int .i64 (d:Int)):=by
    rw [← hd,← HC.out t htn]
    exact Below.cell HG.out (p:=⟨b,t,none⟩) hbl
   have HDG:Hid (d=cutd x t 0 % 10 ^ (4 - 0)):=Lib.hid (by rw [← hd];exact xr1 x t)
   clear hd
   go_wp2_with fail
   obtain ⟨wo,rfl⟩:∃ wo:World,wo=wr:=⟨_,rfl⟩
   obtain ⟨ko,rfl⟩:∃ ko:Nat,ko=gk:=⟨_,rfl⟩
   go_loopg [3,5,6] 4 (fun j S dd kk wr=>∃ (k d:Nat) (s:ByteArray),kk=.int .i64 (k:Int)∧dd=.int .i64 (d:Int)∧S=.string s∧k≤4∧d<10000∧Hid (k+j=4)∧s.size≤4*t+k∧Hid (d=cutd x t k % 10 ^ (4 - k))∧Hid (Lib.decDigits x=hd (cutd x t k) ++ s.data.toList)∧Hid (Gr w wr))
   case atStart=>exact ⟨0,d,s,rfl,rfl,rfl,by omega,by rw [HDG.out];exact Nat.mod_lt _ (by decide),Lib.hid rfl,hs,HDG,HD,HG⟩
   case round =>
    clear hs HD HG HDG hcell
    obtain ⟨k,d,s,rfl,rfl,rfl,hk,hd4,HK,hs,HDG,HD,HG⟩:=hrel
    have hcase:(k<4∧(t+1<n∨0<d))∨(k=4∨(¬ t+1<n∧d=0)):=by omega
    rcases hcase with ⟨hk4,hst⟩|hend
    ·have HY:Hid (cutd x t k≠0):=Lib.hid (by
      rcases hst with h|h
      ·exact Nat.ne_of_gt (xb8 (by rw [HNX.out];exact h) hk)
      intro e
      have:=HDG.out
      rw [e,Nat.zero_mod] at this
      omega)
     have HRS:=Lib.hid (qX1 hk4 HDG.out)
     obtain ⟨d',hd'⟩:∃ d':Nat,(d:Int) / 10=(d':Int):=⟨d / 10,by omega⟩
     have hE2:Utf8.encode (48+(d:Int) % 10)=⟨#[UInt8.ofNat (48+d % 10)]⟩:=by
      rw [show (d:Int) % 10=((d % 10:Nat):Int) by omega,qR7 (Nat.mod_lt _ (by decide))]
     have HS1:Hid ((Utf8.encode (48+(d:Int) % 10) ++ s).data.toList = [UInt8.ofNat (48+d % 10)] ++ s.data.toList):=Lib.hid (by rw [hE2];simp)
     have hE1:(Utf8.encode (48+(d:Int) % 10)).size=1:=by rw [hE2];rfl
     have HSz:Hid ((Utf8.encode (48+(d:Int) % 10) ++ s).size≤4*t+(k+1)):=Lib.hid (by rw [ByteArray.size_append,hE1];omega)
     clear hE2
     have HD1:Hid (Lib.decDigits x=hd (cutd x t (k+1)) ++ (Utf8.encode (48+(d:Int) % 10) ++ s).data.toList):=Lib.hid (by
      rw [HD.out,xe1 HY.out,HS1.out,qy_,HRS.out.2,List.append_assoc])
     have HDG1:Hid (d'=cutd x t (k+1) % 10 ^ (4 - (k+1))):=Lib.hid (by rw [qy_,← HRS.out.1];omega)
     have hk2:(k:Int)<4:=by omega
     have hd4':d'<10000:=by omega
     clear HD HDG HRS HY
     have hst2:((t:Int)+1<(n:Int))∨(¬ (t:Int)+1<(n:Int)∧(0:Int)<(d:Int)):=by omega
     clear hst
     rcases hst2 with hl2|⟨hl2,hl3⟩
     all_goals
      go_wp2_with fail
      go_roundg (4 - (k+1))
      case' measure=>have:=HK.out;omega
      case' rel=>exact ⟨k+1,d',_,rfl,rfl,rfl,by omega,hd4',Lib.hid (by omega),HSz.out,HDG1,HD1,HG⟩
    have HD1:Hid (Lib.decDigits x=hd (cutd x (t+1) 0) ++ s.data.toList):=Lib.hid (by
     rcases hend with rfl|⟨h1,h2⟩
     ·rw [qz0];exact HD.out
     have h3:=qv3 (x:=x) (i:=t) (k:=4) (by rw [HNX.out];omega) (Nat.le_refl _)
     have h4:=qv3 (x:=x) (i:=t) (k:=k) (by rw [HNX.out];omega) hk
     have h5:=HDG.out
     rw [Nat.mod_eq_of_lt h4,h2] at h5
     rw [qz0,show cutd x t 4=0 by simpa using h3,HD.out,← h5])
    have hsz:s.size≤4*(t+1):=by omega
    clear HD HDG
    have hend2:(¬ (k:Int)<4)∨((k:Int)<4∧¬ (t:Int)+1<(n:Int)∧¬ (0:Int)<(d:Int)):=by omega
    clear hend
    rcases hend2 with hk2|⟨hk2,hl2,hl3⟩
    all_goals
     go_wp2_with fail
     go_roundg (n - (t+1))
     case' measure=>have:=HT.out;omega
     case' rel=>exact ⟨t+1,s,rfl,rfl,by omega,Lib.hid (by omega),hsz,HD1,HG⟩
  obtain rfl:t=n:=by omega
  have hne:¬ (t:Int)<(t:Int):=by omega
  have HF:Hid (Lib.decDigits x=s.data.toList):=Lib.hid (by
   have h:=HD.out
   rw [show cutd x t 0=0 from by
    unfold cutd
    apply Nat.div_eq_of_lt
    have h1:x<tp t:=qe_.1 (by rw [HNX.out];exact Nat.le_refl _)
    unfold tp at h1
    rw [Nat.add_zero,Nat.pow_mul]
    exact h1] at h
   exact h)
  clear HD
  go_wp2_with fail
  go_ret
  exact ⟨by rw [HF.out,xB8];rfl,HG.out⟩
end Go.Proofs.YtobojnodohjiaaaGreatDoor

set_option maxRecDepth 100000
set_option maxHeartbeats 16000000
set_option linter.unusedVariables false
set_option linter.unusedSimpArgs false
namespace Go.Proofs.YtobojnodohjiaaaGreatDoor
open Go.RowKit
def RParse (s:ByteArray) (w:World) (e:Ending) (w':World):Prop :=
 (∃ v',e=.returned (.tuple #[v',.int .i64 (qb8 s)])∧Rn w' v' (pnum s))∧Below w.heap.size w w'
theorem ql8 {s:ByteArray} (h:4096<s.size):qb8 s=3∧pnum s=0:=by
 unfold qb8 pnum
 rw [if_pos h,if_neg (by omega)]
 exact ⟨rfl,rfl⟩
theorem qj7 {s:ByteArray} (h:s.size≤4096) (h2:¬ qx5 s):qb8 s=4∧pnum s=0:=by
 unfold qb8 pnum
 rw [if_neg (by omega),if_neg h2,if_neg (fun h=>h2 h.2)]
 exact ⟨rfl,rfl⟩
theorem qp6 {s:ByteArray} (h:s.size≤4096) (h2:qx5 s):qb8 s=0∧pnum s=pv s s.size:=by
 unfold qb8 pnum
 rw [if_neg (by omega),if_pos h2,if_pos ⟨h,h2⟩]
 exact ⟨rfl,rfl⟩
theorem qk7 {s:ByteArray} {w w':World} {e:Ending} {c:Int} (hc:qb8 s=c∧pnum s=0) (he:e=.returned (.tuple #[.slice none 0 0,.int .i64 c])) (hb:Below w.heap.size w w'):RParse s w e w' :=
 ⟨⟨_,by rw [hc.1];exact he,by rw [hc.2];exact Rn.nil w'⟩,hb⟩
theorem qA7 (s:ByteArray) (w:World) (h:4096<s.size) (hs:s.size≤9223372036854775807) :
  Calls Tryz.prog 234 #[.string s] w (RParse s w):=by
 have HP:=Lib.hid (ql8 h)
 go_enter Tryz.func234,Tryz.ntmps234
 go_wp2_with fail
 go_ret2
 exact qk7 HP.out rfl (Below.refl _ _)
theorem qA6 (s:ByteArray) (w:World) (h:s.size=0) :
  Calls Tryz.prog 234 #[.string s] w (RParse s w):=by
 have HP:=Lib.hid (qj7 (s:=s) (by omega) (fun h'=>by have:=h'.1;omega))
 go_enter Tryz.func234,Tryz.ntmps234
 go_wp2_with fail
 go_ret2
 exact qk7 HP.out rfl (Below.refl _ _)
theorem qE2 (s:ByteArray) (w:World) (h:1<s.size) (hs:s.size≤4096) (h0:byt s 0=48) :
  Calls Tryz.prog 234 #[.string s] w (RParse s w):=by
 have HP:=Lib.hid (qj7 (s:=s) hs (fun h'=>by have:=h'.2.1 h0;omega))
 have hb:(s[0]'(by omega)).toNat=48:=by rw [qd_ (by omega),h0]
 have h00:0<s.size:=by omega
 go_enter Tryz.func234,Tryz.ntmps234
 go_wp2_with fail
 go_ret2
 exact qk7 HP.out rfl (Below.refl _ _)
theorem qE3 (s:ByteArray) (w:World) (hs0:0<s.size) (hs:s.size≤4096) (h0:byt s 0=48→s.size≤1) :
  Calls Tryz.prog 234 #[.string s] w (RParse s w):=by
 obtain ⟨i0,hi,hz0,hz1,hz2⟩:=info_parts qk3
 have HBAD:Hid ((¬ ∀ i,i<s.size→48≤byt s i∧byt s i≤57)→qb8 s=4∧pnum s=0):=Lib.hid (fun h=>qj7 hs (fun h'=>h h'.2.2))
 have HGOOD:Hid ((∀ i,i<s.size→48≤byt s i∧byt s i≤57)→qb8 s=0∧pnum s=pv s s.size):=Lib.hid (fun h=>qp6 hs ⟨hs0,h0,h⟩)
 obtain ⟨y0,hy0⟩:∃ y0,(s[0]'hs0).toNat=y0:=⟨_,rfl⟩
 have h00:y0=48→s.size≤1:=by rw [← hy0,qd_ hs0];exact h0
 obtain ⟨len,hlen⟩:∃ len,s.size=len:=⟨_,rfl⟩
 have HL:=Lib.hid hlen
 rw [hlen] at hs0 hs h00
 have hq:(y0:Int)=48→¬ (1:Int)<(len:Int):=by omega
 clear h00 h0
 go_enter Tryz.func234,Tryz.ntmps234
 go_wp2_with fail
 all_goals
  (first|rename ¬ (y0:Int)=48=>hyy|rename (y0:Int)=48=>hyy)
  clear hyy hq
  go_loopg [5] len (fun k i wr=>∃ t:Nat,i=.int .i64 (t:Int)∧t≤len∧Hid (t+k=len)∧Hid (∀ i,i<t→48≤byt s i∧byt s i≤57)∧Hid (wr=w))
  case' atStart=>exact ⟨0,rfl,Nat.zero_le _,Lib.hid (Nat.zero_add _),Lib.hid (fun i h=>absurd h (Nat.not_lt_zero _)),Lib.hid rfl⟩
  case' round =>
   obtain ⟨t,rfl,ht,HT,HDG,HWW⟩:=hrel
   have ew:wr=w:=HWW.out
   subst ew
   by_cases htl:t<len
   ·have hlt:t<s.size:=by omega
    have htl2:(t:Int)<(len:Int):=by omega
    obtain ⟨y,hy⟩:∃ y,(s[t]'hlt).toNat=y:=⟨_,rfl⟩
    have HYB:Hid (byt s t=y):=Lib.hid (by rw [← hy,qd_ hlt])
    have hy2:y<256:=by rw [← HYB.out];exact xj8 s t
    by_cases hbad:(y:Int)<48∨(¬ (y:Int)<48∧(57:Int)<y)
    ·have HB:=Lib.hid (HBAD.out (fun h=>by have:=h t hlt;rw [HYB.out] at this;omega))
     rcases hbad with hbad|⟨hbad,hbad2⟩
     all_goals
      go_wp2_with fail
      go_ret2
      exact qk7 HB.out rfl (Below.refl _ _)
    have hg1:¬ (y:Int)<48:=by omega
    have hg2:¬ (57:Int)<y:=by omega
    clear hbad
    go_wp2_with fail
    go_roundg (len - (t+1))
    case' measure=>have:=HT.out;omega
    case' rel=>exact ⟨t+1,rfl,by omega,Lib.hid (by omega),Lib.hid (fun i hi=>by
        rcases Nat.lt_or_ge i t with h|h
        ·exact HDG.out i h
        rw [show i=t by omega,HYB.out];omega),Lib.hid rfl⟩
   obtain rfl:t=len:=by omega
   have hne:¬ (t:Int)<(t:Int):=by omega
   have HG:=Lib.hid (HGOOD.out (fun i hi=>HDG.out i (by omega)))
   have hlen2:(t:Int)≤4096:=by omega
   clear HBAD HGOOD
   go_wp2_with fail
   go_loopg [4,6] t (fun e out en w2=>∃ (i:Nat) (z:Int) (g:Nat→Nat),en=.int .i64 z∧Hid (0<z→z=(e:Int))∧Hid (z≤0→e=0) ∧ -4≤z∧z≤4096∧i+e≤t∧Hid (∀ j,j<i→g j<10000)∧Hid (Dr w2 wr.heap.size out i g)∧Hid (pv s t=pv s e*tp i+tv g i)∧Hid (Below wr.heap.size wr w2))
   case' atStart=>exact ⟨0,(t:Int),fun _=>0,rfl,Lib.hid (fun _=>rfl),Lib.hid (fun h=>by omega),by omega,hlen2,by omega,Lib.hid (fun j h=>absurd h (Nat.not_lt_zero _)),Lib.hid (Dr.nil _ _ _),Lib.hid (by simp [tp,tv]),Lib.hid (Below.refl _ _)⟩
   case' round =>
    obtain ⟨i,z,g,rfl,HZ1,HZ2,hz3,hz4,hie,HGL,HDR,HPV,HB⟩:=hrel
    by_cases hz:0<z
    ·obtain ⟨e,he⟩:∃ e:Nat,z=(e:Int):=⟨z.toNat,by omega⟩
     have hge:gk=e:=by have:=HZ1.out hz;omega
     subst hge
     subst he
     have hg0:(0:Int)<(gk:Int):=hz
     obtain ⟨b,hb⟩:∃ b,gk - 4=b:=⟨_,rfl⟩
     go_wp2_with fail
     rw [show max 0 ((gk:Int) - 4)=(b:Int) by omega]
     have hbg:b<gk∧gk≤b+4:=by omega
     have HB4:Hid (4≤gk→gk=b+4):=Lib.hid (by omega)
     have HB0:Hid (gk<4→b=0):=Lib.hid (by omega)
     clear hb
     obtain ⟨wo,rfl⟩:∃ wo:World,wo=wr:=⟨_,rfl⟩
     obtain ⟨ko,rfl⟩:∃ ko:Nat,ko=gk:=⟨_,rfl⟩
     go_loopg [7,8] (ko - b) (fun k dd jj w3=>∃ d j:Nat,dd=.int .i64 (d:Int)∧jj=.int .i64 (j:Int)∧b≤j∧j≤ko∧Hid (j+k=ko)∧Hid (d=pvr s b (j - b))∧Hid (w3=wo))
     case' atStart=>exact ⟨0,b,rfl,rfl,Nat.le_refl _,by omega,Lib.hid (by omega),Lib.hid (by rw [Nat.sub_self];rfl),Lib.hid rfl⟩
     case' round =>
      obtain ⟨d,j,rfl,rfl,hbj,hjk,HJ,HD,HWW⟩:=hrel
      have ew:wr=wo:=HWW.out
      subst ew
      have HDL:Hid (d<10 ^ (j - b)):=Lib.hid (by rw [HD.out];exact xk5 s b (j - b) (fun i hi=>(HDG.out (b+i) (by omega)).2))
      by_cases hjl:j<ko
      ·have hjl2:(j:Int)<(ko:Int):=by omega
       have hlt:j<s.size:=by omega
       obtain ⟨y,hy⟩:∃ y,(s[j]'hlt).toNat=y:=⟨_,rfl⟩
       have HYB:Hid (byt s j=y):=Lib.hid (by rw [← hy,qd_ hlt])
       have hyr:48≤y∧y≤57:=by rw [← HYB.out];exact HDG.out j (by omega)
       have hd9:d<1000:=Nat.lt_of_lt_of_le HDL.out (Nat.pow_le_pow_right (by decide) (by omega):10 ^ (j - b)≤10 ^ 3)
       obtain ⟨d',hd'⟩:∃ d':Nat,(10:Int)*(d:Int)+((y:Int) - 48)=(d':Int):=⟨10*d+(y - 48),by omega⟩
       go_wp2_with fail
       go_roundg (ko - (j+1))
       case' measure=>have:=HJ.out;omega
       case' rel=>exact ⟨d',j+1,rfl,rfl,by omega,by omega,Lib.hid (by omega),Lib.hid (by
         rw [show j+1 - b=(j - b)+1 by omega]
         show d'=10*pvr s b (j - b)+(byt s (b+(j - b)) - 48)
         rw [← HD.out,show b+(j - b)=j by omega,HYB.out]
         omega),Lib.hid rfl⟩
      obtain rfl:j=ko:=by omega
      have hne2:¬ (j:Int)<(j:Int):=by omega
      have hd4:d<10000:=Nat.lt_of_lt_of_le HDL.out (Nat.pow_le_pow_right (by decide) (by omega):10 ^ (j - b)≤10 ^ 4)
      have HPV2:Hid (pv s t=pv s b*tp (i+1)+(tv g i+d*tp i)):=Lib.hid (by
       have h1:pv s j=pv s b*10 ^ (j - b)+d:=by rw [HD.out,← xk4,show b+(j - b)=j by omega]
       rw [HPV.out,h1,Nat.add_mul,qf8]
       rcases Nat.lt_or_ge j 4 with h4|h4
       ·rw [HB0.out h4]
        have:pv s 0=0:=rfl
        rw [this]
        omega
       rw [show j - b=4 by have:=HB4.out h4;omega,show (10:Nat) ^ 4=10000 from rfl,Nat.mul_assoc]
       omega)
      have hi9:i≤4096:=by omega
      clear HPV HD HDL
      go_wp2_with (first|(at_builtin;refine wpList_append_own _ rfl (.tmp 63) (.tmp 65) 43 rfl _ 3 i0 (.int .i64 0) 1 8 Tryz.underlying43 hi hz0 hz1 hz2 rfl (by decide) _ _ _ (by simp [Act.eval,Act.put]) (HDR.out.alloc _) ⟨wr.heap.size,0,none⟩ 1 1 [.int .i64 ((d:Nat):Int)] (by simp [Act.eval,Act.put]) rfl (qg6 _ _ _) (ql6 _ _) (by unfold maxLen;omega) (by omega) (by have:=HB.out.size;simp;omega) ?_)|fail)
      intro v' w5 hown' hgrow _
      have R:=qh4 HB.out HDR.out hown' hgrow
      have H1:=Lib.hid R.1
      have H2:=Lib.hid R.2
      clear R hown' hgrow
      go_wp2_with fail
      go_roundg b
      case' measure=>omega
      case' rel=>exact ⟨i+1,(j:Int) - 4,fun q=>if q=i then d else g q,rfl,Lib.hid (fun h=>by have:=HB4.out (by omega);omega),Lib.hid (fun h=>by
         rcases Nat.lt_or_ge j 4 with h4|h4
         ·exact HB0.out h4
         ·have:=HB4.out h4;omega),by omega,by omega,by omega,Lib.hid (fun q hq=>by
         dsimp only
         split
         ·exact hd4
         exact HGL.out q (by omega)),H2,Lib.hid (by rw [qc6,if_pos rfl,qs9 (g:=g) (fun q hq=>if_neg (by omega))];exact HPV2.out),H1⟩
    have he0:gk=0:=HZ2.out (by omega)
    have HV:Hid (tv g i=pnum s):=Lib.hid (by
     rw [HG.out.2,hlen,HPV.out,he0]
     have:pv s 0=0:=rfl
     rw [this]
     omega)
    have HC:Hid (qb8 s=0):=Lib.hid HG.out.1
    have HTR:=Lib.hid (qh_ u4 _ i g wr HDR.out)
    clear HPV HG he0
    go_wp2_with fail
    refine HTR.out.mono ?_
    rintro e w3 ⟨⟨v',rfl,hd⟩,rfl⟩
    have HRN:Hid (Rn wr v' (pnum s)):=Lib.hid (by rw [← HV.out];exact Rn.of hd HGL.out)
    clear hd
    go_wp2_with fail
    go_ret2
    exact ⟨⟨v',by rw [HC.out];rfl,HRN.out⟩,HB.out⟩
theorem qO2 (s:ByteArray) (w:World) (hs:s.size≤9223372036854775807) :
  Calls Tryz.prog 234 #[.string s] w fun e w'=>(∃ v',e=.returned (.tuple #[v',.int .i64 (qb8 s)])∧Rn w' v' (pnum s))∧Below w.heap.size w w':=by
 show Calls _ _ _ w (RParse s w)
 by_cases h1:4096<s.size
 ·exact qA7 s w h1 hs
 by_cases h2:s.size=0
 ·exact qA6 s w h2
 by_cases h3:byt s 0=48∧1<s.size
 ·exact qE2 s w h3.2 (by omega) h3.1
 exact qE3 s w (by omega) (by omega) (fun h=>by omega)
end Go.Proofs.YtobojnodohjiaaaGreatDoor

set_option linter.unusedVariables false
set_option linter.unusedSimpArgs false
namespace Go.Proofs.YtobojnodohjiaaaGreatDoor
section
def sz (q:Rat):Nat:=max (wl q.num.natAbs) (wl q.den)
theorem sz_num (q:Rat):wl q.num.natAbs≤sz q:=Nat.le_max_left _ _
theorem sz_den (q:Rat):wl q.den≤sz q:=Nat.le_max_right _ _
theorem xl2 (q:Rat):1≤sz q:=Nat.le_trans (qo5 q.den_pos) (sz_den q)
theorem sz_of {q:Rat} {k:Nat} (h1:wl q.num.natAbs≤k) (h2:wl q.den≤k):sz q≤k:=Nat.max_le.2 ⟨h1,h2⟩
theorem qm9 (n:Int) (g:Nat):(n / (g:Int)).natAbs≤n.natAbs:=Int.natAbs_ediv_le_natAbs n (g:Int)
theorem qc3 {n:Int} {d k:Nat} (h1:wl n.natAbs≤k) (h2:wl d≤k) (h3:1≤k):sz (mkRat n d)≤k:=by
 refine sz_of ?_ ?_
 ·rw [Rat.num_mkRat]
  split
  ·exact Nat.zero_le _
  exact Nat.le_trans (qb6 (qm9 _ _)) h1
 rw [Rat.den_mkRat]
 split
 ·exact Nat.le_trans (wl_small (by decide)) h3
 exact Nat.le_trans (qo3 _ _) h2
theorem qc9 (p q:Rat):sz (p+q)≤sz p+sz q+1:=by
 rw [Rat.add_def']
 have a:=sz_num p
 have b:=sz_num q
 have c:=sz_den p
 have d:=sz_den q
 refine qc3 ?_ (Nat.le_trans (qi5 _ _) (by omega)) (by omega)
 have h1:=qi5 p.num.natAbs q.den
 have h2:=qi5 q.num.natAbs p.den
 have h3:=wl_add (p.num.natAbs*q.den) (q.num.natAbs*p.den)
 refine Nat.le_trans (qb6 (Int.natAbs_add_le _ _)) ?_
 rw [Int.natAbs_mul,Int.natAbs_mul,Int.natAbs_natCast,Int.natAbs_natCast]
 omega
theorem sz_mul (p q:Rat):sz (p*q)≤sz p+sz q:=by
 rw [Rat.mul_def']
 have a:=sz_num p
 have b:=sz_num q
 have c:=sz_den p
 have d:=sz_den q
 have e:=xl2 p
 refine qc3 ?_ (Nat.le_trans (qi5 _ _) (by omega)) (by omega)
 rw [Int.natAbs_mul]
 exact Nat.le_trans (qi5 _ _) (by omega)
theorem qn8 (p:Rat):sz (-p)=sz p:=by
 unfold sz
 rw [Rat.neg_num,Rat.neg_den,Int.natAbs_neg]
theorem qr2 (p q:Rat):sz (p - q)≤sz p+sz q+1:=by
 rw [Rat.sub_eq_add_neg]
 have:=qc9 p (-q)
 rwa [qn8] at this
theorem qY6 (p:Rat):sz p⁻¹≤sz p:=by
 have a:=sz_num p
 have c:=sz_den p
 have e:=xl2 p
 refine sz_of ?_ ?_
 ·rw [Rat.num_inv,Int.natAbs_mul,Int.natAbs_natCast]
  refine Nat.le_trans (qb6 ?_) c
  rw [Int.natAbs_sign]
  split <;> omega
 rw [Rat.den_inv]
 split
 ·exact Nat.le_trans (wl_small (by decide)) e
 exact a
theorem sz_div (p q:Rat):sz (p / q)≤sz p+sz q:=by
 rw [Rat.div_def]
 have h1:=sz_mul p q⁻¹
 have h2:=qY6 q
 omega
theorem qB3 (n:Int):sz (n:Rat)=max (wl n.natAbs) 1:=by
 unfold sz
 rw [Rat.num_intCast,Rat.den_intCast]
 rfl
theorem qf2 {n:Int} (h1:-9223372036854775808≤n) (h2:n≤9223372036854775807):sz (n:Rat)≤2:=by
 rw [qB3]
 have:wl n.natAbs≤2:=qo4.2 (by omega)
 omega
def sgQ (q:Rat):Int:=if q=0 then 0 else if q<0 then -1 else 1
theorem num_zero {q:Rat}:q.num=0 ↔ q=0:=Rat.num_eq_zero
theorem qi9 {q:Rat}:q.num<0 ↔ q<0:=by
 rw [← Int.not_le,Rat.num_nonneg,Rat.not_le]
theorem qu3 (q:Rat):sgQ q=if q.num=0 then 0 else if q.num<0 then -1 else 1:=by
 unfold sgQ
 by_cases h:q=0
 ·simp [h]
 rw [if_neg h,if_neg (fun e=>h (num_zero.1 e))]
 by_cases h2:q<0
 ·rw [if_pos h2,if_pos (qi9.2 h2)]
 rw [if_neg h2,if_neg (fun e=>h2 (qi9.1 e))]
theorem qp8 {q:Rat} (h:0<q):sgQ q=1:=by
 unfold sgQ
 rw [if_neg (fun e=>by subst e;exact Rat.lt_irrefl h),if_neg (fun e=>Rat.not_lt.2 (Rat.le_of_lt e) h)]
theorem qk0 {q:Rat} (h:q<0):sgQ q = -1:=by
 unfold sgQ
 rw [if_neg (fun e=>by subst e;exact Rat.lt_irrefl h),if_pos h]
theorem qD4 (n:Int) (d:Nat) (hd:0<d):d / Nat.gcd n.natAbs d=(mkRat n d).den:=by
 rw [Rat.den_mkRat,if_neg (by omega),Nat.gcd_comm]
theorem qU9 (n:Int) (d:Nat) (hd:0<d):(if n<0 then -((n.natAbs / Nat.gcd n.natAbs d:Nat):Int) else ((n.natAbs / Nat.gcd n.natAbs d:Nat):Int))=(mkRat n d).num:=by
 have e:(mkRat n d).num=n / ((Nat.gcd n.natAbs d:Nat):Int):=by rw [Rat.num_mkRat,if_neg (by omega),Nat.gcd_comm]
 rw [e]
 have hg:Nat.gcd n.natAbs d ∣ n.natAbs:=Nat.gcd_dvd_left _ _
 generalize Nat.gcd n.natAbs d=g at *
 by_cases h:n<0
 ·rw [if_pos h]
  obtain ⟨m,rfl⟩:∃ m:Nat,n = -(m:Int):=⟨n.natAbs,by omega⟩
  rw [Int.natAbs_neg,Int.natAbs_natCast] at *
  obtain ⟨c,rfl⟩:=hg
  by_cases h0:g=0
  ·subst h0;simp
  rw [Nat.mul_div_cancel_left _ (by omega),Int.natCast_mul,← Int.mul_neg,Int.mul_ediv_cancel_left _ (by omega)]
 rw [if_neg h]
 obtain ⟨m,rfl⟩:∃ m:Nat,n=(m:Int):=⟨n.natAbs,by omega⟩
 rw [Int.natAbs_natCast,Int.natCast_ediv]
theorem xd9 {p q:Rat} (h1:p.num=q.num) (h2:p.den - 1=q.den - 1):p=q:=by
 refine Rat.ext h1 ?_
 have:=p.den_pos
 have:=q.den_pos
 omega
theorem qY1 (n:Int) (d:Nat) (hd:0<d):sgQ (mkRat n d)=if n=0 then 0 else if n<0 then -1 else 1:=by
 have hd':(0:Int)<(d:Int):=by omega
 have h0:mkRat n d=0 ↔ n=0:=Rat.mkRat_eq_zero (by omega)
 have hn:mkRat n d<0 ↔ n<0:=by
  rw [← Rat.not_le,← Int.not_le,← Rat.divInt_ofNat,Rat.divInt_nonneg_iff_of_pos_right hd']
 unfold sgQ
 simp only [h0,hn]
theorem qY2 (a b:Rat):(if a.num*b.den - b.num*a.den=0 then (0:Int) else if a.num*b.den - b.num*a.den<0 then -1 else 1)=sgQ (a - b):=by
 rw [Rat.sub_def',qY1 _ _ (Nat.mul_pos a.den_pos b.den_pos)]
theorem qB1 (a b:Rat) (h:a.den=b.den):(if a.num - b.num=0 then (0:Int) else if a.num - b.num<0 then -1 else 1)=sgQ (a - b):=by
 rw [← qY2,h]
 have hp:(0:Int)<(b.den:Int):=by have:=b.den_pos;omega
 have e:a.num*(b.den:Int) - b.num*(b.den:Int)=(a.num - b.num)*(b.den:Int):=by rw [Int.sub_mul]
 rw [e]
 have h1:(a.num - b.num)*(b.den:Int)=0 ↔ a.num - b.num=0:=by
  rw [Int.mul_eq_zero];constructor
  ·rintro (h|h) <;> omega
  exact fun h=>.inl h
 have h2:(a.num - b.num)*(b.den:Int)<0 ↔ a.num - b.num<0:=by
  constructor
  ·intro h
   rcases Int.lt_or_le (a.num - b.num) 0 with h3|h3
   ·exact h3
   have:=Int.mul_nonneg h3 (Int.le_of_lt hp);omega
  intro h;exact Int.mul_neg_of_neg_of_pos h hp
 simp only [h1,h2]
theorem qH0 (a b:Rat) (h:a.den=b.den):mkRat (a.num+b.num) a.den=a+b:=by
 have hp:=a.den_pos
 rw [Rat.add_def',← h,← Int.add_mul,Rat.mkRat_mul_right (by omega)]
theorem xm1 (a b:Rat) (ha:a.den=1) (hb:b.den=1):((a.num+b.num:Int):Rat)=a+b:=by
 have e:=qH0 a b (by rw [ha,hb])
 rw [← e,ha]
 exact (Rat.mkRat_self ((a.num+b.num:Int):Rat)).symm
theorem xo9 (a b:Rat) (ha:a.den=1) (hb:b.den=1):((a.num*b.num:Int):Rat)=a*b:=by
 rw [Rat.mul_def',ha,hb]
 exact (Rat.mkRat_self ((a.num*b.num:Int):Rat)).symm
theorem xv4 (b:Rat) (h:b.num≠0):mkRat (if decide (sgQ b<0) then -((b.den:Nat):Int) else ((b.den:Nat):Int)) b.num.natAbs=b⁻¹:=by
 rw [Rat.inv_def]
 have e:(sgQ b<0) ↔ b.num<0:=by
  rw [qu3,if_neg h]
  by_cases h2:b.num<0 <;> simp [h2]
 by_cases h2:b.num<0
 ·rw [if_pos (by simpa using e.2 h2),← Rat.divInt_ofNat,show ((b.num.natAbs:Nat):Int) = -b.num by omega,Rat.neg_divInt_neg]
 rw [if_neg (by simpa using fun h3=>h2 (e.1 h3)),← Rat.divInt_ofNat,show ((b.num.natAbs:Nat):Int)=b.num by omega]
end
section
open Go.RowKit
theorem xy8:tw 1=1:=by
 rw [tw,if_neg (by decide)]
 show tw 0+1=1
 rw [qf3]
def rz (q:Rat):Nat:=max (tw q.num.natAbs) (tw q.den)
theorem qe1 (q:Rat):tw q.num.natAbs≤rz q:=Nat.le_max_left _ _
theorem qc8 (q:Rat):tw q.den≤rz q:=Nat.le_max_right _ _
theorem xk_ (q:Rat):1≤rz q:=Nat.le_trans (qo1 q.den_pos) (qc8 q)
theorem xq5 {q:Rat} {k:Nat} (h1:tw q.num.natAbs≤k) (h2:tw q.den≤k):rz q≤k:=Nat.max_le.2 ⟨h1,h2⟩
theorem qk8 {n:Int} {d k:Nat} (h1:tw n.natAbs≤k) (h2:tw d≤k) (h3:1≤k):rz (mkRat n d)≤k:=by
 refine xq5 ?_ ?_
 ·rw [Rat.num_mkRat]
  split
  ·rw [Int.natAbs_zero,qf3];exact Nat.zero_le _
  exact Nat.le_trans (qc7 (qm9 _ _)) h1
 rw [Rat.den_mkRat]
 split
 ·exact Nat.le_trans (qk9 (by decide)) h3
 exact Nat.le_trans (qo0 _ _) h2
theorem qA8 (p q:Rat):rz (p+q)≤rz p+rz q+1:=by
 rw [Rat.add_def']
 have a:=qe1 p
 have b:=qe1 q
 have c:=qc8 p
 have d:=qc8 q
 refine qk8 ?_ (Nat.le_trans (qj1 _ _) (by omega)) (by omega)
 have h1:=qj1 p.num.natAbs q.den
 have h2:=qj1 q.num.natAbs p.den
 have h3:=qJ8 (p.num.natAbs*q.den) (q.num.natAbs*p.den)
 refine Nat.le_trans (qc7 (Int.natAbs_add_le _ _)) ?_
 rw [Int.natAbs_mul,Int.natAbs_mul,Int.natAbs_natCast,Int.natAbs_natCast]
 omega
theorem qA9 (p q:Rat):rz (p*q)≤rz p+rz q:=by
 rw [Rat.mul_def']
 have a:=qe1 p
 have b:=qe1 q
 have c:=qc8 p
 have d:=qc8 q
 have e:=xk_ p
 refine qk8 ?_ (Nat.le_trans (qj1 _ _) (by omega)) (by omega)
 rw [Int.natAbs_mul]
 exact Nat.le_trans (qj1 _ _) (by omega)
theorem qu1 (p:Rat):rz (-p)=rz p:=by
 unfold rz
 rw [Rat.neg_num,Rat.neg_den,Int.natAbs_neg]
theorem qA_ (p q:Rat):rz (p - q)≤rz p+rz q+1:=by
 rw [Rat.sub_eq_add_neg]
 have:=qA8 p (-q)
 rwa [qu1] at this
theorem xk9 (p:Rat):rz p⁻¹≤rz p:=by
 have a:=qe1 p
 have c:=qc8 p
 have e:=xk_ p
 refine xq5 ?_ ?_
 ·rw [Rat.num_inv,Int.natAbs_mul,Int.natAbs_natCast]
  refine Nat.le_trans (qc7 ?_) c
  rw [Int.natAbs_sign]
  split <;> omega
 rw [Rat.den_inv]
 split
 ·exact Nat.le_trans (qk9 (by decide)) e
 exact a
theorem qJ6 (p q:Rat):rz (p / q)≤rz p+rz q:=by
 rw [Rat.div_def]
 have h1:=qA9 p q⁻¹
 have h2:=xk9 q
 omega
theorem xx3 (n:Int):rz (n:Rat)=max (tw n.natAbs) 1:=by
 unfold rz
 rw [Rat.num_intCast,Rat.den_intCast]
 rw [xy8]
section
variable {w w':World} {v:Value} {k:Nat}
theorem Rn.alloc (h:Rn w v k) (o:Obj):Rn (w.alloc o) v k:=Dr.alloc h o
theorem Rn.ne {g:Nat} {T:TypeId} {cs:Array Value} (h:Rn w v k) (hb:Bx w g T cs) (hT:T≠3):v.ownBlock≠some g:=by
 rcases h.2 with ⟨rfl,_⟩|⟨b,c,cur,rfl,_,hh,_⟩
 ·intro e;cases e
 intro e
 have e2:b=g:=by injection e
 subst e2
 unfold Bx at hb
 rw [hb] at hh
 injection hh with hh
 injection hh with h1 h2 h3
 exact hT h2
theorem Rn.setOther (h:Rn w v k) {a:Addr} (ha:v.ownBlock≠some a.block) (u:Value):Rn (w.setCell a u) v k:=by
 refine ⟨h.1,?_⟩
 rcases h.2 with hn|⟨b,c,cur,rfl,hb,hh,rest⟩
 ·exact .inl hn
 exact .inr ⟨b,c,cur,rfl,hb,(Below.heap_setCell w a u b (fun e=>ha (by simp [Value.ownBlock,e]))).trans hh,rest⟩
end
theorem qp_ (a b:Int):tw (a+b).natAbs≤max (tw a.natAbs) (tw b.natAbs)+1 :=
 Nat.le_trans (qc7 (Int.natAbs_add_le a b)) (qJ8 _ _)
theorem qF4 (a b:Int):tw (a*b).natAbs≤tw a.natAbs+tw b.natAbs:=by
 rw [Int.natAbs_mul];exact qj1 _ _
end
section
open Go.RowKit
attribute [local go_sem ↓] Go.wp_at_zero Go.wp_at_succ
theorem xB5 (v u:Value) (x y z:Nat) (w:World) (hz:x+y=z) (hx:Rn w v x) (hy:Rn w u y) (bx:tw x≤1000000000) (by':tw y≤1000000000) :
  Calls Tryz.prog 220 #[v,u] w fun e w'=>(∃ v',e=.returned v'∧Rn w' v' z)∧Below w.heap.size w w':=hz ▸ qx8 v u x y w hx hy bx by'
theorem xt_ (v u:Value) (x y z:Nat) (w:World) (hz:x*y=z) (hx:Rn w v x) (hy:Rn w u y) (bx:tw x≤1000000000) (by':tw y≤1000000000) :
  Calls Tryz.prog 178 #[v,u] w fun e w'=>(∃ v',e=.returned v'∧Rn w' v' z)∧Below w.heap.size w w':=hz ▸ qs8 v u x y w hx hy bx by'
theorem xu0 (v u:Value) (x y z:Nat) (w:World) (hz:x - y=z) (hx:Rn w v x) (hy:Rn w u y) (hle:y≤x) (bx:tw x≤1000000000) (by':tw y≤1000000000) :
  Calls Tryz.prog 244 #[v,u] w fun e w'=>(∃ v',e=.returned v'∧Rn w' v' z)∧Below w.heap.size w w':=hz ▸ qJ5 v u x y w hx hy hle bx by'
theorem xE9 (v u:Value) (x y z:Nat) (w:World) (hz:Nat.gcd x y=z) (hx:Rn w v x) (hy:Rn w u y) (bx:tw x≤500000000) (by':tw y≤500000000) :
  Calls Tryz.prog 248 #[v,u] w fun e w'=>(∃ v',e=.returned v'∧Rn w' v' z)∧Below w.heap.size w w':=hz ▸ xh2 v u x y w hx hy bx by'
theorem qB_ (v u:Value) (x y q r:Nat) (w:World) (hq:x / y=q) (hr:x % y=r) (hx:Rn w v x) (hy:Rn w u y) (h0:0<y) (bx:tw x≤500000000) (by':tw y≤500000000) :
  Calls Tryz.prog 176 #[v,u] w fun e w'=>(∃ v1 v2,e=.returned (.tuple #[v1,v2])∧Rn w' v1 q∧Rn w' v2 r)∧Below w.heap.size w w':=hq ▸ hr ▸ qJ2 v u x y w hx hy h0 bx by'
theorem xB6 (v u:Value) (x y:Nat) (c:Int) (w:World) (hc:cmpI x y=c) (hx:Rn w v x) (hy:Rn w u y) (bx:tw x≤1000000000) (by':tw y≤1000000000) :
  Calls Tryz.prog 219 #[v,u] w fun e w'=>e=.returned (.int .i64 c)∧Below w.heap.size w w':=hc ▸ qn5 v u x y w hx hy bx by'
theorem Rn.sl {w:World} {v:Value} {k:Nat} (h:Rn w v k):∃ ao n c,v=.slice ao n c:=by
 obtain ⟨ao,c,e,_⟩:=Dr.slice h
 exact ⟨ao,_,c,e⟩
theorem qa8 (b:Bool) (n:Nat) (z:Int) (v:Value) (w:World) (hz:(if b then -(n:Int) else (n:Int))=z) (h:Rn w v n) :
  Calls Tryz.prog 196 #[.bool b,v] w fun e w'=>(∃ v',e=.returned (.agg #[.bool (decide (z<0)),v'])∧Rn w' v' z.natAbs)∧Below w.heap.size w w':=by
 obtain ⟨ao,c,rfl,hc,hc2⟩:=Dr.slice h
 obtain ⟨k,hk⟩:∃ k,tw n=k:=⟨_,rfl⟩
 rw [hk] at h hc ⊢
 have HK:=Lib.hid hk
 have HR:=Lib.hid h
 have HZ:=Lib.hid hz
 clear h hk hz
 cases b
 ·have he:Hid (decide (z<0)=false∧z.natAbs=n):=Lib.hid (by have:=HZ.out;simp at this;constructor;simp;omega;omega)
  go_enter Tryz.func196,Tryz.ntmps196
  go_wp2
  exact bodyPost_ret (v:=.agg #[.bool false,.slice ao k c]) (by simp [results,Tryz.results196,go_sem]) rfl ⟨⟨_,by rw [he.out.1],by rw [he.out.2];exact HR.out.alloc _⟩,(Below.refl _ _).alloc (Nat.le_refl _) _⟩
 by_cases h0:k=0
 ·subst h0
  have hn:n=0:=qh1.1 HK.out
  have he:Hid (decide (z<0)=false∧z.natAbs=n):=Lib.hid (by have:=HZ.out;simp at this;constructor;simp;omega;omega)
  clear hn
  go_enter Tryz.func196,Tryz.ntmps196
  go_wp2
  exact bodyPost_ret (v:=.agg #[.bool false,.slice ao 0 c]) (by simp [results,Tryz.results196,go_sem]) rfl ⟨⟨_,by rw [he.out.1],by rw [he.out.2];exact HR.out.alloc _⟩,(Below.refl _ _).alloc (Nat.le_refl _) _⟩
 have hn:0<n:=Nat.pos_of_ne_zero (fun e=>h0 (by rw [← HK.out,e];exact qf3))
 have he:Hid (decide (z<0)=true∧z.natAbs=n):=Lib.hid (by have:=HZ.out;simp at this;constructor;simp;omega;omega)
 have hk0:0<k:=by omega
 clear hn
 go_enter Tryz.func196,Tryz.ntmps196
 go_wp2
 exact bodyPost_ret (v:=.agg #[.bool true,.slice ao k c]) (by simp [results,Tryz.results196,go_sem]) rfl ⟨⟨_,by rw [he.out.1],by rw [he.out.2];exact HR.out.alloc _⟩,(Below.refl _ _).alloc (Nat.le_refl _) _⟩
end
end Go.Proofs.YtobojnodohjiaaaGreatDoor
