/- A pack of texts: NatZ, LawN, LawN2, LawW. No condition but those stated. -/
import Derived.Test.YtobojnodohjiaaaGreatDoorPG
import Derived.Test.YtobojnodohjiaaaGreatDoorPC
import Derived.Test.YtobojnodohjiaaaGreatDoorPD
import Derived.Test.YtobojnodohjiaaaGreatDoorPR
import Derived.Test.YtobojnodohjiaaaGreatDoorPE
import Derived.Test.YtobojnodohjiaaaGreatDoorPP
import Derived.Test.YtobojnodohjiaaaGreatDoorPA
set_option maxRecDepth 100000
set_option maxHeartbeats 16000000
set_option linter.unusedVariables false
set_option linter.unusedSimpArgs false
namespace Go.Proofs.YtobojnodohjiaaaGreatDoor
section
open Go.RowKit
theorem xi4 (k:Nat):bp k≤tp (3*k):=by
 unfold bp tp
 rw [Nat.pow_mul]
 exact Nat.pow_le_pow_left (by decide) k
theorem qD2 (n:Nat):tw n≤3*wl n:=qc0.2 (Nat.lt_of_lt_of_le (qa7 n) (xi4 _))
theorem qK5:tw 4294967296≤3:=qc0.2 (by decide)
def upv (f:Nat→Nat) (k j:Nat):Nat:=vl (fun t=>f (j+t)) (k - j)
theorem xg1 (f:Nat→Nat) (k:Nat):upv f k 0=vl f k:=by
 unfold upv
 exact qd4 fun i _=>by rw [Nat.zero_add]
theorem qP9 (f:Nat→Nat) (k:Nat):upv f k k=0:=by unfold upv;rw [Nat.sub_self];rfl
theorem qP_ (f:Nat→Nat) {k j:Nat} (h:j<k):upv f k j=upv f k (j+1)*4294967296+f j:=by
 unfold upv
 obtain ⟨m,hm⟩:∃ m,k - j=m+1:=⟨k - j - 1,by omega⟩
 rw [hm,xg2,show k - (j+1)=m by omega,Nat.add_zero]
 have e:vl (fun i=>f (j+(i+1))) m=vl (fun t=>f (j+1+t)) m:=qd4 fun i _=>by rw [show j+(i+1)=j+1+i by omega]
 rw [e]
 omega
theorem xt_ {f:Nat→Nat} {k:Nat} (hf:∀ i,i<k→f i<4294967296) (j:Nat):wl (upv f k j)≤k:=by
 refine Nat.le_trans (qa2.2 (qe3 (fun i hi=>hf (j+i) (by omega)))) (by omega)
theorem Rn.nil (w:World):Rn w (.slice none 0 0) 0:=by unfold Rn;rw [qj4];exact Dr.nil _ _ _
def Wa (w:World) (v:Value) (k:Nat) (f:Nat→Nat):Prop :=
 (∃ ao c,v=.slice ao k c∧k=0)∨∃ b o c,v=.slice (some ⟨b,o,none⟩) k c∧b<w.heap.size∧∀ i,i<k→w.cell? ⟨b,o+i,none⟩=some (.int .u32 ((f i:Nat):Int))
theorem Wa.gr {w w':World} {v:Value} {k:Nat} {f:Nat→Nat} (h:Wa w v k f) (hg:Gr w w'):Wa w' v k f:=by
 rcases h with h|⟨b,o,c,rfl,hb,hc⟩
 ·exact .inl h
 exact .inr ⟨b,o,c,rfl,Nat.lt_of_lt_of_le hb hg.size,fun i hi=>(Below.cell hg (p:=⟨b,o+i,none⟩) hb).trans (hc i hi)⟩
theorem Wa.slice {w:World} {v:Value} {k:Nat} {f:Nat→Nat} (h:Wa w v k f):∃ ao c,v=.slice ao k c:=by
 rcases h with ⟨ao,c,rfl,_⟩|⟨b,o,c,rfl,_⟩
 ·exact ⟨_,_,rfl⟩
 exact ⟨_,_,rfl⟩
theorem xo_ (v:Value) (k:Nat) (f:Nat→Nat) (w:World) (hk:k≤1000000) (h:Wa w v k f) (hf:∀ i,i<k→f i<4294967296) :
  Calls Tryz.prog 251 #[v] w fun e w'=>(∃ v',e=.returned v'∧Rn w' v' (vl f k))∧Below w.heap.size w w':=by
 have HF:=Lib.hid hf
 have HW:=Lib.hid h
 obtain ⟨ao,c,rfl⟩:=h.slice
 clear hf h
 go_enter Tryz.func251,Tryz.ntmps251
 go_wp2_with fail
 go_loopg [3,4] k (fun j u i wr=>i=.int .i64 ((j:Int) - 1)∧j≤k∧Hid (Rn wr u (upv f k j))∧Hid (Gr w wr))
 case atStart=>exact ⟨rfl,Nat.le_refl _,Lib.hid (by rw [qP9];exact Rn.nil w),Lib.hid (Gr.refl _)⟩
 case round =>
  obtain ⟨rfl,hj,HR,HG⟩:=hrel
  by_cases h0:gk=0
  ·subst h0
   have HV:Hid (Rn wr u3 (vl f k)):=Lib.hid (by rw [← xg1];exact HR.out)
   go_wp2_with fail
   go_ret
   exact ⟨⟨_,rfl,HV.out⟩,HG.out⟩
  obtain ⟨j,rfl⟩:∃ j,gk=j+1:=⟨gk - 1,by omega⟩
  have hj2:((j+1:Nat):Int) - 1=(j:Int):=by omega
  rw [hj2]
  rcases HW.out with ⟨_,_,_,h⟩|⟨b,o,c2,hv,hb,hcell⟩
  ·omega
  injection hv with hv1 _ hv3
  subst hv1 hv3
  obtain ⟨d,hd⟩:∃ d,f j=d:=⟨_,rfl⟩
  have hd2:d<4294967296:=by rw [← hd];exact HF.out j (by omega)
  have hc:∀ w',Gr wr w'→w'.cell? ⟨b,o+j,none⟩=some (.int .u32 (d:Int)):=fun w' hw=>by
   rw [← hd,← hcell j (by omega)]
   exact Below.cell (HG.out.trans hw) (p:=⟨b,o+j,none⟩) hb
  go_wp2_with fail
  have HC:=Lib.hid hc
  have HBW:Hid (tw (upv f k (j+1))≤3000000):=Lib.hid (Nat.le_trans (qD2 _) (by have:=xt_ HF.out (j+1);omega))
  obtain ⟨x,hx⟩:∃ x,upv f k (j+1)=x:=⟨_,rfl⟩
  rw [hx] at HR HBW
  have HX:=Lib.hid hx
  have hst:=qP_ f (show j<k by omega)
  rw [hx,hd] at hst
  have HST:=Lib.hid hst
  clear hx hst hcell hc HW
  refine qa1 10 [] [] (fun _=>0) (fun _=>.cells #[] 0) [(true,0),(true,3),(true,4),(true,5),(true,6),(true,7),(false,1),(false,2),(false,8),(false,9)] (by kernel_rfl) (by kernel_rfl) (fun i hi=>by cases hi) (fun i hi=>by cases hi) (fun _ _ _ _ _ h=>h) (fun T hT=>?_)
  have lx:=HC.out
  have hjk:j<k:=by omega
  have hwr:IntKind.u64.wrap (d:Int)=(d:Int):=by rw [IntKind.wrap_u64];omega
  iterate 6
   refine qj3 (v:=?_) rfl (by rfl) (fun w' hw=>?_) ?_
   rotate_left
   ·go_simp
    with_reducible rfl
   simp only [Act.put,List.setIfInBounds_toArray,List.set_cons_zero,List.set_cons_succ]
  refine qf7 rfl (by rfl) Tryz.call179 (by rfl) (fun w' hw=>(qm3 4294967296 _ (by decide)).mono ?_)
  rintro e vv1 ⟨⟨rv1,rfl,R1⟩,hg0⟩
  refine ⟨_,rfl,hg0,?_⟩
  have HG1:=Lib.hid (Gr.trans hw hg0);clear hw hg0
  have HR1:=Lib.hid R1;clear R1
  simp only [Act.put,List.setIfInBounds_toArray,List.set_cons_zero,List.set_cons_succ]
  refine qf7 rfl (by rfl) Tryz.call178 (by rfl) (fun w' hw=>(qu7 _ _ x 4294967296 _ (HR.out.gr (HG1.out.trans hw)) (HR1.out.gr hw) (by have:=HBW.out;omega) (by have:=qK5;omega)).mono ?_)
  rintro e vv2 ⟨⟨rv2,rfl,R2⟩,hg0⟩
  refine ⟨_,rfl,hg0,?_⟩
  have HG2:=Lib.hid (HG1.out.trans (Gr.trans hw hg0));clear hw hg0 HG1 HR1
  have HR2:=Lib.hid R2;clear R2
  simp only [Act.put,List.setIfInBounds_toArray,List.set_cons_zero,List.set_cons_succ]
  refine qf7 rfl (by rfl) Tryz.call179 (by rfl) (fun w' hw=>(qm3 d _ (by omega)).mono ?_)
  rintro e vv3 ⟨⟨rv3,rfl,R3⟩,hg0⟩
  refine ⟨_,rfl,hg0,?_⟩
  have HG3:=Lib.hid (HG2.out.trans (Gr.trans hw hg0))
  have HR2':=Lib.hid (HR2.out.gr (Gr.trans hw hg0));clear hw hg0 HG2 HR2
  have HR3:=Lib.hid R3;clear R3
  simp only [Act.put,List.setIfInBounds_toArray,List.set_cons_zero,List.set_cons_succ]
  refine qf7 rfl (by rfl) Tryz.call220 (by rfl) (fun w' hw=>(qO9 _ _ (x*4294967296) d _ (HR2'.out.gr hw) (HR3.out.gr hw) (by have:=HBW.out;have:=qk5 x 4294967296;have:=qK5;omega) (by have:=qK5;have:=qc2 (show d≤4294967296 by omega);omega)).mono ?_)
  rintro e vv4 ⟨⟨rv4,rfl,R4⟩,hg0⟩
  refine ⟨_,rfl,hg0,?_⟩
  have HG4:=Lib.hid (HG3.out.trans (Gr.trans hw hg0));clear hw hg0 HG3 HR3 HR2'
  have HR4:=Lib.hid (show Rn vv4 rv4 (upv f k j) by rw [HST.out];exact R4);clear R4
  simp only [Act.put,List.setIfInBounds_toArray,List.set_cons_zero,List.set_cons_succ]
  refine qa0 (hT.out _ _ ?_);clear hT T
  intro G vw1 hg hf
  simp only [puts,Act.put,List.setIfInBounds_toArray,List.set_cons_zero,List.set_cons_succ,List.drop_succ_cons,List.drop_zero,↓reduceIte,Nat.reduceEqDiff]
  have HG5:=Lib.hid (HG4.out.trans hg)
  have HR5:=Lib.hid (HR4.out.gr hg)
  clear hg hf HG4 HR4 HC lx
  go_wp2_with fail
  go_roundg j
  case measure=>omega
  case rel=>exact ⟨rfl,by omega,HR5,Lib.hid (HG.out.trans HG5.out)⟩
end
section
open Go.RowKit
theorem xx7 (n:Nat):nb n≤14*tw n:=by
 rw [qo0]
 refine Nat.lt_of_lt_of_le (qa_ n) ?_
 unfold tp
 rw [Nat.pow_mul]
 exact Nat.pow_le_pow_left (by decide) _
end
section
open Go.RowKit
def RootAt (w:World) (r n g j:Nat) (wr:World):Prop :=
 Dr wr w.heap.size (.slice (some ⟨g,0,none⟩) n n) n (fun t=>if t<j then 0 else tg r t)∧Below w.heap.size w wr∧g<wr.heap.size
theorem RootAt.next {w wr:World} {r n g j d:Nat} (hgw:w.heap.size≤g) (h:RootAt w r n g (j+1) wr) (hd:tg r j=d) (hj:j<n):RootAt w r n g j (wr.setCell ⟨g,j,none⟩ (.int .i64 ((d:Nat):Int))):=by
 refine ⟨(h.1.store j d hj).congr fun i hi=>?_,h.2.1.setCell hgw _,by simpa using h.2.2⟩
 by_cases e:i=j
 ·subst e;simp [hd]
 by_cases e2:i<j
 ·simp [e,e2,show i<j+1 by omega]
 simp [e,e2,show ¬ i<j+1 by omega]
end
end Go.Proofs.YtobojnodohjiaaaGreatDoor

set_option maxRecDepth 100000
set_option maxHeartbeats 16000000
set_option linter.unusedVariables false
set_option linter.unusedSimpArgs false
namespace Go.Proofs.YtobojnodohjiaaaGreatDoor
open Go.RowKit
theorem xl5 {y:Nat} (h:y≠0):hd y=hd (y / 10) ++ [UInt8.ofNat (48+y % 10)]:=by
 unfold hd
 rw [if_neg h]
 by_cases h1:y<10
 ·rw [if_pos (by omega),Lib.decDigits_one h1,show y % 10=y by omega];rfl
 rw [if_neg (by omega),qc_ h1]
def cutd (x i k:Nat):Nat:=x / 10 ^ (4*i+k)
theorem qD_ (x i:Nat):cutd x (i+1) 0=cutd x i 4:=rfl
theorem qD9 (x i k:Nat):cutd x i (k+1)=cutd x i k / 10:=by
 unfold cutd
 rw [show 4*i+(k+1)=4*i+k+1 by omega,Nat.pow_succ,Nat.div_div_eq_div_mul]
theorem xC0 (x i:Nat):tg x i=cutd x i 0 % 10 ^ 4:=by
 unfold tg cutd tp
 rw [Nat.add_zero,Nat.pow_mul]
theorem xi8 {x i k:Nat} (h:i+1<tw x) (hk:k≤4):0<cutd x i k:=by
 unfold cutd
 apply Nat.div_pos _ (Nat.pow_pos (by decide))
 have h1:tp (i+1)≤x:=qF0.1 (by omega)
 refine Nat.le_trans ?_ h1
 unfold tp
 rw [show (10000:Nat)=10 ^ 4 from rfl,← Nat.pow_mul]
 exact Nat.pow_le_pow_right (by decide) (by omega)
theorem qy9 {x i k:Nat} (h:tw x≤i+1) (hk:k≤4):cutd x i k<10 ^ (4 - k):=by
 unfold cutd
 rw [Nat.div_lt_iff_lt_mul (Nat.pow_pos (by decide)),← Nat.pow_add]
 have h1:x<tp (i+1):=qc0.1 h
 unfold tp at h1
 rw [show (10000:Nat)=10 ^ 4 from rfl,← Nat.pow_mul] at h1
 exact Nat.lt_of_lt_of_le h1 (Nat.pow_le_pow_right (by decide) (by omega))
theorem xe0 {y k d:Nat} (hk:k<4) (h:d=y % 10 ^ (4 - k)):d / 10=(y / 10) % 10 ^ (4 - (k+1))∧d % 10=y % 10:=by
 have e:10 ^ (4 - k)=10*10 ^ (4 - (k+1)):=by rw [show 4 - k=(4 - (k+1))+1 by omega,Nat.pow_succ,Nat.mul_comm]
 rw [h,e]
 exact ⟨Nat.mod_mul_right_div_self _ _ _,Nat.mod_mul_right_mod _ _ _⟩
theorem xO1 (s:ByteArray):(⟨s.data.toList.toArray⟩:ByteArray)=s:=by cases s;simp
theorem xa1 {e:Nat} (h:e<10):Utf8.encode (48+(e:Int))=⟨#[UInt8.ofNat (48+e)]⟩:=by
 match e,h with
 | 0,_=>rfl
 | 1,_=>rfl
 | 2,_=>rfl
 | 3,_=>rfl
 | 4,_=>rfl
 | 5,_=>rfl
 | 6,_=>rfl
 | 7,_=>rfl
 | 8,_=>rfl
 | 9,_=>rfl
attribute [local irreducible] Utf8.encode
theorem qx1 (v:Value) (x:Nat) (w:World) (hx:Rn w v x) (bx:tw x≤10000000) :
  Calls Tryz.prog 177 #[v] w fun e w'=>e=.returned (.string ⟨(Lib.decDigits x).toArray⟩)∧Below w.heap.size w w':=by
 obtain ⟨n,hn⟩:∃ n,tw x=n:=⟨_,rfl⟩
 rw [hn] at bx
 have HNX:=Lib.hid hn
 have HX:=Lib.hid hx
 rcases Dr.cases hx with ⟨rfl,h0⟩|⟨b,c,rfl,_,hbl,hnc,hc,hcell,_⟩
 ·have h1:x=0:=qe8.1 h0
  subst h1
  clear hx
  go_enter Tryz.func177,Tryz.ntmps177
  go_wp2_with fail
  go_ret
  exact ⟨by rw [Lib.decDigits_one (by decide)];rfl,Below.refl _ _⟩
 rw [hn] at hcell hnc ⊢
 rw [hn] at hx
 by_cases h0:n=0
 ·subst h0
  have h1:x=0:=qe8.1 hn
  subst h1
  clear hx
  go_enter Tryz.func177,Tryz.ntmps177
  go_wp2_with fail
  go_ret
  exact ⟨by rw [Lib.decDigits_one (by decide)];rfl,Below.refl _ _⟩
 have hnp:0<n:=by omega
 have HC:=Lib.hid hcell
 have HX0:Hid (x≠0):=Lib.hid (by intro e;subst e;rw [qj4] at hn;omega)
 clear hx hcell hn h0
 go_enter Tryz.func177,Tryz.ntmps177
 go_wp2_with fail
 have hnz:((n:Int) == 0)=false:=by
  rw [beq_eq_false_iff_ne]
  omega
 rw [hnz]
 go_loopg [3,4] n (fun j S i wr=>∃ (t:Nat) (s:ByteArray),i=.int .i64 (t:Int)∧S=.string s∧t≤n∧Hid (t+j=n)∧s.size≤4*t∧Hid (Lib.decDigits x=hd (cutd x t 0) ++ s.data.toList)∧Hid (Gr w wr))
 case atStart=>exact ⟨0,⟨#[]⟩,rfl,rfl,Nat.zero_le _,Lib.hid (Nat.zero_add _),Nat.zero_le _,Lib.hid (by unfold cutd hd;rw [if_neg (by simpa using HX0.out)];simp),Lib.hid (Gr.refl _)⟩
 case round =>
  obtain ⟨t,s,rfl,rfl,ht,HT,hs,HD,HG⟩:=hrel
  by_cases htn:t<n
  ·have htn2:(t:Int)<(n:Int):=by omega
   obtain ⟨d,hd⟩:∃ d,tg x t=d:=⟨_,rfl⟩
   have hcell:wr.cell? ⟨b,t,none⟩=some (.int .i64 (d:Int)):=by
    rw [← hd,← HC.out t htn]
    exact Below.cell HG.out (p:=⟨b,t,none⟩) hbl
   have HDG:Hid (d=cutd x t 0 % 10 ^ (4 - 0)):=Lib.hid (by rw [← hd];exact xC0 x t)
   clear hd
   go_wp2_with fail
   obtain ⟨wo,rfl⟩:∃ wo:World,wo=wr:=⟨_,rfl⟩
   obtain ⟨ko,rfl⟩:∃ ko:Nat,ko=gk:=⟨_,rfl⟩
   go_loopg [3,5,6] 4 (fun j S dd kk wr=>∃ (k d:Nat) (s:ByteArray),kk=.int .i64 (k:Int)∧dd=.int .i64 (d:Int)∧S=.string s∧k≤4∧d<10000∧Hid (k+j=4)∧s.size≤4*t+k∧Hid (d=cutd x t k % 10 ^ (4 - k))∧Hid (Lib.decDigits x=hd (cutd x t k) ++ s.data.toList)∧Hid (Gr w wr))
   case atStart=>exact ⟨0,d,s,rfl,rfl,rfl,by omega,by rw [HDG.out];exact Nat.mod_lt _ (by decide),Lib.hid rfl,hs,HDG,HD,HG⟩
   case round =>
    clear hs HD HG HDG hcell
    obtain ⟨k,d,s,rfl,rfl,rfl,hk,hd4,HK,hs,HDG,HD,HG⟩:=hrel
    have hcase:(k<4∧(t+1<n∨0<d))∨(k=4∨(¬ t+1<n∧d=0)):=by omega
    rcases hcase with ⟨hk4,hst⟩|hend
    ·have HY:Hid (cutd x t k≠0):=Lib.hid (by
      rcases hst with h|h
      ·exact Nat.ne_of_gt (xi8 (by rw [HNX.out];exact h) hk)
      intro e
      have:=HDG.out
      rw [e,Nat.zero_mod] at this
      omega)
     have HRS:=Lib.hid (xe0 hk4 HDG.out)
     obtain ⟨d',hd'⟩:∃ d':Nat,(d:Int) / 10=(d':Int):=⟨d / 10,by omega⟩
     have hE2:Utf8.encode (48+(d:Int) % 10)=⟨#[UInt8.ofNat (48+d % 10)]⟩:=by
      rw [show (d:Int) % 10=((d % 10:Nat):Int) by omega,xa1 (Nat.mod_lt _ (by decide))]
     have HS1:Hid ((Utf8.encode (48+(d:Int) % 10) ++ s).data.toList = [UInt8.ofNat (48+d % 10)] ++ s.data.toList):=Lib.hid (by rw [hE2];simp)
     have hE1:(Utf8.encode (48+(d:Int) % 10)).size=1:=by rw [hE2];rfl
     have HSz:Hid ((Utf8.encode (48+(d:Int) % 10) ++ s).size≤4*t+(k+1)):=Lib.hid (by rw [ByteArray.size_append,hE1];omega)
     clear hE2
     have HD1:Hid (Lib.decDigits x=hd (cutd x t (k+1)) ++ (Utf8.encode (48+(d:Int) % 10) ++ s).data.toList):=Lib.hid (by
      rw [HD.out,xl5 HY.out,HS1.out,qD9,HRS.out.2,List.append_assoc])
     have HDG1:Hid (d'=cutd x t (k+1) % 10 ^ (4 - (k+1))):=Lib.hid (by rw [qD9,← HRS.out.1];omega)
     have hk2:(k:Int)<4:=by omega
     have hd4':d'<10000:=by omega
     clear HD HDG HRS HY
     have hst2:((t:Int)+1<(n:Int))∨(¬ (t:Int)+1<(n:Int)∧(0:Int)<(d:Int)):=by omega
     clear hst
     rcases hst2 with hl2|⟨hl2,hl3⟩
     all_goals
      go_wp2_with fail
      go_roundg (4 - (k+1))
      case' measure=>have:=HK.out;omega
      case' rel=>exact ⟨k+1,d',_,rfl,rfl,rfl,by omega,hd4',Lib.hid (by omega),HSz.out,HDG1,HD1,HG⟩
    have HD1:Hid (Lib.decDigits x=hd (cutd x (t+1) 0) ++ s.data.toList):=Lib.hid (by
     rcases hend with rfl|⟨h1,h2⟩
     ·rw [qD_];exact HD.out
     have h3:=qy9 (x:=x) (i:=t) (k:=4) (by rw [HNX.out];omega) (Nat.le_refl _)
     have h4:=qy9 (x:=x) (i:=t) (k:=k) (by rw [HNX.out];omega) hk
     have h5:=HDG.out
     rw [Nat.mod_eq_of_lt h4,h2] at h5
     rw [qD_,show cutd x t 4=0 by simpa using h3,HD.out,← h5])
    have hsz:s.size≤4*(t+1):=by omega
    clear HD HDG
    have hend2:(¬ (k:Int)<4)∨((k:Int)<4∧¬ (t:Int)+1<(n:Int)∧¬ (0:Int)<(d:Int)):=by omega
    clear hend
    rcases hend2 with hk2|⟨hk2,hl2,hl3⟩
    all_goals
     go_wp2_with fail
     go_roundg (n - (t+1))
     case' measure=>have:=HT.out;omega
     case' rel=>exact ⟨t+1,s,rfl,rfl,by omega,Lib.hid (by omega),hsz,HD1,HG⟩
  obtain rfl:t=n:=by omega
  have hne:¬ (t:Int)<(t:Int):=by omega
  have HF:Hid (Lib.decDigits x=s.data.toList):=Lib.hid (by
   have h:=HD.out
   rw [show cutd x t 0=0 from by
    unfold cutd
    apply Nat.div_eq_of_lt
    have h1:x<tp t:=qc0.1 (by rw [HNX.out];exact Nat.le_refl _)
    unfold tp at h1
    rw [Nat.add_zero,Nat.pow_mul]
    exact h1] at h
   exact h)
  clear HD
  go_wp2_with fail
  go_ret
  exact ⟨by rw [HF.out,xO1];rfl,HG.out⟩
end Go.Proofs.YtobojnodohjiaaaGreatDoor

set_option linter.unusedVariables false
set_option linter.unusedSimpArgs false
namespace Go.Proofs.YtobojnodohjiaaaGreatDoor
open Go.RowKit
end Go.Proofs.YtobojnodohjiaaaGreatDoor

set_option linter.unusedVariables false
set_option linter.unusedSimpArgs false
namespace Go.Proofs.YtobojnodohjiaaaGreatDoor
section
def sz (q:Rat):Nat:=max (wl q.num.natAbs) (wl q.den)
theorem qc4 (q:Rat):wl q.num.natAbs≤sz q:=Nat.le_max_left _ _
theorem qb7 (q:Rat):wl q.den≤sz q:=Nat.le_max_right _ _
theorem xt4 (q:Rat):1≤sz q:=Nat.le_trans (qq9 q.den_pos) (qb7 q)
theorem qc9 {q:Rat} {k:Nat} (h1:wl q.num.natAbs≤k) (h2:wl q.den≤k):sz q≤k:=Nat.max_le.2 ⟨h1,h2⟩
theorem qp9 (n:Int) (g:Nat):(n / (g:Int)).natAbs≤n.natAbs:=Int.natAbs_ediv_le_natAbs n (g:Int)
theorem qe1 {n:Int} {d k:Nat} (h1:wl n.natAbs≤k) (h2:wl d≤k) (h3:1≤k):sz (mkRat n d)≤k:=by
 refine qc9 ?_ ?_
 ·rw [Rat.num_mkRat]
  split
  ·exact Nat.zero_le _
  exact Nat.le_trans (qa6 (qp9 _ _)) h1
 rw [Rat.den_mkRat]
 split
 ·exact Nat.le_trans (qc7 (by decide)) h3
 exact Nat.le_trans (qh0 _ _) h2
theorem qt5 (p q:Rat):sz (p+q)≤sz p+sz q+1:=by
 rw [Rat.add_def']
 have a:=qc4 p
 have b:=qc4 q
 have c:=qb7 p
 have d:=qb7 q
 refine qe1 ?_ (Nat.le_trans (qg8 _ _) (by omega)) (by omega)
 have h1:=qg8 p.num.natAbs q.den
 have h2:=qg8 q.num.natAbs p.den
 have h3:=qt6 (p.num.natAbs*q.den) (q.num.natAbs*p.den)
 refine Nat.le_trans (qa6 (Int.natAbs_add_le _ _)) ?_
 rw [Int.natAbs_mul,Int.natAbs_mul,Int.natAbs_natCast,Int.natAbs_natCast]
 omega
theorem qe2 (p q:Rat):sz (p*q)≤sz p+sz q:=by
 rw [Rat.mul_def']
 have a:=qc4 p
 have b:=qc4 q
 have c:=qb7 p
 have d:=qb7 q
 have e:=xt4 p
 refine qe1 ?_ (Nat.le_trans (qg8 _ _) (by omega)) (by omega)
 rw [Int.natAbs_mul]
 exact Nat.le_trans (qg8 _ _) (by omega)
theorem qg7 (p:Rat):sz (-p)=sz p:=by
 unfold sz
 rw [Rat.neg_num,Rat.neg_den,Int.natAbs_neg]
theorem ql8 (p q:Rat):sz (p - q)≤sz p+sz q+1:=by
 rw [Rat.sub_eq_add_neg]
 have:=qt5 p (-q)
 rwa [qg7] at this
theorem xt3 (p:Rat):sz p⁻¹≤sz p:=by
 have a:=qc4 p
 have c:=qb7 p
 have e:=xt4 p
 refine qc9 ?_ ?_
 ·rw [Rat.num_inv,Int.natAbs_mul,Int.natAbs_natCast]
  refine Nat.le_trans (qa6 ?_) c
  rw [Int.natAbs_sign]
  split <;> omega
 rw [Rat.den_inv]
 split
 ·exact Nat.le_trans (qc7 (by decide)) e
 exact a
theorem qi0 (p q:Rat):sz (p / q)≤sz p+sz q:=by
 rw [Rat.div_def]
 have h1:=qe2 p q⁻¹
 have h2:=xt3 q
 omega
theorem qk4 (n:Int):sz (n:Rat)=max (wl n.natAbs) 1:=by
 unfold sz
 rw [Rat.num_intCast,Rat.den_intCast]
 rfl
theorem ql4 {n:Int} (h1:-9223372036854775808≤n) (h2:n≤9223372036854775807):sz (n:Rat)≤2:=by
 rw [qk4]
 have:wl n.natAbs≤2:=qq8.2 (by omega)
 omega
def sgQ (q:Rat):Int:=if q=0 then 0 else if q<0 then -1 else 1
theorem qB7 {q:Rat}:q.num=0 ↔ q=0:=Rat.num_eq_zero
theorem ql1 {q:Rat}:q.num<0 ↔ q<0:=by
 rw [← Int.not_le,Rat.num_nonneg,Rat.not_le]
theorem qx3 (q:Rat):sgQ q=if q.num=0 then 0 else if q.num<0 then -1 else 1:=by
 unfold sgQ
 by_cases h:q=0
 ·simp [h]
 rw [if_neg h,if_neg (fun e=>h (qB7.1 e))]
 by_cases h2:q<0
 ·rw [if_pos h2,if_pos (ql1.2 h2)]
 rw [if_neg h2,if_neg (fun e=>h2 (ql1.1 e))]
theorem qs1 {q:Rat} (h:0<q):sgQ q=1:=by
 unfold sgQ
 rw [if_neg (fun e=>by subst e;exact Rat.lt_irrefl h),if_neg (fun e=>Rat.not_lt.2 (Rat.le_of_lt e) h)]
theorem ql2 {q:Rat} (h:q<0):sgQ q = -1:=by
 unfold sgQ
 rw [if_neg (fun e=>by subst e;exact Rat.lt_irrefl h),if_pos h]
theorem qI8 (n:Int) (d:Nat) (hd:0<d):d / Nat.gcd n.natAbs d=(mkRat n d).den:=by
 rw [Rat.den_mkRat,if_neg (by omega),Nat.gcd_comm]
theorem xb5 (n:Int) (d:Nat) (hd:0<d):(if n<0 then -((n.natAbs / Nat.gcd n.natAbs d:Nat):Int) else ((n.natAbs / Nat.gcd n.natAbs d:Nat):Int))=(mkRat n d).num:=by
 have e:(mkRat n d).num=n / ((Nat.gcd n.natAbs d:Nat):Int):=by rw [Rat.num_mkRat,if_neg (by omega),Nat.gcd_comm]
 rw [e]
 have hg:Nat.gcd n.natAbs d ∣ n.natAbs:=Nat.gcd_dvd_left _ _
 generalize Nat.gcd n.natAbs d=g at *
 by_cases h:n<0
 ·rw [if_pos h]
  obtain ⟨m,rfl⟩:∃ m:Nat,n = -(m:Int):=⟨n.natAbs,by omega⟩
  rw [Int.natAbs_neg,Int.natAbs_natCast] at *
  obtain ⟨c,rfl⟩:=hg
  by_cases h0:g=0
  ·subst h0;simp
  rw [Nat.mul_div_cancel_left _ (by omega),Int.natCast_mul,← Int.mul_neg,Int.mul_ediv_cancel_left _ (by omega)]
 rw [if_neg h]
 obtain ⟨m,rfl⟩:∃ m:Nat,n=(m:Int):=⟨n.natAbs,by omega⟩
 rw [Int.natAbs_natCast,Int.natCast_ediv]
theorem xl2 {p q:Rat} (h1:p.num=q.num) (h2:p.den - 1=q.den - 1):p=q:=by
 refine Rat.ext h1 ?_
 have:=p.den_pos
 have:=q.den_pos
 omega
theorem qG4 (n:Int) (d:Nat) (hd:0<d):sgQ (mkRat n d)=if n=0 then 0 else if n<0 then -1 else 1:=by
 have hd':(0:Int)<(d:Int):=by omega
 have h0:mkRat n d=0 ↔ n=0:=Rat.mkRat_eq_zero (by omega)
 have hn:mkRat n d<0 ↔ n<0:=by
  rw [← Rat.not_le,← Int.not_le,← Rat.divInt_ofNat,Rat.divInt_nonneg_iff_of_pos_right hd']
 unfold sgQ
 simp only [h0,hn]
theorem xe8 (a b:Rat):(if a.num*b.den - b.num*a.den=0 then (0:Int) else if a.num*b.den - b.num*a.den<0 then -1 else 1)=sgQ (a - b):=by
 rw [Rat.sub_def',qG4 _ _ (Nat.mul_pos a.den_pos b.den_pos)]
theorem qG5 (a b:Rat) (h:a.den=b.den):(if a.num - b.num=0 then (0:Int) else if a.num - b.num<0 then -1 else 1)=sgQ (a - b):=by
 rw [← xe8,h]
 have hp:(0:Int)<(b.den:Int):=by have:=b.den_pos;omega
 have e:a.num*(b.den:Int) - b.num*(b.den:Int)=(a.num - b.num)*(b.den:Int):=by rw [Int.sub_mul]
 rw [e]
 have h1:(a.num - b.num)*(b.den:Int)=0 ↔ a.num - b.num=0:=by
  rw [Int.mul_eq_zero];constructor
  ·rintro (h|h) <;> omega
  exact fun h=>.inl h
 have h2:(a.num - b.num)*(b.den:Int)<0 ↔ a.num - b.num<0:=by
  constructor
  ·intro h
   rcases Int.lt_or_le (a.num - b.num) 0 with h3|h3
   ·exact h3
   have:=Int.mul_nonneg h3 (Int.le_of_lt hp);omega
  intro h;exact Int.mul_neg_of_neg_of_pos h hp
 simp only [h1,h2]
theorem qL6 (a b:Rat) (h:a.den=b.den):mkRat (a.num+b.num) a.den=a+b:=by
 have hp:=a.den_pos
 rw [Rat.add_def',← h,← Int.add_mul,Rat.mkRat_mul_right (by omega)]
theorem xu4 (a b:Rat) (ha:a.den=1) (hb:b.den=1):((a.num+b.num:Int):Rat)=a+b:=by
 have e:=qL6 a b (by rw [ha,hb])
 rw [← e,ha]
 exact (Rat.mkRat_self ((a.num+b.num:Int):Rat)).symm
theorem xx5 (a b:Rat) (ha:a.den=1) (hb:b.den=1):((a.num*b.num:Int):Rat)=a*b:=by
 rw [Rat.mul_def',ha,hb]
 exact (Rat.mkRat_self ((a.num*b.num:Int):Rat)).symm
theorem xG3 (b:Rat) (h:b.num≠0):mkRat (if decide (sgQ b<0) then -((b.den:Nat):Int) else ((b.den:Nat):Int)) b.num.natAbs=b⁻¹:=by
 rw [Rat.inv_def]
 have e:(sgQ b<0) ↔ b.num<0:=by
  rw [qx3,if_neg h]
  by_cases h2:b.num<0 <;> simp [h2]
 by_cases h2:b.num<0
 ·rw [if_pos (by simpa using e.2 h2),← Rat.divInt_ofNat,show ((b.num.natAbs:Nat):Int) = -b.num by omega,Rat.neg_divInt_neg]
 rw [if_neg (by simpa using fun h3=>h2 (e.1 h3)),← Rat.divInt_ofNat,show ((b.num.natAbs:Nat):Int)=b.num by omega]
end
section
open Go.RowKit
theorem xL1:tw 1=1:=by
 rw [tw,if_neg (by decide)]
 show tw 0+1=1
 rw [qj4]
def rz (q:Rat):Nat:=max (tw q.num.natAbs) (tw q.den)
theorem qf5 (q:Rat):tw q.num.natAbs≤rz q:=Nat.le_max_left _ _
theorem qd1 (q:Rat):tw q.den≤rz q:=Nat.le_max_right _ _
theorem xs8 (q:Rat):1≤rz q:=Nat.le_trans (qG8 q.den_pos) (qd1 q)
theorem qo3 {q:Rat} {k:Nat} (h1:tw q.num.natAbs≤k) (h2:tw q.den≤k):rz q≤k:=Nat.max_le.2 ⟨h1,h2⟩
theorem qm9 {n:Int} {d k:Nat} (h1:tw n.natAbs≤k) (h2:tw d≤k) (h3:1≤k):rz (mkRat n d)≤k:=by
 refine qo3 ?_ ?_
 ·rw [Rat.num_mkRat]
  split
  ·rw [Int.natAbs_zero,qj4];exact Nat.zero_le _
  exact Nat.le_trans (qc2 (qp9 _ _)) h1
 rw [Rat.den_mkRat]
 split
 ·exact Nat.le_trans (qm_ (by decide)) h3
 exact Nat.le_trans (qm6 _ _) h2
theorem qP4 (p q:Rat):rz (p+q)≤rz p+rz q+1:=by
 rw [Rat.add_def']
 have a:=qf5 p
 have b:=qf5 q
 have c:=qd1 p
 have d:=qd1 q
 refine qm9 ?_ (Nat.le_trans (qk5 _ _) (by omega)) (by omega)
 have h1:=qk5 p.num.natAbs q.den
 have h2:=qk5 q.num.natAbs p.den
 have h3:=qP7 (p.num.natAbs*q.den) (q.num.natAbs*p.den)
 refine Nat.le_trans (qc2 (Int.natAbs_add_le _ _)) ?_
 rw [Int.natAbs_mul,Int.natAbs_mul,Int.natAbs_natCast,Int.natAbs_natCast]
 omega
theorem qn4 (p q:Rat):rz (p*q)≤rz p+rz q:=by
 rw [Rat.mul_def']
 have a:=qf5 p
 have b:=qf5 q
 have c:=qd1 p
 have d:=qd1 q
 have e:=xs8 p
 refine qm9 ?_ (Nat.le_trans (qk5 _ _) (by omega)) (by omega)
 rw [Int.natAbs_mul]
 exact Nat.le_trans (qk5 _ _) (by omega)
theorem qG2 (p:Rat):rz (-p)=rz p:=by
 unfold rz
 rw [Rat.neg_num,Rat.neg_den,Int.natAbs_neg]
theorem xs_ (p q:Rat):rz (p - q)≤rz p+rz q+1:=by
 rw [Rat.sub_eq_add_neg]
 have:=qP4 p (-q)
 rwa [qG2] at this
theorem xs7 (p:Rat):rz p⁻¹≤rz p:=by
 have a:=qf5 p
 have c:=qd1 p
 have e:=xs8 p
 refine qo3 ?_ ?_
 ·rw [Rat.num_inv,Int.natAbs_mul,Int.natAbs_natCast]
  refine Nat.le_trans (qc2 ?_) c
  rw [Int.natAbs_sign]
  split <;> omega
 rw [Rat.den_inv]
 split
 ·exact Nat.le_trans (qm_ (by decide)) e
 exact a
theorem xe3 (p q:Rat):rz (p / q)≤rz p+rz q:=by
 rw [Rat.div_def]
 have h1:=qn4 p q⁻¹
 have h2:=xs7 q
 omega
theorem xJ6 (n:Int):rz (n:Rat)=max (tw n.natAbs) 1:=by
 unfold rz
 rw [Rat.num_intCast,Rat.den_intCast]
 rw [xL1]
section
variable {w w':World} {v:Value} {k:Nat}
theorem Rn.alloc (h:Rn w v k) (o:Obj):Rn (w.alloc o) v k:=Dr.alloc h o
theorem Rn.ne {g:Nat} {T:TypeId} {cs:Array Value} (h:Rn w v k) (hb:Bx w g T cs) (hT:T≠3):v.ownBlock≠some g:=by
 rcases h.2 with ⟨rfl,_⟩|⟨b,c,cur,rfl,_,hh,_⟩
 ·intro e;cases e
 intro e
 have e2:b=g:=by injection e
 subst e2
 unfold Bx at hb
 rw [hb] at hh
 injection hh with hh
 injection hh with h1 h2 h3
 exact hT h2
theorem Rn.setOther (h:Rn w v k) {a:Addr} (ha:v.ownBlock≠some a.block) (u:Value):Rn (w.setCell a u) v k:=by
 refine ⟨h.1,?_⟩
 rcases h.2 with hn|⟨b,c,cur,rfl,hb,hh,rest⟩
 ·exact .inl hn
 exact .inr ⟨b,c,cur,rfl,hb,(Below.heap_setCell w a u b (fun e=>ha (by simp [Value.ownBlock,e]))).trans hh,rest⟩
end
theorem qo6 (a b:Int):tw (a+b).natAbs≤max (tw a.natAbs) (tw b.natAbs)+1 :=
 Nat.le_trans (qc2 (Int.natAbs_add_le a b)) (qP7 _ _)
theorem qK7 (a b:Int):tw (a*b).natAbs≤tw a.natAbs+tw b.natAbs:=by
 rw [Int.natAbs_mul];exact qk5 _ _
end
section
open Go.RowKit
attribute [local go_sem ↓] Go.wp_at_zero Go.wp_at_succ
theorem xN_ (v u:Value) (x y z:Nat) (w:World) (hz:x+y=z) (hx:Rn w v x) (hy:Rn w u y) (bx:tw x≤1000000000) (by':tw y≤1000000000) :
  Calls Tryz.prog 220 #[v,u] w fun e w'=>(∃ v',e=.returned v'∧Rn w' v' z)∧Below w.heap.size w w':=hz ▸ qO9 v u x y w hx hy bx by'
theorem xr5 (v u:Value) (x y z:Nat) (w:World) (hz:x*y=z) (hx:Rn w v x) (hy:Rn w u y) (bx:tw x≤1000000000) (by':tw y≤1000000000) :
  Calls Tryz.prog 178 #[v,u] w fun e w'=>(∃ v',e=.returned v'∧Rn w' v' z)∧Below w.heap.size w w':=hz ▸ qu7 v u x y w hx hy bx by'
theorem xE8 (v u:Value) (x y z:Nat) (w:World) (hz:x - y=z) (hx:Rn w v x) (hy:Rn w u y) (hle:y≤x) (bx:tw x≤1000000000) (by':tw y≤1000000000) :
  Calls Tryz.prog 244 #[v,u] w fun e w'=>(∃ v',e=.returned v'∧Rn w' v' z)∧Below w.heap.size w w':=hz ▸ qP2 v u x y w hx hy hle bx by'
theorem xS1 (v u:Value) (x y z:Nat) (w:World) (hz:Nat.gcd x y=z) (hx:Rn w v x) (hy:Rn w u y) (bx:tw x≤500000000) (by':tw y≤500000000) :
  Calls Tryz.prog 248 #[v,u] w fun e w'=>(∃ v',e=.returned v'∧Rn w' v' z)∧Below w.heap.size w w':=hz ▸ xo2 v u x y w hx hy bx by'
theorem qy6 (v u:Value) (x y q r:Nat) (w:World) (hq:x / y=q) (hr:x % y=r) (hx:Rn w v x) (hy:Rn w u y) (h0:0<y) (bx:tw x≤500000000) (by':tw y≤500000000) :
  Calls Tryz.prog 176 #[v,u] w fun e w'=>(∃ v1 v2,e=.returned (.tuple #[v1,v2])∧Rn w' v1 q∧Rn w' v2 r)∧Below w.heap.size w w':=hq ▸ hr ▸ qP0 v u x y w hx hy h0 bx by'
theorem xO0 (v u:Value) (x y:Nat) (c:Int) (w:World) (hc:cmpI x y=c) (hx:Rn w v x) (hy:Rn w u y) (bx:tw x≤1000000000) (by':tw y≤1000000000) :
  Calls Tryz.prog 219 #[v,u] w fun e w'=>e=.returned (.int .i64 c)∧Below w.heap.size w w':=hc ▸ qu5 v u x y w hx hy bx by'
theorem xK_ {n:Int} (h1:-9223372036854775808≤n) (h2:n≤9223372036854775807):tw n.natAbs≤5:=qc0.2 (by rw [show tp 5=100000000000000000000 from by decide];omega)
theorem Rn.sl {w:World} {v:Value} {k:Nat} (h:Rn w v k):∃ ao n c,v=.slice ao n c:=by
 obtain ⟨ao,c,e,_⟩:=Dr.slice h
 exact ⟨ao,_,c,e⟩
theorem qb5 (b:Bool) (n:Nat) (z:Int) (v:Value) (w:World) (hz:(if b then -(n:Int) else (n:Int))=z) (h:Rn w v n) :
  Calls Tryz.prog 196 #[.bool b,v] w fun e w'=>(∃ v',e=.returned (.agg #[.bool (decide (z<0)),v'])∧Rn w' v' z.natAbs)∧Below w.heap.size w w':=by
 obtain ⟨ao,c,rfl,hc,hc2⟩:=Dr.slice h
 obtain ⟨k,hk⟩:∃ k,tw n=k:=⟨_,rfl⟩
 rw [hk] at h hc ⊢
 have HK:=Lib.hid hk
 have HR:=Lib.hid h
 have HZ:=Lib.hid hz
 clear h hk hz
 cases b
 ·have he:Hid (decide (z<0)=false∧z.natAbs=n):=Lib.hid (by have:=HZ.out;simp at this;constructor;simp;omega;omega)
  go_enter Tryz.func196,Tryz.ntmps196
  go_wp2
  exact bodyPost_ret (v:=.agg #[.bool false,.slice ao k c]) (by simp [results,Tryz.results196,go_sem]) rfl ⟨⟨_,by rw [he.out.1],by rw [he.out.2];exact HR.out.alloc _⟩,(Below.refl _ _).alloc (Nat.le_refl _) _⟩
 by_cases h0:k=0
 ·subst h0
  have hn:n=0:=qe8.1 HK.out
  have he:Hid (decide (z<0)=false∧z.natAbs=n):=Lib.hid (by have:=HZ.out;simp at this;constructor;simp;omega;omega)
  clear hn
  go_enter Tryz.func196,Tryz.ntmps196
  go_wp2
  exact bodyPost_ret (v:=.agg #[.bool false,.slice ao 0 c]) (by simp [results,Tryz.results196,go_sem]) rfl ⟨⟨_,by rw [he.out.1],by rw [he.out.2];exact HR.out.alloc _⟩,(Below.refl _ _).alloc (Nat.le_refl _) _⟩
 have hn:0<n:=Nat.pos_of_ne_zero (fun e=>h0 (by rw [← HK.out,e];exact qj4))
 have he:Hid (decide (z<0)=true∧z.natAbs=n):=Lib.hid (by have:=HZ.out;simp at this;constructor;simp;omega;omega)
 have hk0:0<k:=by omega
 clear hn
 go_enter Tryz.func196,Tryz.ntmps196
 go_wp2
 exact bodyPost_ret (v:=.agg #[.bool true,.slice ao k c]) (by simp [results,Tryz.results196,go_sem]) rfl ⟨⟨_,by rw [he.out.1],by rw [he.out.2];exact HR.out.alloc _⟩,(Below.refl _ _).alloc (Nat.le_refl _) _⟩
end
end Go.Proofs.YtobojnodohjiaaaGreatDoor

set_option maxRecDepth 100000
set_option maxHeartbeats 16000000
set_option linter.unusedVariables false
set_option linter.unusedSimpArgs false
namespace Go.Proofs.YtobojnodohjiaaaGreatDoor
section
open Go.RowKit
theorem nzof (n:Nat) (w:World) (h:n<18446744073709551616) :
  Calls Tryz.prog 24 #[.int .u64 ((n:Nat):Int)] w fun e w'=>e=.returned (Value.agg #[.int .u64 (lo n),.string (bg n)])∧Below w.heap.size w w':=by
 have:=qB8 ((n:Nat):Int) w (by omega) (by omega)
 rwa [Int.toNat_natCast] at this
theorem xx9 (a b z:Nat) (w:World) (hz:a+b=z) (ha:wl a≤549755813888) (hb:wl b≤549755813888) :
  Calls Tryz.prog 109 #[(Value.agg #[.int .u64 (lo a),.string (bg a)]),(Value.agg #[.int .u64 (lo b),.string (bg b)])] w fun e w'=>e=.returned (Value.agg #[.int .u64 (lo z),.string (bg z)])∧Below w.heap.size w w':=hz ▸ qH6 a b w ha hb
theorem qT5 (a b z:Nat) (w:World) (hz:a*b=z) (ha:wl a≤549755813888) (hb:wl b≤549755813888) :
  Calls Tryz.prog 110 #[(Value.agg #[.int .u64 (lo a),.string (bg a)]),(Value.agg #[.int .u64 (lo b),.string (bg b)])] w fun e w'=>e=.returned (Value.agg #[.int .u64 (lo z),.string (bg z)])∧Below w.heap.size w w':=hz ▸ qr7 a b w ha hb
theorem xP6 (a b z:Nat) (w:World) (hz:a - b=z) (h0:b≤a) (ha:wl a≤549755813888) (hb:wl b≤549755813888) :
  Calls Tryz.prog 165 #[(Value.agg #[.int .u64 (lo a),.string (bg a)]),(Value.agg #[.int .u64 (lo b),.string (bg b)])] w fun e w'=>e=.returned (.tuple #[(Value.agg #[.int .u64 (lo z),.string (bg z)]),.bool true])∧Below w.heap.size w w':=by
 have:=qx7 a b w (by omega) (by omega)
 rw [decide_eq_true h0,hz] at this
 exact this
theorem qt8 (a b q r:Nat) (w:World) (hq:a / b=q) (hr:a % b=r) (h0:0<b) (ha:wl a≤549755813888) (hb:wl b≤549755813888) :
  Calls Tryz.prog 43 #[(Value.agg #[.int .u64 (lo a),.string (bg a)]),(Value.agg #[.int .u64 (lo b),.string (bg b)])] w fun e w'=>e=.returned (.tuple #[(Value.agg #[.int .u64 (lo q),.string (bg q)]),(Value.agg #[.int .u64 (lo r),.string (bg r)]),.bool true])∧Below w.heap.size w w':=by
 refine (qI2 a b w ha hb).mono fun e w' h=>?_
 unfold DivPost at h
 rw [if_neg (by omega),hq,hr] at h
 exact h
theorem qF4 (a n z:Nat) (w:World) (hz:a ^ n=z) (hn:n≤4096) (hb:n*nb a≤262144) (ha:wl a≤8192) :
  Calls Tryz.prog 164 #[(Value.agg #[.int .u64 (lo a),.string (bg a)]),.int .i64 ((n:Nat):Int)] w fun e w'=>e=.returned (.tuple #[(Value.agg #[.int .u64 (lo z),.string (bg z)]),.int .i64 0])∧Below w.heap.size w w':=hz ▸ xI4 a n w hn hb ha
theorem xx_ (s:ByteArray) (n:Nat) (c:Int) (w:World) (hn:pnum s=n) (hc:qi6 s=c) (hs:s.size≤9223372036854775807) :
  Calls Tryz.prog 163 #[.string s] w fun e w'=>e=.returned (.tuple #[(Value.agg #[.int .u64 (lo n),.string (bg n)]),.int .i64 c])∧Below w.heap.size w w':=hn ▸ hc ▸ xc8 s w hs
def decF:Nat→Nat→List UInt8→List UInt8
 | 0,_,acc=>acc
 | k+1,u,acc=>if u<10 then UInt8.ofNat (48+u) :: acc else decF k (u / 10) (UInt8.ofNat (48+u % 10) :: acc)
theorem qY_:∀ (k u:Nat) (acc:List UInt8),u<10 ^ (k+1)→decF (k+1) u acc=Lib.decDigits u ++ acc
 | 0,u,acc,h=>by
  have h':u<10:=by simpa using h
  unfold decF
  rw [if_pos h',Lib.decDigits,dif_pos h']
  rfl
 | k+1,u,acc,h=>by
  unfold decF
  by_cases h':u<10
  ·rw [if_pos h',Lib.decDigits,dif_pos h'];rfl
  rw [if_neg h',qY_ k (u / 10) _ (by rw [Nat.pow_succ] at h;omega),qc_ h',List.append_assoc];rfl
theorem ql_ {u:Nat} {s:List UInt8} (k:Nat) (h:u<10 ^ (k+1)) (e:decF (k+1) u []=s):Lib.decDigits u=s:=by
 rw [← e,qY_ k u [] h,List.append_nil]
end
section
open Go.RowKit
theorem xS0 (v:Value) (k:Nat) (f:Nat→Nat) (z:Nat) (w0 w:World) (hz:vl f k=z) (hk:k≤1000000) (h:Wa w0 v k f) (hgr:Gr w0 w) (hf:∀ i,i<k→f i<4294967296) :
  Calls Tryz.prog 31 #[v] w fun e w'=>e=.returned (Value.agg #[.int .u64 (lo z),.string (bg z)])∧Below w.heap.size w w':=by
 have HZ:=Lib.hid hz
 have HF:=Lib.hid hf
 have HW:=Lib.hid (h.gr hgr)
 obtain ⟨ao,c,rfl⟩:=h.slice
 clear hf h hz hgr
 obtain ⟨W0,HW0⟩:∃ W0,Hid ((w.alloc (.cells #[.int .u64 0,.string ⟨#[]⟩] 30)).alloc (.cells #[.int .u64 0,.string ⟨#[]⟩] 30)=W0):=⟨_,Lib.hid rfl⟩
 have HB0:Hid (Below w.heap.size w W0):=Lib.hid (by rw [← HW0.out];exact ((Below.refl _ _).alloc (Nat.le_refl _) _).alloc (by simp) _)
 have HR0:Hid (Bx W0 w.heap.size 30 #[.int .u64 0,.string ⟨#[]⟩]):=Lib.hid (by rw [← HW0.out];exact (Bx.new _ _ _).alloc _)
 have HO0:Hid (Bx W0 (w.heap.size+1) 30 #[.int .u64 (lo (upv f k k)),.string (bg (upv f k k))]):=Lib.hid (by rw [← HW0.out,qP9,qr5,qr0];exact Bx.at (by simp))
 go_enter Tryz.func31,Tryz.ntmps31
 go_wp2_with fail
 rw [HW0.out]
 clear HW0
 go_loopg [4] k (fun j i wr=>i=.int .i64 ((j:Int) - 1)∧j≤k∧Hid (Bx wr w.heap.size 30 #[.int .u64 0,.string ⟨#[]⟩])∧Hid (Bx wr (w.heap.size+1) 30 #[.int .u64 (lo (upv f k j)),.string (bg (upv f k j))])∧Hid (Below w.heap.size w wr))
 case atStart=>exact ⟨rfl,Nat.le_refl _,HR0,HO0,HB0⟩
 case round =>
  obtain ⟨rfl,hj,HR,HO,HB⟩:=hrel
  clear HR0 HO0 HB0
  by_cases h0:gk=0
  ·subst h0
   have hv:upv f k 0=z:=by rw [xg1];exact HZ.out
   rw [hv] at HO
   clear hv
   have x0:=HO.out.c0 (Gr.refl _)
   have x1:=HO.out.c1 (Gr.refl _)
   have r0:=HR.out.c0 (Gr.refl _)
   have r1:=HR.out.c1 (Gr.refl _)
   have fr:=HR.out.free wr (Gr.refl _)
   go_wp2_with fail
   exact bodyPost_ret (v:=(Value.agg #[.int .u64 (lo z),.string (bg z)])) (by simp [results,Tryz.results31,go_sem,r0,r1]) rfl ⟨rfl,qj5 HB.out (Nat.le_refl _) _ _⟩
  obtain ⟨j,rfl⟩:∃ j,gk=j+1:=⟨gk - 1,by omega⟩
  have hj2:((j+1:Nat):Int) - 1=(j:Int):=by omega
  rw [hj2]
  rcases HW.out with ⟨_,_,_,h⟩|⟨b,o,c2,hv,hb,hcell⟩
  ·omega
  injection hv with hv1 _ hv3
  subst hv1 hv3
  obtain ⟨d,hd⟩:∃ d,f j=d:=⟨_,rfl⟩
  have hd2:d<4294967296:=by rw [← hd];exact HF.out j (by omega)
  have hc:∀ w',Gr wr w'→w'.cell? ⟨b,o+j,none⟩=some (.int .u32 (d:Int)):=fun w' hw=>by
   rw [← hd,← hcell j (by omega)]
   exact Below.cell (Below.trans HB.out (Below.mono hw HB.out.size)) (p:=⟨b,o+j,none⟩) hb
  go_wp2_with fail
  have HC:=Lib.hid hc
  have HBW:Hid (wl (upv f k (j+1))≤1000000):=Lib.hid (Nat.le_trans (xt_ HF.out (j+1)) hk)
  have hst:=qP_ f (show j<k by omega)
  rw [hd] at hst
  have HST:=Lib.hid hst
  obtain ⟨x,hx⟩:∃ x,upv f k (j+1)=x:=⟨_,rfl⟩
  rw [hx] at HO HBW HST
  obtain ⟨y,hy⟩:∃ y,x*4294967296=y:=⟨_,rfl⟩
  rw [hy] at HST
  have HY:Hid (x*4294967296=y∧wl y≤1000002):=Lib.hid ⟨hy,by have:=qg8 x 4294967296;have:=HBW.out;have h2:wl 4294967296≤2:=qa2.2 (by decide);rw [← hy];omega⟩
  have HDW:Hid (wl d≤1):=Lib.hid (qc7 hd2)
  clear hx hy hst hcell hc HW
  have HOX:=Lib.hid HO.out.cells
  refine qa1 10 [] [] (fun _=>0) (fun _=>.cells #[] 0) [(true,0),(true,1),(true,2),(true,3),(true,4),(true,5),(true,6),(true,7),(true,8),(true,9)] (by kernel_rfl) (by kernel_rfl) (fun i hi=>by cases hi) (fun i hi=>by cases hi) (fun _ _ _ _ _ h=>h) (fun T hT=>?_)
  have lx:=HC.out
  have lo:=HOX.out
  have hjk:j<k:=by omega
  have hwr:IntKind.u64.wrap (d:Int)=(d:Int):=by rw [IntKind.wrap_u64];omega
  iterate 1
   refine qj3 (v:=?_) rfl (by rfl) (fun w' hw=>?_) ?_
   rotate_left
   ·go_simp
    with_reducible rfl
   simp only [Act.put,List.setIfInBounds_toArray,List.set_cons_zero,List.set_cons_succ]
  refine qg9 rfl (by rfl) Tryz.call24 (fun w' hw=>nzof 4294967296 _ (by decide)) (by rfl) ?_
  simp only [Act.put,List.setIfInBounds_toArray,List.set_cons_zero,List.set_cons_succ]
  refine qg9 rfl (by rfl) Tryz.call110 (fun w' hw=>qT5 x 4294967296 y _ HY.out.1 (by have:=HBW.out;omega) (by have h2:wl 4294967296≤2:=qa2.2 (by decide);omega)) (by rfl) ?_
  simp only [Act.put,List.setIfInBounds_toArray,List.set_cons_zero,List.set_cons_succ]
  iterate 5
   refine qj3 (v:=?_) rfl (by rfl) (fun w' hw=>?_) ?_
   rotate_left
   ·go_simp
    with_reducible rfl
   simp only [Act.put,List.setIfInBounds_toArray,List.set_cons_zero,List.set_cons_succ]
  refine qg9 rfl (by rfl) Tryz.call24 (fun w' hw=>nzof d _ (by omega)) (by rfl) ?_
  simp only [Act.put,List.setIfInBounds_toArray,List.set_cons_zero,List.set_cons_succ]
  refine qg9 rfl (by rfl) Tryz.call109 (fun w' hw=>xx9 y d _ _ HST.out.symm (by have:=HY.out.2;omega) (by have:=HDW.out;omega)) (by rfl) ?_
  simp only [Act.put,List.setIfInBounds_toArray,List.set_cons_zero,List.set_cons_succ]
  refine qa0 (hT.out _ _ ?_);clear hT T
  intro G vw1 hg hf
  simp only [puts,Act.put,List.setIfInBounds_toArray,List.set_cons_zero,List.set_cons_succ,List.drop_succ_cons,List.drop_zero,↓reduceIte,Nat.reduceEqDiff]
  have HG:=Lib.hid hg
  clear hg hf lx lo HC HOX hwr hd2
  have x0:=HO.out.c0 HG.out
  have x1:=HO.out.c1 HG.out
  have fx:=HO.out.free vw1 HG.out
  go_wp2_with fail
  go_roundg j
  case measure=>omega
  case rel=>exact ⟨rfl,by omega,Lib.hid ((HR.out.gr HG.out).keep2 (by omega) _ _),Lib.hid ((HO.out.gr HG.out).set2 _ _),Lib.hid (qj5 (Below.trans HB.out (Below.mono HG.out HB.out.size)) (by omega) _ _)⟩
end
section
open Go.RowKit
attribute [local go_sem ↓] Go.wp_at_zero Go.wp_at_succ
theorem xS2 (v:Value) (k:Nat) (f:Nat→Nat) (z:Nat) (w0 w:World) (hz:vl f k=z) (hk:k≤1000000) (h:Wa w0 v k f) (hg:Gr w0 w) (hf:∀ i,i<k→f i<4294967296) :
  Calls Tryz.prog 251 #[v] w fun e w'=>(∃ v',e=.returned v'∧Rn w' v' z)∧Below w.heap.size w w':=hz ▸ xo_ v k f w hk (h.gr hg) hf
theorem qQ3 (v:Value) (x:Nat) (s:ByteArray) (w:World) (hs:(⟨(Lib.decDigits x).toArray⟩:ByteArray)=s) (hx:Rn w v x) (bx:tw x≤10000000) :
  Calls Tryz.prog 177 #[v] w fun e w'=>e=.returned (.string s)∧Below w.heap.size w w':=hs ▸ qx1 v x w hx bx
theorem xc3 (a:Nat) (s:ByteArray) (w:World) (hs:(⟨(Lib.decDigits a).toArray⟩:ByteArray)=s) (ha:wl a≤900000) (HT:Hid (Tab w)) :
  Calls Tryz.prog 154 #[(Value.agg #[.int .u64 (lo a),.string (bg a)])] w fun e w'=>e=.returned (.string s)∧Below w.heap.size w w':=hs ▸ qD0 a w (by omega) HT
theorem Rn.len {w:World} {ao:Option Addr} {n c k:Nat} (h:Rn w (.slice ao n c) k):n=tw k:=by
 obtain ⟨ao',c',e,_⟩:=Dr.slice h
 injection e with _ e2 _
end
section
open Go.RowKit
attribute [local go_sem ↓] Go.wp_at_zero Go.wp_at_succ
attribute [local go_sem ↓] eq_nat eq_nat_zero
end
end Go.Proofs.YtobojnodohjiaaaGreatDoor
