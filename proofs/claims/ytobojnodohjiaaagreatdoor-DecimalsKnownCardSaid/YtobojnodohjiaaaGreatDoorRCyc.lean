
/- gussetref04.Cycle. -/
import Derived.Test.YtobojnodohjiaaaGreatDoorOwnR
import Derived.Test.YtobojnodohjiaaaGreatDoorPN
import Derived.Test.YtobojnodohjiaaaGreatDoorFieldP
import Derived.Test.YtobojnodohjiaaaGreatDoorPJ
set_option maxRecDepth 100000
set_option maxHeartbeats 16000000
set_option linter.unusedVariables false
set_option linter.unusedSimpArgs false
namespace Go.Proofs.YtobojnodohjiaaaGreatDoor
open Go.RowKit
attribute [local go_sem ↓] Go.wp_at_zero Go.wp_at_succ
attribute [local go_sem ↓] eq_nat eq_nat_zero eq_int
abbrev dtt (n:Nat):ByteArray:=⟨(Lib.decDigits n).toArray⟩
theorem xv_ {a b:Nat} (h:dtt a=dtt b):a=b:=by
 have e:=congrArg (fun x:ByteArray=>x.data.toList) h
 exact xv2 (by simpa using e)
def scs (p d:Nat):Nat→List Value
 | 0=>[]
 | k+1=>scs p d k ++ [.string (dtt (rmd p d k))]
theorem xA5 (p d n:Nat):(scs p d n).length=n:=by
 induction n with
 | zero=>rfl
 | succ n ih=>rw [scs,List.length_append,ih];rfl
theorem xJ8 (p d n i:Nat) (hi:i<n):(scs p d n)[i]?=some (.string (dtt (rmd p d i))):=by
 induction n with
 | zero=>omega
 | succ n ih =>
  have hl:=xA5 p d n
  rcases Nat.lt_or_ge i n with h|h
  ·rw [scs,List.getElem?_append_left om]
   exact ih h
  obtain rfl:i=n:=by omega
  rw [scs,List.getElem?_append_right om,hl,Nat.sub_self];rfl
theorem xc7 {W:World} {B E k n:Nat} {v:Value} {xs:List Value} (h:W.ownsRow B E k v n xs):∃ ao c,v=.slice ao n c:=by
 obtain ⟨hl,⟨rfl,rfl⟩|⟨b,cap,cur,rfl,_⟩⟩:=h
 ·exact ⟨none,0,rfl⟩
 exact ⟨_,cap,rfl⟩
theorem xy1 {w0 W:World} {E p d n:Nat} {v:Value} (h:W.ownsRow w0.heap.size E 1 v n (scs p d n)) (hn:0<n):∃ b o c,v=.slice (some ⟨b,o,none⟩) n c∧b<W.heap.size∧∀ i,i<n→W.cell? ⟨b,o+i,none⟩=some (.string (dtt (rmd p d i))):=by
 obtain ⟨b,cap,rfl,hb,hc⟩:=xn0 h hn
 exact ⟨b,0,cap,rfl,hb,fun i hi=>by rw [Nat.zero_add,hc i hi,xJ8 p d n i hi]⟩
theorem xi2 {v1 v2 v:Value} {n1 n2:Nat}:Apart [Sum.inr (v1,n1),Sum.inr (v2,n2)] v:=fun i x hx e=>by
 rcases i with _|_|i <;> simp at hx
theorem qI0 {a b c x y z:Int} {n:Nat} (h:cyc n=(a,b,c)) (g:cyc n=(x,y,z)):a=x∧b=y∧c=z:=by
 rw [h] at g
 injection g with g1 g
 injection g with g2 g3
 exact ⟨g1,g2,g3⟩
theorem xO2 {t s:ByteArray} (h:¬ t=s):¬ t.toList=s.toList:=fun e=>h (Go.WideShapes.bytes_inj (by rw [← ByteArray.toList_eq,← ByteArray.toList_eq,e]))
theorem xG_ {P:Program} {c:Code} {Q:Exit→Act→World→Prop} {a:Act} {w:World} (h:∀ b:Act,b=a→c.wp P Q b w):c.wp P Q a w:=h a rfl
theorem xJ1 {a n j:Nat} (h:0<n):rmd a n j<n:=Nat.mod_lt _ h
theorem xz0 (a:Rat) (d r0:Nat) (c1 c2 c3:Int) (va1 va2:Value) (w:World) (HD:Hid (a.den=d)) (HDP:Hid (0<d)) (HCO:Hid (Nat.Coprime a.num.natAbs d)) (HR0:Hid (rmd a.num.natAbs d 0=r0)) (HC:Hid (cyc d=(c1,c2,c3))) (hs:rz a≤900) (hwd:tw d≤900) (bx21:Rn w va1 a.num.natAbs) (bx22:Rn w va2 (a.den - 1)) :
  CB 68 #[.agg #[.bool (decide (a.num<0)),va1,va2]] w ((.tuple #[.int .i64 c1,.int .i64 c2,.int .i64 c3])):=by
 have hn_a:tw a.num.natAbs≤900:=Nat.le_trans (Nat.le_max_left _ _) hs
 obtain ⟨ao_va1,n_va1,c_va1,rfl⟩:=Rn.sl bx21
 obtain ⟨ao_va2,n_va2,c_va2,rfl⟩:=Rn.sl bx22
 go_enter Tryz.func68,Tryz.ntmps68
 have I:=lh_ (hp0 w)
 replace I:=lh_ ((I.out.ar bx21).ar bx22)
 simp only [lF,lG] at I
 clear bx21 bx22
 refine kSl fun K O=>?_;go_wp2
 refine kF_ O (al1_ I) fun Wx0 J=>?_;clear O K
 clear I;have I:=J;clear J
 have HZ1:Hid (a.den=d):=lh_ (HD.out)
 have su1:tw d≤900:=by have e:=HZ1.out;first|omega|(rw [← e];exact Nat.le_trans (qd1 _) om)
 have lx23:=kc2_ I
 refine kS fun K O=>?_
 have HG0:Hid (Gr Wx0 Wx0):=lh_ (Gr.refl _)
 refine xe9 fun T Y=>?_
 refine tk ?_
 refine ce1 Tryz.call150 HG0 (fun w' hw=>qj1 a d _ _ _ HZ1.out om (I.out.r 0 rfl (HG0.out.trans hw)) (I.out.r 1 rfl (HG0.out.trans hw))) ?_;clear HG0;intro vv25 HG0 _ ao1 nn1 cc1 RN25
 clear lx23;have lx23:=fun w' (h:Gr _ w')=>kc2_ I w' (HG0.out.trans h)
 refine tk ?_
 refine nzR Y O (fun w2 hg=>(I.out.gr (HG0.out.trans hg)).ar (RN25.out.gr hg)) ?_;clear Y T I HG0 RN25 lx23 O K;intro vw1 I
 obtain ⟨u2,HZ2⟩:=ex_ (a.num.natAbs / d)
 have su2:tw u2≤900:=by rw [← HZ2.out];have:=qm6 a.num.natAbs d;omega
 have HZ3:Hid (a.num.natAbs % d=r0):=lh_ (by rw [← HR0.out,xo4])
 have su3:tw r0≤900:=by have e:=HZ3.out;first|omega|(rw [← e];have:=qn6 a.num.natAbs d;omega)
 have lx23:=kc2_ I
 refine kS fun K O=>?_
 have HG0:Hid (Gr vw1 vw1):=lh_ (Gr.refl _)
 refine ql3 fun T Y=>?_
 iterate 4 refine tk ?_
 refine ce2 Tryz.call176 HG0 (fun w' hw=>qy6 _ _ a.num.natAbs d u2 r0 _ HZ2.out HZ3.out (I.out.r 0 rfl (HG0.out.trans hw)) (I.out.r 3 rfl (HG0.out.trans hw)) (by exact HDP.out) om om) ?_;clear HG0;intro vv26 HG0 _ ao2 nn2 cc2 ao3 nn3 cc3 RN26 RN27
 clear lx23;have lx23:=fun w' (h:Gr _ w')=>kc2_ I w' (HG0.out.trans h)
 iterate 5 refine tk ?_
 refine nzR Y O (fun w2 hg=>((((((I.out.gr (HG0.out.trans hg)).ar (RN26.out.gr hg)).ar (RN27.out.gr hg)).er 4).er 2).er 1).er 0) ?_;clear Y T I HG0 RN26 RN27 lx23 O K;intro Wx2 I
 refine kSl fun K O=>?_;go_wp2
 refine kF_ O (I.out) fun Wx3 J=>?_;clear O K
 clear I;have I:=J;clear J
 refine wp_seq ?_
 refine kSl fun K O=>?_;go_wp2
 refine kF_ O (I.out) fun Wx4 J=>?_;clear O K
 clear I;have I:=J;clear J
 refine wp_block ?_
 go_loopg [7,8,9] 102 (fun kk rv sv kv wr=>∃ k r:Nat,kv=.int .i64 ((k:Nat):Int)∧k+kk=102∧Hid (rmd a.num.natAbs d k=r)∧Hid (nst a.num.natAbs d k)∧Hid (HP w wr [Sum.inr ((.slice ao1 nn1 cc1),d),Sum.inr (rv,r)])∧Hid (wr.ownsRow w.heap.size 9 1 sv k (scs a.num.natAbs d k)))
 case atStart=>exact ⟨0,r0,rfl,by omega,HR0,lh_ (xm_ _ _),I,lh_ (World.ownsRow_nil _ _ _ _)⟩
 case round =>
  rename_i J_ K_ hj1_ hj0_
  clear I
  obtain ⟨k,r,rfl,hkk,HR,HN,I,HO⟩:=hrel
  obtain ⟨ao9,nn9,cc9,rfl⟩:=Rn.sl (I.out.rn 1 rfl)
  obtain ⟨aoS,cS,rfl⟩:=xc7 HO.out
  have hwk:IntKind.i64.wrap ((k:Int)+1)=(k:Int)+1:=by rw [IntKind.wrap_i64];omega
  rcases gk with _|kk
  ·obtain ⟨rfl,rfl,rfl⟩:=qI0 (xj1 HDP.out HCO.out HN.out om) HC.out
   have hk5:¬ ((k:Nat):Int)≤101:=by omega
   refine wp_seq ?_
   refine kS fun K O=>?_
   go_wp2
   refine kO O ?_;clear O K
   refine wp_cond_false (by rfl) ?_
   refine wp_exit ?_
   show Code.wp _ _ _ _ _
   refine kSl fun K O=>?_;go_wp2
   refine kF_ O (((I.out).er 1).er 0) fun Wx17 J=>?_;clear O K
   clear I;have I:=J;clear J
   refine wp_ret ?_
   try simp only [Exit.then,Exit.inBlock]
   exact bR ⟨rfl,I.out.1⟩ (by simp [results,Tryz.results68,go_sem])
  have hk5:((k:Nat):Int)≤101:=by omega
  have HLN:Hid (nn9=tw r):=lh_ (Rn.len (I.out.rn 1 rfl))
  have hwr:tw r≤900:=Nat.le_trans (qc2 (Nat.le_of_lt (by rw [← HR.out];exact xJ1 HDP.out))) hwd
  by_cases hA:r=0∧k≤100
  ·obtain ⟨rfl,rfl,rfl⟩:=qI0 (xi_ HDP.out HCO.out HN.out hA.2 (HR.out.trans hA.1)) HC.out
   have hn0:nn9=0:=by rw [HLN.out];exact qe8.2 hA.1
   have hz7:((nn9:Int) == 0)=true:=by rw [hn0];rfl
   have hz8:(nn9 == 0)=true:=by rw [hn0];rfl
   clear hn0
   have hk7:(k:Int)≤100:=by omega
   clear hA
   refine wp_seq ?_
   refine kS fun K O=>?_
   go_wp2
   refine kO O ?_;clear O K
   refine wp_cond_true (by rfl) ?_
   refine wp_skip ?_
   show Code.wp _ _ _ _ _
   refine wp_seq ?_
   refine wp_block ?_
   refine wp_seq ?_
   refine ks7_ fun K O T Y=>?_
   iterate 7 refine tk ?_
   refine nz Y I O ?_;clear Y T I O K;intro vw3 I
   refine wp_cond_true (by rfl) ?_
   refine ks4_ fun K O T Y=>?_
   iterate 4 refine tk ?_
   refine nz Y I O ?_;clear Y T I O K;intro vw4 I
   refine wp_ret ?_
   try simp only [Exit.then,Exit.inBlock]
   exact bR ⟨rfl,I.out.1⟩ (by simp [results,Tryz.results68,go_sem])
  have HA:=lh_ hA
  obtain ⟨s,HS⟩:=ex_ (dtt r)
  obtain ⟨m10,HM10⟩:=ex_ (r*10)
  obtain ⟨qt,HQT⟩:=ex_ (m10 / d)
  have ht10:tw 10≤1:=qc0.2 (by decide +kernel)
  obtain ⟨r2,HR2⟩:=ex_ (rmd a.num.natAbs d (k+1))
  clear hA
  refine wp_seq ?_
  refine kS fun K O=>?_
  go_wp2
  refine kO O ?_;clear O K
  refine wp_cond_true (by rfl) ?_
  refine wp_skip ?_
  show Code.wp _ _ _ _ _
  refine wp_seq ?_
  refine wp_block ?_
  refine wp_seq ?_
  refine kS fun K O=>?_
  refine xG_ fun A9 HA9=>?_
  suffices HJ:Hid (∀ (x26 x27 x28 x29 x30 x31:Value),K (((((((A9.put (some 26) x26).put (some 27) x27).put (some 28) x28).put (some 29) x29).put (some 30) x30).put (some 31) x31).put (some 32) (.bool false)) wr) by
   have HJ2:=HJ.out;clear HJ;subst HA9;simp only [Act.put,lA,lB,lC] at HJ2;replace HJ2:=lh_ HJ2
   by_cases h9:r=0
   ·have hn0:nn9=0:=by rw [HLN.out];exact qe8.2 h9
    have hz7:((nn9:Int) == 0)=true:=by rw [hn0];rfl
    have hz8:(nn9 == 0)=true:=by rw [hn0];rfl
    clear hn0
    have hk7:¬ (k:Int)≤100:=by have e9:=HA.out;omega
    clear h9
    go_wp2
    exact HJ2.out _ _ _ _ _ _
   have hn0:¬ nn9=0:=fun e=>h9 (qe8.1 (HLN.out.symm.trans e))
   have hz7:((nn9:Int) == 0)=false:=by rw [beq_eq_false_iff_ne];omega
   have hz8:¬ (nn9:Int)=0:=by omega
   clear h9
   go_wp2
   exact HJ2.out _ _ _ _ _ _
  refine lh_ ?_
  intro x26 x27 x28 x29 x30 x31
  subst HA9;simp only [Act.put,lA,lB,lC]
  refine kO O ?_;clear O K
  refine wp_cond_false (by rfl) ?_
  refine wp_skip ?_
  show Code.wp _ _ _ _ _
  refine kS fun K O=>?_
  go_wp2_with fail
  refine (qQ3 _ r s wr HS.out (I.out.rn 1 rfl) om).mono ?_
  rintro e wa ⟨rfl,hb1⟩
  have HF1:=lh_ (I.out.gr hb1)
  have HO1:=lh_ (xc6 HO.out hb1)
  clear hb1 I HO
  have I:=HF1
  have HO:=HO1
  clear HF1 HO1
  go_wp2_with fail
  refine kO O ?_;clear O K
  refine wp_seq ?_
  refine kS fun K O=>?_
  go_wp2
  refine kO O ?_;clear O K
  refine wp_block ?_
  go_loopg [11] k (fun k2 iv wr2=>∃ i:Nat,iv=.int .i64 ((i:Nat):Int)∧i+k2=k∧Hid (k≤100→∀ i',i'<i→¬ rmd a.num.natAbs d i'=r)∧wa=wr2)
  case atStart=>exact ⟨0,rfl,by omega,lh_ (fun _ i' h=>absurd h (Nat.not_lt_zero _)),rfl⟩
  case round =>
   rename_i Jb_ Kb_ hb1_ hb0_
   obtain ⟨i,rfl,hik,HNE,rfl⟩:=hrel
   rcases gk with _|k2
   ·obtain rfl:k=i:=by omega
    have HN2:Hid (nst a.num.natAbs d (k+1)):=lh_ (xm9 HN.out fun h9=>⟨fun e=>HA.out ⟨HR.out.symm.trans e,h9⟩,fun i' hi'=>by rw [HR.out];exact HNE.out h9 i' hi'⟩)
    obtain ⟨i0,hi,hz0,hz1,hz2⟩:=info_parts qN6
    refine wp_seq ?_
    refine kS fun K O=>?_
    go_wp2
    refine kO O ?_;clear O K
    refine wp_cond_false (by rfl) ?_
    refine wp_exit ?_
    show Code.wp _ _ _ _ _
    refine kS fun K O=>?_
    have HN5:=lh_ (show ∀ j u,[Value.string s][j]?=some u→(wa.alloc (.cells #[.string s] 9)).cell? ((⟨wa.heap.size,0,none⟩:Addr).add j)=some u from fun j u hj=>by
     match j,hj with
     | 0,hj=>simp at hj;subst hj;simp [Addr.add,go_sem])
    have HF2:=lh_ (I.out.gr (Gr.alloc _ (.cells #[.string s] 9)))
    have HO2:=lh_ (xc6 HO.out (Gr.alloc _ (.cells #[.string s] 9)))
    have HAP:=lh_ (xi2 (v1:=(.slice ao1 nn1 cc1)) (v2:=.slice ao9 nn9 cc9) (v:=.slice aoS k cS) (n1:=d) (n2:=r))
    clear I HO
    go_wp2_with (first|(at_builtin;refine apZ HF2 HO2 HAP (.tmp 56) (.tmp 58) 125 hi hz0 hz1 hz2 rfl Tryz.underlying125 (by decide) (m:=1) (c:=1) (ad:=⟨wa.heap.size,0,none⟩) (news:=[.string s]) (by unfold maxLen;omega) om (by simp [Act.eval,Act.put]) (by simp [Act.eval,Act.put]) HN5 rfl ?c1 (by decide) rfl rfl ?_)|fail)
    case c1=>intro u hu;simp at hu;rcases hu with rfl;rfl
    intro sv2 wb I HO HAP2
    clear HF2 HO2 HN5 HAP HAP2
    go_wp2_with fail
    refine kO O ?_;clear O K
    have HZ4:Hid (r*(10)=m10):=lh_ (HM10.out)
    have su4:tw m10≤901:=by have e:=HZ4.out;first|omega|(rw [← e];have:=qk5 r (10);omega)
    have HZ5:Hid (m10 / d=qt):=lh_ (HQT.out)
    have su5:tw qt≤901:=by have e:=HZ5.out;first|omega|(rw [← e];have:=qm6 m10 d;omega)
    have HZ6:Hid (m10 % d=r2):=lh_ (by rw [← HR2.out,xo3,HR.out,HM10.out])
    have su6:tw r2≤901:=by have e:=HZ6.out;first|omega|(rw [← e];have:=qn6 m10 d;omega)
    refine kL fun K O=>?_
    have HG0:Hid (Gr wb wb):=lh_ (Gr.refl _)
    refine xB8 fun T Y=>?_
    refine tk ?_
    refine ce1 Tryz.call179 HG0 (fun w' hw=>qm3 10 _ (by decide)) ?_;clear HG0;intro vv28 HG0 _ ao4 nn4 cc4 RN28
    refine ce1 Tryz.call178 HG0 (fun w' hw=>xr5 _ _ r (10) m10 _ HZ4.out (I.out.r 1 rfl (HG0.out.trans hw)) (RN28.out.gr hw) om om) ?_;clear HG0;intro vv29 HG0 HGS ao5 nn5 cc5 RN29
    replace RN28:=lh_ (RN28.out.gr HGS.out)
    clear HGS
    refine tk ?_
    refine ce2 Tryz.call176 HG0 (fun w' hw=>qy6 _ _ m10 d qt r2 _ HZ5.out HZ6.out (RN29.out.gr hw) (I.out.r 0 rfl (HG0.out.trans hw)) (by exact HDP.out) om om) ?_;clear HG0;intro vv30 HG0 HGS ao6 nn6 cc6 ao7 nn7 cc7 RN30 RN31
    replace RN28:=lh_ (RN28.out.gr HGS.out)
    replace RN29:=lh_ (RN29.out.gr HGS.out)
    clear HGS
    iterate 4 refine tk ?_
    refine qa0 (Y.out _ _ ?_)
    intro vw3 hg
    replace HO:=lh_ (xc6 HO.out (HG0.out.trans hg))
    simp only [puts,Act.put,lA,lB,lC,lD,lE,↓reduceIte,Nat.reduceEqDiff]
    have J:=lh_ (((((I.out.gr (HG0.out.trans hg)).ar (RN28.out.gr hg)).ar (RN29.out.gr hg)).ar (RN30.out.gr hg)).ar (RN31.out.gr hg))
    simp only [zq1_,zq2_,zq3_,zq4_,lF,lG] at J
    clear Y T I hg HG0 RN28 RN29 RN30 RN31
    go_wp2
    refine kO O ?_;clear O K
    have I:=J;clear J
    refine kL fun K O=>?_
    go_wp2
    refine O.out _ _ ?_;clear O K
    try simp only [Exit.then,Exit.inBlock]
    refine hj0_ _ _ ?_
    go_roundg kk
    case measure=>omega
    case rel=>exact ⟨k+1,r2,by go_num,by omega,HR2,HN2,lh_ (((((I.out).er 4).er 3).er 2).er 1),lh_ (by rw [scs,HR.out,HS.out];exact HO.out)⟩
   obtain ⟨b9,o9,c9,hv,hb,hc⟩:=xy1 HO.out om
   injection hv with hv1 _ hv3
   subst hv1 hv3
   obtain ⟨t,HTX⟩:=ex_ (dtt (rmd a.num.natAbs d i))
   have hcell:wa.cell? ⟨b9,o9+i,none⟩=some (.string t):=by rw [← HTX.out];exact hc i om
   have HE0:Hid (∀ w',Gr wa w'→w'.cell? ⟨b9,o9+i,none⟩=some (.string t)):=lh_ (fun w' hw=>(Below.cell hw (p:=⟨b9,o9+i,none⟩) hb).trans hcell)
   clear hc hb
   have hil:(i:Int)<(k:Int):=by omega
   have hiln:i<k:=by omega
   have hwi:IntKind.i64.wrap ((i:Int)+1)=(i:Int)+1:=by rw [IntKind.wrap_i64];omega
   by_cases hE:t=s∧k≤100
   ·have h0:¬ rmd a.num.natAbs d k=0:=fun e=>HA.out ⟨HR.out.symm.trans e,hE.2⟩
    have h1:rmd a.num.natAbs d i=rmd a.num.natAbs d k:=by rw [HR.out];exact xv_ (HTX.out.trans (hE.1.trans HS.out.symm))
    obtain ⟨rfl,rfl,rfl⟩:=qI0 (xj0 HDP.out HCO.out HN.out hE.2 hiln h0 h1) HC.out
    have hk7:(k:Int)≤100:=by omega
    have hws:IntKind.i64.wrap ((k:Int) - (i:Int))=(k:Int) - (i:Int):=by rw [IntKind.wrap_i64];omega
    have hts:=hE.1.symm
    clear hE h0 h1 hcell
    subst hts
    refine wp_seq ?_
    refine kS fun K O=>?_
    go_wp2
    refine kO O ?_;clear O K
    refine wp_cond_true (by rfl) ?_
    refine wp_skip ?_
    show Code.wp _ _ _ _ _
    refine wp_seq ?_
    refine wp_block ?_
    have lx90_0:=HE0.out
    refine qy5 fun K O T Y=>?_
    iterate 10 refine tk ?_
    refine nz Y I O ?_;clear Y T I lx90_0 O K;intro vw3 I
    refine wp_cond_true (by rfl) ?_
    refine ks7_ fun K O T Y=>?_
    iterate 7 refine tk ?_
    refine nz Y I O ?_;clear Y T I O K;intro vw4 I
    refine wp_ret ?_
    try simp only [Exit.then,Exit.inBlock]
    exact bR ⟨rfl,I.out.1⟩ (by simp [results,Tryz.results68,go_sem])
   have HNE2:Hid (k≤100→∀ i',i'<i+1→¬ rmd a.num.natAbs d i'=r):=lh_ (fun h i' hi'=>by
    rcases Nat.lt_succ_iff_lt_or_eq.1 hi' with h1|rfl
    ·exact HNE.out h i' h1
    intro e
    exact hE ⟨by rw [← HTX.out,e,HS.out],h⟩)
   have HE:=lh_ hE
   clear hE
   refine wp_seq ?_
   refine kS fun K O=>?_
   go_wp2
   refine kO O ?_;clear O K
   refine wp_cond_true (by rfl) ?_
   refine wp_skip ?_
   show Code.wp _ _ _ _ _
   refine wp_seq ?_
   refine wp_block ?_
   refine kS fun K O=>?_
   refine xG_ fun A9 HA9=>?_
   suffices HJ:Hid (∀ (x42 x43 x44 x45 x46 x47 x48 x49 x50:Value),K ((((((((((A9.put (some 42) x42).put (some 43) x43).put (some 44) x44).put (some 45) x45).put (some 46) x46).put (some 47) x47).put (some 48) x48).put (some 49) x49).put (some 50) x50).put (some 51) (.bool false)) wa) by
    have HJ2:=HJ.out;clear HJ;subst HA9;simp only [Act.put,lA,lB,lC] at HJ2;replace HJ2:=lh_ HJ2
    by_cases h9:s=t
    ·have hk7:¬ (k:Int)≤100:=by have e9:=HE.out;intro h;exact e9 ⟨h9.symm,by omega⟩
     subst h9
     go_wp2
     exact HJ2.out _ _ _ _ _ _ _ _ _
    have hts2:¬ t.toList=s.toList:=xO2 (fun e=>h9 e.symm)
    clear h9
    go_wp2
    exact HJ2.out _ _ _ _ _ _ _ _ _
   refine lh_ ?_
   intro x42 x43 x44 x45 x46 x47 x48 x49 x50
   subst HA9;simp only [Act.put,lA,lB,lC]
   refine kO O ?_;clear O K
   refine wp_cond_false (by rfl) ?_
   refine wp_skip ?_
   show Code.wp _ _ _ _ _
   refine kL fun K O=>?_
   go_wp2
   refine O.out _ _ ?_;clear O K
   try simp only [Exit.then,Exit.inBlock]
   refine hb0_ _ _ ?_
   go_roundg k2
   case measure=>omega
   case rel=>exact ⟨i+1,by go_num,by omega,HNE2,rfl⟩
theorem xn9 (a:Rat) (c1 c2 c3:Int) (va1 va2:Value) (w:World) (h:cyc a.den=(c1,c2,c3)) (hs:rz a≤900) (bx21:Rn w va1 a.num.natAbs) (bx22:Rn w va2 (a.den - 1)) :
  CB 68 #[.agg #[.bool (decide (a.num<0)),va1,va2]] w (.tuple #[.int .i64 c1,.int .i64 c2,.int .i64 c3]) :=
 xz0 a _ _ c1 c2 c3 va1 va2 w (lh_ rfl) (lh_ a.den_pos) (lh_ a.reduced) (lh_ rfl) (lh_ h) hs (Nat.le_trans (qd1 a) hs) bx21 bx22
end Go.Proofs.YtobojnodohjiaaaGreatDoor
