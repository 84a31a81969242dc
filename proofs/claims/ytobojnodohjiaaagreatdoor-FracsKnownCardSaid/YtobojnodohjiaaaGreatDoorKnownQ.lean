
/- FracsKnown: the law's walk (closed). No condition. -/
import Derived.Test.YtobojnodohjiaaaGreatDoorSmQ
import Derived.Test.YtobojnodohjiaaaGreatDoorQs
import Derived.Test.YtobojnodohjiaaaGreatDoorListQ
import Derived.Test.YtobojnodohjiaaaGreatDoorPowQ
set_option maxRecDepth 100000
set_option maxHeartbeats 16000000
set_option linter.unusedVariables false
set_option linter.unusedSimpArgs false
namespace Go.Proofs.YtobojnodohjiaaaGreatDoor
open Go.RowKit
attribute [local go_sem ↓] Go.wp_at_zero Go.wp_at_succ
attribute [local go_sem ↓] eq_nat eq_nat_zero eq_int
attribute [local go_sem] Instr.field asAgg
theorem wa_one {w:World} {b T:Nat} {x:Int} (hx:0≤x) (h:Bx w b T #[.int .u32 x]):Wa w (.slice (some ⟨b,0,none⟩) 1 1) 1 fun _=>x.toNat :=
 .inr ⟨b,0,1,rfl,h.lt,fun i hi=>by
  obtain rfl:i=0:=by omega
  have:=h.cells w (Gr.refl _) 0
  rw [show ((x.toNat:Nat):Int)=x from by omega]
  exact this⟩
theorem fw_one {x:Int} (hx:0≤x) (hy:x<4294967296):∀ i,i<1→(fun _:Nat=>x.toNat) i<4294967296:=fun i hi=>by show x.toNat<4294967296;omega
theorem callsH {P:Program} {f:FuncId} {ar:Array Value} {Q:Ending→World→Prop} {w0 W:World} {L:List Fk} (h:HP w0 W L) (k:∀ W',Hid (HP w0 W' L)→Calls P f ar W' Q):Calls P f ar W Q:=k W (lh_ h)
def qn9 (l:List Int) (i:Nat):Int:=l.getD i 0
theorem qs_r9 {w:World} {b T:Nat} {n0 n1 n2 d0 d1 d2:Int} (h:Bx w b T #[.int .i64 n0,.int .u32 d0,.int .i64 n1,.int .u32 d1,.int .i64 n2,.int .u32 d2]):Qs w (.slice (some ⟨b,0,none⟩) 3 3) 3 (qn9 [n0,n1,n2]) (qn9 [d0,d1,d2]) :=
 .inr ⟨b,0,3,rfl,h.lt,fun i hi=>by
  rcases (by omega:i=0∨i=1∨i=2) with rfl|rfl|rfl
  ·exact ⟨h.cells w (Gr.refl _) 0,h.cells w (Gr.refl _) 1⟩
  ·exact ⟨h.cells w (Gr.refl _) 2,h.cells w (Gr.refl _) 3⟩
  exact ⟨h.cells w (Gr.refl _) 4,h.cells w (Gr.refl _) 5⟩⟩
theorem qb_r9 {n0 n1 n2 d0 d1 d2:Int} (h0:-9223372036854775808≤n0∧n0≤9223372036854775807∧0≤d0∧d0≤4294967295) (h1:-9223372036854775808≤n1∧n1≤9223372036854775807∧0≤d1∧d1≤4294967295) (h2:-9223372036854775808≤n2∧n2≤9223372036854775807∧0≤d2∧d2≤4294967295):Qb 3 (qn9 [n0,n1,n2]) (qn9 [d0,d1,d2]):=fun i hi=>by
 rcases (by omega:i=0∨i=1∨i=2) with rfl|rfl|rfl
 ·exact h0
 ·exact h1
 exact h2
theorem qs_nil9 {w:World}:Qs w (.slice none 0 0) 0 (qn9 []) (qn9 []):=.inl ⟨none,0,rfl,rfl⟩
theorem qv_small:∀ i:Fin 11,∀ j:Fin 5,(qv ((i.val:Int) - 5) (j.val:Int)).num.natAbs<2 ^ 64∧(qv ((i.val:Int) - 5) (j.val:Int)).den<2 ^ 64:=by decide +kernel
theorem qv_nb {n d:Int} (h1:-5≤n) (h2:n≤5) (h3:0≤d) (h4:d≤4):nb (qv n d).num.natAbs≤64∧nb (qv n d).den≤64:=by
 have h:=qv_small ⟨(n+5).toNat,by omega⟩ ⟨d.toNat,by omega⟩
 simp only at h
 rw [show (((n+5).toNat:Nat):Int) - 5=n by omega,show ((d.toNat:Nat):Int)=d by omega] at h
 exact ⟨nb_le.2 h.1,nb_le.2 h.2⟩
theorem knownq_law (w:World) (HT:Hid (Tab w)):CB 12 #[] w (.bool true):=by
 go_enter Tryz.func12,Tryz.ntmps12
 go_wp2_with fail
 go_loopw [1] (fun n wr=>∃ n':Int,-5≤n'∧n'≤6∧n=.int .i64 n'∧Hid (Gr w wr)) (fun n _=>(6 - intOf n).toNat)
 case atStart=>exact ⟨-5,by omega,by omega,rfl,lh_ (Gr.refl _)⟩
 case round =>
  obtain ⟨n,nl,nh,rfl,HGn⟩:=hrel
  by_cases hn:n<6
  ·go_wp2_with fail
   obtain ⟨wo,rfl⟩:∃ wo:World,wo=wr:=⟨_,rfl⟩
   go_loopw [2] (fun d wr=>∃ d':Int,0≤d'∧d'≤5∧d=.int .u32 d'∧Hid (Gr w wr)) (fun d _=>(5 - intOf d).toNat)
   case atStart=>exact ⟨0,by omega,by omega,rfl,HGn⟩
   case round =>
    obtain ⟨d,dl,dh,rfl,HGd⟩:=hrel
    clear HGn
    by_cases hd:d<5
    ·obtain ⟨p,HPX⟩:∃ p,Hid (max n (-n)=p):=⟨_,lh_ rfl⟩
     have hmx:max n (-n)=p:=HPX.out
     have p0:0≤p:=by omega
     have p1:p<4294967296:=by omega
     have wp:IntKind.u32.wrap p=p:=by rw [IntKind.wrap_u32];omega
     have wn:IntKind.i64.wrap (-n) = -n:=by rw [IntKind.wrap_i64];omega
     have w1:IntKind.i64.wrap d=d:=by rw [IntKind.wrap_i64];omega
     have w2:IntKind.i64.wrap (d - 2)=d - 2:=by rw [IntKind.wrap_i64];omega
     have w3:IntKind.u32.wrap (d+1)=d+1:=by rw [IntKind.wrap_u32];omega
     go_wp2_with fail
     refine callsH (((((((hp0 wr).al (b:=wr.heap.size) rfl (by decide)).al (b:=wr.heap.size+1) (by simp) (by decide)).al (b:=wr.heap.size+1+1) (by simp) (by decide)).al (b:=wr.heap.size+1+1+1) (by simp) (by decide)).al (b:=wr.heap.size+1+1+1+1) (by simp) (by decide)).al (b:=wr.heap.size+1+1+1+1+1) (by simp) (by decide)) fun U I=>?_
     generalize wr.heap.size+1+1+1+1+1=g6 at *
     generalize wr.heap.size+1+1+1+1=g5 at *
     generalize wr.heap.size+1+1+1=g4 at *
     generalize wr.heap.size+1+1=g3 at *
     generalize wr.heap.size+1=g2 at *
     generalize wr.heap.size=g1 at *
     have YP:=lh_ (fw_one p0 p1)
     have YD:=lh_ (fw_one dl (show d<4294967296 by omega))
     have XA:=lh_ (wa_one p0 (I.out.bx 0 rfl))
     have XB:=lh_ (wa_one dl (I.out.bx 1 rfl))
     have ZA:=lh_ (wa_one dl (I.out.bx 3 rfl))
     have ZB:=lh_ (wa_one p0 (I.out.bx 4 rfl))
     have lx:=kc2_ I
     have ly:=kc5_ I
     have J:=lh_ (Gr.trans HGd.out I.out.1)
     have HTW:=lh_ (HT.out.gr J.out)
     have hnb:=lh_ (qv_nb (n:=n) (d:=d) nl om dl om)
     clear I hmx HPX wp
     refine (sumq_sm (decide (n<0)) _ 1 _ _ 1 _ (decide (2<n)) _ 1 _ _ 1 _ _ XA YP XB YD ZA YD ZB YP (Nat.le_refl 1) (Nat.le_refl 1) (Nat.le_refl 1) (Nat.le_refl 1) HTW).mono ?_
     rintro e V1 ⟨rfl,hb1⟩
     have H1:=lh_ (Gr.trans (Gr.refl _) hb1)
     have r1:=H1.out
     clear hb1
     go_wp2_with fail
     clear r1
     refine (fieldq_sm (decide (n<0)) _ 1 _ _ 1 _ (decide (2<n)) _ 1 _ _ 1 _ (decide (n<0)) _ 1 _ _ 1 _ _ (lh_ (XA.out.gr H1.out)) YP (lh_ (XB.out.gr H1.out)) YD (lh_ (ZA.out.gr H1.out)) YD (lh_ (ZB.out.gr H1.out)) YP (lh_ (XA.out.gr H1.out)) YP (lh_ (XB.out.gr H1.out)) YD (Nat.le_refl 1) (Nat.le_refl 1) (Nat.le_refl 1) (Nat.le_refl 1) (Nat.le_refl 1) (Nat.le_refl 1) (lh_ (HTW.out.gr H1.out))).mono ?_
     rintro e V2 ⟨rfl,hb2⟩
     have H2:=lh_ (H1.out.trans hb2)
     have r2:=H2.out
     clear hb2
     go_wp2_with fail
     clear r2
     refine (lowq_sm (decide (n<0)) _ 1 _ _ 1 _ n _ (lh_ (XA.out.gr H2.out)) YP (lh_ (XB.out.gr H2.out)) YD om om (Nat.le_refl 1) (Nat.le_refl 1) (lh_ (HTW.out.gr H2.out))).mono ?_
     rintro e V3 ⟨rfl,hb3⟩
     have H3:=lh_ (H2.out.trans hb3)
     have r3:=H3.out
     clear hb3
     go_wp2_with fail
     clear r3
     refine (smallq_law n (d - 2) _ om om om om (lh_ (HTW.out.gr H3.out))).mono ?_
     rintro e V4 ⟨rfl,hb4⟩
     have H4:=lh_ (H3.out.trans hb4)
     have r4:=H4.out
     clear hb4
     go_wp2_with fail
     clear r4
     refine (floorq_sm (decide (n<0)) _ 1 _ _ 1 _ _ (lh_ (XA.out.gr H4.out)) YP (lh_ (XB.out.gr H4.out)) YD (Nat.le_refl 1) (Nat.le_refl 1) (lh_ (HTW.out.gr H4.out))).mono ?_
     rintro e V5 ⟨rfl,hb5⟩
     have H5:=lh_ (H4.out.trans hb5)
     have r5:=H5.out
     clear hb5
     go_wp2_with fail
     clear r5
     refine (textq_sm (decide (n<0)) _ 1 _ _ 1 _ _ (lh_ (XA.out.gr H5.out)) YP (lh_ (XB.out.gr H5.out)) YD (Nat.le_refl 1) (Nat.le_refl 1) (lh_ (HTW.out.gr H5.out))).mono ?_
     rintro e V6 ⟨rfl,hb6⟩
     have H6:=lh_ (H5.out.trans hb6)
     have r6:=H6.out
     clear hb6
     go_wp2_with fail
     clear r6
     refine (powq_law n d n (d - 2) _ om om om om hnb.out.1 hnb.out.2 om om (.inl om) (fun _=>by omega) (fun _=>by omega) (lh_ (HTW.out.gr H6.out))).mono ?_
     rintro e V7 ⟨rfl,hb7⟩
     have H7:=lh_ (H6.out.trans hb7)
     have r7:=H7.out
     clear hb7
     go_wp2_with fail
     clear r7
     refine callsH ((hp0 V7).al (b:=V7.heap.size) rfl (by decide)) fun U8 I=>?_
     generalize V7.heap.size=g8 at *
     have HQ:=lh_ (qs_r9 (I.out.bx 0 rfl))
     have G8:=lh_ (H7.out.trans I.out.1)
     clear I
     refine (listq_law _ 3 _ _ n _ HQ (lh_ (qb_r9 om om om)) om om (lh_ (HTW.out.gr G8.out))).mono ?_
     rintro e V8 ⟨rfl,hb8⟩
     have HGF:=lh_ (Gr.trans J.out (G8.out.trans hb8))
     clear hb8 HQ G8 H1 H2 H3 H4 H5 H6 H7 lx ly XA XB ZA ZB
     go_wp2_with fail
     go_roundw
     case rel=>exact ⟨d+1,by omega,by omega,rfl,HGF⟩
     case measure=>simp [intOf];omega
    have wi:IntKind.i64.wrap (n+1)=n+1:=by rw [IntKind.wrap_i64];omega
    go_wp2_with fail
    go_roundw
    case rel=>exact ⟨n+1,by omega,by omega,rfl,HGd⟩
    case measure=>simp [intOf];omega
  go_wp2_with fail
  obtain ⟨wo,rfl⟩:∃ wo:World,wo=wr:=⟨_,rfl⟩
  refine fH ((hp0 wo).al (b:=wo.heap.size) rfl (by decide)) fun W3 I=>?_
  have HG3:=lh_ (Gr.trans HGn.out I.out.1)
  generalize wo.heap.size=B at *
  have HV:Hid (∀ j:Nat,j<5→∃ v:Int,-9223372036854775808≤v∧v≤9223372036854775807∧∀ w',Gr W3 w'→w'.cell? ⟨B,j,none⟩=some (.int .i64 v)):=lh_ (fun j hj=>by
   have hx:=kc0_ I
   rcases (by omega:j=0∨j=1∨j=2∨j=3∨j=4) with rfl|rfl|rfl|rfl|rfl
   all_goals exact ⟨_,by decide,by decide,fun w' hw=>hx w' hw _⟩)
  have HT3:=lh_ (HT.out.gr HG3.out)
  clear I
  go_loopw [105] (fun i wr=>∃ i':Nat,i'≤5∧i=.int .i64 ((i':Nat):Int)∧Hid (Gr W3 wr)) (fun i _=>5 - (intOf i).toNat)
  case atStart=>exact ⟨0,by omega,rfl,lh_ (Gr.refl _)⟩
  case round =>
   obtain ⟨i,hi,rfl,HGi⟩:=hrel
   by_cases hin:i<5
   ·obtain ⟨x,xl,xh,hx⟩:=HV.out i hin
    have cx:=hx wr HGi.out
    have hin':(i:Int)<5:=by omega
    clear hx
    go_wp2_with fail
    clear cx
    obtain ⟨wp,rfl⟩:∃ wo:World,wo=wr:=⟨_,rfl⟩
    refine fH ((hp0 wp).al (b:=wp.heap.size) rfl (by decide)) fun W4 I=>?_
    have HG4:=lh_ (Gr.trans HGi.out I.out.1)
    generalize wp.heap.size=B4 at *
    have HV4:Hid (∀ j:Nat,j<6→∃ v:Int,-9223372036854775808≤v∧v≤9223372036854775807∧∀ w',Gr W4 w'→w'.cell? ⟨B4,j,none⟩=some (.int .i64 v)):=lh_ (fun j hj=>by
     have hx:=kc0_ I
     rcases (by omega:j=0∨j=1∨j=2∨j=3∨j=4∨j=5) with rfl|rfl|rfl|rfl|rfl|rfl
     all_goals exact ⟨_,by decide,by decide,fun w' hw=>hx w' hw _⟩)
    clear I
    go_loopw [111] (fun k wr=>∃ k':Nat,k'≤6∧k=.int .i64 ((k':Nat):Int)∧Hid (Gr W4 wr)) (fun k _=>6 - (intOf k).toNat)
    case atStart=>exact ⟨0,by omega,rfl,lh_ (Gr.refl _)⟩
    case round =>
     obtain ⟨k,hk,rfl,HGk⟩:=hrel
     by_cases hkn:k<6
     ·obtain ⟨y,yl,yh,hy⟩:=HV4.out k hkn
      have cy:=hy wr HGk.out
      have hkn':(k:Int)<6:=by omega
      clear hy
      go_wp2_with fail
      refine (smallq_law x y _ xl xh yl yh (lh_ (HT3.out.gr (HG4.out.trans HGk.out)))).mono ?_
      rintro e V1 ⟨rfl,hb1⟩
      have HGk1:=lh_ (Gr.trans HGk.out hb1)
      clear hb1 cy
      go_wp2_with fail
      go_roundw
      case rel=>exact ⟨k+1,by omega,by go_num,HGk1⟩
      case measure=>simp [intOf];omega
     have hkn':¬ ((k:Int)<6):=by omega
     have HGi1:=lh_ (Gr.trans HG4.out HGk.out)
     go_wp2_with fail
     go_roundw
     case rel=>exact ⟨i+1,by omega,by go_num,HGi1⟩
     case measure=>simp [intOf];omega
   have hin':¬ ((i:Int)<5):=by omega
   go_wp2_with fail
   obtain ⟨wp,rfl⟩:∃ wo:World,wo=wr:=⟨_,rfl⟩
   refine fH ((hp0 wp).al (b:=wp.heap.size) rfl (by decide)) fun W5 I=>?_
   have HG5:=lh_ (Gr.trans HG3.out (Gr.trans HGi.out I.out.1))
   generalize wp.heap.size=B5 at *
   have HS:Hid (∀ j:Nat,j<20→∃ S:ByteArray,S.size≤100∧∀ w',Gr W5 w'→w'.cell? ⟨B5,j,none⟩=some (.string S)):=lh_ (fun j hj=>by
    have hx:=kc0_ I
    rcases (by omega:j=0∨j=1∨j=2∨j=3∨j=4∨j=5∨j=6∨j=7∨j=8∨j=9∨j=10∨j=11∨j=12∨j=13∨j=14∨j=15∨j=16∨j=17∨j=18∨j=19) with rfl|rfl|rfl|rfl|rfl|rfl|rfl|rfl|rfl|rfl|rfl|rfl|rfl|rfl|rfl|rfl|rfl|rfl|rfl|rfl
    all_goals exact ⟨_,by decide,fun w' hw=>hx w' hw _⟩)
   have HT5:=lh_ (HT.out.gr HG5.out)
   clear I
   go_loopw [123] (fun j wr=>∃ j':Nat,j'≤20∧j=.int .i64 ((j':Nat):Int)∧Hid (Gr W5 wr)) (fun j _=>20 - (intOf j).toNat)
   case atStart=>exact ⟨0,by omega,rfl,lh_ (Gr.refl _)⟩
   case round =>
    obtain ⟨j,hj,rfl,HGj⟩:=hrel
    by_cases hjn:j<20
    ·obtain ⟨S,hS,hc⟩:=HS.out j hjn
     have hcj:=hc wr HGj.out
     have hjn':(j:Int)<20:=by omega
     clear hc
     go_wp2_with fail
     refine (readq_sm S _ om om (lh_ (HT5.out.gr HGj.out))).mono ?_
     rintro e V1 ⟨rfl,hb⟩
     have HGj1:=lh_ (Gr.trans HGj.out hb)
     clear hb hcj
     go_wp2_with fail
     go_roundw
     case rel=>exact ⟨j+1,by omega,by go_num,HGj1⟩
     case measure=>simp [intOf];omega
    have hjn':¬ ((j:Int)<20):=by omega
    have HTW:=lh_ (HT5.out.gr HGj.out)
    go_wp2_with fail
    refine (powq_law 2 3 (4096) 0 _ om om om om (nb_le.2 (by decide +kernel)) (nb_le.2 (by decide +kernel)) om om (.inl om) (fun e=>absurd e (by decide +kernel)) (fun e=>by omega) HTW).mono ?_
    rintro e V1 ⟨rfl,hb1⟩
    have H1:=lh_ (Gr.trans (Gr.refl _) hb1)
    have r1:=H1.out
    clear hb1
    go_wp2_with fail
    clear r1
    refine (powq_law 1 1 (4097) 0 _ om om om om (nb_le.2 (by decide +kernel)) (nb_le.2 (by decide +kernel)) om om (.inl om) (fun e=>absurd e (by decide +kernel)) (fun e=>by omega) (lh_ (HTW.out.gr H1.out))).mono ?_
    rintro e V2 ⟨rfl,hb2⟩
    have H2:=lh_ (H1.out.trans hb2)
    have r2:=H2.out
    clear hb2
    go_wp2_with fail
    clear r2
    refine (powq_law 1 1 (-4097) 0 _ om om om om (nb_le.2 (by decide +kernel)) (nb_le.2 (by decide +kernel)) om om (.inr (.inl om)) (fun _=>.inl om) (fun e=>absurd e (by decide +kernel)) (lh_ (HTW.out.gr H2.out))).mono ?_
    rintro e V3 ⟨rfl,hb3⟩
    have H3:=lh_ (H2.out.trans hb3)
    have r3:=H3.out
    clear hb3
    go_wp2_with fail
    clear r3
    refine (powq_law 0 0 (-5) 0 _ om om om om (nb_le.2 (by decide +kernel)) (nb_le.2 (by decide +kernel)) om om (.inl om) (fun _=>.inl om) (fun e=>by omega) (lh_ (HTW.out.gr H3.out))).mono ?_
    rintro e V4 ⟨rfl,hb4⟩
    have H4:=lh_ (H3.out.trans hb4)
    have r4:=H4.out
    clear hb4
    go_wp2_with fail
    clear r4
    refine (listq_law _ 0 (qn9 []) (qn9 []) 3 _ (lh_ qs_nil9) (lh_ (fun i hi=>absurd hi (Nat.not_lt_zero _))) om om (lh_ (HTW.out.gr H4.out))).mono ?_
    rintro e V5 ⟨rfl,hb5⟩
    have H5:=lh_ (H4.out.trans hb5)
    have r5:=H5.out
    clear hb5
    go_wp2_with fail
    clear r5
    refine (worksq_any _ (lh_ (HTW.out.gr H5.out))).mono ?_
    rintro e V9 ⟨rfl,hb⟩
    have HGf:=lh_ (Gr.trans HG5.out (Gr.trans HGj.out (H5.out.trans hb)))
    clear hb
    go_wp2_with fail
    exact bR ⟨rfl,HGf.out⟩ (by simp [results,Tryz.results12,go_sem])
end Go.Proofs.YtobojnodohjiaaaGreatDoor
