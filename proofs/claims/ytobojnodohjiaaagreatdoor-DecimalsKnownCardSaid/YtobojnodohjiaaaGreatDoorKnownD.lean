
/- DecimalsKnown: the law's walk (closed). No condition. -/
import Derived.Test.YtobojnodohjiaaaGreatDoorTxD
import Derived.Test.YtobojnodohjiaaaGreatDoorRdsD
import Derived.Test.YtobojnodohjiaaaGreatDoorCycD
import Derived.Test.YtobojnodohjiaaaGreatDoorBtwDJ
import Derived.Test.YtobojnodohjiaaaGreatDoorBackD
import Derived.Test.YtobojnodohjiaaaGreatDoorTurnDJ
import Derived.Test.YtobojnodohjiaaaGreatDoorRoundD
set_option maxRecDepth 100000
set_option maxHeartbeats 16000000
set_option linter.unusedVariables false
set_option linter.unusedSimpArgs false
namespace Go.Proofs.YtobojnodohjiaaaGreatDoor
open Go.RowKit
attribute [local go_sem ↓] Go.wp_at_zero Go.wp_at_succ
attribute [local go_sem ↓] eq_nat eq_nat_zero eq_int
attribute [local go_sem] Instr.field asAgg
theorem wa_one {w:World} {b T:Nat} {x:Int} (hx:0≤x) (h:Bx w b T #[.int .u32 x]):Wa w (.slice (some ⟨b,0,none⟩) 1 1) 1 fun _=>x.toNat :=
 .inr ⟨b,0,1,rfl,h.lt,fun i hi=>by
  obtain rfl:i=0:=by omega
  have:=h.cells w (Gr.refl _) 0
  rw [show ((x.toNat:Nat):Int)=x from by omega]
  exact this⟩
theorem fw_one {x:Int} (hx:0≤x) (hy:x<4294967296):∀ i,i<1→(fun _:Nat=>x.toNat) i<4294967296:=fun i hi=>by show x.toNat<4294967296;omega
theorem wa_nil0 {w:World}:Wa w (.slice none 0 0) 0 (fun _=>0):=.inl ⟨none,0,rfl,rfl⟩
theorem fw_nil0:∀ i,i<0→(fun _:Nat=>0) i<4294967296:=fun i hi=>absurd hi (Nat.not_lt_zero _)
theorem i16_smd {n:Int} (h1:-32768≤n) (h2:n≤32767):IntKind.i16.wrap n=n:=by
 simp [IntKind.wrap,IntKind.bits,IntKind.signed];omega
theorem callsH {P:Program} {f:FuncId} {ar:Array Value} {Q:Ending→World→Prop} {w0 W:World} {L:List Fk} (h:HP w0 W L) (k:∀ W',Hid (HP w0 W' L)→Calls P f ar W' Q):Calls P f ar W Q:=k W (lh_ h)
theorem way_any (n:Int) (w:World) (h1:-12≤n) (h2:n≤12):CB 74 #[.int .i64 n] w (.int .i64 ((n+12)*4)):=by
 have w1:IntKind.i64.wrap (n+12)=n+12:=by rw [IntKind.wrap_i64];omega
 have w2:IntKind.i64.wrap ((n+12)*4)=(n+12)*4:=by rw [IntKind.wrap_i64];omega
 go_enter Tryz.func74,Tryz.ntmps74
 go_wp2_with fail
 exact bR ⟨rfl,Below.refl _ _⟩ (by simp [results,Tryz.results74,go_sem])
theorem knownd_law (w:World) (HT:Hid (Tab w)):CB 15 #[] w (.bool true):=by
 go_enter Tryz.func15,Tryz.ntmps15
 go_wp2_with fail
 go_loopw [1] (fun n wr=>∃ n':Int,-12≤n'∧n'≤13∧n=.int .i64 n'∧Hid (Gr w wr)) (fun n _=>(13 - intOf n).toNat)
 case atStart=>exact ⟨-12,by omega,by omega,rfl,lh_ (Gr.refl _)⟩
 case round =>
  obtain ⟨n,nl,nh,rfl,HGn⟩:=hrel
  by_cases hn:n<13
  ·go_wp2_with fail
   obtain ⟨wo,rfl⟩:∃ wo:World,wo=wr:=⟨_,rfl⟩
   go_loopw [2] (fun d wr=>∃ d':Int,0≤d'∧d'≤9∧d=.int .u32 d'∧Hid (Gr w wr)) (fun d _=>(9 - intOf d).toNat)
   case atStart=>exact ⟨0,by omega,by omega,rfl,HGn⟩
   case round =>
    obtain ⟨d,dl,dh,rfl,HGd⟩:=hrel
    clear HGn
    by_cases hd:d<9
    ·obtain ⟨p,HPX⟩:∃ p,Hid (max n (-n)=p):=⟨_,lh_ rfl⟩
     have hmx:max n (-n)=p:=HPX.out
     have p0:0≤p:=by omega
     have p1:p<4294967296:=by omega
     have wp:IntKind.u32.wrap p=p:=by rw [IntKind.wrap_u32];omega
     have wn:IntKind.i64.wrap (-n) = -n:=by rw [IntKind.wrap_i64];omega
     go_wp2_with fail
     obtain ⟨wb,rfl⟩:∃ wb:World,wb=wr:=⟨_,rfl⟩
     refine fH ((((hp0 wb).al (b:=wb.heap.size) rfl (by decide)).al (b:=wb.heap.size+1) (by simp) (by decide)).al (b:=wb.heap.size+1+1) (by simp) (by decide)) fun W1 I=>?_
     generalize wb.heap.size+1+1=g3 at *
     generalize wb.heap.size+1=g2 at *
     generalize wb.heap.size=g1 at *
     clear hmx HPX wp wn
     have YP:=lh_ (fw_one p0 p1)
     have YD:=lh_ (fw_one dl (show d<4294967296 by omega))
     go_loopw [4] (fun y wr=>∃ y':Int,0≤y'∧y'≤5∧y=.int .i64 y'∧Hid (HP wb wr [Sum.inl (g1,22,#[.int .u32 d]),Sum.inl (g2,83,#[.bool (decide (n<0)),.slice (some ⟨g3,0,none⟩) 1 1,.slice (some ⟨g1,0,none⟩) 1 1]),Sum.inl (g3,22,#[.int .u32 p])])) (fun y _=>(5 - intOf y).toNat)
     case atStart=>exact ⟨0,by omega,by omega,rfl,I⟩
     case round =>
      clear I
      obtain ⟨y,yl,yh,rfl,I⟩:=hrel
      have HTW:=lh_ (HT.out.gr (HGd.out.trans I.out.1))
      have lx:=kc1_ I
      have r0:=Gr.refl wr
      have w8:IntKind.u8.wrap d=d:=by rw [IntKind.wrap_u8];omega
      by_cases hy:y<5
      ·obtain ⟨r4,hr4,q0,q1⟩:∃ r,Int.tmod d 4=r∧0≤r∧r≤3:=⟨_,rfl,Int.tmod_nonneg _ dl,by have:=Int.tmod_lt_of_pos d (show (0:Int)<4 by decide);omega⟩
       have w1:IntKind.i64.wrap d=d:=by rw [IntKind.wrap_i64];omega
       have w2:IntKind.i64.wrap r4=r4:=by rw [IntKind.wrap_i64];omega
       have w3:IntKind.i64.wrap (r4 - 1)=r4 - 1:=by rw [IntKind.wrap_i64];omega
       have w4:IntKind.u8.wrap y=y:=by rw [IntKind.wrap_u8];omega
       have w5:IntKind.i64.wrap (y+1)=y+1:=by rw [IntKind.wrap_i64];omega
       go_wp2_with fail
       refine (texts_law (decide (n<0)) _ 1 _ _ 1 _ (r4 - 1) y _ (lh_ (wa_one p0 (I.out.bx 2 rfl))) YP (lh_ (wa_one dl (I.out.bx 0 rfl))) YD HTW).mono ?_
       rintro e V1 ⟨rfl,hb1⟩
       have HF1:=lh_ (I.out.gr hb1)
       have r1:=Gr.trans (Gr.refl wr) hb1
       clear r0
       go_wp2_with fail
       refine (backd_law (decide (n<0)) _ 1 _ _ 1 _ d y _ (lh_ (wa_one p0 (HF1.out.bx 2 rfl))) YP (lh_ (wa_one dl (HF1.out.bx 0 rfl))) YD om om om om (lh_ (HTW.out.gr r1))).mono ?_
       rintro e V2 ⟨rfl,hb2⟩
       have HF2:=lh_ (HF1.out.gr hb2)
       clear hb1 hb2 r1 I HF1 lx
       go_wp2_with fail
       go_roundw
       case rel=>exact ⟨y+1,by omega,by omega,rfl,HF2⟩
       case measure=>simp [intOf];omega
      obtain ⟨r3,hr3,q0,q1⟩:∃ r,Int.tmod d 3=r∧0≤r∧r≤2:=⟨_,rfl,Int.tmod_nonneg _ dl,by have:=Int.tmod_lt_of_pos d (show (0:Int)<3 by decide);omega⟩
      obtain ⟨q,HQ⟩:=ex_ ((n+12)*4)
      have hq:=HQ.out
      obtain ⟨s7,HS7⟩:=ex_ (d*7+(n+12))
      have hs7:=HS7.out
      obtain ⟨s10,HS10⟩:=ex_ (10*d+(n+12))
      have hs10:=HS10.out
      have HWY:Hid (∀ w',Calls Tryz.prog 74 #[.int .i64 n] w' fun e w''=>e=.returned (.int .i64 q)∧Below w'.heap.size w' w''):=lh_ (fun w'=>hq ▸ way_any n w' om om)
      have q2:0≤q∧q≤96:=by omega
      have q3:0≤s7∧s7≤4294967295:=by omega
      have q4:0≤s10∧s10≤4294967295:=by omega
      clear hq
      obtain ⟨q2,q2'⟩:=q2
      obtain ⟨q3,q3'⟩:=q3
      obtain ⟨q4,q4'⟩:=q4
      have w1:IntKind.u8.wrap r3=r3:=by rw [IntKind.wrap_u8];omega
      have w2:IntKind.u8.wrap q=q:=by rw [IntKind.wrap_u8];omega
      have w3:IntKind.u32.wrap (d*7)=d*7:=by rw [IntKind.wrap_u32];omega
      have w4:IntKind.i64.wrap (n+12)=n+12:=by rw [IntKind.wrap_i64];omega
      have w5:IntKind.u32.wrap (n+12)=n+12:=by rw [IntKind.wrap_u32];omega
      have w6:IntKind.u32.wrap s7=s7:=by rw [IntKind.wrap_u32];omega
      have w7:IntKind.i16.wrap n=n:=i16_smd om om
      have w9:IntKind.u32.wrap (10*d)=10*d:=by rw [IntKind.wrap_u32];omega
      have w10:IntKind.u32.wrap s10=s10:=by rw [IntKind.wrap_u32];omega
      have w11:IntKind.u32.wrap (d+1)=d+1:=by rw [IntKind.wrap_u32];omega
      go_wp2_with fail
      refine pd7_ fun T O=>?_
      iterate 4 refine tk ?_
      refine ck Tryz.call72 (fun w' hw=>btwd_law (decide (n<0)) _ 1 _ _ 1 _ r3 _ (lh_ (wa_one p0 ((I.out.bx 2 rfl).gr hw))) YP (lh_ (wa_one dl ((I.out.bx 0 rfl).gr hw))) YD om om (lh_ (HTW.out.gr hw))) ?_
      iterate 7 refine tk ?_
      refine ck Tryz.call74 (fun w' hw=>HWY.out _) ?_
      refine tk ?_
      refine ck Tryz.call73 (fun w' hw=>turnd_law (decide (n<0)) _ 1 _ _ 1 _ (decide (n<0)) _ 1 _ _ 1 _ d q _ (lh_ (wa_one p0 ((I.out.bx 2 rfl).gr hw))) YP (lh_ (wa_one dl ((I.out.bx 0 rfl).gr hw))) YD (lh_ (wa_one p0 ((I.out.bx 2 rfl).gr hw))) YP (lh_ (wa_one dl ((I.out.bx 0 rfl).gr hw))) YD om om om om (lh_ (HTW.out.gr hw))) ?_
      iterate 13 refine tk ?_
      refine ck Tryz.call75 (fun w' hw=>rounds_law n s7 n _ om om om om om om (lh_ (HTW.out.gr hw))) ?_
      iterate 11 refine tk ?_
      refine ck Tryz.call14 (fun w' hw=>cycled_law n s10 _ om om om om (lh_ (HTW.out.gr hw))) ?_
      refine tk ?_
      refine nlD O I fun V1 J=>?_
      clear O T I lx r0
      have HGF:=lh_ (HGd.out.trans J.out.1)
      go_wp2_with fail
      go_roundw
      case rel=>exact ⟨d+1,by omega,by omega,rfl,HGF⟩
      case measure=>simp [intOf];omega
    have wi:IntKind.i64.wrap (n+1)=n+1:=by rw [IntKind.wrap_i64];omega
    go_wp2_with fail
    go_roundw
    case rel=>exact ⟨n+1,by omega,by omega,rfl,HGd⟩
    case measure=>simp [intOf];omega
  go_wp2_with fail
  obtain ⟨wo,rfl⟩:∃ wo:World,wo=wr:=⟨_,rfl⟩
  refine fH ((hp0 wo).al (b:=wo.heap.size) rfl (by decide)) fun W3 I=>?_
  have HG3:=lh_ (Gr.trans HGn.out I.out.1)
  generalize wo.heap.size=B at *
  have HS:Hid (∀ j:Nat,j<21→∃ S:ByteArray,S.size≤100∧∀ w',Gr W3 w'→w'.cell? ⟨B,j,none⟩=some (.string S)):=lh_ (fun j hj=>by
   have hx:=kc0_ I
   rcases (by omega:j=0∨j=1∨j=2∨j=3∨j=4∨j=5∨j=6∨j=7∨j=8∨j=9∨j=10∨j=11∨j=12∨j=13∨j=14∨j=15∨j=16∨j=17∨j=18∨j=19∨j=20) with rfl|rfl|rfl|rfl|rfl|rfl|rfl|rfl|rfl|rfl|rfl|rfl|rfl|rfl|rfl|rfl|rfl|rfl|rfl|rfl|rfl
   all_goals exact ⟨_,by decide,fun w' hw=>hx w' hw _⟩)
  have HT3:=lh_ (HT.out.gr HG3.out)
  clear I
  go_loopw [97] (fun j wr=>∃ j':Nat,j'≤21∧j=.int .i64 ((j':Nat):Int)∧Hid (Gr W3 wr)) (fun j _=>21 - (intOf j).toNat)
  case atStart=>exact ⟨0,by omega,rfl,lh_ (Gr.refl _)⟩
  case round =>
   obtain ⟨j,hj,rfl,HGj⟩:=hrel
   by_cases hjn:j<21
   ·obtain ⟨S,hS,hc⟩:=HS.out j hjn
    have hcj:=hc wr HGj.out
    have hjn':(j:Int)<21:=by omega
    clear hc
    go_wp2_with fail
    refine (readsd_law S _ om (lh_ (HT3.out.gr HGj.out))).mono ?_
    rintro e V1 ⟨rfl,hb⟩
    have HGj1:=lh_ (Gr.trans HGj.out hb)
    clear hb hcj
    go_wp2_with fail
    go_roundw
    case rel=>exact ⟨j+1,by omega,by go_num,HGj1⟩
    case measure=>simp [intOf];omega
   have hjn':¬ ((j:Int)<21):=by omega
   go_wp2_with fail
   refine callsH ((hp0 wr).al (b:=wr.heap.size) rfl (by decide)) fun U I=>?_
   generalize wr.heap.size=g7 at *
   have l7:=kc0_ I
   have HGU:=lh_ (Gr.trans HG3.out (Gr.trans HGj.out I.out.1))
   have HTU:=lh_ (HT3.out.gr (Gr.trans HGj.out I.out.1))
   clear I
   refine (texts_law false _ 0 _ _ 0 _ 101 1 _ (lh_ wa_nil0) (lh_ fw_nil0) (lh_ wa_nil0) (lh_ fw_nil0) HTU).mono ?_
   rintro e V1 ⟨rfl,hb1⟩
   have H1:=lh_ (Gr.trans (Gr.refl _) hb1)
   have r1:=H1.out
   clear hb1
   go_wp2_with fail
   clear r1
   refine (texts_law false _ 0 _ _ 0 _ (-1) 9 _ (lh_ wa_nil0) (lh_ fw_nil0) (lh_ wa_nil0) (lh_ fw_nil0) (lh_ (HTU.out.gr H1.out))).mono ?_
   rintro e V2 ⟨rfl,hb2⟩
   have H2:=lh_ (H1.out.trans hb2)
   have r2:=H2.out
   clear hb2
   go_wp2_with fail
   clear r2
   refine (texts_law false _ 0 _ _ 0 _ 101 9 _ (lh_ wa_nil0) (lh_ fw_nil0) (lh_ wa_nil0) (lh_ fw_nil0) (lh_ (HTU.out.gr H2.out))).mono ?_
   rintro e V3 ⟨rfl,hb3⟩
   have H3:=lh_ (H2.out.trans hb3)
   have r3:=H3.out
   clear hb3
   go_wp2_with fail
   clear r3
   refine (texts_law false _ 0 _ _ 0 _ 9223372036854775807 1 _ (lh_ wa_nil0) (lh_ fw_nil0) (lh_ wa_nil0) (lh_ fw_nil0) (lh_ (HTU.out.gr H3.out))).mono ?_
   rintro e V4 ⟨rfl,hb4⟩
   have H4:=lh_ (H3.out.trans hb4)
   have r4:=H4.out
   clear hb4
   go_wp2_with fail
   clear r4
   refine (texts_law false _ 0 _ _ 0 _ (-9223372036854775808) 1 _ (lh_ wa_nil0) (lh_ fw_nil0) (lh_ wa_nil0) (lh_ fw_nil0) (lh_ (HTU.out.gr H4.out))).mono ?_
   rintro e V5 ⟨rfl,hb5⟩
   have H5:=lh_ (H4.out.trans hb5)
   have r5:=H5.out
   clear hb5
   go_wp2_with fail
   clear r5
   refine (cycled_law 1 97 _ om om om om (lh_ (HTU.out.gr H5.out))).mono ?_
   rintro e V6 ⟨rfl,hb6⟩
   have H6:=lh_ (H5.out.trans hb6)
   have r6:=H6.out
   clear hb6
   go_wp2_with fail
   clear r6
   refine (cycled_law 1 101 _ om om om om (lh_ (HTU.out.gr H6.out))).mono ?_
   rintro e V7 ⟨rfl,hb7⟩
   have H7:=lh_ (H6.out.trans hb7)
   have r7:=H7.out
   clear hb7
   go_wp2_with fail
   clear r7
   refine (cycled_law 1 109 _ om om om om (lh_ (HTU.out.gr H7.out))).mono ?_
   rintro e V8 ⟨rfl,hb8⟩
   have H8:=lh_ (H7.out.trans hb8)
   have r8:=H8.out
   clear hb8
   go_wp2_with fail
   clear r8
   refine (cycled_law 1 2147483648 _ om om om om (lh_ (HTU.out.gr H8.out))).mono ?_
   rintro e V9 ⟨rfl,hb9⟩
   have H9:=lh_ (H8.out.trans hb9)
   have r9:=H9.out
   clear hb9
   go_wp2_with fail
   clear r9
   refine (worksd_any _ (lh_ (HTU.out.gr H9.out))).mono ?_
   rintro e V ⟨rfl,hb⟩
   have HGf:=lh_ (Gr.trans HGU.out (H9.out.trans hb))
   clear hb
   go_wp2_with fail
   exact bR ⟨rfl,HGf.out⟩ (by simp [results,Tryz.results15,go_sem])
end Go.Proofs.YtobojnodohjiaaaGreatDoor
