/- ReconsKnown: its walk, the row and its card hold. No condition. -/
import Derived.Test.YtobojnodohjiaaaGreatDoorPK
import Derived.Test.YtobojnodohjiaaaGreatDoorPJ
import Derived.Test.YtobojnodohjiaaaGreatDoorTie
import Derived.Test.YtobojnodohjiaaaGreatDoorCards
import Derived.OpenShut
import Derived.Lay
import Derived.SevenTiedAt
import Derived.Stop.LaidErr
import Derived.ChangeSame
import Derived.Test.YtobojnodohjiaaaGreatDoorRecThere
import Derived.Test.YtobojnodohjiaaaGreatDoorRecOne
import Derived.Test.YtobojnodohjiaaaGreatDoorI64
import Derived.Test.YtobojnodohjiaaaGreatDoorRecFits
import Derived.Test.YtobojnodohjiaaaGreatDoorRecPrimes
import Derived.Test.YtobojnodohjiaaaGreatDoorRecJJ
import Derived.Test.YtobojnodohjiaaaGreatDoorRecChi
import Derived.Test.YtobojnodohjiaaaGreatDoorRowP
set_option maxRecDepth 100000
set_option maxHeartbeats 16000000
set_option linter.unusedVariables false
set_option linter.unusedSimpArgs false
namespace Go.Proofs.YtobojnodohjiaaaGreatDoor
open Go.ChangeShapes Go.WideShapes Go.ChangeAt Go.RowKit
theorem xB5 {W:World} (h:laidMetH Tryz.prog Rows.reconsKnownRow.laid W):Tab W:=by
 rw [MakeChecks.laidMetH_plain _ _ _ (by kernel_rfl)] at h
 have e:(Rows.laid_internal_strconv_uint64pow10:DataW Unit)=Lib.tabData .u64 Lib.pow10Tab:=by kernel_rfl
 have h2:laidMet Tryz.prog (("internal/strconv.uint64pow10", (Rows.laid_internal_strconv_uint64pow10:DataW Unit)) :: []) W:=by
  first|exact h|exact laidMet.tail h|exact laidMet.tail (laidMet.tail h)|exact laidMet.tail (laidMet.tail (laidMet.tail h))
 rw [e] at h2
 exact Lib.tabIs_of_head (g:=2) (by kernel_rfl) (by kernel_rfl) Tryz.underlying322 Tryz.underlying28 (by kernel_rfl) (by kernel_rfl) h2
theorem xC3 {n:Int} (h:(Lit.int .u32 n).wf=true):0≤n∧n<4294967296:=by
 simp [Lit.wf,IntKind.has,IntKind.min,IntKind.max,IntKind.bits,IntKind.signed] at h
 omega
theorem xI_ {n:Int} (h:(Lit.int .i64 n).wf=true):-9223372036854775808≤n∧n≤9223372036854775807:=by
 simp [Lit.wf,IntKind.has,IntKind.min,IntKind.max,IntKind.bits,IntKind.signed] at h
 omega
theorem xu1 {H:Type} {enc:TypeId × Value→H} {W:World} {base:Nat} {v:Value} {d:DataW H} {ps:List MemPlace} (hok:Value.okWide Tryz.prog W .any base 79 v)
  (h:DataW.Trod enc Tryz.prog W 0 (fun _=>true) true 79 v d ps):∃ k f,Hid (Wa W v k f)∧Hid (∀ i,i<k→f i<4294967296):=by
 obtain ⟨a0,len,cap,rfl⟩:=okWide_slice Tryz.underlying79 hok
 obtain ⟨fuel,hf⟩:=h
 rcases open_ints Tryz.underlying79 Tryz.underlying22 (by kernel_rfl) hf with ⟨hcs,hx⟩|⟨a,len',cap',zs,hcs,_,hl,hm,hz,hx,hcell,hwz⟩
 ·simp [Value.cells] at hcs
  obtain ⟨rfl,rfl,rfl⟩:=hcs
  exact ⟨0,fun _=>0,Lib.hid (.inl ⟨_,_,rfl,rfl⟩),Lib.hid (fun i hi=>absurd hi (Nat.not_lt_zero _))⟩
 ·simp [Value.cells] at hcs
  obtain ⟨rfl,rfl,rfl⟩:=hcs
  simp at hz
  rcases Nat.eq_zero_or_pos len with h0|h0
  ·subst h0
   exact ⟨0,fun _=>0,Lib.hid (.inl ⟨_,_,rfl,rfl⟩),Lib.hid (fun i hi=>absurd hi (Nat.not_lt_zero _))⟩
  ·obtain ⟨b,off,rfl,hc⟩:=ints_at hcell (by omega)
   have hw:∀ i,i<len→0≤zs.getD i 0∧zs.getD i 0<4294967296:=fun i hi=>xC3 (hwz _ (by
    rw [List.getD,List.getElem?_eq_getElem (by omega:i<zs.length)]
    exact List.getElem_mem _))
   refine ⟨len,fun i=>(zs.getD i 0).toNat,Lib.hid (.inr ⟨b,off,cap,rfl,qP7 (hc 0 (by omega)),fun i hi=>?_⟩),Lib.hid (fun i hi=>?_)⟩
   ·rw [hc i (by omega)]
    have:=hw i hi
    have e:zs.getD i 0=(((zs.getD i 0).toNat:Nat):Int):=by omega
    show some (Value.int .u32 (zs.getD i 0))=some (Value.int .u32 (((zs.getD i 0).toNat:Nat):Int))
    rw [← e]
   ·have:=hw i hi
    show (zs.getD i 0).toNat<4294967296
    omega
end Go.Proofs.YtobojnodohjiaaaGreatDoor
set_option maxRecDepth 100000
set_option maxHeartbeats 16000000
set_option linter.unusedVariables false
set_option linter.unusedSimpArgs false
namespace Go.Proofs.YtobojnodohjiaaaGreatDoor
open Go.RowKit
attribute [local go_sem ↓] Go.wp_at_zero Go.wp_at_succ
attribute [local go_sem ↓] qb8 qa3 qc8
attribute [local go_sem] Instr.field asAgg
theorem qu3 {n:Int} (h1:-32768≤n) (h2:n≤32767):IntKind.i16.wrap n=n:=by
 simp [IntKind.wrap,IntKind.bits,IntKind.signed];omega
theorem qX8 {n:Int} (h1:0≤n) (h2:n≤65535):IntKind.u16.wrap n=n:=by
 simp [IntKind.wrap,IntKind.bits,IntKind.signed];omega
def fwl (l:List Int) (i:Nat):Nat:=(l.getD i 0).toNat
theorem wa_l {w:World} {b T k:Nat} {cs:Array Value} (l:List Int) (h:Bx w b T cs) (hl:∀ x,x ∈ l→0≤x∧x<4294967296) (hk:l.length=k) (hcs:cs=(l.map (fun x=>Value.int .u32 x)).toArray):Wa w (.slice (some ⟨b,0,none⟩) k k) k (fwl l)∧∀ i,i<k→fwl l i<4294967296:=by
 have key:∀ i,i<k→∃ x,l[i]?=some x∧0≤x∧x<4294967296∧((fwl l i:Nat):Int)=x:=fun i hi=>by
  have hi':i<l.length:=by omega
  have e:=List.getElem?_eq_getElem hi'
  have h2:=hl _ (List.getElem_mem hi')
  refine ⟨_,e,h2.1,h2.2,?_⟩
  unfold fwl
  rw [List.getD_eq_getElem?_getD,e,Option.getD_some]
  omega
 refine ⟨.inr ⟨b,0,k,rfl,h.lt,fun i hi=>?_⟩,fun i hi=>?_⟩
 ·obtain ⟨x,e,_,_,e2⟩:=key i hi
  rw [Nat.zero_add,h.cells w (Gr.refl _),hcs,List.getElem?_toArray,List.getElem?_map,e,e2];rfl
 ·obtain ⟨x,e,h1,h2,e2⟩:=key i hi
  omega
theorem qY2 {w:World}:Wa w (.slice none 0 0) 0 (fwl []):=.inl ⟨none,0,rfl,rfl⟩
theorem xi4:∀ i,i<0→fwl [] i<4294967296:=fun i hi=>absurd hi (Nat.not_lt_zero _)
def qn (l:List Int) (i:Nat):Int:=l.getD i 0
theorem xH4 {w:World} {b T:Nat} {n0 n1 n2 d0 d1 d2:Int} (h:Bx w b T #[.int .i64 n0,.int .u32 d0,.int .i64 n1,.int .u32 d1,.int .i64 n2,.int .u32 d2]):Qs w (.slice (some ⟨b,0,none⟩) 3 3) 3 (qn [n0,n1,n2]) (qn [d0,d1,d2]) :=
 .inr ⟨b,0,3,rfl,h.lt,fun i hi=>by
  rcases (by omega:i=0∨i=1∨i=2) with rfl|rfl|rfl
  ·exact ⟨h.cells w (Gr.refl _) 0,h.cells w (Gr.refl _) 1⟩
  ·exact ⟨h.cells w (Gr.refl _) 2,h.cells w (Gr.refl _) 3⟩
  ·exact ⟨h.cells w (Gr.refl _) 4,h.cells w (Gr.refl _) 5⟩⟩
theorem xH3 {n0 n1 n2 d0 d1 d2:Int} (h0:-9223372036854775808≤n0∧n0≤9223372036854775807∧0≤d0∧d0≤4294967295) (h1:-9223372036854775808≤n1∧n1≤9223372036854775807∧0≤d1∧d1≤4294967295) (h2:-9223372036854775808≤n2∧n2≤9223372036854775807∧0≤d2∧d2≤4294967295):Qb 3 (qn [n0,n1,n2]) (qn [d0,d1,d2]):=fun i hi=>by
 rcases (by omega:i=0∨i=1∨i=2) with rfl|rfl|rfl
 ·exact h0
 ·exact h1
 ·exact h2
theorem xz2 {w:World}:Qs w (.slice none 0 0) 0 (qn []) (qn []):=.inl ⟨none,0,rfl,rfl⟩
theorem qt7 {P:Program} {f:FuncId} {ar:Array Value} {Q:Ending→World→Prop} {w0 W:World} {L:List Fk} (h:HP w0 W L) (k:∀ W',Hid (HP w0 W' L)→Calls P f ar W' Q):Calls P f ar W Q:=k W (lh_ h)
theorem qC5 (w:World) (HT:Hid (Tab w)):Calls Tryz.prog 11 #[] w fun e w'=>e=.returned (.bool true)∧Below w.heap.size w w':=by
 go_enter Tryz.func11,Tryz.ntmps11
 go_wp2_with fail
 go_loopw [1] (fun m wr=>∃ m':Int,0≤m'∧m'≤60∧m=.int .u16 m'∧Hid (Gr w wr)) (fun m _=>(60 - intOf m).toNat)
 case atStart=>exact ⟨0,by omega,by omega,rfl,lh_ (Gr.refl _)⟩
 case round =>
  obtain ⟨m,ml,mh,rfl,HGm⟩:=hrel
  by_cases hm:m<60
  ·go_wp2_with fail
   obtain ⟨wo,rfl⟩:∃ wo:World,wo=wr:=⟨_,rfl⟩
   go_loopw [2] (fun n wr=>∃ n':Int,-3≤n'∧n'≤m+2∧n=.int .i16 n'∧Hid (Gr w wr)) (fun n _=>(m+2 - intOf n).toNat)
   case atStart=>exact ⟨-3,by omega,by omega,rfl,HGm⟩
   case round =>
    obtain ⟨n,nl,nh,rfl,HGn⟩:=hrel
    have wm:IntKind.i16.wrap m=m:=qu3 om om
    have wm2:IntKind.i16.wrap (m+2)=m+2:=qu3 om om
    by_cases hn:n<m+2
    ·go_wp2_with fail
     refine (qO5 n m _ om om om om (lh_ (HT.out.gr HGn.out))).mono ?_
     rintro e V1 ⟨rfl,hb1⟩
     have HG1:=lh_ (HGn.out.trans hb1)
     clear hb1
     have wi:IntKind.i16.wrap (n+1)=n+1:=qu3 om om
     go_wp2_with fail
     go_roundw
     case rel=>exact ⟨n+1,by omega,by omega,rfl,HG1⟩
     case measure=>simp [intOf];omega
    ·have wi:IntKind.u16.wrap (m+1)=m+1:=qX8 om om
     go_wp2_with fail
     go_roundw
     case rel=>exact ⟨m+1,by omega,by omega,rfl,HGn⟩
     case measure=>simp [intOf];omega
  ·go_wp2_with fail
   obtain ⟨wo,rfl⟩:∃ wo:World,wo=wr:=⟨_,rfl⟩
   go_loopw [3] (fun x wr=>∃ x':Int,-6≤x'∧x'≤7∧x=.int .i64 x'∧Hid (Gr w wr)) (fun x _=>(7 - intOf x).toNat)
   case atStart=>exact ⟨-6,by omega,by omega,rfl,HGm⟩
   case round =>
    obtain ⟨x,xl,xh,rfl,HGx⟩:=hrel
    clear HGm
    by_cases hx:x<7
    ·go_wp2_with fail
     obtain ⟨wp,rfl⟩:∃ wp:World,wp=wr:=⟨_,rfl⟩
     go_loopw [4] (fun d wr=>∃ d':Int,0≤d'∧d'≤9∧d=.int .u32 d'∧Hid (Gr w wr)) (fun d _=>(9 - intOf d).toNat)
     case atStart=>exact ⟨0,by omega,by omega,rfl,HGx⟩
     case round =>
      obtain ⟨d,dl,dh,rfl,HGd⟩:=hrel
      clear HGx
      by_cases hd:d<9
      ·obtain ⟨p,HP⟩:∃ p,Hid (d*d=p):=⟨_,lh_ rfl⟩
       have hdp:d*d=p:=HP.out
       obtain ⟨hp0',hp1⟩:0≤p∧p≤64:=by
        have h8:d≤8:=by omega
        have:=Int.mul_le_mul h8 h8 dl om
        have:=Int.mul_nonneg dl dl
        omega
       have w1:IntKind.i64.wrap (-x) = -x:=by rw [IntKind.wrap_i64];omega
       have w2:IntKind.i64.wrap (x+1)=x+1:=by rw [IntKind.wrap_i64];omega
       have w3:IntKind.i16.wrap x=x:=qu3 om om
       have w4:IntKind.i16.wrap d=d:=qu3 om om
       have w5:IntKind.i16.wrap (d - 4)=d - 4:=qu3 om om
       have w6:IntKind.u16.wrap d=d:=qX8 om om
       have w7:IntKind.u32.wrap p=p:=by rw [IntKind.wrap_u32];omega
       have w8:IntKind.u32.wrap (p+3)=p+3:=by rw [IntKind.wrap_u32];omega
       have w9:IntKind.u16.wrap (p+3)=p+3:=qX8 om om
       have w10:IntKind.u32.wrap (d*100)=d*100:=by rw [IntKind.wrap_u32];omega
       have w11:IntKind.u32.wrap (101*d)=101*d:=by rw [IntKind.wrap_u32];omega
       have w12:IntKind.i64.wrap d=d:=by rw [IntKind.wrap_i64];omega
       have w13:IntKind.u32.wrap (d+1)=d+1:=by rw [IntKind.wrap_u32];omega
       have w14:IntKind.u32.wrap (max x (-x))=max x (-x):=by rw [IntKind.wrap_u32];omega
       go_wp2_with fail
       refine qt7 (((((hp0 wr).al (b:=wr.heap.size) rfl (by decide)).al (b:=wr.heap.size+1) (by simp) (by decide)).al (b:=wr.heap.size+1+1) (by simp) (by decide)).al (b:=wr.heap.size+1+1+1) (by simp) (by decide)) fun W1 I=>?_
       generalize wr.heap.size+1+1+1=g4 at *
       generalize wr.heap.size+1+1=g3 at *
       generalize wr.heap.size+1=g2 at *
       generalize wr.heap.size=g1 at *
       have Z1:=lh_ (wa_l [max x (-x)] (I.out.bx 0 rfl) (by intro y hy;simp only [List.mem_cons,List.not_mem_nil,or_false] at hy;omega) rfl rfl)
       have Z2:=lh_ (wa_l [d] (I.out.bx 1 rfl) (by intro y hy;simp only [List.mem_cons,List.not_mem_nil,or_false] at hy;omega) rfl rfl)
       have l3:=kc2_ I
       have HQ:=lh_ (xH4 (I.out.bx 3 rfl))
       have J:=lh_ (Gr.trans HGd.out I.out.1)
       have HTW:=lh_ (HT.out.gr J.out)
       clear I
       refine (qG2 _ 3 _ _ W1 HQ (lh_ (xH3 om om om)) HTW).mono ?_
       clear HQ
       rintro e V1 ⟨rfl,hb1⟩
       have H1:=lh_ (Gr.trans (Gr.refl _) hb1)
       have r1:=H1.out
       clear hb1
       go_wp2_with fail
       clear r1
       refine (qR8 x (d - 4) d (p+3) _ om om om om om om om om (lh_ (HTW.out.gr H1.out))).mono ?_
       rintro e V2 ⟨rfl,hb2⟩
       have H2:=lh_ (H1.out.trans hb2)
       have r2:=H2.out
       clear hb2
       go_wp2_with fail
       clear r2
       refine qt7 (((hp0 V2).al (b:=V2.heap.size) rfl (by decide)).al (b:=V2.heap.size+1) (by simp) (by decide)) fun U3 I=>?_
       generalize V2.heap.size+1=q1 at *
       generalize V2.heap.size=q0 at *
       have A0:=lh_ (wa_l [d*100] (I.out.bx 0 rfl) (by intro y hy;simp only [List.mem_cons,List.not_mem_nil,or_false] at hy;omega) rfl rfl)
       have A1:=lh_ (wa_l [d,1] (I.out.bx 1 rfl) (by intro y hy;simp only [List.mem_cons,List.not_mem_nil,or_false] at hy;omega) rfl rfl)
       have G3:=lh_ (H2.out.trans I.out.1)
       clear I
       refine (qA7 (decide (x<0)) _ 1 _ _ 1 _ _ 1 _ false _ 2 _ _ (lh_ (Z1.out.1.gr G3.out)) (lh_ Z1.out.2) (lh_ (Z2.out.1.gr G3.out)) (lh_ Z2.out.2) (lh_ A0.out.1) (lh_ A0.out.2) (lh_ A1.out.1) (lh_ A1.out.2) (lh_ (HTW.out.gr G3.out))).mono ?_
       clear A0 A1
       rintro e V3 ⟨rfl,hb3⟩
       have H3:=lh_ (G3.out.trans hb3)
       have r3:=H3.out
       clear hb3 G3
       go_wp2_with fail
       clear r3
       refine qt7 (((hp0 V3).al (b:=V3.heap.size) rfl (by decide)).al (b:=V3.heap.size+1) (by simp) (by decide)) fun U4 I=>?_
       generalize V3.heap.size+1=q1 at *
       generalize V3.heap.size=q0 at *
       have A0:=lh_ (wa_l [7,d] (I.out.bx 0 rfl) (by intro y hy;simp only [List.mem_cons,List.not_mem_nil,or_false] at hy;omega) rfl rfl)
       have A1:=lh_ (wa_l [d] (I.out.bx 1 rfl) (by intro y hy;simp only [List.mem_cons,List.not_mem_nil,or_false] at hy;omega) rfl rfl)
       have G4:=lh_ (H3.out.trans I.out.1)
       clear I
       refine (qA7 (decide (x<0)) _ 1 _ _ 1 _ _ 2 _ true _ 1 _ _ (lh_ (Z1.out.1.gr G4.out)) (lh_ Z1.out.2) (lh_ (Z2.out.1.gr G4.out)) (lh_ Z2.out.2) (lh_ A0.out.1) (lh_ A0.out.2) (lh_ A1.out.1) (lh_ A1.out.2) (lh_ (HTW.out.gr G4.out))).mono ?_
       clear A0 A1
       rintro e V4 ⟨rfl,hb4⟩
       have H4:=lh_ (G4.out.trans hb4)
       have r4:=H4.out
       clear hb4 G4
       go_wp2_with fail
       clear r4
       refine qt7 ((hp0 V4).al (b:=V4.heap.size) rfl (by decide)) fun U5 I=>?_
       generalize V4.heap.size=q0 at *
       have A0:=lh_ (wa_l [101*d] (I.out.bx 0 rfl) (by intro y hy;simp only [List.mem_cons,List.not_mem_nil,or_false] at hy;omega) rfl rfl)
       have G5:=lh_ (H4.out.trans I.out.1)
       clear I
       refine (xo5 (decide (x<0)) _ 1 _ _ 1 _ (decide (x<0)) _ 1 _ _ 1 _ _ 1 _ x _ (lh_ (Z1.out.1.gr G5.out)) (lh_ Z1.out.2) (lh_ (Z2.out.1.gr G5.out)) (lh_ Z2.out.2) (lh_ (Z1.out.1.gr G5.out)) (lh_ Z1.out.2) (lh_ (Z2.out.1.gr G5.out)) (lh_ Z2.out.2) (lh_ A0.out.1) (lh_ A0.out.2) om om (lh_ (HTW.out.gr G5.out))).mono ?_
       clear A0
       rintro e V5 ⟨rfl,hb5⟩
       have H5:=lh_ (G5.out.trans hb5)
       have r5:=H5.out
       clear hb5 G5
       go_wp2_with fail
       clear r5
       refine qt7 ((hp0 V5).al (b:=V5.heap.size) rfl (by decide)) fun U6 I=>?_
       generalize V5.heap.size=q0 at *
       have A0:=lh_ (wa_l [d,4,6,9,2147483648] (I.out.bx 0 rfl) (by intro y hy;simp only [List.mem_cons,List.not_mem_nil,or_false] at hy;omega) rfl rfl)
       have G6:=lh_ (H5.out.trans I.out.1)
       clear I
       refine (qz0 (decide (x<0)) _ 1 _ _ 5 _ d _ (lh_ (Z1.out.1.gr G6.out)) (lh_ Z1.out.2) (lh_ A0.out.1) (lh_ A0.out.2) om om (lh_ (HTW.out.gr G6.out))).mono ?_
       clear A0
       rintro e V6 ⟨rfl,hb6⟩
       have H6:=lh_ (G6.out.trans hb6)
       have r6:=H6.out
       clear hb6 G6
       go_wp2_with fail
       clear r6
       refine qt7 ((hp0 V6).al (b:=V6.heap.size) rfl (by decide)) fun U7 I=>?_
       generalize V6.heap.size=q0 at *
       have A0:=lh_ (wa_l [3,4,5,5,d] (I.out.bx 0 rfl) (by intro y hy;simp only [List.mem_cons,List.not_mem_nil,or_false] at hy;omega) rfl rfl)
       have G7:=lh_ (H6.out.trans I.out.1)
       clear I
       refine (qu5 x d _ 5 _ _ om om om om (lh_ A0.out.1) (lh_ (HTW.out.gr G7.out))).mono ?_
       clear A0
       rintro e V7 ⟨rfl,hb7⟩
       have H7:=lh_ (G7.out.trans hb7)
       have r7:=H7.out
       clear hb7 G7
       clear r7 l3 Z1 Z2
       have HG7:=lh_ (Gr.trans J.out H7.out)
       clear H1 H2 H3 H4 H5 H6 H7 J HTW
       go_wp2_with fail
       go_roundw
       case rel=>exact ⟨d+1,by omega,by omega,rfl,HG7⟩
       case measure=>simp [intOf];omega
      ·have wi:IntKind.i64.wrap (x+1)=x+1:=by rw [IntKind.wrap_i64];omega
       go_wp2_with fail
       go_roundw
       case rel=>exact ⟨x+1,by omega,by omega,rfl,HGd⟩
       case measure=>simp [intOf];omega
    ·go_wp2_with fail
     have HTW:=lh_ (HT.out.gr HGx.out)
     refine (qG2 _ 0 (qn []) (qn []) _ (lh_ xz2) (lh_ (fun i hi=>absurd hi (Nat.not_lt_zero _))) HTW).mono ?_
     rintro e V1 ⟨rfl,hb1⟩
     have H1:=lh_ (Gr.trans (Gr.refl _) hb1)
     have r1:=H1.out
     clear hb1
     go_wp2_with fail
     clear r1
     refine (qz0 false _ 0 (fwl []) _ 0 (fwl []) 0 _ (lh_ qY2) (lh_ xi4) (lh_ qY2) (lh_ xi4) om om (lh_ (HTW.out.gr H1.out))).mono ?_
     rintro e V2 ⟨rfl,hb2⟩
     have H2:=lh_ (H1.out.trans hb2)
     have r2:=H2.out
     clear hb2
     go_wp2_with fail
     clear r2
     refine (qu5 1 7 _ 0 (fwl []) _ om om om om (lh_ qY2) (lh_ (HTW.out.gr H2.out))).mono ?_
     rintro e V3 ⟨rfl,hb3⟩
     have H3:=lh_ (H2.out.trans hb3)
     have r3:=H3.out
     clear hb3
     go_wp2_with fail
     clear r3
     refine (qa9 _ (lh_ (HTW.out.gr H3.out))).mono ?_
     rintro e V4 ⟨rfl,hb⟩
     have HGf:=lh_ (Gr.trans HGx.out (H3.out.trans hb))
     clear hb
     go_wp2_with fail
     exact bodyPost_ret (v:=.bool true) (by simp [results,Tryz.results11,go_sem]) rfl ⟨rfl,HGf.out⟩
end Go.Proofs.YtobojnodohjiaaaGreatDoor
set_option maxRecDepth 100000
set_option maxHeartbeats 16000000
namespace Go.Proofs.YtobojnodohjiaaaGreatDoor
open Go.ChangeShapes Go.WideShapes Go.ChangeAt Go.RowKit
theorem reconsKnown_lifted (os:Os) (started:os.Started) (H:Type) (enc:TypeId × Value→H) :
  ReturnsInHanded {} Tryz.checked os 11 .any (fun w args=>(Rows.reconsKnownSpec.pre enc Tryz.prog Tryz.f11 Rows.reconsKnownRow.domain false w args∧laidMetH Tryz.prog Rows.reconsKnownRow.laid w)∧sizedMet enc Tryz.prog Tryz.f11 (OpenSpec.ofChange Rows.reconsKnownSpec) false w args)
   (Rows.reconsKnownSpec.post enc Tryz.prog Tryz.f11 false true false false):=by
 refine returnsInHanded_of_change_and (C:=Tryz.checked) (X:=fun w _=>laidMetH Tryz.prog Rows.reconsKnownRow.laid w) (fun _ _ _ hh h=>h.of_heap hh) Tryz.own started (by kernel_rfl) Tryz.func11
  (ChangeSpec.witness_shaped (enc:=enc) (C:=Tryz.checked) (os:=os) (X:=fun w _=>laidMetH Tryz.prog Rows.reconsKnownRow.laid w) false (World.laidAll Tryz.prog os Rows.reconsKnownRow.laid) #[] 8 (World.laidAll_os _ _ _)
   (World.shaped_of_ZipB (by kernel_rfl) (by kernel_rfl)) (by kernel_rfl) (by kernel_rfl) (by kernel_rfl)
   (by rw [MakeChecks.laidMetH_plain _ _ _ (by kernel_rfl)];exact laidMet_laidAll _ (by kernel_rfl) (by kernel_rfl))) ?_
 intro W base args ds gs before hval0 hW hc _ hL _
 have hval:∀ (j:Nat) t v,Tryz.f11.params[j]?=some t→args[j]?=some v→Value.okWide Tryz.prog W .any base t v:=hval0
 have hW':=hW
 obtain ⟨p,q,hA0,hV,rfl,hfz,hnd⟩:=hW
 have hA:DataW.TrodAll enc Tryz.prog W 0 (fun _=>true) true Tryz.f11.params.toList args.toList ds p:=hA0
 rw [Tryz.params11] at hA hval
 obtain ⟨rfl,rfl,rfl⟩:=trodAll_none hA
 obtain ⟨rfl,rfl⟩:=trodVars_none hV
 clear hA0 hval0
 simp only [List.append_nil] at hW'
 have HT:Hid (Tab W):=lh_ (xB5 hL)
 refine (qC5 W HT).mono fun e W' ⟨he,hb⟩=>?_
 subst he
 exact ⟨_,rfl,qw_ (pv:=[]) hW' (fun _ _ _=>trodAll_mk1 (shut_bool Tryz.underlying4 true)) (fun sp hs=>trodAll_mk0) (fun _ _=>rfl) (by simp) hb (ok_one (by kernel_rfl) rfl (okWide_bool_mk Tryz.underlying4 true))⟩
theorem reconsKnown_q1:(Rows.reconsKnownRow.wf (OpenSpec.ofChange Rows.reconsKnownSpec))=true:=by kernel_rfl
theorem reconsKnown_q4:(Tryz.f11.params.all (Tryz.pinned.checked.prog.readableRec ·))=true:=by kernel_rfl
theorem reconsKnown_q5:(namedTie Tryz.pinned.checked.prog Rows.reconsKnownRow.named Rows.reconsKnownSpec.vars)=true:=by kernel_rfl
theorem reconsKnown_q6:((Rows.reconsKnownRow.stops == []))=true:=by kernel_rfl
theorem reconsKnown_q8:((Rows.reconsKnownRow.knobs == []))=true:=by kernel_rfl
theorem reconsKnown_q10:((Rows.reconsKnownRow.inPlace == Tryz.pinned.checked.prog.inPlace 11))=true:=by kernel_rfl
theorem reconsKnown_q11:((Rows.reconsKnownRow.unfollowed == Tryz.pinned.checked.prog.unfollowed 11))=true:=by kernel_rfl
theorem reconsKnown_q12:((Rows.reconsKnownRow.recurses == Tryz.pinned.checked.prog.recurses 11))=true:=by kernel_rfl
theorem reconsKnown_q13:((Rows.reconsKnownRow.named == Tryz.pinned.checked.prog.varsNamed 11))=true:=by kernel_rfl
theorem reconsKnown_q14:((Rows.reconsKnownRow.maps == (Tryz.f11.params.toList ++ Rows.reconsKnownSpec.plain.varTypes Tryz.pinned.checked.prog).any (Tryz.pinned.checked.prog.mapsRec ·)))=true:=by kernel_rfl
theorem reconsKnown_q15:((Rows.reconsKnownRow.ifaces == (Tryz.f11.params.toList ++ Rows.reconsKnownSpec.plain.varTypes Tryz.pinned.checked.prog).any (Tryz.pinned.checked.prog.ifacesRec ·)))=true:=by kernel_rfl
theorem reconsKnown_q16:((Rows.reconsKnownRow.mapsOut == Tryz.pinned.checked.prog.mapsAmong Tryz.f11.resultTypes.toList))=true:=by kernel_rfl
theorem reconsKnown_q17:((Rows.reconsKnownRow.loops == (Tryz.f11.params.toList ++ Rows.reconsKnownSpec.plain.varTypes Tryz.pinned.checked.prog).any (Tryz.pinned.checked.prog.loopsFrom ·)))=true:=by kernel_rfl
theorem reconsKnown_q18:((Rows.reconsKnownRow.wideKeys == (Tryz.f11.params.toList ++ Rows.reconsKnownSpec.plain.varTypes Tryz.pinned.checked.prog ++ Tryz.f11.resultTypes.toList).any (Tryz.pinned.checked.prog.wideKeysFrom ·)))=true:=by kernel_rfl
theorem reconsKnown_q19:(Rows.reconsKnownSpec.vars.all (Tryz.pinned.checked.prog.varReadable ·))=true:=by kernel_rfl
theorem reconsKnown_q20:(Tryz.f11.resultTypes.all (fun t=>Tryz.pinned.checked.prog.readableRec t && decide (t<Tryz.pinned.checked.prog.types.size)))=true:=by kernel_rfl
theorem reconsKnown_q21:((Rows.reconsKnownRow.ifacesOut == Tryz.f11.resultTypes.toList.any (Tryz.pinned.checked.prog.ifacesRec ·)))=true:=by kernel_rfl
theorem reconsKnown_q22:((Rows.reconsKnownRow.loopsOut == Tryz.f11.resultTypes.toList.any (Tryz.pinned.checked.prog.loopsFrom ·)))=true:=by kernel_rfl
theorem reconsKnown_q24:(Rows.reconsKnownRow.shortTexts.isNone)=true:=by kernel_rfl
theorem reconsKnown_q29:((Rows.reconsKnownRow.kinds == (if Rows.reconsKnownRow.domain.isEmpty then [] else Tryz.f11.params.toList.map fun t=>match Tryz.pinned.checked.prog.underlying t with|some (.int k)=>some k|_=>none)))=true:=by kernel_rfl
theorem reconsKnown_q30:((Rows.reconsKnownRow.pinned == Rows.reconsKnownRow.pinnedBy))=true:=by kernel_rfl
theorem reconsKnown_q31:((Rows.reconsKnownRow.veiled == (Tryz.f11.params.toList ++ Rows.reconsKnownSpec.plain.varTypes Tryz.pinned.checked.prog ++ Tryz.f11.resultTypes.toList).any (Tryz.pinned.checked.prog.veiledRec ·)))=true:=by kernel_rfl
theorem reconsKnown_q32:(Rows.reconsKnownRow.veiledFits Tryz.pinned.checked.prog Tryz.f11.params.toList (Tryz.f11.params.toList ++ Rows.reconsKnownSpec.plain.varTypes Tryz.pinned.checked.prog ++ Tryz.f11.resultTypes.toList))=true:=by kernel_rfl
theorem reconsKnown_closed:joinedFacts Tryz.pinned.checked.prog 11 Tryz.f11 Rows.reconsKnownSpec Rows.reconsKnownRow=true:=(band (band (band (band (band (band (band (band (band (band (band (band (band (band (band (band (band (band (band (band (band (band (band (band (band (band (band (band (band (band (band reconsKnown_q1 xC7) xC8) reconsKnown_q4) reconsKnown_q5) reconsKnown_q6) xC9) reconsKnown_q8) xC_) reconsKnown_q10) reconsKnown_q11) reconsKnown_q12) reconsKnown_q13) reconsKnown_q14) reconsKnown_q15) reconsKnown_q16) reconsKnown_q17) reconsKnown_q18) reconsKnown_q19) reconsKnown_q20) reconsKnown_q21) reconsKnown_q22) xs7) reconsKnown_q24) xs8) xs9) xs_) xt0) reconsKnown_q29) reconsKnown_q30) reconsKnown_q31) reconsKnown_q32)
theorem reconsKnown_wft:Rows.reconsKnownRow.wfByText (OpenSpec.ofChange Rows.reconsKnownSpec)=true:=by kernel_rfl
theorem reconsKnown_goes:false=Rows.reconsKnownRow.goesBy Tryz.pinned.checked.prog:=by kernel_rfl
theorem reconsKnown_row:Rows.ReconsKnownSaid :=
 OpenClaim.holds_of_wide 11 Tryz.f11 rfl rfl rfl rfl rfl rfl rfl ⟨rfl,rfl,rfl,rfl,rfl⟩ rfl rfl rfl rfl rfl (by kernel_rfl) Tryz.func11 reconsKnown_closed
  (of_decide_eq_true (by kernel_rfl)) (by unfold Func.isWrapper;first|(rw [if_pos (by decide +kernel)];kernel_rfl)|(rw [if_neg (by decide +kernel)];exact ⟨rfl,rfl⟩))
  (fun os started H enc _=>reconsKnown_lifted os started H enc)
theorem reconsKnown_holds:Rows.ReconsKnownCardSaid :=
 Claim7.holds_tied_plain_at .later [] [.data,.data,.data] true (true, "afc079fd19886976e46ad6200161126b18fba977a1a09a428d032e19cd27660d") false reconsKnown_row (fun _ h=>by cases h) reconsKnown_wft (fun _ h=>by cases h) reconsKnown_row_tie rfl ⟨rfl,rfl⟩ qY3 rfl
  (fun f fn hf hfn=>by
   obtain rfl:f=11:=Option.some.inj ((show Tryz.prog.funcNamed "gusset/gussetlaw07.ReconsKnown" = some 11 by kernel_rfl).symm.trans hf) |>.symm
   obtain rfl:fn=Tryz.f11:=(Option.some.inj (Tryz.func11.symm.trans hfn)).symm
   exact ⟨qN9,fun j t ht=>by
    rw [Tryz.params11] at ht
    simp at ht⟩)
  reconsKnown_goes
end Go.Proofs.YtobojnodohjiaaaGreatDoor
