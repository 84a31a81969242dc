
/- RootsKnown: the law's walk (closed). No condition. -/
import Derived.Test.YtaflakcemiilaaaGreatDoorBothR
import Derived.Test.YtaflakcemiilaaaGreatDoorBtwR
import Derived.Test.YtaflakcemiilaaaGreatDoorRefuseR
import Derived.Test.YtaflakcemiilaaaGreatDoorExactR
import Derived.Test.YtaflakcemiilaaaGreatDoorRiseR
import Derived.Test.YtaflakcemiilaaaGreatDoorOrderR
set_option maxRecDepth 100000
set_option maxHeartbeats 16000000
set_option linter.unusedVariables false
set_option linter.unusedSimpArgs false
namespace Go.Proofs.YtaflakcemiilaaaGreatDoor
open Go.RowKit
attribute [local go_sem ↓] Go.wp_at_zero Go.wp_at_succ
attribute [local go_sem ↓] qd6 qa7 qf4
attribute [local go_sem] Instr.field asAgg
theorem xg_ {w:World} {b T:Nat} {x:Int} (hx:0≤x) (h:Bx w b T #[.int .u32 x]):Wa w (.slice (some ⟨b,0,none⟩) 1 1) 1 fun _=>x.toNat :=
 .inr ⟨b,0,1,rfl,h.lt,fun i hi=>by
  obtain rfl:i=0:=by omega
  have:=h.cells w (Gr.refl _) 0
  rw [show ((x.toNat:Nat):Int)=x from by omega]
  exact this⟩
theorem xj7 {x:Int} (hx:0≤x) (hy:x<4294967296):∀ i,i<1→(fun _:Nat=>x.toNat) i<4294967296:=fun i hi=>by show x.toNat<4294967296;omega
theorem xB8 {w:World} {b T:Nat} {n d:Int} (h:Bx w b T #[.int .i64 n,.int .u32 d]):Qs w (.slice (some ⟨b,0,none⟩) 1 1) 1 (fun _=>n) (fun _=>d) :=
 .inr ⟨b,0,1,rfl,h.lt,fun i hi=>by
  obtain rfl:i=0:=by omega
  exact ⟨h.cells w (Gr.refl _) 0,h.cells w (Gr.refl _) 1⟩⟩
theorem xe7 {w:World} {b T:Nat} {n d n' d':Int} (h:Bx w b T #[.int .i64 n,.int .u32 d,.int .i64 n,.int .u32 d,.int .i64 n',.int .u32 d']):Qs w (.slice (some ⟨b,0,none⟩) 3 3) 3 (fun i=>if i<2 then n else n') (fun i=>if i<2 then d else d') :=
 .inr ⟨b,0,3,rfl,h.lt,fun i hi=>by
  rcases (by omega:i=0∨i=1∨i=2) with rfl|rfl|rfl
  ·exact ⟨h.cells w (Gr.refl _) 0,h.cells w (Gr.refl _) 1⟩
  ·exact ⟨h.cells w (Gr.refl _) 2,h.cells w (Gr.refl _) 3⟩
  ·exact ⟨h.cells w (Gr.refl _) 4,h.cells w (Gr.refl _) 5⟩⟩
theorem xA9 {n d:Int} (h1:-9223372036854775808≤n) (h2:n≤9223372036854775807) (h3:0≤d) (h4:d≤4294967295):Qb 1 (fun _=>n) (fun _=>d):=fun i hi=>⟨h1,h2,h3,h4⟩
theorem xc4 {n d n' d':Int} (h1:-9223372036854775808≤n∧n≤9223372036854775807∧0≤d∧d≤4294967295) (h2:-9223372036854775808≤n'∧n'≤9223372036854775807∧0≤d'∧d'≤4294967295):Qb 3 (fun i=>if i<2 then n else n') (fun i=>if i<2 then d else d'):=by
 intro i hi
 by_cases h:i<2 <;> simp only [h,if_true,if_false] <;> assumption
theorem qJ7 {P:Program} {f:FuncId} {ar:Array Value} {Q:Ending→World→Prop} {w0 W:World} {L:List Fk} (h:HP w0 W L) (k:∀ W',Hid (HP w0 W' L)→Calls P f ar W' Q):Calls P f ar W Q:=k W (lh_ h)
theorem qN9 (w:World) (HT:Hid (Tab w)):Calls Tryz.prog 10 #[] w fun e w'=>e=.returned (.bool true)∧Below w.heap.size w w':=by
 go_enter Tryz.func10,Tryz.ntmps10
 go_wp2_with fail
 go_loopw [1] (fun m wr=>∃ m':Int,-2≤m'∧m'≤20∧m=.int .i64 m'∧Hid (Gr w wr)) (fun m _=>(20 - intOf m).toNat)
 case atStart=>exact ⟨-2,by omega,by omega,rfl,lh_ (Gr.refl _)⟩
 case round =>
  obtain ⟨m,ml,mh,rfl,HGm⟩:=hrel
  by_cases hm:m<20
  ·go_wp2_with fail
   obtain ⟨wo,rfl⟩:∃ wo:World,wo=wr:=⟨_,rfl⟩
   go_loopw [2] (fun n wr=>∃ n':Int,1≤n'∧n'≤6∧n=.int .u32 n'∧Hid (Gr w wr)) (fun n _=>(6 - intOf n).toNat)
   case atStart=>exact ⟨1,by omega,by omega,rfl,HGm⟩
   case round =>
    obtain ⟨n,nl,nh,rfl,HGn⟩:=hrel
    by_cases hn:n<6
    ·have wm:IntKind.i64.wrap (-m) = -m:=by rw [IntKind.wrap_i64];omega
     have wm3:IntKind.i64.wrap (m - 3)=m - 3:=by rw [IntKind.wrap_i64];omega
     have wm2:IntKind.i64.wrap (m+2)=m+2:=by rw [IntKind.wrap_i64];omega
     have wm4:IntKind.i64.wrap (4*m)=4*m:=by rw [IntKind.wrap_i64];omega
     have wmi:IntKind.i64.wrap m=m:=by rw [IntKind.wrap_i64];omega
     have wni:IntKind.i64.wrap n=n:=by rw [IntKind.wrap_i64];omega
     have wn8:IntKind.u8.wrap n=n:=by rw [IntKind.wrap_u8];omega
     have wm8:IntKind.u8.wrap (m+2)=m+2:=by rw [IntKind.wrap_u8];omega
     go_wp2_with fail
     all_goals
      refine qJ7 ((((((hp0 wr).al (b:=wr.heap.size) rfl (by decide)).al (b:=wr.heap.size+1) (by simp) (by decide)).al (b:=wr.heap.size+1+1) (by simp) (by decide)).al (b:=wr.heap.size+1+1+1) (by simp) (by decide)).al (b:=wr.heap.size+1+1+1+1) (by simp) (by decide)) fun W1 I=>?_
      generalize wr.heap.size+1+1+1+1=g5 at *
      generalize wr.heap.size+1+1+1=g4 at *
      generalize wr.heap.size+1+1=g3 at *
      generalize wr.heap.size+1=g2 at *
      generalize wr.heap.size=g1 at *
      have Z1:=lh_ (xg_ om (I.out.bx 3 rfl))
      have Y1:=lh_ (xj7 (x:=max m (-m)) om om)
      have Z2:=lh_ (xg_ om (I.out.bx 4 rfl))
      have Y2:=lh_ (xj7 (x:=n) om om)
      have l1:=c0_ I
      have l2:=c1_ I
      have l3:=c2_ I
      have J:=lh_ (Gr.trans HGn.out I.out.1)
      have HTW:=lh_ (HT.out.gr J.out)
      clear I
      refine (qz5 m n n _ om om om om HTW).mono ?_
      rintro e V1 ⟨rfl,hb1⟩
      have H1:=lh_ (Gr.trans (Gr.refl _) hb1)
      have r1:=H1.out
      clear hb1
      go_wp2_with fail
      clear r1
      refine (xm5 false _ 1 _ _ 1 _ (m+2) _ (lh_ (Z1.out.gr H1.out)) Y1 (lh_ (Z2.out.gr H1.out)) Y2 om om (lh_ (HTW.out.gr H1.out))).mono ?_
      rintro e V2 ⟨rfl,hb2⟩
      have H2:=lh_ (H1.out.trans hb2)
      have r2:=H2.out
      clear hb2
      go_wp2_with fail
      clear r2
      refine (qm9 m n m _ om om om om (lh_ (HTW.out.gr H2.out))).mono ?_
      rintro e V3 ⟨rfl,hb3⟩
      have H3:=lh_ (H2.out.trans hb3)
      have r3:=H3.out
      clear hb3
      go_wp2_with fail
      clear r3
      refine (xn4 false _ 1 _ _ 1 _ false _ 1 _ _ 1 _ _ (lh_ (Z1.out.gr H3.out)) Y1 (lh_ (Z2.out.gr H3.out)) Y2 (lh_ (Z1.out.gr H3.out)) Y1 (lh_ (Z2.out.gr H3.out)) Y2 (lh_ (HTW.out.gr H3.out))).mono ?_
      rintro e V4 ⟨rfl,hb4⟩
      have H4:=lh_ (H3.out.trans hb4)
      have r4:=H4.out
      clear hb4
      go_wp2_with fail
      clear r4
      refine (qJ8 m n (m - 3) 2 n (m+2) _ om om om om om om om om om om om om (lh_ (HTW.out.gr H4.out))).mono ?_
      rintro e V5 ⟨rfl,hb5⟩
      have H5:=lh_ (H4.out.trans hb5)
      have r5:=H5.out
      clear hb5
      go_wp2_with fail
      clear r5
      refine qJ7 ((hp0 V5).al (b:=V5.heap.size) rfl (by decide)) fun U6 I=>?_
      generalize V5.heap.size=g6 at *
      have HQ:=lh_ (xe7 (I.out.bx 0 rfl))
      have G6:=lh_ (H5.out.trans I.out.1)
      clear I
      refine (qC4 m n (m - 3) 2 _ 3 _ _ _ om om om om om om om om HQ (lh_ (xc4 om om)) (lh_ (HTW.out.gr G6.out))).mono ?_
      clear HQ
      rintro e V6 ⟨rfl,hb6⟩
      have H6:=lh_ (G6.out.trans hb6)
      have r6:=H6.out
      clear hb6 G6
      go_wp2_with fail
      clear r6
      refine qJ7 ((hp0 V6).al (b:=V6.heap.size) rfl (by decide)) fun U7 I=>?_
      generalize V6.heap.size=g7 at *
      have HQ:=lh_ (xB8 (I.out.bx 0 rfl))
      have G7:=lh_ (H6.out.trans I.out.1)
      clear I
      refine (qC4 m n m n _ 1 _ _ _ om om om om om om om om HQ (lh_ (xA9 om om om om)) (lh_ (HTW.out.gr G7.out))).mono ?_
      clear HQ
      rintro e V7 ⟨rfl,hb7⟩
      have HG7:=lh_ (Gr.trans J.out (G7.out.trans hb7))
      clear hb7 l1 l2 l3 H1 H2 H3 H4 H5 H6 G7
      have wi:IntKind.u32.wrap (n+1)=n+1:=by rw [IntKind.wrap_u32];omega
      go_wp2_with fail
      go_roundw
      case rel=>exact ⟨n+1,by omega,by omega,rfl,HG7⟩
      case measure=>simp [intOf];omega
    ·have wi:IntKind.i64.wrap (m+1)=m+1:=by rw [IntKind.wrap_i64];omega
     go_wp2_with fail
     go_roundw
     case rel=>exact ⟨m+1,by omega,by omega,rfl,HGn⟩
     case measure=>simp [intOf];omega
  ·go_wp2_with fail
   refine qJ7 ((hp0 wr).al (b:=wr.heap.size) rfl (by decide)) fun W1 I=>?_
   have l1:=c0_ I
   have J:=lh_ (Gr.trans HGm.out I.out.1)
   have HTW:=lh_ (HT.out.gr J.out)
   generalize wr.heap.size=g1 at *
   clear I
   refine (qJ8 2 1 2 1 100 99 _ om om om om om om om om om om om om HTW).mono ?_
   rintro e V1 ⟨rfl,hb1⟩
   have H1:=lh_ (Gr.trans (Gr.refl _) hb1)
   have r1:=H1.out
   clear hb1
   go_wp2_with fail
   clear r1
   refine (qm9 2 1 101 _ om om om om (lh_ (HTW.out.gr H1.out))).mono ?_
   rintro e V2 ⟨rfl,hb2⟩
   have H2:=lh_ (H1.out.trans hb2)
   have r2:=H2.out
   clear hb2
   go_wp2_with fail
   clear r2
   refine (qm9 2 1 (-9223372036854775808) _ om om om om (lh_ (HTW.out.gr H2.out))).mono ?_
   rintro e V3 ⟨rfl,hb3⟩
   have H3:=lh_ (H2.out.trans hb3)
   have r3:=H3.out
   clear hb3
   go_wp2_with fail
   clear r3
   refine (qm9 (-1) 1 101 _ om om om om (lh_ (HTW.out.gr H3.out))).mono ?_
   rintro e V4 ⟨rfl,hb4⟩
   have H4:=lh_ (H3.out.trans hb4)
   have r4:=H4.out
   clear hb4
   go_wp2_with fail
   clear r4
   refine (qz5 2 1 100 _ om om om om (lh_ (HTW.out.gr H4.out))).mono ?_
   rintro e V5 ⟨rfl,hb5⟩
   have H5:=lh_ (H4.out.trans hb5)
   have r5:=H5.out
   clear hb5
   go_wp2_with fail
   clear r5
   refine (qz5 2 1 101 _ om om om om (lh_ (HTW.out.gr H5.out))).mono ?_
   rintro e V6 ⟨rfl,hb6⟩
   have H6:=lh_ (H5.out.trans hb6)
   have r6:=H6.out
   clear hb6
   go_wp2_with fail
   clear r6
   refine (qa6 _ (lh_ (HTW.out.gr H6.out))).mono ?_
   rintro e V7 ⟨rfl,hb⟩
   have HGf:=lh_ (Gr.trans J.out (H6.out.trans hb))
   clear hb
   go_wp2_with fail
   exact bodyPost_ret (v:=.bool true) (by simp [results,Tryz.results10,go_sem]) rfl ⟨rfl,HGf.out⟩
end Go.Proofs.YtaflakcemiilaaaGreatDoor
