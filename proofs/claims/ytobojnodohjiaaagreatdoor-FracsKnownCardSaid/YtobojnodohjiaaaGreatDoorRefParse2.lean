
/- gussetref02.Parse: the integer of a decimal form, the code. -/
import Derived.Test.YtobojnodohjiaaaGreatDoorPQ
import Derived.Test.YtobojnodohjiaaaGreatDoorZrA
set_option maxRecDepth 100000
set_option maxHeartbeats 16000000
set_option linter.unusedVariables false
set_option linter.unusedSimpArgs false
namespace Go.Proofs.YtobojnodohjiaaaGreatDoor
open Go.RowKit
theorem qg0 (s:ByteArray):ineg s=true ↔ 0<s.size∧byt s 0=45:=by
 unfold ineg Lib.hasPrefix
 have hl:s.data.toList.length=s.size:=Array.length_toList
 cases hd:s.data.toList with
 | nil =>
  rw [hd] at hl
  have:s.size=0:=hl.symm
  simp [this]
 | cons c l =>
  rw [hd] at hl
  have h0:0<s.size:=by rw [← hl];exact Nat.succ_pos _
  have hb:=qk1 s 0 h0
  simp only [hd,List.getElem_cons_zero] at hb
  rw [hb]
  simp only [List.isPrefixOf,Bool.and_true,beq_iff_eq,h0,true_and]
  constructor
  ·rintro rfl;rfl
  intro h;exact (UInt8.toNat_inj.1 (h.trans rfl)).symm
theorem qs1 {s:ByteArray} (h:ineg s=true):idig s=s.extract 1 s.size:=by
 have h0:=h
 unfold ineg at h0
 rw [show ([45]:List UInt8)=(⟨#[45]⟩:ByteArray).data.toList from rfl,← Lib.hasPrefix_raw,Bool.and_eq_true,decide_eq_true_eq] at h0
 exact Lib.trimPrefix_hit s ⟨#[45]⟩ h0.1 h0.2
theorem qs2 {s:ByteArray} (h:ineg s=false):idig s=s:=by
 unfold ineg at h
 unfold idig Lib.trimPrefix
 rw [h]
 cases s;simp
def RP (s:ByteArray) (w':World) (e:Ending):Prop:=∃ v,e=.returned (.tuple #[.agg #[.bool (decide (inum s<0)),v],.int .i64 (qc0 s)])∧Rn w' v (inum s).natAbs
theorem qt_ {s:ByteArray} {c:Int} (hc:qc0 s=c) (h0:c≠0) (w':World):RP s w' (.returned (.tuple #[.agg #[.bool false,.slice none 0 0],.int .i64 c])):=by
 have h1:inum s=0:=qm8 (by rw [hc];exact h0)
 refine ⟨.slice none 0 0,?_,?_⟩
 ·rw [h1,hc];rfl
 rw [h1];exact Rn.nil w'
theorem qX5 (s d:ByteArray) (w:World) (hs:s.size≤9223372036854775807) (HNG:Hid (ineg s=true)) (HD:Hid (idig s=d)) (HPC:Hid (qb8 d=3)) (HPN:Hid (pnum d=0)) (HC:Hid (qc0 s=3)) :
  Calls Tryz.prog 233 #[.string s] w fun e w'=>RP s w' e∧Gr w w':=by
 have hds:d.size≤9223372036854775807:=by rw [← HD.out];exact Nat.le_trans (qf1 s) hs
 obtain ⟨h00,hb0⟩:=(qg0 s).1 HNG.out
 have hd:s.extract 1 s.size=d:=by rw [← HD.out,qs1 HNG.out]
 have hb:(s[0]'h00).toNat=45:=by rw [qd_ h00,hb0]
 have h1:1≤s.size:=h00
 clear hb0
 have HB0:Hid (Below w.heap.size w (w.alloc (.cells #[.bool false,.slice none 0 0] 45))):=lh_ ((Below.refl _ _).alloc (Nat.le_refl _) _)
 have HX0:Hid (Bx (w.alloc (.cells #[.bool false,.slice none 0 0] 45)) w.heap.size 45 #[.bool false,.slice none 0 0]):=lh_ (Bx.new _ _ _)
 go_enter Tryz.func233,Tryz.ntmps233
 go_wp2_with fail
 refine (qe2 d 0 3 _ HPN.out HPC.out hds).mono ?_
 rintro e w1 ⟨⟨v1,rfl,hv1⟩,hb1⟩
 have HX1:=lh_ (HX0.out.gr hb1)
 have HB1:=lh_ (HB0.out.trans (hb1.mono HB0.out.size))
 obtain ⟨ao,nn,cc,rfl⟩:=Rn.sl hv1
 have hlen:=Rn.len hv1
 have HV1:=lh_ hv1
 clear hb1 hv1 HX0 HB0
 have lx:=HX1.out.cells;have fx:=HX1.out.free;have r0:=Gr.refl w1
 clear hlen
 go_wp2_with fail
 exact bodyPost_ret (v:=.tuple #[.agg #[.bool false,.slice none 0 0],.int .i64 3]) qG4 rfl ⟨qt_ HC.out (by decide) _,((HB1.out.setCell (Nat.le_refl _) _).setCell (Nat.le_refl _) _)⟩
theorem qX6 (s d:ByteArray) (w:World) (hs:s.size≤9223372036854775807) (HNG:Hid (ineg s=true)) (HD:Hid (idig s=d)) (HPC:Hid (qb8 d=4)) (HPN:Hid (pnum d=0)) (HC:Hid (qc0 s=4)) :
  Calls Tryz.prog 233 #[.string s] w fun e w'=>RP s w' e∧Gr w w':=by
 have hds:d.size≤9223372036854775807:=by rw [← HD.out];exact Nat.le_trans (qf1 s) hs
 obtain ⟨h00,hb0⟩:=(qg0 s).1 HNG.out
 have hd:s.extract 1 s.size=d:=by rw [← HD.out,qs1 HNG.out]
 have hb:(s[0]'h00).toNat=45:=by rw [qd_ h00,hb0]
 have h1:1≤s.size:=h00
 clear hb0
 have HB0:Hid (Below w.heap.size w (w.alloc (.cells #[.bool false,.slice none 0 0] 45))):=lh_ ((Below.refl _ _).alloc (Nat.le_refl _) _)
 have HX0:Hid (Bx (w.alloc (.cells #[.bool false,.slice none 0 0] 45)) w.heap.size 45 #[.bool false,.slice none 0 0]):=lh_ (Bx.new _ _ _)
 go_enter Tryz.func233,Tryz.ntmps233
 go_wp2_with fail
 refine (qe2 d 0 4 _ HPN.out HPC.out hds).mono ?_
 rintro e w1 ⟨⟨v1,rfl,hv1⟩,hb1⟩
 have HX1:=lh_ (HX0.out.gr hb1)
 have HB1:=lh_ (HB0.out.trans (hb1.mono HB0.out.size))
 obtain ⟨ao,nn,cc,rfl⟩:=Rn.sl hv1
 have hlen:=Rn.len hv1
 have HV1:=lh_ hv1
 clear hb1 hv1 HX0 HB0
 have lx:=HX1.out.cells;have fx:=HX1.out.free;have r0:=Gr.refl w1
 clear hlen
 go_wp2_with fail
 exact bodyPost_ret (v:=.tuple #[.agg #[.bool false,.slice none 0 0],.int .i64 4]) qG4 rfl ⟨qt_ HC.out (by decide) _,((HB1.out.setCell (Nat.le_refl _) _).setCell (Nat.le_refl _) _)⟩
theorem qX8 (s d:ByteArray) (w:World) (hs:s.size≤9223372036854775807) (HNG:Hid (ineg s=true)) (HD:Hid (idig s=d)) (HPC:Hid (qb8 d=0)) (HPN:Hid (pnum d=0)) (HC:Hid (qc0 s=4)) :
  Calls Tryz.prog 233 #[.string s] w fun e w'=>RP s w' e∧Gr w w':=by
 have hds:d.size≤9223372036854775807:=by rw [← HD.out];exact Nat.le_trans (qf1 s) hs
 obtain ⟨h00,hb0⟩:=(qg0 s).1 HNG.out
 have hd:s.extract 1 s.size=d:=by rw [← HD.out,qs1 HNG.out]
 have hb:(s[0]'h00).toNat=45:=by rw [qd_ h00,hb0]
 have h1:1≤s.size:=h00
 clear hb0
 have HB0:Hid (Below w.heap.size w (w.alloc (.cells #[.bool false,.slice none 0 0] 45))):=lh_ ((Below.refl _ _).alloc (Nat.le_refl _) _)
 have HX0:Hid (Bx (w.alloc (.cells #[.bool false,.slice none 0 0] 45)) w.heap.size 45 #[.bool false,.slice none 0 0]):=lh_ (Bx.new _ _ _)
 go_enter Tryz.func233,Tryz.ntmps233
 go_wp2_with fail
 refine (qe2 d 0 0 _ HPN.out HPC.out hds).mono ?_
 rintro e w1 ⟨⟨v1,rfl,hv1⟩,hb1⟩
 have HX1:=lh_ (HX0.out.gr hb1)
 have HB1:=lh_ (HB0.out.trans (hb1.mono HB0.out.size))
 obtain ⟨ao,nn,cc,rfl⟩:=Rn.sl hv1
 have hlen:=Rn.len hv1
 have HV1:=lh_ hv1
 clear hb1 hv1 HX0 HB0
 have lx:=HX1.out.cells;have fx:=HX1.out.free;have r0:=Gr.refl w1
 have hlz2:((nn:Int) == 0)=true:=by rw [hlen,qf3];rfl
 clear hlen
 go_wp2_with fail
 exact bodyPost_ret (v:=.tuple #[.agg #[.bool false,.slice none 0 0],.int .i64 4]) qG4 rfl ⟨qt_ HC.out (by decide) _,((HB1.out.setCell (Nat.le_refl _) _).setCell (Nat.le_refl _) _)⟩
theorem qX7 (s d:ByteArray) (w:World) (hs:s.size≤9223372036854775807) (HNG:Hid (ineg s=true)) (HD:Hid (idig s=d)) (HPC:Hid (qb8 d=0)) (n:Nat) (z:Int) (HPN:Hid (pnum d=n)) (hn:0<n) (hnw:tw n≤1100) (HZ:Hid (-((n:Nat):Int)=z)) (HC:Hid (qc0 s=0)) (HIZ:Hid (inum s=z)) :
  Calls Tryz.prog 233 #[.string s] w fun e w'=>RP s w' e∧Gr w w':=by
 have hds:d.size≤9223372036854775807:=by rw [← HD.out];exact Nat.le_trans (qf1 s) hs
 obtain ⟨h00,hb0⟩:=(qg0 s).1 HNG.out
 have hd:s.extract 1 s.size=d:=by rw [← HD.out,qs1 HNG.out]
 have hb:(s[0]'h00).toNat=45:=by rw [qd_ h00,hb0]
 have h1:1≤s.size:=h00
 clear hb0
 have HB0:Hid (Below w.heap.size w (w.alloc (.cells #[.bool false,.slice none 0 0] 45))):=lh_ ((Below.refl _ _).alloc (Nat.le_refl _) _)
 have HX0:Hid (Bx (w.alloc (.cells #[.bool false,.slice none 0 0] 45)) w.heap.size 45 #[.bool false,.slice none 0 0]):=lh_ (Bx.new _ _ _)
 go_enter Tryz.func233,Tryz.ntmps233
 go_wp2_with fail
 refine (qe2 d n 0 _ HPN.out HPC.out hds).mono ?_
 rintro e w1 ⟨⟨v1,rfl,hv1⟩,hb1⟩
 have HX1:=lh_ (HX0.out.gr hb1)
 have HB1:=lh_ (HB0.out.trans (hb1.mono HB0.out.size))
 obtain ⟨ao,nn,cc,rfl⟩:=Rn.sl hv1
 have hlen:=Rn.len hv1
 have HV1:=lh_ hv1
 clear hb1 hv1 HX0 HB0
 have lx:=HX1.out.cells;have fx:=HX1.out.free;have r0:=Gr.refl w1
 have ht:0<tw n:=qo1 om
 have hlz2:((nn:Int) == 0)=false:=by have h9:¬ (nn:Int)=0:=om;simpa using h9
 clear ht hlen hn hnw
 go_wp2_with fail
 refine (qa8 true n z _ _ (by first|exact HZ.out|(simp;exact HZ.out)) HV1.out).mono ?_
 rintro e w2 ⟨⟨v2,rfl,hv2⟩,hb2⟩
 have HX2:=lh_ (HX1.out.gr hb2)
 have HB2:=lh_ (HB1.out.trans (hb2.mono HB1.out.size))
 obtain ⟨ao2,nn2,cc2,rfl⟩:=Rn.sl hv2
 have HV2:=lh_ hv2
 clear hb2 hv2 lx fx r0
 have lx:=HX2.out.cells;have fx:=HX2.out.free;have r0:=Gr.refl w2
 go_wp2_with fail
 exact bodyPost_ret (v:=.tuple #[.agg #[.bool (decide ((z:Int)<0)),.slice ao2 nn2 cc2],.int .i64 0]) xa9 rfl ⟨⟨_,by rw [HC.out,HIZ.out],by rw [HIZ.out];exact (HV2.out.setOther (Rn.ne HV2.out HX2.out (by decide)) _).setOther (Rn.ne HV2.out HX2.out (by decide)) _⟩,(HB2.out.setCell (Nat.le_refl _) _).setCell (Nat.le_refl _) _⟩
theorem qN9 (s d:ByteArray) (w:World) (hs:s.size≤9223372036854775807) (HNG:Hid (ineg s=false)) (HD:Hid (idig s=d)) (HPC:Hid (qb8 d=3)) (HPN:Hid (pnum d=0)) (HC:Hid (qc0 s=3)) :
  Calls Tryz.prog 233 #[.string s] w fun e w'=>RP s w' e∧Gr w w':=by
 have hds:d.size≤9223372036854775807:=by rw [← HD.out];exact Nat.le_trans (qf1 s) hs
 obtain rfl:s=d:=by rw [← HD.out,qs2 HNG.out]
 have hnb:∀ h:0<s.size,¬ (s[0]'h).toNat=45:=fun h1 h2=>by have h3:=(qg0 s).2 ⟨h1,by rw [← qd_ h1];exact h2⟩; rw [HNG.out] at h3;cases h3
 have HB0:Hid (Below w.heap.size w (w.alloc (.cells #[.bool false,.slice none 0 0] 45))):=lh_ ((Below.refl _ _).alloc (Nat.le_refl _) _)
 have HX0:Hid (Bx (w.alloc (.cells #[.bool false,.slice none 0 0] 45)) w.heap.size 45 #[.bool false,.slice none 0 0]):=lh_ (Bx.new _ _ _)
 by_cases h00:0<s.size
 ·have hb:=hnb h00
  clear hnb
  go_enter Tryz.func233,Tryz.ntmps233
  go_wp2_with fail
  refine (qe2 s 0 3 _ HPN.out HPC.out hds).mono ?_
  rintro e w1 ⟨⟨v1,rfl,hv1⟩,hb1⟩
  have HX1:=lh_ (HX0.out.gr hb1)
  have HB1:=lh_ (HB0.out.trans (hb1.mono HB0.out.size))
  obtain ⟨ao,nn,cc,rfl⟩:=Rn.sl hv1
  have hlen:=Rn.len hv1
  have HV1:=lh_ hv1
  clear hb1 hv1 HX0 HB0
  have lx:=HX1.out.cells;have fx:=HX1.out.free;have r0:=Gr.refl w1
  clear hlen
  go_wp2_with fail
  exact bodyPost_ret (v:=.tuple #[.agg #[.bool false,.slice none 0 0],.int .i64 3]) qG4 rfl ⟨qt_ HC.out (by decide) _,((HB1.out.setCell (Nat.le_refl _) _).setCell (Nat.le_refl _) _)⟩
 clear hnb
 go_enter Tryz.func233,Tryz.ntmps233
 go_wp2_with fail
 refine (qe2 s 0 3 _ HPN.out HPC.out hds).mono ?_
 rintro e w1 ⟨⟨v1,rfl,hv1⟩,hb1⟩
 have HX1:=lh_ (HX0.out.gr hb1)
 have HB1:=lh_ (HB0.out.trans (hb1.mono HB0.out.size))
 obtain ⟨ao,nn,cc,rfl⟩:=Rn.sl hv1
 have hlen:=Rn.len hv1
 have HV1:=lh_ hv1
 clear hb1 hv1 HX0 HB0
 have lx:=HX1.out.cells;have fx:=HX1.out.free;have r0:=Gr.refl w1
 clear hlen
 go_wp2_with fail
 exact bodyPost_ret (v:=.tuple #[.agg #[.bool false,.slice none 0 0],.int .i64 3]) qG4 rfl ⟨qt_ HC.out (by decide) _,((HB1.out.setCell (Nat.le_refl _) _).setCell (Nat.le_refl _) _)⟩
theorem qN_ (s d:ByteArray) (w:World) (hs:s.size≤9223372036854775807) (HNG:Hid (ineg s=false)) (HD:Hid (idig s=d)) (HPC:Hid (qb8 d=4)) (HPN:Hid (pnum d=0)) (HC:Hid (qc0 s=4)) :
  Calls Tryz.prog 233 #[.string s] w fun e w'=>RP s w' e∧Gr w w':=by
 have hds:d.size≤9223372036854775807:=by rw [← HD.out];exact Nat.le_trans (qf1 s) hs
 obtain rfl:s=d:=by rw [← HD.out,qs2 HNG.out]
 have hnb:∀ h:0<s.size,¬ (s[0]'h).toNat=45:=fun h1 h2=>by have h3:=(qg0 s).2 ⟨h1,by rw [← qd_ h1];exact h2⟩; rw [HNG.out] at h3;cases h3
 have HB0:Hid (Below w.heap.size w (w.alloc (.cells #[.bool false,.slice none 0 0] 45))):=lh_ ((Below.refl _ _).alloc (Nat.le_refl _) _)
 have HX0:Hid (Bx (w.alloc (.cells #[.bool false,.slice none 0 0] 45)) w.heap.size 45 #[.bool false,.slice none 0 0]):=lh_ (Bx.new _ _ _)
 by_cases h00:0<s.size
 ·have hb:=hnb h00
  clear hnb
  go_enter Tryz.func233,Tryz.ntmps233
  go_wp2_with fail
  refine (qe2 s 0 4 _ HPN.out HPC.out hds).mono ?_
  rintro e w1 ⟨⟨v1,rfl,hv1⟩,hb1⟩
  have HX1:=lh_ (HX0.out.gr hb1)
  have HB1:=lh_ (HB0.out.trans (hb1.mono HB0.out.size))
  obtain ⟨ao,nn,cc,rfl⟩:=Rn.sl hv1
  have hlen:=Rn.len hv1
  have HV1:=lh_ hv1
  clear hb1 hv1 HX0 HB0
  have lx:=HX1.out.cells;have fx:=HX1.out.free;have r0:=Gr.refl w1
  clear hlen
  go_wp2_with fail
  exact bodyPost_ret (v:=.tuple #[.agg #[.bool false,.slice none 0 0],.int .i64 4]) qG4 rfl ⟨qt_ HC.out (by decide) _,((HB1.out.setCell (Nat.le_refl _) _).setCell (Nat.le_refl _) _)⟩
 clear hnb
 go_enter Tryz.func233,Tryz.ntmps233
 go_wp2_with fail
 refine (qe2 s 0 4 _ HPN.out HPC.out hds).mono ?_
 rintro e w1 ⟨⟨v1,rfl,hv1⟩,hb1⟩
 have HX1:=lh_ (HX0.out.gr hb1)
 have HB1:=lh_ (HB0.out.trans (hb1.mono HB0.out.size))
 obtain ⟨ao,nn,cc,rfl⟩:=Rn.sl hv1
 have hlen:=Rn.len hv1
 have HV1:=lh_ hv1
 clear hb1 hv1 HX0 HB0
 have lx:=HX1.out.cells;have fx:=HX1.out.free;have r0:=Gr.refl w1
 clear hlen
 go_wp2_with fail
 exact bodyPost_ret (v:=.tuple #[.agg #[.bool false,.slice none 0 0],.int .i64 4]) qG4 rfl ⟨qt_ HC.out (by decide) _,((HB1.out.setCell (Nat.le_refl _) _).setCell (Nat.le_refl _) _)⟩
theorem qO1 (s d:ByteArray) (w:World) (hs:s.size≤9223372036854775807) (HNG:Hid (ineg s=false)) (HD:Hid (idig s=d)) (HPC:Hid (qb8 d=0)) (HPN:Hid (pnum d=0)) (HC:Hid (qc0 s=0)) (HIZ:Hid (inum s=0)) :
  Calls Tryz.prog 233 #[.string s] w fun e w'=>RP s w' e∧Gr w w':=by
 have hds:d.size≤9223372036854775807:=by rw [← HD.out];exact Nat.le_trans (qf1 s) hs
 obtain rfl:s=d:=by rw [← HD.out,qs2 HNG.out]
 have hnb:∀ h:0<s.size,¬ (s[0]'h).toNat=45:=fun h1 h2=>by have h3:=(qg0 s).2 ⟨h1,by rw [← qd_ h1];exact h2⟩; rw [HNG.out] at h3;cases h3
 have HB0:Hid (Below w.heap.size w (w.alloc (.cells #[.bool false,.slice none 0 0] 45))):=lh_ ((Below.refl _ _).alloc (Nat.le_refl _) _)
 have HX0:Hid (Bx (w.alloc (.cells #[.bool false,.slice none 0 0] 45)) w.heap.size 45 #[.bool false,.slice none 0 0]):=lh_ (Bx.new _ _ _)
 by_cases h00:0<s.size
 ·have hb:=hnb h00
  clear hnb
  go_enter Tryz.func233,Tryz.ntmps233
  go_wp2_with fail
  refine (qe2 s 0 0 _ HPN.out HPC.out hds).mono ?_
  rintro e w1 ⟨⟨v1,rfl,hv1⟩,hb1⟩
  have HX1:=lh_ (HX0.out.gr hb1)
  have HB1:=lh_ (HB0.out.trans (hb1.mono HB0.out.size))
  obtain ⟨ao,nn,cc,rfl⟩:=Rn.sl hv1
  have hlen:=Rn.len hv1
  have HV1:=lh_ hv1
  clear hb1 hv1 HX0 HB0
  have lx:=HX1.out.cells;have fx:=HX1.out.free;have r0:=Gr.refl w1
  have hlz2:((nn:Int) == 0)=true:=by rw [hlen,qf3];rfl
  clear hlen
  go_wp2_with fail
  refine (qa8 false 0 0 _ _ rfl HV1.out).mono ?_
  rintro e w2 ⟨⟨v2,rfl,hv2⟩,hb2⟩
  have HX2:=lh_ (HX1.out.gr hb2)
  have HB2:=lh_ (HB1.out.trans (hb2.mono HB1.out.size))
  obtain ⟨ao2,nn2,cc2,rfl⟩:=Rn.sl hv2
  have HV2:=lh_ hv2
  clear hb2 hv2 lx fx r0
  have lx:=HX2.out.cells;have fx:=HX2.out.free;have r0:=Gr.refl w2
  go_wp2_with fail
  exact bodyPost_ret (v:=.tuple #[.agg #[.bool (decide ((0:Int)<0)),.slice ao2 nn2 cc2],.int .i64 0]) xa9 rfl ⟨⟨_,by rw [HC.out,HIZ.out],by rw [HIZ.out];exact (HV2.out.setOther (Rn.ne HV2.out HX2.out (by decide)) _).setOther (Rn.ne HV2.out HX2.out (by decide)) _⟩,(HB2.out.setCell (Nat.le_refl _) _).setCell (Nat.le_refl _) _⟩
 clear hnb
 go_enter Tryz.func233,Tryz.ntmps233
 go_wp2_with fail
 refine (qe2 s 0 0 _ HPN.out HPC.out hds).mono ?_
 rintro e w1 ⟨⟨v1,rfl,hv1⟩,hb1⟩
 have HX1:=lh_ (HX0.out.gr hb1)
 have HB1:=lh_ (HB0.out.trans (hb1.mono HB0.out.size))
 obtain ⟨ao,nn,cc,rfl⟩:=Rn.sl hv1
 have hlen:=Rn.len hv1
 have HV1:=lh_ hv1
 clear hb1 hv1 HX0 HB0
 have lx:=HX1.out.cells;have fx:=HX1.out.free;have r0:=Gr.refl w1
 have hlz2:((nn:Int) == 0)=true:=by rw [hlen,qf3];rfl
 clear hlen
 go_wp2_with fail
 refine (qa8 false 0 0 _ _ rfl HV1.out).mono ?_
 rintro e w2 ⟨⟨v2,rfl,hv2⟩,hb2⟩
 have HX2:=lh_ (HX1.out.gr hb2)
 have HB2:=lh_ (HB1.out.trans (hb2.mono HB1.out.size))
 obtain ⟨ao2,nn2,cc2,rfl⟩:=Rn.sl hv2
 have HV2:=lh_ hv2
 clear hb2 hv2 lx fx r0
 have lx:=HX2.out.cells;have fx:=HX2.out.free;have r0:=Gr.refl w2
 go_wp2_with fail
 exact bodyPost_ret (v:=.tuple #[.agg #[.bool (decide ((0:Int)<0)),.slice ao2 nn2 cc2],.int .i64 0]) xa9 rfl ⟨⟨_,by rw [HC.out,HIZ.out],by rw [HIZ.out];exact (HV2.out.setOther (Rn.ne HV2.out HX2.out (by decide)) _).setOther (Rn.ne HV2.out HX2.out (by decide)) _⟩,(HB2.out.setCell (Nat.le_refl _) _).setCell (Nat.le_refl _) _⟩
theorem qO0 (s d:ByteArray) (w:World) (hs:s.size≤9223372036854775807) (HNG:Hid (ineg s=false)) (HD:Hid (idig s=d)) (HPC:Hid (qb8 d=0)) (n:Nat) (z:Int) (HPN:Hid (pnum d=n)) (hn:0<n) (hnw:tw n≤1100) (HZ:Hid (((n:Nat):Int)=z)) (HC:Hid (qc0 s=0)) (HIZ:Hid (inum s=z)) :
  Calls Tryz.prog 233 #[.string s] w fun e w'=>RP s w' e∧Gr w w':=by
 have hds:d.size≤9223372036854775807:=by rw [← HD.out];exact Nat.le_trans (qf1 s) hs
 obtain rfl:s=d:=by rw [← HD.out,qs2 HNG.out]
 have hnb:∀ h:0<s.size,¬ (s[0]'h).toNat=45:=fun h1 h2=>by have h3:=(qg0 s).2 ⟨h1,by rw [← qd_ h1];exact h2⟩; rw [HNG.out] at h3;cases h3
 have HB0:Hid (Below w.heap.size w (w.alloc (.cells #[.bool false,.slice none 0 0] 45))):=lh_ ((Below.refl _ _).alloc (Nat.le_refl _) _)
 have HX0:Hid (Bx (w.alloc (.cells #[.bool false,.slice none 0 0] 45)) w.heap.size 45 #[.bool false,.slice none 0 0]):=lh_ (Bx.new _ _ _)
 by_cases h00:0<s.size
 ·have hb:=hnb h00
  clear hnb
  go_enter Tryz.func233,Tryz.ntmps233
  go_wp2_with fail
  refine (qe2 s n 0 _ HPN.out HPC.out hds).mono ?_
  rintro e w1 ⟨⟨v1,rfl,hv1⟩,hb1⟩
  have HX1:=lh_ (HX0.out.gr hb1)
  have HB1:=lh_ (HB0.out.trans (hb1.mono HB0.out.size))
  obtain ⟨ao,nn,cc,rfl⟩:=Rn.sl hv1
  have hlen:=Rn.len hv1
  have HV1:=lh_ hv1
  clear hb1 hv1 HX0 HB0
  have lx:=HX1.out.cells;have fx:=HX1.out.free;have r0:=Gr.refl w1
  have ht:0<tw n:=qo1 om
  have hlz2:((nn:Int) == 0)=false:=by have h9:¬ (nn:Int)=0:=om;simpa using h9
  clear ht hlen hn hnw
  go_wp2_with fail
  refine (qa8 false n z _ _ (by first|exact HZ.out|(simp;exact HZ.out)) HV1.out).mono ?_
  rintro e w2 ⟨⟨v2,rfl,hv2⟩,hb2⟩
  have HX2:=lh_ (HX1.out.gr hb2)
  have HB2:=lh_ (HB1.out.trans (hb2.mono HB1.out.size))
  obtain ⟨ao2,nn2,cc2,rfl⟩:=Rn.sl hv2
  have HV2:=lh_ hv2
  clear hb2 hv2 lx fx r0
  have lx:=HX2.out.cells;have fx:=HX2.out.free;have r0:=Gr.refl w2
  go_wp2_with fail
  exact bodyPost_ret (v:=.tuple #[.agg #[.bool (decide ((z:Int)<0)),.slice ao2 nn2 cc2],.int .i64 0]) xa9 rfl ⟨⟨_,by rw [HC.out,HIZ.out],by rw [HIZ.out];exact (HV2.out.setOther (Rn.ne HV2.out HX2.out (by decide)) _).setOther (Rn.ne HV2.out HX2.out (by decide)) _⟩,(HB2.out.setCell (Nat.le_refl _) _).setCell (Nat.le_refl _) _⟩
 clear hnb
 go_enter Tryz.func233,Tryz.ntmps233
 go_wp2_with fail
 refine (qe2 s n 0 _ HPN.out HPC.out hds).mono ?_
 rintro e w1 ⟨⟨v1,rfl,hv1⟩,hb1⟩
 have HX1:=lh_ (HX0.out.gr hb1)
 have HB1:=lh_ (HB0.out.trans (hb1.mono HB0.out.size))
 obtain ⟨ao,nn,cc,rfl⟩:=Rn.sl hv1
 have hlen:=Rn.len hv1
 have HV1:=lh_ hv1
 clear hb1 hv1 HX0 HB0
 have lx:=HX1.out.cells;have fx:=HX1.out.free;have r0:=Gr.refl w1
 have ht:0<tw n:=qo1 om
 have hlz2:((nn:Int) == 0)=false:=by have h9:¬ (nn:Int)=0:=om;simpa using h9
 clear ht hlen hn hnw
 go_wp2_with fail
 refine (qa8 false n z _ _ (by first|exact HZ.out|(simp;exact HZ.out)) HV1.out).mono ?_
 rintro e w2 ⟨⟨v2,rfl,hv2⟩,hb2⟩
 have HX2:=lh_ (HX1.out.gr hb2)
 have HB2:=lh_ (HB1.out.trans (hb2.mono HB1.out.size))
 obtain ⟨ao2,nn2,cc2,rfl⟩:=Rn.sl hv2
 have HV2:=lh_ hv2
 clear hb2 hv2 lx fx r0
 have lx:=HX2.out.cells;have fx:=HX2.out.free;have r0:=Gr.refl w2
 go_wp2_with fail
 exact bodyPost_ret (v:=.tuple #[.agg #[.bool (decide ((z:Int)<0)),.slice ao2 nn2 cc2],.int .i64 0]) xa9 rfl ⟨⟨_,by rw [HC.out,HIZ.out],by rw [HIZ.out];exact (HV2.out.setOther (Rn.ne HV2.out HX2.out (by decide)) _).setOther (Rn.ne HV2.out HX2.out (by decide)) _⟩,(HB2.out.setCell (Nat.le_refl _) _).setCell (Nat.le_refl _) _⟩
theorem qE4 (s:ByteArray) (w:World) (hs:s.size≤9223372036854775807) :
  Calls Tryz.prog 233 #[.string s] w fun e w'=>RP s w' e∧Gr w w':=by
 rcases ql7 (idig s) with hc|hc|hc
 ·obtain ⟨n,hn⟩:∃ n,pnum (idig s)=n:=⟨_,rfl⟩
  have hw:tw n≤1100:=by rw [← hn];exact Nat.le_trans (qe_.2 (qE0 (idig s) 1024 rfl)) (by decide)
  cases hb:ineg s
  ·have h1:qc0 s=0:=qi1 hc (fun h=>by rw [hb] at h;exact absurd h.1 (by decide))
   have h2:inum s=((n:Nat):Int):=by rw [qi3 h1,hb,hn];rfl
   by_cases h0:n=0
   ·subst h0
    exact qO1 s _ w hs (lh_ hb) (lh_ rfl) (lh_ hc) (lh_ hn) (lh_ h1) (lh_ h2)
   exact qO0 s _ w hs (lh_ hb) (lh_ rfl) (lh_ hc) n _ (lh_ hn) om hw (lh_ rfl) (lh_ h1) (lh_ h2)
  by_cases h0:n=0
  ·have h1:qc0 s=4:=qv7 hc hb (by rw [hn,h0])
   exact qX8 s _ w hs (lh_ hb) (lh_ rfl) (lh_ hc) (lh_ (hn.trans h0)) (lh_ h1)
  have h1:qc0 s=0:=qi1 hc (fun h=>h0 (by rw [← hn];exact h.2))
  have h2:inum s = -((n:Nat):Int):=by rw [qi3 h1,hb,hn];rfl
  exact qX7 s _ w hs (lh_ hb) (lh_ rfl) (lh_ hc) n _ (lh_ hn) om hw (lh_ rfl) (lh_ h1) (lh_ h2)
 all_goals
  have hn:=qA2 (s:=idig s) (by rw [hc];decide)
  have h1:=(qz5 (s:=s) (by rw [hc];decide)).trans hc
  cases hb:ineg s
 ·exact qN9 s _ w hs (lh_ hb) (lh_ rfl) (lh_ hc) (lh_ hn) (lh_ h1)
 ·exact qX5 s _ w hs (lh_ hb) (lh_ rfl) (lh_ hc) (lh_ hn) (lh_ h1)
 ·exact qN_ s _ w hs (lh_ hb) (lh_ rfl) (lh_ hc) (lh_ hn) (lh_ h1)
 exact qX6 s _ w hs (lh_ hb) (lh_ rfl) (lh_ hc) (lh_ hn) (lh_ h1)
end Go.Proofs.YtobojnodohjiaaaGreatDoor
