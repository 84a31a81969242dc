
/- fracs.Sum of any slice. No condition but those stated. -/
import Derived.Test.YtobojnodohjiaaaGreatDoorQs
set_option maxRecDepth 100000
set_option maxHeartbeats 16000000
set_option linter.unusedVariables false
set_option linter.unusedSimpArgs false
namespace Go.Proofs.YtobojnodohjiaaaGreatDoor
open Go.RowKit
attribute [local go_sem ↓] Go.wp_at_zero Go.wp_at_succ
theorem xx_ (q a z:Rat) (g B:Nat) (w:World) (bx9:Bx w g 279 #[.int .u64 (lo q.num.natAbs),.string (bg q.num.natAbs),.bool (q.num<0),.int .u64 (lo (q.den - 1)),.string (bg (q.den - 1))]) (hB:B≤w.heap.size) (hBg:B≤g) (hz:q+a=z) (hs_q:sz q≤10000000000) (hs_a:sz a≤10000000000) :
  Calls Tryz.prog 232 #[.pointer (some ⟨g,0,none⟩),(Value.agg #[.int .u64 (lo a.num.natAbs),.string (bg a.num.natAbs),.bool (a.num<0),.int .u64 (lo (a.den - 1)),.string (bg (a.den - 1))])] w fun e w'=>e=.returned (.tuple #[])∧Below B w w'∧Bx w' g 279 #[.int .u64 (lo z.num.natAbs),.string (bg z.num.natAbs),.bool (z.num<0),.int .u64 (lo (z.den - 1)),.string (bg (z.den - 1))]:=by
 replace hz:=lh_ hz
 go_enter Tryz.func232,Tryz.ntmps232
 have e9:=bx9.lt
 refine wp_seq_k fun K J=>?_
 replace J:=lh_ J
 refine wp_region_lit ?_
 go_wp2
 refine kO J ?_;clear J K
 refine xn6 (fun w2=>Bx w2 g 279 #[.int .u64 (lo q.num.natAbs),.string (bg q.num.natAbs),.bool (q.num<0),.int .u64 (lo (q.den - 1)),.string (bg (q.den - 1))]∧Bx w2 (w.heap.size) 36 #[.int .u64 (lo a.num.natAbs),.string (bg a.num.natAbs),.bool (a.num<0),.int .u64 (lo (a.den - 1)),.string (bg (a.den - 1))]∧Below B w w2) ⟨(bx9).alloc _,Bx.at rfl,(Below.refl _ _).alloc (by first|omega|(simp;omega)) _⟩ ?_
 clear bx9
 rintro Wx ⟨bx9,bx10,HB⟩
 replace HB:=lh_ HB
 have HZ1:Hid (q+(a)=z):=lh_ (hz.out)
 have lx9:=bx9.cells
 have lx10:=bx10.cells
 have BX9:=lh_ bx9
 have BX10:=lh_ bx10
 clear bx9 bx10
 refine qB7 fun K J=>?_
 replace J:=lh_ J
 refine wp_region_plan 9 [] [] (fun _=>0) (fun _=>.cells #[] 0) [(true,0),(true,1),(true,2),(true,3),(true,4),(true,5),(true,6),(true,7),(true,8)] (by kernel_rfl) (by kernel_rfl) (fun i hi=>by cases hi) (fun i hi=>by cases hi) (fun _ _ _ _ _ h=>h) (fun T O=>?_)
 iterate 6
  refine wpPlan_takeL (v:=?_) rfl (by rfl) (fun w' hw=>?_) ?_
  rotate_left
  ·go_simp
   with_reducible rfl
  simp only [Act.put,List.setIfInBounds_toArray,List.set_cons_zero,List.set_cons_succ]
 refine qe9 rfl (by rfl) Tryz.call130 (fun w' hw=>qa_ q a z _ HZ1.out (by first|omega|exact Nat.le_trans (wl_small (by decide)) (by decide)) (by first|omega|exact Nat.le_trans (wl_small (by decide)) (by decide))) (by rfl) ?_
 simp only [Act.put,List.setIfInBounds_toArray,List.set_cons_zero,List.set_cons_succ]
 iterate 2
  refine wpPlan_takeL (v:=?_) rfl (by rfl) (fun w' hw=>?_) ?_
  rotate_left
  ·go_simp
   with_reducible rfl
  simp only [Act.put,List.setIfInBounds_toArray,List.set_cons_zero,List.set_cons_succ]
 refine wpPlan_nil (O.out _ _ ?_);clear O T
 intro G vw1 hg hf
 simp only [puts,Act.put,List.setIfInBounds_toArray,List.set_cons_zero,List.set_cons_succ,List.drop_succ_cons,List.drop_zero,↓reduceIte,Nat.reduceEqDiff]
 clear lx9 lx10
 have I:=lh_ hg
 clear hg
 have bx9:=BX9.out.gr I.out;clear BX9
 have bx10:=BX10.out.gr I.out;clear BX10
 have lx9:=bx9.cells;have fx9:=bx9.free
 have r0:=Gr.refl vw1
 have BX9:=lh_ bx9;clear bx9
 have BX10:=lh_ bx10;clear bx10
 go_wp2
 refine J.out _ _ ?_;clear J K
 try simp only [Exit.then,Exit.inBlock]
 clear lx9 fx9
 clear r0
 refine xn5 (fun w2=>Bx w2 g 279 #[.int .u64 (lo z.num.natAbs),.string (bg z.num.natAbs),.bool (z.num<0),.int .u64 (lo (z.den - 1)),.string (bg (z.den - 1))]∧Below B w w2) ⟨((((((BX9.out).set 0 _).set 1 _).set 2 _).set 3 _).set 4 _).eq (by simp only [List.setIfInBounds_toArray,List.set_cons_zero,List.set_cons_succ]),(((((HB.out.trans (I.out.mono (Nat.le_trans hB HB.out.size))).setCell (by show B≤g;omega) _).setCell (by show B≤g;omega) _).setCell (by show B≤g;omega) _).setCell (by show B≤g;omega) _).setCell (by show B≤g;omega) _⟩ ?_
 clear HB I BX9 BX10
 rintro Wx1 ⟨bx9,HB⟩
 replace HB:=lh_ HB
 have r0:=Gr.refl Wx1
 exact bodyPost_end (v:=.tuple #[]) (by simp [results,Tryz.results232,go_sem]) rfl ⟨rfl,HB.out,bx9⟩
theorem xu9 (n:Nat) (f:Nat→Rat) (v:Value) (g:Nat) (w0 w:World) (hx:Fs w0 v n f) (hgr:Gr w0 w) (bx:Bx w g 279 #[.int .u64 0,.string ⟨#[]⟩,.bool false,.int .u64 0,.string ⟨#[]⟩]) (hBg:w0.heap.size≤g)
  (hn:n≤1000000) (hs:∀ i,i<n→sz (f i)≤1000) :
  Calls Tryz.prog 231 #[.func (.func 232) #[.pointer (some ⟨g,0,none⟩)] #[],v] w fun e w'=>e=.returned (.tuple #[])∧Below w0.heap.size w w'∧Bx w' g 279 #[.int .u64 (lo (Int.natAbs ((qsum f n).num))),.string (bg (Int.natAbs ((qsum f n).num))),.bool (decide (((qsum f n).num)<0)),.int .u64 (lo ((qsum f n).den - 1)),.string (bg ((qsum f n).den - 1))]:=by
 obtain ⟨ao,c,rfl⟩:=hx.slice
 have HS:=lh_ hs
 have HX:=lh_ hx
 have HGR:=lh_ hgr
 have hB:w0.heap.size≤w.heap.size:=hgr.size
 clear hs hx hgr
 go_enter Tryz.func231,Tryz.ntmps231
 go_wp2
 go_loopw [8] (fun i wr=>∃ k:Nat,k≤n∧i=.int .i64 k∧Below w0.heap.size w wr∧Bx wr g 279 #[.int .u64 (lo (Int.natAbs ((qsum f k).num))),.string (bg (Int.natAbs ((qsum f k).num))),.bool (decide (((qsum f k).num)<0)),.int .u64 (lo ((qsum f k).den - 1)),.string (bg ((qsum f k).den - 1))]) (fun i _=>n - (intOf i).toNat)
 case atStart=>exact ⟨0,Nat.zero_le _,rfl,Below.refl _ _,bx⟩
 case round =>
  obtain ⟨k,hk,rfl,hbel,hbx⟩:=hrel
  by_cases hlt:k<n
  ·rcases HX.out with ⟨_,_,_,hz⟩|⟨b,o,c',hv,hb,hc⟩
   ·omega
   injection hv with hv1 _ hv3
   subst hv1 hv3
   obtain ⟨q,HQ⟩:=ex_ (f k)
   have HSQ:sz q≤1000:=by rw [← HQ.out];exact HS.out _ hlt
   have hgw:Below w0.heap.size w0 wr:=Below.trans HGR.out hbel
   have hcell:∀ j,j<5→wr.cell? ⟨b,o+k*5+j,none⟩=(fcl q)[j]?:=fun j hj=>(Below.cell hgw (p:=⟨b,o+k*5+j,none⟩) hb).trans (by rw [← HQ.out];exact hc k hlt j hj)
   have c0:wr.cell? ⟨b,o+k*5,none⟩=_:=hcell 0 (by decide)
   have c1:=hcell 1 (by decide)
   have c2:=hcell 2 (by decide)
   have c3:=hcell 3 (by decide)
   have c4:=hcell 4 (by decide)
   clear hcell hgw hc hb HX
   simp [fcl] at c0 c1 c2 c3 c4
   have HB:=lh_ hbel
   have HXb:=lh_ hbx
   have hsz:=Nat.le_trans hB hbel.size
   have hsp:sz (qsum f k)≤10000000000:=by
    have h1:=qE_ f n 1000 HS.out k om
    have h2:k*1001≤1000000*1001:=Nat.mul_le_mul_right _ om
    omega
   have HP:Hid (qsum f k+q=qsum f (k+1)):=by show _=_;rw [← HQ.out];rfl
   clear hbel hbx
   go_wp2_with fail
   refine (xx_ (qsum f k) q (qsum f (k+1)) g w0.heap.size _ ((HXb.out.alloc _)) (by simp;omega) hBg HP.out hsp om).mono ?_
   rintro e w2 ⟨rfl,hb2,hx2⟩
   have HB2:=lh_ ((HB.out.alloc hsz _).trans hb2)
   have HX2:=lh_ hx2
   clear hb2 hx2 c0 c1 c2 c3 c4
   go_wp2_with fail
   go_roundw
   case rel=>exact ⟨k+1,by omega,by go_num,HB2.out,HX2.out⟩
   case measure=>simp [intOf];omega
  obtain rfl:k=n:=by omega
  have HB:=lh_ hbel
  have HXb:=lh_ hbx
  clear hbel hbx
  go_wp2
  exact bodyPost_end (v:=.tuple #[]) (by simp [results,Tryz.results231,go_sem]) rfl ⟨rfl,HB.out,HXb.out⟩
theorem qm7 (n:Nat) (f:Nat→Rat) (v:Value) (z:Rat) (w:World) (h:Fs w v n f) (hn:n≤1000000) (hs:∀ i,i<n→sz (f i)≤1000) (hz:qsum f n=z) :
  CB 157 #[v] w (Value.agg #[.int .u64 (lo z.num.natAbs),.string (bg z.num.natAbs),.bool (z.num<0),.int .u64 (lo (z.den - 1)),.string (bg (z.den - 1))]):=by
 obtain ⟨ao,c,rfl⟩:=h.slice
 obtain ⟨W0,HW⟩:=ex_ (((w.alloc (.cells #[.int .u64 0,.string ⟨#[]⟩,.bool false,.int .u64 0,.string ⟨#[]⟩] 36)).alloc (.cells #[.int .u64 0,.string ⟨#[]⟩,.bool false,.int .u64 0,.string ⟨#[]⟩] 279)))
 have H1:=lh_ (show Bx W0 w.heap.size 36 #[.int .u64 0,.string ⟨#[]⟩,.bool false,.int .u64 0,.string ⟨#[]⟩] by rw [← HW.out];exact (Bx.at rfl).alloc _)
 have H2:=lh_ (show Bx W0 (w.heap.size+1) 279 #[.int .u64 0,.string ⟨#[]⟩,.bool false,.int .u64 0,.string ⟨#[]⟩] by rw [← HW.out];exact Bx.at (by simp))
 have H4:=lh_ (show Below w.heap.size w W0 by rw [← HW.out];exact ((Below.refl _ _).alloc (Nat.le_refl _) _).alloc (by simp) _)
 have H5:=lh_ (show Gr (w.alloc (.cells #[.int .u64 0,.string ⟨#[]⟩,.bool false,.int .u64 0,.string ⟨#[]⟩] 36)) W0 by rw [← HW.out];exact Gr.alloc _ _)
 have HE:=lh_ (xu9 n f (.slice ao n c) (w.heap.size+1) _ W0 (h.gr (Gr.alloc w _)) H5.out H2.out (by simp) hn hs)
 have HZ:=lh_ hz
 clear h hs hz H5
 go_enter Tryz.func157,Tryz.ntmps157
 go_wp2_with fail
 rw [HW.out]
 refine HE.out.mono ?_
 rintro e w2 ⟨rfl,hb2,hx2⟩
 have hb2:Below (w.heap.size+1) W0 w2:=by simpa using hb2
 rw [HZ.out] at hx2
 have l1:=hx2.cells
 have h1:=H1.out.below hb2 (Nat.lt_succ_self _)
 have l2:=h1.cells
 have f2:=h1.free
 have r0:=Gr.refl w2
 have HB:=lh_ (H4.out.trans (hb2.mono (Nat.le_succ _)))
 clear hb2 hx2 h1 H1 H2 H4 HE HW
 go_wp2_with fail
 exact bR ⟨rfl,((((HB.out.setCell (Nat.le_refl _) _).setCell (Nat.le_refl _) _).setCell (Nat.le_refl _) _).setCell (Nat.le_refl _) _).setCell (Nat.le_refl _) _⟩ (by simp [results,Tryz.results157,go_sem,l2 _ r0])
end Go.Proofs.YtobojnodohjiaaaGreatDoor
