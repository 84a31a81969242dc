
/- fracs.Max, fracs.Min of a slice. No condition but those stated. -/
import Derived.Test.YtobojnodohjiaaaGreatDoorQs
import Derived.Test.YtobojnodohjiaaaGreatDoorPV
import Derived.Deep.QuietTactic
set_option maxRecDepth 100000
set_option maxHeartbeats 16000000
set_option linter.unusedVariables false
set_option linter.unusedSimpArgs false
namespace Go.Proofs.YtobojnodohjiaaaGreatDoor
open Go.RowKit
attribute [local go_sem ↓] Go.wp_at_zero Go.wp_at_succ
theorem qI3 (c:Int) (r:Bool) (w:World) (HR:Hid (decide (c<0)=r)) :
  CB 230 #[.int .i64 c] w ((.bool r)):=by
 go_enter Tryz.func230,Tryz.ntmps230
 have I:=lh_ (hp0 w)
 refine kSl fun K O=>?_;go_wp2
 refine kF_ O (I.out) fun Wx0 J=>?_;clear O K
 clear I;have I:=J;clear J
 have hdr:decide (c<0)=r:=HR.out
 refine ks3_ fun K O T Y=>?_
 refine tk3_ ?_
 refine nz Y I O ?_;clear Y T I O K;intro vw1 I
 clear hdr
 refine wp_ret ?_
 try simp only [Exit.then,Exit.inBlock]
 exact bR ⟨rfl,I.out.1⟩ (by simp [results,Tryz.results230,go_sem])
theorem xj9 {P:Program} {f:FuncId} {ar:Array Value} {Q:Ending→World→Prop} {w0 W:World} {L:List Fk} (h:HP w0 W L) (k:∀ W',Hid (HP w0 W' L)→Calls P f ar W' Q):Calls P f ar W Q:=k W (lh_ h)
theorem qy9 (t:Int→Bool) (f:Nat→Rat) (i:Nat) (h:i=0):bst t f (i+1)=f i:=by subst h;rfl
theorem qr8 (t:Int→Bool) (f:Nat→Rat) (i:Nat) (h:¬ i=0):bst t f (i+1)=if t (sgQ (f i - bst t f i)) then f i else bst t f i:=by rw [bst,if_neg h]
theorem qK9 (n:Nat) (f:Nat→Rat) (v:Value) (w:World) (h:Fs w v n f) (hn:n≤1000000) (hs:∀ i,i<n→sz (f i)≤1000) :
  CB 229 #[.agg #[.func (.func 228) #[] #[]],v] w (Value.agg #[.int .u64 ((lo (Int.natAbs ((bst (fun c=>decide (0<c)) f n).num)):Nat):Int),.string (bg (Int.natAbs ((bst (fun c=>decide (0<c)) f n).num))),.bool (decide (((bst (fun c=>decide (0<c)) f n).num)<0)),.int .u64 (lo ((bst (fun c=>decide (0<c)) f n).den - 1)),.string (bg ((bst (fun c=>decide (0<c)) f n).den - 1))]):=by
 obtain ⟨ao,c,rfl⟩:=h.slice
 have HS:=lh_ hs
 have HX:=lh_ h
 clear hs h
 obtain ⟨W0,HW⟩:=ex_ ((w.alloc (.cells #[.func (.func 228) #[] #[]] 276)).alloc (.cells #[.int .u64 0,.string ⟨#[]⟩,.bool false,.int .u64 0,.string ⟨#[]⟩] 36))
 obtain ⟨gx1,hgx⟩:∃ g,w.heap.size+1=g:=⟨_,rfl⟩
 have HF0:Hid (HP w W0 [Sum.inl (w.heap.size,276,#[.func (.func 228) #[] #[]]),Sum.inl (gx1,36,#[.int .u64 ((lo (Int.natAbs ((bst (fun c=>decide (0<c)) f 0).num)):Nat):Int),.string (bg (Int.natAbs ((bst (fun c=>decide (0<c)) f 0).num))),.bool (decide (((bst (fun c=>decide (0<c)) f 0).num)<0)),.int .u64 (lo ((bst (fun c=>decide (0<c)) f 0).den - 1)),.string (bg ((bst (fun c=>decide (0<c)) f 0).den - 1))])]):=lh_ (by rw [← HW.out,← hgx];exact ((hp0 w).al rfl (by decide)).al (by simp) (by decide))
 go_enter Tryz.func229,Tryz.ntmps229
 go_wp2_with fail
 rw [HW.out]
 try rw [hgx]
 clear hgx
 go_loopg [9] n (fun k iv wr=>∃ i:Nat,iv=.int .i64 (i:Int)∧i+k=n∧Hid (HP w wr [Sum.inl (w.heap.size,276,#[.func (.func 228) #[] #[]]),Sum.inl (gx1,36,#[.int .u64 ((lo (Int.natAbs ((bst (fun c=>decide (0<c)) f i).num)):Nat):Int),.string (bg (Int.natAbs ((bst (fun c=>decide (0<c)) f i).num))),.bool (decide (((bst (fun c=>decide (0<c)) f i).num)<0)),.int .u64 (lo ((bst (fun c=>decide (0<c)) f i).den - 1)),.string (bg ((bst (fun c=>decide (0<c)) f i).den - 1))])]))
 case atStart=>exact ⟨0,rfl,by omega,HF0⟩
 case round =>
  rename_i K1 hK1 J_ K_ h1_ h0_
  obtain ⟨i,rfl,hik,I⟩:=hrel
  clear HF0 HW
  by_cases h0:gk=0
  ·subst h0
   obtain rfl:n=i:=by omega
   clear HX HS
   have hlt9:¬ (n:Int)<(n:Int):=by omega
   refine ks1_ fun K O T Y=>?_
   refine tk ?_
   refine nz Y I O ?_;clear Y T I O K;intro vw1 I
   clear hlt9
   refine wp_seq ?_
   refine wp_cond_false (by rfl) ?_
   refine wp_exit ?_
   try simp only [Exit.then,Exit.inBlock]
   refine hK1 _ _ ?_
   show Code.wp _ _ _ _ _
   have lx1:=kc1_ I
   refine ks1_ fun K O T Y=>?_
   refine tk ?_
   refine nlS Y I fun vw2 J=>?_
   clear Y T I lx1
   have lx1:=kc1_ J;have fx1:=kf1_ J
   have r0:=Gr.refl vw2
   go_wp2
   refine kO O ?_;clear O K
   clear r0 lx1 fx1
   refine fH (((((J.out).put2 1 0 rfl).put2 1 2 rfl).put 1 4 _ rfl).er 0) fun Wx7 I=>?_
   clear J
   refine wp_ret ?_
   try simp only [Exit.then,Exit.inBlock]
   have lx1:=kc0_ I
   have r0:=Gr.refl Wx7
   exact bR ⟨rfl,I.out.1⟩ (by simp [results,Tryz.results229,go_sem,lx1 _ r0])
  obtain ⟨k,rfl⟩:∃ k,gk=k+1:=⟨gk - 1,by omega⟩
  have hin:i<n:=by omega
  rcases HX.out with ⟨_,_,_,hz⟩|⟨b,o,c',hv,hb,hc⟩
  ·omega
  injection hv with hv1 _ hv3
  subst hv1 hv3
  obtain ⟨q,HQ⟩:=ex_ (f i)
  obtain ⟨p,HPP⟩:=ex_ (bst (fun c=>decide (0<c)) f i)
  have hsq:sz q≤1000:=by rw [← HQ.out];exact HS.out i hin
  have hsp:sz p≤1000:=by rw [← HPP.out];exact qJ7 _ f n 1000 (by decide) HS.out i om
  have HC9:Hid (∀ w',Gr w w'→∀ j,j<5→w'.cell? ⟨b,o+i*5+j,none⟩=(fcl q)[j]?):=lh_ (fun w' hw j hj=>(Below.cell hw (p:=⟨b,o+i*5+j,none⟩) hb).trans (by rw [← HQ.out];exact hc i hin j hj))
  have HE0:Hid (∀ w',Gr w w'→w'.cell? ⟨b,o+i*5,none⟩=some (.int .u64 (lo q.num.natAbs))):=lh_ (fun w' hw=>HC9.out w' hw 0 (by decide))
  have HE1:Hid (∀ w',Gr w w'→w'.cell? ⟨b,o+i*5+1,none⟩=some (.string (bg q.num.natAbs))):=lh_ (fun w' hw=>HC9.out w' hw 1 (by decide))
  have HE2:Hid (∀ w',Gr w w'→w'.cell? ⟨b,o+i*5+2,none⟩=some (.bool (decide (q.num<0)))):=lh_ (fun w' hw=>HC9.out w' hw 2 (by decide))
  have HE3:Hid (∀ w',Gr w w'→w'.cell? ⟨b,o+i*5+3,none⟩=some (.int .u64 (lo (q.den - 1)))):=lh_ (fun w' hw=>HC9.out w' hw 3 (by decide))
  have HE4:Hid (∀ w',Gr w w'→w'.cell? ⟨b,o+i*5+4,none⟩=some (.string (bg (q.den - 1)))):=lh_ (fun w' hw=>HC9.out w' hw 4 (by decide))
  rw [HPP.out] at I
  clear HC9 hc hb HX
  by_cases hi0:i=0
  ·have HI:=lh_ hi0
   clear hi0
   have hlt9:(i:Int)<(n:Int):=by omega
   refine ks1_ fun K O T Y=>?_
   refine tk ?_
   refine nz Y I O ?_;clear Y T I O K;intro vw1 I
   clear hlt9
   refine wp_seq ?_
   refine wp_cond_true (by rfl) ?_
   refine wp_skip ?_
   show Code.wp _ _ _ _ _
   refine wp_seq ?_
   refine wp_block ?_
   have lx9_0:=fun w' (h:Gr _ w')=>HE0.out w' (Gr.trans I.out.1 h)
   have lx9_1:=fun w' (h:Gr _ w')=>HE1.out w' (Gr.trans I.out.1 h)
   have lx9_2:=fun w' (h:Gr _ w')=>HE2.out w' (Gr.trans I.out.1 h)
   have lx9_3:=fun w' (h:Gr _ w')=>HE3.out w' (Gr.trans I.out.1 h)
   have lx9_4:=fun w' (h:Gr _ w')=>HE4.out w' (Gr.trans I.out.1 h)
   refine ks3_ fun K O T Y=>?_
   refine tk3_ ?_
   refine nlS Y I fun vw2 J=>?_
   clear Y T I lx9_0 lx9_1 lx9_2 lx9_3 lx9_4
   go_wp2
   refine kF_ O ((J.out).aL (vw2.heap.size)) fun Wx3 I=>?_;clear O K
   clear J
   generalize vw2.heap.size=gx11 at *
   have hi0:((i:Int) == 0)=true:=by have h9:=HI.out;simp [h9]
   have lx1:=kc1_ I
   have lx11:=kc2_ I
   refine kS fun K O=>?_
   refine pd0_ fun T Y=>?_
   refine tk3_ ?_
   iterate 6 refine sk ?_
   refine nlD Y I fun vw3 J=>?_
   clear Y T I lx1 lx11
   go_wp2
   refine kO O ?_;clear O K
   have I:=J;clear J
   clear hi0
   refine wp_cond_true (by rfl) ?_
   have lx11:=kc2_ I
   refine kL fun K O=>?_
   refine sq1_ fun T Y=>?_
   refine tk ?_
   refine nlS Y I fun vw4 J=>?_
   clear Y T I lx11
   have lx1:=kc1_ J;have fx1:=kf1_ J
   have r0:=Gr.refl vw4
   go_wp2
   refine kO O ?_;clear O K
   clear r0 lx1 fx1
   refine fH ((((J.out).put2 1 0 rfl).put2 1 2 rfl).put 1 4 _ rfl) fun Wx5 I=>?_
   clear J
   have hwi:IntKind.i64.wrap ((i:Int)+1)=(i:Int)+1:=by rw [IntKind.wrap_i64];omega
   refine kL fun K O=>?_
   refine sq2_ fun T Y=>?_
   refine tk2_ ?_
   refine nlS Y I fun vw5 J=>?_
   clear Y T I
   go_wp2
   refine O.out _ _ ?_;clear O K
   try simp only [Exit.then,Exit.inBlock]
   have I:=J;clear J
   clear hwi
   refine h0_ _ _ ?_
   go_roundg k
   case measure=>omega
   case rel=>exact ⟨i+1,by go_num,by omega,by rw [qy9 _ f i HI.out,HQ.out];exact lh_ (I.out.er 2)⟩
  have HI:=lh_ hi0
  clear hi0
  obtain ⟨cm,HCM⟩:=ex_ (sgQ (q - p))
  by_cases hr:0<cm
  ·have HR:=lh_ (decide_eq_true hr)
   clear hr
   have hlt9:(i:Int)<(n:Int):=by omega
   refine ks1_ fun K O T Y=>?_
   refine tk ?_
   refine nz Y I O ?_;clear Y T I O K;intro vw1 I
   clear hlt9
   refine wp_seq ?_
   refine wp_cond_true (by rfl) ?_
   refine wp_skip ?_
   show Code.wp _ _ _ _ _
   refine wp_seq ?_
   refine wp_block ?_
   have lx9_0:=fun w' (h:Gr _ w')=>HE0.out w' (Gr.trans I.out.1 h)
   have lx9_1:=fun w' (h:Gr _ w')=>HE1.out w' (Gr.trans I.out.1 h)
   have lx9_2:=fun w' (h:Gr _ w')=>HE2.out w' (Gr.trans I.out.1 h)
   have lx9_3:=fun w' (h:Gr _ w')=>HE3.out w' (Gr.trans I.out.1 h)
   have lx9_4:=fun w' (h:Gr _ w')=>HE4.out w' (Gr.trans I.out.1 h)
   refine ks3_ fun K O T Y=>?_
   refine tk3_ ?_
   refine nlS Y I fun vw2 J=>?_
   clear Y T I lx9_0 lx9_1 lx9_2 lx9_3 lx9_4
   go_wp2
   refine kF_ O ((J.out).aL (vw2.heap.size)) fun Wx3 I=>?_;clear O K
   clear J
   generalize vw2.heap.size=gx11 at *
   have hi0:((i:Int) == 0)=false:=by have h9:¬ ((i:Int)=0):=(by have h8:=HI.out;omega);simpa using h9
   have lx0:=kc0_ I
   have lx1:=kc1_ I
   have lx11:=kc2_ I
   refine kS fun K O=>?_
   refine pd0_ fun T Y=>?_
   iterate 7 refine tk ?_
   refine ck Tryz.call140 (fun w' hw=>qa3 q p cm _ (HCM.out) om om) ?_
   refine qg1 rfl (by rfl) (by rfl) Tryz.call228 (fun w' hw=>qx3 cm true _ HR) (by rfl) ?_
   simp only [Act.put,lA,lB,lC]
   refine nlD Y I fun vw3 J=>?_
   clear Y T I lx0 lx1 lx11
   go_wp2
   refine kO O ?_;clear O K
   have I:=J;clear J
   clear hi0
   refine wp_cond_true (by rfl) ?_
   have lx11:=kc2_ I
   refine kL fun K O=>?_
   refine sq1_ fun T Y=>?_
   refine tk ?_
   refine nlS Y I fun vw4 J=>?_
   clear Y T I lx11
   have lx1:=kc1_ J;have fx1:=kf1_ J
   have r0:=Gr.refl vw4
   go_wp2
   refine kO O ?_;clear O K
   clear r0 lx1 fx1
   refine fH ((((J.out).put2 1 0 rfl).put2 1 2 rfl).put 1 4 _ rfl) fun Wx5 I=>?_
   clear J
   have hwi:IntKind.i64.wrap ((i:Int)+1)=(i:Int)+1:=by rw [IntKind.wrap_i64];omega
   refine kL fun K O=>?_
   refine sq2_ fun T Y=>?_
   refine tk2_ ?_
   refine nlS Y I fun vw5 J=>?_
   clear Y T I
   go_wp2
   refine O.out _ _ ?_;clear O K
   try simp only [Exit.then,Exit.inBlock]
   have I:=J;clear J
   clear hwi
   refine h0_ _ _ ?_
   go_roundg k
   case measure=>omega
   case rel=>exact ⟨i+1,by go_num,by omega,by rw [qr8 _ f i HI.out,HPP.out,HQ.out,HCM.out,HR.out,if_pos rfl];exact lh_ (I.out.er 2)⟩
  have HR:=lh_ (decide_eq_false hr)
  clear hr
  have hlt9:(i:Int)<(n:Int):=by omega
  refine ks1_ fun K O T Y=>?_
  refine tk ?_
  refine nz Y I O ?_;clear Y T I O K;intro vw1 I
  clear hlt9
  refine wp_seq ?_
  refine wp_cond_true (by rfl) ?_
  refine wp_skip ?_
  show Code.wp _ _ _ _ _
  refine wp_seq ?_
  refine wp_block ?_
  have lx9_0:=fun w' (h:Gr _ w')=>HE0.out w' (Gr.trans I.out.1 h)
  have lx9_1:=fun w' (h:Gr _ w')=>HE1.out w' (Gr.trans I.out.1 h)
  have lx9_2:=fun w' (h:Gr _ w')=>HE2.out w' (Gr.trans I.out.1 h)
  have lx9_3:=fun w' (h:Gr _ w')=>HE3.out w' (Gr.trans I.out.1 h)
  have lx9_4:=fun w' (h:Gr _ w')=>HE4.out w' (Gr.trans I.out.1 h)
  refine ks3_ fun K O T Y=>?_
  refine tk3_ ?_
  refine nlS Y I fun vw2 J=>?_
  clear Y T I lx9_0 lx9_1 lx9_2 lx9_3 lx9_4
  go_wp2
  refine kF_ O ((J.out).aL (vw2.heap.size)) fun Wx3 I=>?_;clear O K
  clear J
  generalize vw2.heap.size=gx11 at *
  have hi0:((i:Int) == 0)=false:=by have h9:¬ ((i:Int)=0):=(by have h8:=HI.out;omega);simpa using h9
  have lx0:=kc0_ I
  have lx1:=kc1_ I
  have lx11:=kc2_ I
  refine kS fun K O=>?_
  refine pd0_ fun T Y=>?_
  iterate 7 refine tk ?_
  refine ck Tryz.call140 (fun w' hw=>qa3 q p cm _ (HCM.out) om om) ?_
  refine qg1 rfl (by rfl) (by rfl) Tryz.call228 (fun w' hw=>qx3 cm false _ HR) (by rfl) ?_
  simp only [Act.put,lA,lB,lC]
  refine nlD Y I fun vw3 J=>?_
  clear Y T I lx0 lx1 lx11
  go_wp2
  refine kO O ?_;clear O K
  have I:=J;clear J
  clear hi0
  refine wp_cond_false (by rfl) ?_
  refine wp_skip ?_
  show Code.wp _ _ _ _ _
  have hwi:IntKind.i64.wrap ((i:Int)+1)=(i:Int)+1:=by rw [IntKind.wrap_i64];omega
  refine kL fun K O=>?_
  refine sq2_ fun T Y=>?_
  refine tk2_ ?_
  refine nlS Y I fun vw4 J=>?_
  clear Y T I
  go_wp2
  refine O.out _ _ ?_;clear O K
  try simp only [Exit.then,Exit.inBlock]
  have I:=J;clear J
  clear hwi
  refine h0_ _ _ ?_
  go_roundg k
  case measure=>omega
  case rel=>exact ⟨i+1,by go_num,by omega,by rw [qr8 _ f i HI.out,HPP.out,HQ.out,HCM.out,HR.out,if_neg (by decide)];exact lh_ (I.out.er 2)⟩
theorem qK_ (n:Nat) (f:Nat→Rat) (v:Value) (w:World) (h:Fs w v n f) (hn:n≤1000000) (hs:∀ i,i<n→sz (f i)≤1000) :
  CB 229 #[.agg #[.func (.func 230) #[] #[]],v] w (Value.agg #[.int .u64 ((lo (Int.natAbs ((bst (fun c=>decide (c<0)) f n).num)):Nat):Int),.string (bg (Int.natAbs ((bst (fun c=>decide (c<0)) f n).num))),.bool (decide (((bst (fun c=>decide (c<0)) f n).num)<0)),.int .u64 (lo ((bst (fun c=>decide (c<0)) f n).den - 1)),.string (bg ((bst (fun c=>decide (c<0)) f n).den - 1))]):=by
 obtain ⟨ao,c,rfl⟩:=h.slice
 have HS:=lh_ hs
 have HX:=lh_ h
 clear hs h
 obtain ⟨W0,HW⟩:=ex_ ((w.alloc (.cells #[.func (.func 230) #[] #[]] 276)).alloc (.cells #[.int .u64 0,.string ⟨#[]⟩,.bool false,.int .u64 0,.string ⟨#[]⟩] 36))
 obtain ⟨gx1,hgx⟩:∃ g,w.heap.size+1=g:=⟨_,rfl⟩
 have HF0:Hid (HP w W0 [Sum.inl (w.heap.size,276,#[.func (.func 230) #[] #[]]),Sum.inl (gx1,36,#[.int .u64 ((lo (Int.natAbs ((bst (fun c=>decide (c<0)) f 0).num)):Nat):Int),.string (bg (Int.natAbs ((bst (fun c=>decide (c<0)) f 0).num))),.bool (decide (((bst (fun c=>decide (c<0)) f 0).num)<0)),.int .u64 (lo ((bst (fun c=>decide (c<0)) f 0).den - 1)),.string (bg ((bst (fun c=>decide (c<0)) f 0).den - 1))])]):=lh_ (by rw [← HW.out,← hgx];exact ((hp0 w).al rfl (by decide)).al (by simp) (by decide))
 go_enter Tryz.func229,Tryz.ntmps229
 go_wp2_with fail
 rw [HW.out]
 try rw [hgx]
 clear hgx
 go_loopg [9] n (fun k iv wr=>∃ i:Nat,iv=.int .i64 (i:Int)∧i+k=n∧Hid (HP w wr [Sum.inl (w.heap.size,276,#[.func (.func 230) #[] #[]]),Sum.inl (gx1,36,#[.int .u64 ((lo (Int.natAbs ((bst (fun c=>decide (c<0)) f i).num)):Nat):Int),.string (bg (Int.natAbs ((bst (fun c=>decide (c<0)) f i).num))),.bool (decide (((bst (fun c=>decide (c<0)) f i).num)<0)),.int .u64 (lo ((bst (fun c=>decide (c<0)) f i).den - 1)),.string (bg ((bst (fun c=>decide (c<0)) f i).den - 1))])]))
 case atStart=>exact ⟨0,rfl,by omega,HF0⟩
 case round =>
  rename_i K1 hK1 J_ K_ h1_ h0_
  obtain ⟨i,rfl,hik,I⟩:=hrel
  clear HF0 HW
  by_cases h0:gk=0
  ·subst h0
   obtain rfl:n=i:=by omega
   clear HX HS
   have hlt9:¬ (n:Int)<(n:Int):=by omega
   refine ks1_ fun K O T Y=>?_
   refine tk ?_
   refine nz Y I O ?_;clear Y T I O K;intro vw1 I
   clear hlt9
   refine wp_seq ?_
   refine wp_cond_false (by rfl) ?_
   refine wp_exit ?_
   try simp only [Exit.then,Exit.inBlock]
   refine hK1 _ _ ?_
   show Code.wp _ _ _ _ _
   have lx1:=kc1_ I
   refine ks1_ fun K O T Y=>?_
   refine tk ?_
   refine nlS Y I fun vw2 J=>?_
   clear Y T I lx1
   have lx1:=kc1_ J;have fx1:=kf1_ J
   have r0:=Gr.refl vw2
   go_wp2
   refine kO O ?_;clear O K
   clear r0 lx1 fx1
   refine fH (((((J.out).put2 1 0 rfl).put2 1 2 rfl).put 1 4 _ rfl).er 0) fun Wx7 I=>?_
   clear J
   refine wp_ret ?_
   try simp only [Exit.then,Exit.inBlock]
   have lx1:=kc0_ I
   have r0:=Gr.refl Wx7
   exact bR ⟨rfl,I.out.1⟩ (by simp [results,Tryz.results229,go_sem,lx1 _ r0])
  obtain ⟨k,rfl⟩:∃ k,gk=k+1:=⟨gk - 1,by omega⟩
  have hin:i<n:=by omega
  rcases HX.out with ⟨_,_,_,hz⟩|⟨b,o,c',hv,hb,hc⟩
  ·omega
  injection hv with hv1 _ hv3
  subst hv1 hv3
  obtain ⟨q,HQ⟩:=ex_ (f i)
  obtain ⟨p,HPP⟩:=ex_ (bst (fun c=>decide (c<0)) f i)
  have hsq:sz q≤1000:=by rw [← HQ.out];exact HS.out i hin
  have hsp:sz p≤1000:=by rw [← HPP.out];exact qJ7 _ f n 1000 (by decide) HS.out i om
  have HC9:Hid (∀ w',Gr w w'→∀ j,j<5→w'.cell? ⟨b,o+i*5+j,none⟩=(fcl q)[j]?):=lh_ (fun w' hw j hj=>(Below.cell hw (p:=⟨b,o+i*5+j,none⟩) hb).trans (by rw [← HQ.out];exact hc i hin j hj))
  have HE0:Hid (∀ w',Gr w w'→w'.cell? ⟨b,o+i*5,none⟩=some (.int .u64 (lo q.num.natAbs))):=lh_ (fun w' hw=>HC9.out w' hw 0 (by decide))
  have HE1:Hid (∀ w',Gr w w'→w'.cell? ⟨b,o+i*5+1,none⟩=some (.string (bg q.num.natAbs))):=lh_ (fun w' hw=>HC9.out w' hw 1 (by decide))
  have HE2:Hid (∀ w',Gr w w'→w'.cell? ⟨b,o+i*5+2,none⟩=some (.bool (decide (q.num<0)))):=lh_ (fun w' hw=>HC9.out w' hw 2 (by decide))
  have HE3:Hid (∀ w',Gr w w'→w'.cell? ⟨b,o+i*5+3,none⟩=some (.int .u64 (lo (q.den - 1)))):=lh_ (fun w' hw=>HC9.out w' hw 3 (by decide))
  have HE4:Hid (∀ w',Gr w w'→w'.cell? ⟨b,o+i*5+4,none⟩=some (.string (bg (q.den - 1)))):=lh_ (fun w' hw=>HC9.out w' hw 4 (by decide))
  rw [HPP.out] at I
  clear HC9 hc hb HX
  by_cases hi0:i=0
  ·have HI:=lh_ hi0
   clear hi0
   have hlt9:(i:Int)<(n:Int):=by omega
   refine ks1_ fun K O T Y=>?_
   refine tk ?_
   refine nz Y I O ?_;clear Y T I O K;intro vw1 I
   clear hlt9
   refine wp_seq ?_
   refine wp_cond_true (by rfl) ?_
   refine wp_skip ?_
   show Code.wp _ _ _ _ _
   refine wp_seq ?_
   refine wp_block ?_
   have lx9_0:=fun w' (h:Gr _ w')=>HE0.out w' (Gr.trans I.out.1 h)
   have lx9_1:=fun w' (h:Gr _ w')=>HE1.out w' (Gr.trans I.out.1 h)
   have lx9_2:=fun w' (h:Gr _ w')=>HE2.out w' (Gr.trans I.out.1 h)
   have lx9_3:=fun w' (h:Gr _ w')=>HE3.out w' (Gr.trans I.out.1 h)
   have lx9_4:=fun w' (h:Gr _ w')=>HE4.out w' (Gr.trans I.out.1 h)
   refine ks3_ fun K O T Y=>?_
   refine tk3_ ?_
   refine nlS Y I fun vw2 J=>?_
   clear Y T I lx9_0 lx9_1 lx9_2 lx9_3 lx9_4
   go_wp2
   refine kF_ O ((J.out).aL (vw2.heap.size)) fun Wx3 I=>?_;clear O K
   clear J
   generalize vw2.heap.size=gx11 at *
   have hi0:((i:Int) == 0)=true:=by have h9:=HI.out;simp [h9]
   have lx1:=kc1_ I
   have lx11:=kc2_ I
   refine kS fun K O=>?_
   refine pd0_ fun T Y=>?_
   refine tk3_ ?_
   iterate 6 refine sk ?_
   refine nlD Y I fun vw3 J=>?_
   clear Y T I lx1 lx11
   go_wp2
   refine kO O ?_;clear O K
   have I:=J;clear J
   clear hi0
   refine wp_cond_true (by rfl) ?_
   have lx11:=kc2_ I
   refine kL fun K O=>?_
   refine sq1_ fun T Y=>?_
   refine tk ?_
   refine nlS Y I fun vw4 J=>?_
   clear Y T I lx11
   have lx1:=kc1_ J;have fx1:=kf1_ J
   have r0:=Gr.refl vw4
   go_wp2
   refine kO O ?_;clear O K
   clear r0 lx1 fx1
   refine fH ((((J.out).put2 1 0 rfl).put2 1 2 rfl).put 1 4 _ rfl) fun Wx5 I=>?_
   clear J
   have hwi:IntKind.i64.wrap ((i:Int)+1)=(i:Int)+1:=by rw [IntKind.wrap_i64];omega
   refine kL fun K O=>?_
   refine sq2_ fun T Y=>?_
   refine tk2_ ?_
   refine nlS Y I fun vw5 J=>?_
   clear Y T I
   go_wp2
   refine O.out _ _ ?_;clear O K
   try simp only [Exit.then,Exit.inBlock]
   have I:=J;clear J
   clear hwi
   refine h0_ _ _ ?_
   go_roundg k
   case measure=>omega
   case rel=>exact ⟨i+1,by go_num,by omega,by rw [qy9 _ f i HI.out,HQ.out];exact lh_ (I.out.er 2)⟩
  have HI:=lh_ hi0
  clear hi0
  obtain ⟨cm,HCM⟩:=ex_ (sgQ (q - p))
  by_cases hr:cm<0
  ·have HR:=lh_ (decide_eq_true hr)
   clear hr
   have hlt9:(i:Int)<(n:Int):=by omega
   refine ks1_ fun K O T Y=>?_
   refine tk ?_
   refine nz Y I O ?_;clear Y T I O K;intro vw1 I
   clear hlt9
   refine wp_seq ?_
   refine wp_cond_true (by rfl) ?_
   refine wp_skip ?_
   show Code.wp _ _ _ _ _
   refine wp_seq ?_
   refine wp_block ?_
   have lx9_0:=fun w' (h:Gr _ w')=>HE0.out w' (Gr.trans I.out.1 h)
   have lx9_1:=fun w' (h:Gr _ w')=>HE1.out w' (Gr.trans I.out.1 h)
   have lx9_2:=fun w' (h:Gr _ w')=>HE2.out w' (Gr.trans I.out.1 h)
   have lx9_3:=fun w' (h:Gr _ w')=>HE3.out w' (Gr.trans I.out.1 h)
   have lx9_4:=fun w' (h:Gr _ w')=>HE4.out w' (Gr.trans I.out.1 h)
   refine ks3_ fun K O T Y=>?_
   refine tk3_ ?_
   refine nlS Y I fun vw2 J=>?_
   clear Y T I lx9_0 lx9_1 lx9_2 lx9_3 lx9_4
   go_wp2
   refine kF_ O ((J.out).aL (vw2.heap.size)) fun Wx3 I=>?_;clear O K
   clear J
   generalize vw2.heap.size=gx11 at *
   have hi0:((i:Int) == 0)=false:=by have h9:¬ ((i:Int)=0):=(by have h8:=HI.out;omega);simpa using h9
   have lx0:=kc0_ I
   have lx1:=kc1_ I
   have lx11:=kc2_ I
   refine kS fun K O=>?_
   refine pd0_ fun T Y=>?_
   iterate 7 refine tk ?_
   refine ck Tryz.call140 (fun w' hw=>qa3 q p cm _ (HCM.out) om om) ?_
   refine qg1 rfl (by rfl) (by rfl) Tryz.call230 (fun w' hw=>qI3 cm true _ HR) (by rfl) ?_
   simp only [Act.put,lA,lB,lC]
   refine nlD Y I fun vw3 J=>?_
   clear Y T I lx0 lx1 lx11
   go_wp2
   refine kO O ?_;clear O K
   have I:=J;clear J
   clear hi0
   refine wp_cond_true (by rfl) ?_
   have lx11:=kc2_ I
   refine kL fun K O=>?_
   refine sq1_ fun T Y=>?_
   refine tk ?_
   refine nlS Y I fun vw4 J=>?_
   clear Y T I lx11
   have lx1:=kc1_ J;have fx1:=kf1_ J
   have r0:=Gr.refl vw4
   go_wp2
   refine kO O ?_;clear O K
   clear r0 lx1 fx1
   refine fH ((((J.out).put2 1 0 rfl).put2 1 2 rfl).put 1 4 _ rfl) fun Wx5 I=>?_
   clear J
   have hwi:IntKind.i64.wrap ((i:Int)+1)=(i:Int)+1:=by rw [IntKind.wrap_i64];omega
   refine kL fun K O=>?_
   refine sq2_ fun T Y=>?_
   refine tk2_ ?_
   refine nlS Y I fun vw5 J=>?_
   clear Y T I
   go_wp2
   refine O.out _ _ ?_;clear O K
   try simp only [Exit.then,Exit.inBlock]
   have I:=J;clear J
   clear hwi
   refine h0_ _ _ ?_
   go_roundg k
   case measure=>omega
   case rel=>exact ⟨i+1,by go_num,by omega,by rw [qr8 _ f i HI.out,HPP.out,HQ.out,HCM.out,HR.out,if_pos rfl];exact lh_ (I.out.er 2)⟩
  have HR:=lh_ (decide_eq_false hr)
  clear hr
  have hlt9:(i:Int)<(n:Int):=by omega
  refine ks1_ fun K O T Y=>?_
  refine tk ?_
  refine nz Y I O ?_;clear Y T I O K;intro vw1 I
  clear hlt9
  refine wp_seq ?_
  refine wp_cond_true (by rfl) ?_
  refine wp_skip ?_
  show Code.wp _ _ _ _ _
  refine wp_seq ?_
  refine wp_block ?_
  have lx9_0:=fun w' (h:Gr _ w')=>HE0.out w' (Gr.trans I.out.1 h)
  have lx9_1:=fun w' (h:Gr _ w')=>HE1.out w' (Gr.trans I.out.1 h)
  have lx9_2:=fun w' (h:Gr _ w')=>HE2.out w' (Gr.trans I.out.1 h)
  have lx9_3:=fun w' (h:Gr _ w')=>HE3.out w' (Gr.trans I.out.1 h)
  have lx9_4:=fun w' (h:Gr _ w')=>HE4.out w' (Gr.trans I.out.1 h)
  refine ks3_ fun K O T Y=>?_
  refine tk3_ ?_
  refine nlS Y I fun vw2 J=>?_
  clear Y T I lx9_0 lx9_1 lx9_2 lx9_3 lx9_4
  go_wp2
  refine kF_ O ((J.out).aL (vw2.heap.size)) fun Wx3 I=>?_;clear O K
  clear J
  generalize vw2.heap.size=gx11 at *
  have hi0:((i:Int) == 0)=false:=by have h9:¬ ((i:Int)=0):=(by have h8:=HI.out;omega);simpa using h9
  have lx0:=kc0_ I
  have lx1:=kc1_ I
  have lx11:=kc2_ I
  refine kS fun K O=>?_
  refine pd0_ fun T Y=>?_
  iterate 7 refine tk ?_
  refine ck Tryz.call140 (fun w' hw=>qa3 q p cm _ (HCM.out) om om) ?_
  refine qg1 rfl (by rfl) (by rfl) Tryz.call230 (fun w' hw=>qI3 cm false _ HR) (by rfl) ?_
  simp only [Act.put,lA,lB,lC]
  refine nlD Y I fun vw3 J=>?_
  clear Y T I lx0 lx1 lx11
  go_wp2
  refine kO O ?_;clear O K
  have I:=J;clear J
  clear hi0
  refine wp_cond_false (by rfl) ?_
  refine wp_skip ?_
  show Code.wp _ _ _ _ _
  have hwi:IntKind.i64.wrap ((i:Int)+1)=(i:Int)+1:=by rw [IntKind.wrap_i64];omega
  refine kL fun K O=>?_
  refine sq2_ fun T Y=>?_
  refine tk2_ ?_
  refine nlS Y I fun vw4 J=>?_
  clear Y T I
  go_wp2
  refine O.out _ _ ?_;clear O K
  try simp only [Exit.then,Exit.inBlock]
  have I:=J;clear J
  clear hwi
  refine h0_ _ _ ?_
  go_roundg k
  case measure=>omega
  case rel=>exact ⟨i+1,by go_num,by omega,by rw [qr8 _ f i HI.out,HPP.out,HQ.out,HCM.out,HR.out,if_neg (by decide)];exact lh_ (I.out.er 2)⟩
theorem qS3 (n:Nat) (f:Nat→Rat) (v:Value) (w:World) (h:Fs w v n f) (hn:n≤1000000) (hs:∀ i,i<n→sz (f i)≤1000) :
  CB 155 #[v] w (Value.agg #[.int .u64 ((lo (Int.natAbs ((bst (fun c=>decide (0<c)) f n).num)):Nat):Int),.string (bg (Int.natAbs ((bst (fun c=>decide (0<c)) f n).num))),.bool (decide (((bst (fun c=>decide (0<c)) f n).num)<0)),.int .u64 (lo ((bst (fun c=>decide (0<c)) f n).den - 1)),.string (bg ((bst (fun c=>decide (0<c)) f n).den - 1))]):=by
 obtain ⟨ao,c,rfl⟩:=h.slice
 have HS:=lh_ hs
 have HX:=lh_ h
 clear hs h
 go_enter Tryz.func155,Tryz.ntmps155
 go_wp2_with fail
 refine xj9 ((hp0 w).al (b:=w.heap.size) rfl (by decide)) fun W1 I=>?_
 refine (qK9 n f _ W1 (HX.out.gr I.out.1) hn HS.out).mono ?_
 rintro e w2 ⟨rfl,hb⟩
 have HF2:=lh_ (I.out.gr hb)
 clear hb I
 have l0:=kc0_ HF2
 have f0:=kf0_ HF2
 have r0:=Gr.refl w2
 go_wp2_with fail
 exact bR ⟨rfl,(HF2.out.put2 0 0 rfl |>.put2 0 2 rfl |>.put 0 4 _ rfl).1⟩ (by simp [results,Tryz.results155,go_sem,l0 _ r0])
theorem qS5 (n:Nat) (f:Nat→Rat) (v:Value) (w:World) (h:Fs w v n f) (hn:n≤1000000) (hs:∀ i,i<n→sz (f i)≤1000) :
  CB 156 #[v] w (Value.agg #[.int .u64 ((lo (Int.natAbs ((bst (fun c=>decide (c<0)) f n).num)):Nat):Int),.string (bg (Int.natAbs ((bst (fun c=>decide (c<0)) f n).num))),.bool (decide (((bst (fun c=>decide (c<0)) f n).num)<0)),.int .u64 (lo ((bst (fun c=>decide (c<0)) f n).den - 1)),.string (bg ((bst (fun c=>decide (c<0)) f n).den - 1))]):=by
 obtain ⟨ao,c,rfl⟩:=h.slice
 have HS:=lh_ hs
 have HX:=lh_ h
 clear hs h
 go_enter Tryz.func156,Tryz.ntmps156
 go_wp2_with fail
 refine xj9 ((hp0 w).al (b:=w.heap.size) rfl (by decide)) fun W1 I=>?_
 refine (qK_ n f _ W1 (HX.out.gr I.out.1) hn HS.out).mono ?_
 rintro e w2 ⟨rfl,hb⟩
 have HF2:=lh_ (I.out.gr hb)
 clear hb I
 have l0:=kc0_ HF2
 have f0:=kf0_ HF2
 have r0:=Gr.refl w2
 go_wp2_with fail
 exact bR ⟨rfl,(HF2.out.put2 0 0 rfl |>.put2 0 2 rfl |>.put 0 4 _ rfl).1⟩ (by simp [results,Tryz.results156,go_sem,l0 _ r0])
end Go.Proofs.YtobojnodohjiaaaGreatDoor
