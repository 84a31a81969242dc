
/- recons.Chinese. -/
import Derived.Test.YtobojnodohjiaaaGreatDoorRecD
import Derived.Test.YtobojnodohjiaaaGreatDoorRsP
set_option maxRecDepth 100000
set_option maxHeartbeats 16000000
set_option linter.unusedVariables false
set_option linter.unusedSimpArgs false
namespace Go.Proofs.YtobojnodohjiaaaGreatDoor
open Go.RowKit
attribute [local go_sem ↓] Go.wp_at_zero Go.wp_at_succ
attribute [local go_sem ↓] qb8 qa3 qc8
attribute [local go_sem ↓] qb8 qa3 qd9 qb7
theorem qV6 (v:Value) (n:Nat) (f:Nat→Int × Nat) (R:Int) (M:Nat) (cc:Int) (w:World) (HV:Hid (chv f n R M cc)) (HRS:Hid (Rs w v n f)) (hn:n≤9) (HSZ:Hid (∀ i,i<n→wl (f i).1.natAbs≤100∧wl (f i).2≤10)) :
  Calls Tryz.prog 29 #[v] w fun e w'=>e=.returned (.tuple #[.agg #[.int .u64 (lo R.natAbs),.string (bg R.natAbs),.bool (R<0),.int .u64 (lo M),.string (bg M)],.int .i64 cc])∧Below w.heap.size w w':=by
 obtain ⟨ao,c,rfl⟩:=HRS.out.slice
 go_enter Tryz.func29,Tryz.ntmps29
 have I:=lh_ (hp0 w)
 refine kS fun K O=>?_
 refine wp_region_lit ?_
 go_wp2
 refine kF_ O ((I.out).aL (w.heap.size)) fun Wx0 J=>?_;clear O K
 clear I;have I:=J;clear J
 have su_0_1:wl 1≤1:=qb1.2 (by decide +kernel)
 refine ks2_ fun K O T Y=>?_
 refine ck Tryz.call24 (fun w' hw=>nzof 1 _ (by decide)) ?_
 refine tk ?_
 refine nlS Y I fun vw1 J=>?_
 clear Y T I
 go_wp2
 refine kF_ O ((J.out).aL (vw1.heap.size)) fun Wx1 I=>?_;clear O K
 clear J
 generalize vw1.heap.size=gx2 at *
 refine wp_seq ?_
 refine ks3_ fun K O T Y=>?_
 refine tk3_ ?_
 refine nlS Y I fun vw2 J=>?_
 clear Y T I
 go_wp2
 refine kO O ?_;clear O K
 have I:=J;clear J
 refine wp_block ?_
 go_loopg [15] n (fun kk iv wr=>∃ k:Nat,iv=.int .i64 (k:Int)∧k+kk=n∧Hid (∀ i,i<k→0<(f i).2)∧Hid (HP w wr [Sum.inl (w.heap.size,71,#[.int .u64 0,.string ⟨#[]⟩,.bool false,.int .u64 0,.string ⟨#[]⟩]),Sum.inl (gx2,71,#[.int .u64 0,.string ⟨#[]⟩,.bool false,.int .u64 (lo (1)),.string (bg (1))])]))
 case atStart=>exact ⟨0,rfl,by omega,lh_ (fun i h=>absurd h (Nat.not_lt_zero _)),I⟩
 case round =>
  rename_i J_ K_ hj1_ hj0_
  clear I
  obtain ⟨k,rfl,hkn,HPK,I⟩:=hrel
  rcases gk with _|kk
  ·obtain rfl:n=k:=by omega
   have hlt9:¬ (n:Int)<(n:Int):=by omega
   refine ks1_ fun K O T Y=>?_
   refine tk ?_
   refine nlS Y I fun vw3 J=>?_
   clear Y T I
   go_wp2
   refine kO O ?_;clear O K
   have I:=J;clear J
   clear hlt9
   refine wp_seq ?_
   refine wp_cond_false (by rfl) ?_
   refine wp_exit ?_
   show Code.wp _ _ _ _ _
   refine wp_seq ?_
   refine ks3_ fun K O T Y=>?_
   refine tk3_ ?_
   refine nlS Y I fun vw4 J=>?_
   clear Y T I
   go_wp2
   refine kO O ?_;clear O K
   have I:=J;clear J
   refine wp_block ?_
   go_loopg [27] n (fun kk iv wr=>∃ (k:Nat) (R1:Int) (M1:Nat),iv=.int .i64 (k:Int)∧k+kk=n∧Hid (chn f k=some (R1,M1))∧wl M1≤1+10*k∧Hid (HP w wr [Sum.inl (w.heap.size,71,#[.int .u64 0,.string ⟨#[]⟩,.bool false,.int .u64 0,.string ⟨#[]⟩]),Sum.inl (gx2,71,#[.int .u64 (lo R1.natAbs),.string (bg R1.natAbs),.bool (R1<0),.int .u64 (lo M1),.string (bg M1)])]))
   case atStart=>exact ⟨0,0,1,rfl,by omega,lh_ rfl,qb1.2 (by decide +kernel),I⟩
   case round =>
    rename_i J2_ K2_ hm1_ hm0_
    clear I
    obtain ⟨k,R1,M1,rfl,hkn,HCH,hwM,I⟩:=hrel
    have HP1:=lh_ (qf3 (fun i hi=>HPK.out i om) HCH.out)
    have hM1:0<M1:=HP1.out.1
    have hwR:wl R1.natAbs≤1+10*k:=by have e9:=HP1.out;exact Nat.le_trans (qa4 (by have:=e9.2.1;have:=e9.2.2.1;omega)) hwM
    rcases gk with _|kk
    ·obtain rfl:n=k:=by omega
     obtain ⟨rfl,rfl,rfl⟩:=(HV.out.2 HPK.out).2 _ _ HCH.out
     have hlt9:¬ (n:Int)<(n:Int):=by omega
     refine ks1_ fun K O T Y=>?_
     refine tk ?_
     refine nlS Y I fun vw5 J=>?_
     clear Y T I
     go_wp2
     refine kO O ?_;clear O K
     have I:=J;clear J
     clear hlt9
     refine wp_seq ?_
     refine wp_cond_false (by rfl) ?_
     refine wp_exit ?_
     show Code.wp _ _ _ _ _
     have lx2:=kc1_ I
     refine ks1_ fun K O T Y=>?_
     refine tk ?_
     refine nlS Y I fun vw6 J=>?_
     clear Y T I lx2
     have lx0:=kc0_ J;have fx0:=kf0_ J
     have r0:=Gr.refl vw6
     go_wp2
     refine kO O ?_;clear O K
     clear r0 lx0 fx0
     refine fH (((((J.out).put2 0 0 rfl).put2 0 2 rfl).put 0 4 _ rfl).er 1) fun Wx16 I=>?_
     clear J
     refine wp_ret ?_
     try simp only [Exit.then,Exit.inBlock]
     have lx0:=kc0_ I
     have r0:=Gr.refl Wx16
     exact bodyPost_ret (v:=.tuple #[(.agg #[.int .u64 (lo R1.natAbs),.string (bg R1.natAbs),.bool (R1<0),.int .u64 (lo M1),.string (bg M1)]),.int .i64 0]) (by simp [results,Tryz.results29,go_sem,lx0 _ r0]) rfl ⟨rfl,I.out.1⟩
    ·rcases HRS.out with ⟨_,_,_,hz⟩|⟨b9,o9,c',hv,hb,hc⟩
     ·omega
     injection hv with hv1 _ hv3
     subst hv1 hv3
     have hkn':k<n:=by omega
     obtain ⟨r,HR⟩:∃ x,Hid ((f k).1=x):=⟨_,lh_ rfl⟩
     obtain ⟨mm,HM⟩:∃ x,Hid ((f k).2=x):=⟨_,lh_ rfl⟩
     have HE0:Hid (∀ w',Gr w w'→w'.cell? ⟨b9,o9+k*5,none⟩=some (.int .u64 (lo (Int.natAbs r)))):=lh_ (fun w' hw=>(Below.cell hw (p:=⟨b9,o9+k*5,none⟩) hb).trans ((hc k hkn' 0 (by decide)).trans (by rw [← HR.out];rfl)))
     have HE1:Hid (∀ w',Gr w w'→w'.cell? ⟨b9,o9+k*5+1,none⟩=some (.string (bg (Int.natAbs r)))):=lh_ (fun w' hw=>(Below.cell hw (p:=⟨b9,o9+k*5+1,none⟩) hb).trans ((hc k hkn' 1 (by decide)).trans (by rw [← HR.out];rfl)))
     have HE2:Hid (∀ w',Gr w w'→w'.cell? ⟨b9,o9+k*5+2,none⟩=some (.bool (decide (r<0)))):=lh_ (fun w' hw=>(Below.cell hw (p:=⟨b9,o9+k*5+2,none⟩) hb).trans ((hc k hkn' 2 (by decide)).trans (by rw [← HR.out];rfl)))
     have HE3:Hid (∀ w',Gr w w'→w'.cell? ⟨b9,o9+k*5+3,none⟩=some (.int .u64 ((lo mm:Nat):Int))):=lh_ (fun w' hw=>(Below.cell hw (p:=⟨b9,o9+k*5+3,none⟩) hb).trans ((hc k hkn' 3 (by decide)).trans (by rw [← HM.out];rfl)))
     have HE4:Hid (∀ w',Gr w w'→w'.cell? ⟨b9,o9+k*5+4,none⟩=some (.string (bg mm))):=lh_ (fun w' hw=>(Below.cell hw (p:=⟨b9,o9+k*5+4,none⟩) hb).trans ((hc k hkn' 4 (by decide)).trans (by rw [← HM.out];rfl)))
     clear hc hb
     have hkl:(k:Int)<(n:Int):=by omega
     have hwk:IntKind.i64.wrap ((k:Int)+1)=(k:Int)+1:=by rw [IntKind.wrap_i64];omega
     have hmm:0<mm:=by rw [← HM.out];exact HPK.out k hkn'
     obtain ⟨hwr,hwm⟩:=HSZ.out k hkn'
     rw [HR.out] at hwr
     rw [HM.out] at hwm
     by_cases hc:(r - R1) % (egcd ((M1:Nat):Int) ((mm:Nat):Int)).1=0
     ·have HC:=lh_ hc
      obtain ⟨z2,HZ2⟩:∃ x,Hid (crt R1 M1 r mm=x):=⟨_,lh_ rfl⟩
      obtain ⟨m2,HM2⟩:∃ x,Hid (crm M1 mm=x):=⟨_,lh_ rfl⟩
      have HCH2:Hid (chn f (k+1)=some (z2,m2)):=lh_ (by rw [qG4 HCH.out (by rw [HR.out,HM.out];exact hc),HR.out,HM.out,HZ2.out,HM2.out])
      have hwM2:wl m2≤1+10*(k+1):=by rw [← HM2.out];have:=xk9 (M1:=M1) (M2:=mm);omega
      clear hc
      have hlt9:(k:Int)<(n:Int):=by omega
      refine ks1_ fun K O T Y=>?_
      refine tk ?_
      refine nlS Y I fun vw5 J=>?_
      clear Y T I
      go_wp2
      refine kO O ?_;clear O K
      have I:=J;clear J
      clear hlt9
      refine wp_seq ?_
      refine wp_cond_true (by rfl) ?_
      refine wp_skip ?_
      show Code.wp _ _ _ _ _
      refine wp_seq ?_
      refine wp_block ?_
      have lx90_0:=fun w' (h:Gr _ w')=>HE0.out w' (Gr.trans I.out.1 h)
      have lx90_1:=fun w' (h:Gr _ w')=>HE1.out w' (Gr.trans I.out.1 h)
      have lx90_2:=fun w' (h:Gr _ w')=>HE2.out w' (Gr.trans I.out.1 h)
      have lx90_3:=fun w' (h:Gr _ w')=>HE3.out w' (Gr.trans I.out.1 h)
      have lx90_4:=fun w' (h:Gr _ w')=>HE4.out w' (Gr.trans I.out.1 h)
      refine ks2_ fun K O T Y=>?_
      refine tk2_ ?_
      refine nlS Y I fun vw6 J=>?_
      clear Y T I lx90_0 lx90_1 lx90_2 lx90_3 lx90_4
      go_wp2
      refine kF_ O ((J.out).aL (vw6.heap.size)) fun Wx10 I=>?_;clear O K
      clear J
      generalize vw6.heap.size=gx3 at *
      have lx2:=kc1_ I
      have lx3:=kc2_ I
      refine ks6_ fun K O T Y=>?_
      refine tk2_ ?_
      refine ck Tryz.call107 (fun w' hw=>xH6 R1 r M1 mm z2 m2 _ HZ2.out HM2.out HC.out hM1 hmm om om om om) ?_
      refine tk3_ ?_
      refine nlS Y I fun vw7 J=>?_
      clear Y T I lx2 lx3
      go_wp2
      refine kF_ O ((J.out).aL (vw7.heap.size)) fun Wx11 I=>?_;clear O K
      clear J
      generalize vw7.heap.size=gx4 at *
      refine wp_seq ?_
      refine ks2_ fun K O T Y=>?_
      refine tk2_ ?_
      refine nlS Y I fun vw8 J=>?_
      clear Y T I
      go_wp2
      refine kO O ?_;clear O K
      have I:=J;clear J
      refine wp_cond_false (by rfl) ?_
      refine wp_skip ?_
      show Code.wp _ _ _ _ _
      have lx4:=kc3_ I
      refine kL fun K O=>?_
      refine sq1_ fun T Y=>?_
      refine tk ?_
      refine nlS Y I fun vw9 J=>?_
      clear Y T I lx4
      have lx2:=kc1_ J;have fx2:=kf1_ J
      have r0:=Gr.refl vw9
      go_wp2
      refine kO O ?_;clear O K
      clear r0 lx2 fx2
      refine fH ((((J.out).put2 1 0 rfl).put2 1 2 rfl).put 1 4 _ rfl) fun Wx14 I=>?_
      clear J
      refine kL fun K O=>?_
      refine sq2_ fun T Y=>?_
      refine tk2_ ?_
      refine nlS Y I fun vw10 J=>?_
      clear Y T I
      go_wp2
      refine O.out _ _ ?_;clear O K
      try simp only [Exit.then,Exit.inBlock]
      have I:=lh_ (J.out);clear J
      refine hm0_ _ _ ?_
      go_roundg kk
      case measure=>omega
      case rel=>exact ⟨k+1,_,_,rfl,by omega,HCH2,hwM2,lh_ (((I.out).er 3).er 2)⟩
     ·have HC:=lh_ hc
      obtain ⟨rfl,rfl,rfl⟩:=(HV.out.2 HPK.out).1 (by
       have e9:=qZ_ (xa0 HCH.out (by rw [HR.out,HM.out];exact hc)) kk
       rwa [show k+1+kk=n by omega] at e9)
      clear hc
      have hlt9:(k:Int)<(n:Int):=by omega
      refine ks1_ fun K O T Y=>?_
      refine tk ?_
      refine nlS Y I fun vw5 J=>?_
      clear Y T I
      go_wp2
      refine kO O ?_;clear O K
      have I:=J;clear J
      clear hlt9
      refine wp_seq ?_
      refine wp_cond_true (by rfl) ?_
      refine wp_skip ?_
      show Code.wp _ _ _ _ _
      refine wp_seq ?_
      refine wp_block ?_
      have lx90_0:=fun w' (h:Gr _ w')=>HE0.out w' (Gr.trans I.out.1 h)
      have lx90_1:=fun w' (h:Gr _ w')=>HE1.out w' (Gr.trans I.out.1 h)
      have lx90_2:=fun w' (h:Gr _ w')=>HE2.out w' (Gr.trans I.out.1 h)
      have lx90_3:=fun w' (h:Gr _ w')=>HE3.out w' (Gr.trans I.out.1 h)
      have lx90_4:=fun w' (h:Gr _ w')=>HE4.out w' (Gr.trans I.out.1 h)
      refine ks2_ fun K O T Y=>?_
      refine tk2_ ?_
      refine nlS Y I fun vw6 J=>?_
      clear Y T I lx90_0 lx90_1 lx90_2 lx90_3 lx90_4
      go_wp2
      refine kF_ O ((J.out).aL (vw6.heap.size)) fun Wx10 I=>?_;clear O K
      clear J
      generalize vw6.heap.size=gx3 at *
      have lx2:=kc1_ I
      have lx3:=kc2_ I
      refine ks6_ fun K O T Y=>?_
      refine tk2_ ?_
      refine ck Tryz.call107 (fun w' hw=>qW0 R1 r M1 mm _ HC.out hM1 hmm om om om om) ?_
      refine tk3_ ?_
      refine nlS Y I fun vw7 J=>?_
      clear Y T I lx2 lx3
      go_wp2
      refine kF_ O ((J.out).aL (vw7.heap.size)) fun Wx11 I=>?_;clear O K
      clear J
      generalize vw7.heap.size=gx4 at *
      refine wp_seq ?_
      refine ks2_ fun K O T Y=>?_
      refine tk2_ ?_
      refine nlS Y I fun vw8 J=>?_
      clear Y T I
      go_wp2
      refine kO O ?_;clear O K
      have I:=J;clear J
      refine wp_cond_true (by rfl) ?_
      refine ks2_ fun K O T Y=>?_
      refine tk2_ ?_
      refine nlS Y I fun vw9 J=>?_
      clear Y T I
      have lx0:=kc0_ J;have fx0:=kf0_ J
      have r0:=Gr.refl vw9
      go_wp2
      refine kO O ?_;clear O K
      clear r0 lx0 fx0
      refine fH ((((J.out).put2 0 0 rfl).put2 0 2 rfl).put 0 4 _ rfl) fun Wx13 I=>?_
      clear J
      refine wp_ret ?_
      try simp only [Exit.then,Exit.inBlock]
      have lx0:=kc0_ I
      have r0:=Gr.refl Wx13
      exact bodyPost_ret (v:=.tuple #[(.agg #[.int .u64 0,.string ⟨#[]⟩,.bool false,.int .u64 0,.string ⟨#[]⟩]),.int .i64 6]) (by simp [results,Tryz.results29,go_sem,lx0 _ r0]) rfl ⟨rfl,I.out.1⟩
  ·rcases HRS.out with ⟨_,_,_,hz⟩|⟨b9,o9,c',hv,hb,hc⟩
   ·omega
   injection hv with hv1 _ hv3
   subst hv1 hv3
   have hkn':k<n:=by omega
   obtain ⟨r,HR⟩:∃ x,Hid ((f k).1=x):=⟨_,lh_ rfl⟩
   obtain ⟨mm,HM⟩:∃ x,Hid ((f k).2=x):=⟨_,lh_ rfl⟩
   have HE0:Hid (∀ w',Gr w w'→w'.cell? ⟨b9,o9+k*5,none⟩=some (.int .u64 (lo (Int.natAbs r)))):=lh_ (fun w' hw=>(Below.cell hw (p:=⟨b9,o9+k*5,none⟩) hb).trans ((hc k hkn' 0 (by decide)).trans (by rw [← HR.out];rfl)))
   have HE1:Hid (∀ w',Gr w w'→w'.cell? ⟨b9,o9+k*5+1,none⟩=some (.string (bg (Int.natAbs r)))):=lh_ (fun w' hw=>(Below.cell hw (p:=⟨b9,o9+k*5+1,none⟩) hb).trans ((hc k hkn' 1 (by decide)).trans (by rw [← HR.out];rfl)))
   have HE2:Hid (∀ w',Gr w w'→w'.cell? ⟨b9,o9+k*5+2,none⟩=some (.bool (decide (r<0)))):=lh_ (fun w' hw=>(Below.cell hw (p:=⟨b9,o9+k*5+2,none⟩) hb).trans ((hc k hkn' 2 (by decide)).trans (by rw [← HR.out];rfl)))
   have HE3:Hid (∀ w',Gr w w'→w'.cell? ⟨b9,o9+k*5+3,none⟩=some (.int .u64 ((lo mm:Nat):Int))):=lh_ (fun w' hw=>(Below.cell hw (p:=⟨b9,o9+k*5+3,none⟩) hb).trans ((hc k hkn' 3 (by decide)).trans (by rw [← HM.out];rfl)))
   have HE4:Hid (∀ w',Gr w w'→w'.cell? ⟨b9,o9+k*5+4,none⟩=some (.string (bg mm))):=lh_ (fun w' hw=>(Below.cell hw (p:=⟨b9,o9+k*5+4,none⟩) hb).trans ((hc k hkn' 4 (by decide)).trans (by rw [← HM.out];rfl)))
   clear hc hb
   have hkl:(k:Int)<(n:Int):=by omega
   have hwk:IntKind.i64.wrap ((k:Int)+1)=(k:Int)+1:=by rw [IntKind.wrap_i64];omega
   by_cases h0:mm=0
   ·have HM0:=lh_ h0
    obtain ⟨rfl,rfl,rfl⟩:=HV.out.1 ⟨k,hkn',by rw [HM.out];exact h0⟩
    clear h0
    have hlt9:(k:Int)<(n:Int):=by omega
    refine ks1_ fun K O T Y=>?_
    refine tk ?_
    refine nlS Y I fun vw3 J=>?_
    clear Y T I
    go_wp2
    refine kO O ?_;clear O K
    have I:=J;clear J
    clear hlt9
    refine wp_seq ?_
    refine wp_cond_true (by rfl) ?_
    refine wp_skip ?_
    show Code.wp _ _ _ _ _
    refine wp_seq ?_
    refine wp_block ?_
    have lx90_0:=fun w' (h:Gr _ w')=>HE0.out w' (Gr.trans I.out.1 h)
    have lx90_1:=fun w' (h:Gr _ w')=>HE1.out w' (Gr.trans I.out.1 h)
    have lx90_2:=fun w' (h:Gr _ w')=>HE2.out w' (Gr.trans I.out.1 h)
    have lx90_3:=fun w' (h:Gr _ w')=>HE3.out w' (Gr.trans I.out.1 h)
    have lx90_4:=fun w' (h:Gr _ w')=>HE4.out w' (Gr.trans I.out.1 h)
    refine ks2_ fun K O T Y=>?_
    refine tk2_ ?_
    refine nlS Y I fun vw4 J=>?_
    clear Y T I lx90_0 lx90_1 lx90_2 lx90_3 lx90_4
    go_wp2
    refine kF_ O ((J.out).aL (vw4.heap.size)) fun Wx4 I=>?_;clear O K
    clear J
    generalize vw4.heap.size=gx3 at *
    have hd1:decide (mm=0)=true:=decide_eq_true (by first|exact ok|exact HM0.out)
    have lx3:=kc2_ I
    refine ks4_ fun K O T Y=>?_
    iterate 4 refine tk ?_
    refine nlS Y I fun vw5 J=>?_
    clear Y T I lx3
    go_wp2
    refine kO O ?_;clear O K
    have I:=J;clear J
    clear hd1
    refine wp_cond_true (by rfl) ?_
    refine ks1_ fun K O T Y=>?_
    refine tk ?_
    refine nlS Y I fun vw6 J=>?_
    clear Y T I
    have lx0:=kc0_ J;have fx0:=kf0_ J
    have r0:=Gr.refl vw6
    go_wp2
    refine kO O ?_;clear O K
    clear r0 lx0 fx0
    refine fH ((((J.out).put2 0 0 rfl).put2 0 2 rfl).put 0 4 _ rfl) fun Wx6 I=>?_
    clear J
    refine wp_ret ?_
    try simp only [Exit.then,Exit.inBlock]
    have lx0:=kc0_ I
    have r0:=Gr.refl Wx6
    exact bodyPost_ret (v:=.tuple #[(.agg #[.int .u64 0,.string ⟨#[]⟩,.bool false,.int .u64 0,.string ⟨#[]⟩]),.int .i64 5]) (by simp [results,Tryz.results29,go_sem,lx0 _ r0]) rfl ⟨rfl,I.out.1⟩
   ·have HM0:=lh_ h0
    have HPK2:Hid (∀ i,i<k+1→0<(f i).2):=lh_ (fun i hi=>by
     rcases Nat.lt_succ_iff_lt_or_eq.1 hi with h|rfl
     ·exact HPK.out i h
     ·rw [HM.out];omega)
    clear h0
    have hlt9:(k:Int)<(n:Int):=by omega
    refine ks1_ fun K O T Y=>?_
    refine tk ?_
    refine nlS Y I fun vw3 J=>?_
    clear Y T I
    go_wp2
    refine kO O ?_;clear O K
    have I:=J;clear J
    clear hlt9
    refine wp_seq ?_
    refine wp_cond_true (by rfl) ?_
    refine wp_skip ?_
    show Code.wp _ _ _ _ _
    refine wp_seq ?_
    refine wp_block ?_
    have lx90_0:=fun w' (h:Gr _ w')=>HE0.out w' (Gr.trans I.out.1 h)
    have lx90_1:=fun w' (h:Gr _ w')=>HE1.out w' (Gr.trans I.out.1 h)
    have lx90_2:=fun w' (h:Gr _ w')=>HE2.out w' (Gr.trans I.out.1 h)
    have lx90_3:=fun w' (h:Gr _ w')=>HE3.out w' (Gr.trans I.out.1 h)
    have lx90_4:=fun w' (h:Gr _ w')=>HE4.out w' (Gr.trans I.out.1 h)
    refine ks2_ fun K O T Y=>?_
    refine tk2_ ?_
    refine nlS Y I fun vw4 J=>?_
    clear Y T I lx90_0 lx90_1 lx90_2 lx90_3 lx90_4
    go_wp2
    refine kF_ O ((J.out).aL (vw4.heap.size)) fun Wx4 I=>?_;clear O K
    clear J
    generalize vw4.heap.size=gx3 at *
    have hd1:decide (mm=0)=false:=decide_eq_false (by first|exact ok|exact HM0.out)
    have lx3:=kc2_ I
    refine ks4_ fun K O T Y=>?_
    iterate 4 refine tk ?_
    refine nlS Y I fun vw5 J=>?_
    clear Y T I lx3
    go_wp2
    refine kO O ?_;clear O K
    have I:=J;clear J
    clear hd1
    refine wp_cond_false (by rfl) ?_
    refine wp_skip ?_
    show Code.wp _ _ _ _ _
    refine kL fun K O=>?_
    refine sq2_ fun T Y=>?_
    refine tk2_ ?_
    refine nlS Y I fun vw6 J=>?_
    clear Y T I
    go_wp2
    refine O.out _ _ ?_;clear O K
    try simp only [Exit.then,Exit.inBlock]
    have I:=lh_ (J.out);clear J
    refine hj0_ _ _ ?_
    go_roundg kk
    case measure=>omega
    case rel=>exact ⟨k+1,rfl,by omega,HPK2,lh_ ((I.out).er 2)⟩
theorem qe7 (v:Value) (n:Nat) (f:Nat→Int × Nat) (R:Int) (M:Nat) (cc:Int) (w:World) (h:chv f n R M cc) (HRS:Rs w v n f) (hn:n≤9) (HSZ:∀ i,i<n→wl (f i).1.natAbs≤100∧wl (f i).2≤10) :
  Calls Tryz.prog 29 #[v] w fun e w'=>e=.returned (.tuple #[.agg #[.int .u64 (lo R.natAbs),.string (bg R.natAbs),.bool (R<0),.int .u64 (lo M),.string (bg M)],.int .i64 cc])∧Below w.heap.size w w':=qV6 v n f R M cc w (lh_ h) (lh_ HRS) hn (lh_ HSZ)
end Go.Proofs.YtobojnodohjiaaaGreatDoor
