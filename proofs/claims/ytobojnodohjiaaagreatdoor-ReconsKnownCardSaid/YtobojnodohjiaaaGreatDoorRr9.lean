
/- gussetref07.Chinese. -/
import Derived.Test.YtobojnodohjiaaaGreatDoorOwnP
import Derived.Test.YtobojnodohjiaaaGreatDoorHp
set_option maxRecDepth 100000
set_option maxHeartbeats 16000000
set_option linter.unusedVariables false
set_option linter.unusedSimpArgs false
namespace Go.Proofs.YtobojnodohjiaaaGreatDoor
open Go.RowKit
attribute [local go_sem ↓] Go.wp_at_zero Go.wp_at_succ
attribute [local go_sem ↓] qb8 qa3 qc8
attribute [local go_sem ↓] qb8 qa3
theorem xp9 (vr vm:Value) (n:Nat) (f:Nat→Int × Nat) (R:Int) (M:Nat) (cc:Int) (w:World) (HV:Hid (chv f n R M cc)) (HIR:Hid (Isl w vr n (fun i=>(f i).1))) (HIM:Hid (Isl w vm n (fun i=>(((f i).2:Nat):Int)))) (hn:n≤4) (HSZ:Hid (∀ i,i<n → -100≤(f i).1∧(f i).1≤100∧(f i).2≤12)) :
  Calls Tryz.prog 30 #[vr,vm] w fun e w'=>e=.returned (.tuple #[.int .i64 R,.int .i64 ((M:Nat):Int),.int .i64 cc])∧Below w.heap.size w w':=by
 obtain ⟨ao,c,rfl⟩:=HIR.out.slice
 obtain ⟨ao2,c2,rfl⟩:=HIM.out.slice
 go_enter Tryz.func30,Tryz.ntmps30
 have I:=lh_ (hp0 w)
 refine kS fun K O=>?_
 refine wp_region_lit ?_
 go_wp2
 refine kF_ O (I.out) fun Wx0 J=>?_;clear O K
 clear I;have I:=J;clear J
 refine kS fun K O=>?_
 refine wp_region_lit ?_
 go_wp2
 refine kF_ O (I.out) fun Wx1 J=>?_;clear O K
 clear I;have I:=J;clear J
 refine wp_seq ?_
 refine kS fun K O=>?_
 refine wp_region_lit ?_
 go_wp2
 refine kF_ O (I.out) fun Wx2 J=>?_;clear O K
 clear I;have I:=J;clear J
 refine wp_block ?_
 go_loopg [7,8] n (fun kk av iv wr=>∃ (i L:Nat),av=.int .i64 ((L:Nat):Int)∧iv=.int .i64 ((i:Nat):Int)∧i+kk=n∧Hid (∀ j,j<i→0<(f j).2)∧Hid (lcms f i=L)∧0<L∧L≤12 ^ i∧Hid (HP w wr []))
 case atStart=>exact ⟨0,1,rfl,rfl,by omega,lh_ (fun j h=>absurd h (Nat.not_lt_zero _)),lh_ rfl,by decide,by decide,I⟩
 case round =>
  rename_i Ja_ Ka_ ha1_ ha0_
  clear I
  obtain ⟨i,L,rfl,rfl,hin,HPI,HLC,hL0,hL12,I⟩:=hrel
  have hL9:L≤20736:=Nat.le_trans hL12 (xy7 om)
  rcases gk with _|kk
  ·obtain rfl:n=i:=by omega
   refine wp_seq ?_
   have hlt9:¬ (n:Int)<(n:Int):=by omega
   refine ks4_ fun K O T Y=>?_
   iterate 4 refine tk ?_
   refine nlS Y I fun vw1 J=>?_
   clear Y T I
   go_wp2
   refine kO O ?_;clear O K
   have I:=J;clear J
   clear hlt9
   refine wp_cond_false (by rfl) ?_
   refine wp_exit ?_
   show Code.wp _ _ _ _ _
   refine wp_seq ?_
   refine kS fun K O=>?_
   refine wp_region_lit ?_
   go_wp2
   refine kF_ O (I.out) fun Wx10 J=>?_;clear O K
   clear I;have I:=J;clear J
   refine wp_block ?_
   go_loopg [10] L (fun kk xv wr=>∃ x:Nat,xv=.int .i64 ((x:Nat):Int)∧x+kk=L∧Hid (∀ y,y<x→¬ sat7 f n y)∧Hid (HP w wr []))
   case atStart=>exact ⟨0,rfl,by omega,lh_ (fun y h=>absurd h (Nat.not_lt_zero _)),I⟩
   case round =>
    rename_i Jc_ Kc_ hc1_ hc0_
    clear I
    obtain ⟨x,rfl,hxk,HNS,I⟩:=hrel
    rcases gk with _|kk
    ·obtain rfl:L=x:=by omega
     obtain ⟨rfl,rfl,rfl⟩:=(HV.out.2 HPI.out).1 (qZ9 HPI.out HLC.out HNS.out)
     refine wp_seq ?_
     have hlt9:¬ ((L:Nat):Int)<((L:Nat):Int):=by omega
     refine ks3_ fun K O T Y=>?_
     refine tk3_ ?_
     refine nlS Y I fun vw2 J=>?_
     clear Y T I
     go_wp2
     refine kO O ?_;clear O K
     have I:=J;clear J
     clear hlt9
     refine wp_cond_false (by rfl) ?_
     refine wp_exit ?_
     show Code.wp _ _ _ _ _
     refine kS fun K O=>?_
     refine wp_region_lit ?_
     go_wp2
     refine kF_ O (I.out) fun Wx20 J=>?_;clear O K
     clear I;have I:=J;clear J
     refine wp_ret ?_
     try simp only [Exit.then,Exit.inBlock]
     exact bodyPost_ret (v:=.tuple #[.int .i64 0,.int .i64 0,.int .i64 6]) (by simp [results,Tryz.results30,go_sem]) rfl ⟨rfl,I.out.1⟩
    ·have hxL:x<L:=by omega
     have hxLi:((x:Nat):Int)<((L:Nat):Int):=by omega
     have hwx1:IntKind.i64.wrap ((x:Int)+1)=(x:Int)+1:=qa7 om om
     refine wp_seq ?_
     have hlt9:((x:Nat):Int)<((L:Nat):Int):=by omega
     refine ks3_ fun K O T Y=>?_
     refine tk3_ ?_
     refine nlS Y I fun vw2 J=>?_
     clear Y T I
     go_wp2
     refine kO O ?_;clear O K
     have I:=J;clear J
     clear hlt9
     refine wp_cond_true (by rfl) ?_
     refine wp_skip ?_
     show Code.wp _ _ _ _ _
     refine wp_seq ?_
     refine wp_block ?_
     refine kS fun K O=>?_
     refine wp_region_lit ?_
     go_wp2
     refine kF_ O (I.out) fun Wx13 J=>?_;clear O K
     clear I;have I:=J;clear J
     refine wp_seq ?_
     refine kS fun K O=>?_
     refine wp_region_lit ?_
     go_wp2
     refine kF_ O (I.out) fun Wx14 J=>?_;clear O K
     clear I;have I:=J;clear J
     refine wp_block ?_
     go_loopg [11,12] n (fun k3 ov iv wr=>∃ (i:Nat) (b:Bool),ov=.bool b∧iv=.int .i64 ((i:Nat):Int)∧i+k3=n∧Hid (b=true ↔ sat7 f i x)∧Hid (HP w wr []))
     case atStart=>exact ⟨0,true,rfl,rfl,by omega,lh_ ⟨fun _ j h=>absurd h (Nat.not_lt_zero _),fun _=>rfl⟩,I⟩
     case round =>
      rename_i Jd_ Kd_ hd1_ hd0_
      clear I
      obtain ⟨i,b,rfl,rfl,hin,HOK,I⟩:=hrel
      rcases gk with _|k3
      ·obtain rfl:n=i:=by omega
       cases b
       ·have HNS2:Hid (∀ y,y<x+1→¬ sat7 f n y):=lh_ (fun y hy hs=>by
         rcases Nat.lt_succ_iff_lt_or_eq.1 hy with h|rfl
         ·exact HNS.out y h hs
         ·exact absurd (HOK.out.2 hs) (by decide))
        refine wp_seq ?_
        have hlt9:¬ (n:Int)<(n:Int):=by omega
        refine ks4_ fun K O T Y=>?_
        iterate 4 refine tk ?_
        refine nlS Y I fun vw3 J=>?_
        clear Y T I
        go_wp2
        refine kO O ?_;clear O K
        have I:=J;clear J
        clear hlt9
        refine wp_cond_false (by rfl) ?_
        refine wp_exit ?_
        show Code.wp _ _ _ _ _
        refine ks1_ fun K O T Y=>?_
        refine tk ?_
        refine nlS Y I fun vw4 J=>?_
        clear Y T I
        go_wp2
        refine kO O ?_;clear O K
        have I:=J;clear J
        refine wp_cond_false (by rfl) ?_
        refine wp_skip ?_
        show Code.wp _ _ _ _ _
        refine kL fun K O=>?_
        refine sq3_ fun T Y=>?_
        refine tk3_ ?_
        refine nlS Y I fun vw5 J=>?_
        clear Y T I
        go_wp2
        refine O.out _ _ ?_;clear O K
        try simp only [Exit.then,Exit.inBlock]
        have I:=lh_ (J.out);clear J
        refine hc0_ _ _ ?_
        go_roundg kk
        case measure=>omega
        case rel=>exact ⟨x+1,by go_num,by omega,HNS2,lh_ (I.out)⟩
       ·obtain ⟨rfl,rfl,rfl⟩:=(HV.out.2 HPI.out).2 _ _ (qQ0 HPI.out HLC.out (HOK.out.1 rfl) hxL)
        refine wp_seq ?_
        have hlt9:¬ (n:Int)<(n:Int):=by omega
        refine ks4_ fun K O T Y=>?_
        iterate 4 refine tk ?_
        refine nlS Y I fun vw3 J=>?_
        clear Y T I
        go_wp2
        refine kO O ?_;clear O K
        have I:=J;clear J
        clear hlt9
        refine wp_cond_false (by rfl) ?_
        refine wp_exit ?_
        show Code.wp _ _ _ _ _
        refine ks1_ fun K O T Y=>?_
        refine tk ?_
        refine nlS Y I fun vw4 J=>?_
        clear Y T I
        go_wp2
        refine kO O ?_;clear O K
        have I:=J;clear J
        refine wp_cond_true (by rfl) ?_
        refine ks5_ fun K O T Y=>?_
        iterate 5 refine tk ?_
        refine nlS Y I fun vw5 J=>?_
        clear Y T I
        go_wp2
        refine kO O ?_;clear O K
        have I:=J;clear J
        refine wp_ret ?_
        try simp only [Exit.then,Exit.inBlock]
        exact bodyPost_ret (v:=.tuple #[.int .i64 (((x:Nat):Int)),.int .i64 (((L:Nat):Int)),.int .i64 0]) (by simp [results,Tryz.results30,go_sem]) rfl ⟨rfl,I.out.1⟩
      ·rcases HIM.out with ⟨_,_,_,hz⟩|⟨b9,o9,c9,hv,hb,hc⟩
       ·omega
       injection hv with hv1 _ hv3
       subst hv1 hv3
       have HCM:=lh_ hc
       have HBM:=lh_ hb
       clear hc hb
       rcases HIR.out with ⟨_,_,_,hz⟩|⟨b8,o8,c8,hv,hb,hc⟩
       ·omega
       injection hv with hv1 _ hv3
       subst hv1 hv3
       have hin':i<n:=by omega
       obtain ⟨m,HM⟩:∃ m:Nat,Hid ((f i).2=m):=⟨_,lh_ rfl⟩
       obtain ⟨r,HR⟩:∃ r:Int,Hid ((f i).1=r):=⟨_,lh_ rfl⟩
       obtain ⟨hr1,hr2,hm12⟩:=HSZ.out i hin'
       rw [HR.out] at hr1 hr2
       rw [HM.out] at hm12
       have hm0:0<m:=by rw [← HM.out];exact HPI.out i hin'
       have HEM:Hid (∀ w',Gr w w'→w'.cell? ⟨b9,o9+i,none⟩=some (.int .i64 ((m:Nat):Int))):=lh_ (fun w' hw=>(Below.cell hw (p:=⟨b9,o9+i,none⟩) HBM.out).trans (by rw [← HM.out];exact HCM.out i hin'))
       have HER:Hid (∀ w',Gr w w'→w'.cell? ⟨b8,o8+i,none⟩=some (.int .i64 r)):=lh_ (fun w' hw=>(Below.cell hw (p:=⟨b8,o8+i,none⟩) hb).trans (by rw [← HR.out];exact hc i hin'))
       clear hc hb
       have hil:(i:Int)<(n:Int):=by omega
       have hwi:IntKind.i64.wrap ((i:Int)+1)=(i:Int)+1:=qa7 om om
       have hwx:IntKind.i64.wrap ((x:Int) - r)=(x:Int) - r:=qa7 om om
       cases b
       ·have HOK2:Hid (¬ sat7 f (i+1) x):=lh_ (fun h=>absurd (HOK.out.2 (qx1.1 h).1) (by decide))
        refine wp_seq ?_
        have hlt9:(i:Int)<(n:Int):=by omega
        refine ks4_ fun K O T Y=>?_
        iterate 4 refine tk ?_
        refine nlS Y I fun vw3 J=>?_
        clear Y T I
        go_wp2
        refine kO O ?_;clear O K
        have I:=J;clear J
        clear hlt9
        refine wp_cond_true (by rfl) ?_
        refine wp_skip ?_
        show Code.wp _ _ _ _ _
        refine wp_seq ?_
        refine wp_block ?_
        refine kL fun K O=>?_
        refine xp0 fun T Y=>?_
        refine tk2_ ?_
        iterate 12 refine sk ?_
        refine tk ?_
        refine nlD Y I fun vw4 J=>?_
        clear Y T I
        go_wp2
        refine kO O ?_;clear O K
        have I:=J;clear J
        refine kL fun K O=>?_
        refine sq3_ fun T Y=>?_
        refine tk3_ ?_
        refine nlS Y I fun vw5 J=>?_
        clear Y T I
        go_wp2
        refine O.out _ _ ?_;clear O K
        try simp only [Exit.then,Exit.inBlock]
        have I:=lh_ (J.out);clear J
        refine hd0_ _ _ ?_
        go_roundg k3
        case measure=>omega
        case rel=>exact ⟨i+1,false,rfl,by go_num,by omega,lh_ ⟨fun h=>absurd h (by decide),fun h=>absurd h HOK2.out⟩,lh_ (I.out)⟩
       ·obtain ⟨z,HZ⟩:∃ z,Hid ((((x:Nat):Int) - r) % ((m:Nat):Int)=z):=⟨_,lh_ rfl⟩
        by_cases hz0:z=0
        ·have HOK2:Hid (sat7 f (i+1) x):=lh_ (qx1.2 ⟨HOK.out.1 rfl,by rw [HM.out,HR.out];exact Int.dvd_of_emod_eq_zero (HZ.out.trans hz0)⟩)
         have hzq:(z == 0)=true:=by simp [hz0]
         have HZ0:=lh_ hz0
         clear hz0
         refine wp_seq ?_
         have hlt9:(i:Int)<(n:Int):=by omega
         refine ks4_ fun K O T Y=>?_
         iterate 4 refine tk ?_
         refine nlS Y I fun vw3 J=>?_
         clear Y T I
         go_wp2
         refine kO O ?_;clear O K
         have I:=J;clear J
         clear hlt9
         refine wp_cond_true (by rfl) ?_
         refine wp_skip ?_
         show Code.wp _ _ _ _ _
         refine wp_seq ?_
         refine wp_block ?_
         have lx90_0:=fun w' (h:Gr _ w')=>HEM.out w' (Gr.trans I.out.1 h)
         have lx91_0:=fun w' (h:Gr _ w')=>HER.out w' (Gr.trans I.out.1 h)
         refine kL fun K O=>?_
         refine xp0 fun T Y=>?_
         iterate 12 refine tk ?_
         refine ck Tryz.call108 (fun w' hw=>xj2 (((x:Nat):Int) - r) (((m:Nat):Int)) z _ HZ.out om om om om) ?_
         refine tk2_ ?_
         refine nlD Y I fun vw4 J=>?_
         clear Y T I lx90_0 lx91_0
         go_wp2
         refine kO O ?_;clear O K
         have I:=J;clear J
         refine kL fun K O=>?_
         refine sq3_ fun T Y=>?_
         refine tk3_ ?_
         refine nlS Y I fun vw5 J=>?_
         clear Y T I
         go_wp2
         refine O.out _ _ ?_;clear O K
         try simp only [Exit.then,Exit.inBlock]
         have I:=lh_ (J.out);clear J
         refine hd0_ _ _ ?_
         go_roundg k3
         case measure=>omega
         case rel=>exact ⟨i+1,true,rfl,by go_num,by omega,lh_ ⟨fun _=>HOK2.out,fun _=>rfl⟩,lh_ (I.out)⟩
        ·have HOK2:Hid (¬ sat7 f (i+1) x):=lh_ (fun h=>absurd (by have e9:=(qx1.1 h).2;rw [HM.out,HR.out] at e9;rw [← HZ.out];exact Int.emod_eq_zero_of_dvd e9) hz0)
         have hzq:(z == 0)=false:=by simpa using hz0
         have hzn:¬ z=0:=hz0
         refine wp_seq ?_
         have hlt9:(i:Int)<(n:Int):=by omega
         refine ks4_ fun K O T Y=>?_
         iterate 4 refine tk ?_
         refine nlS Y I fun vw3 J=>?_
         clear Y T I
         go_wp2
         refine kO O ?_;clear O K
         have I:=J;clear J
         clear hlt9
         refine wp_cond_true (by rfl) ?_
         refine wp_skip ?_
         show Code.wp _ _ _ _ _
         refine wp_seq ?_
         refine wp_block ?_
         have lx90_0:=fun w' (h:Gr _ w')=>HEM.out w' (Gr.trans I.out.1 h)
         have lx91_0:=fun w' (h:Gr _ w')=>HER.out w' (Gr.trans I.out.1 h)
         refine kL fun K O=>?_
         refine xp0 fun T Y=>?_
         iterate 12 refine tk ?_
         refine ck Tryz.call108 (fun w' hw=>xj2 (((x:Nat):Int) - r) (((m:Nat):Int)) z _ HZ.out om om om om) ?_
         refine tk2_ ?_
         refine nlD Y I fun vw4 J=>?_
         clear Y T I lx90_0 lx91_0
         go_wp2
         refine kO O ?_;clear O K
         have I:=J;clear J
         refine kL fun K O=>?_
         refine sq3_ fun T Y=>?_
         refine tk3_ ?_
         refine nlS Y I fun vw5 J=>?_
         clear Y T I
         go_wp2
         refine O.out _ _ ?_;clear O K
         try simp only [Exit.then,Exit.inBlock]
         have I:=lh_ (J.out);clear J
         refine hd0_ _ _ ?_
         go_roundg k3
         case measure=>omega
         case rel=>exact ⟨i+1,false,rfl,by go_num,by omega,lh_ ⟨fun h=>absurd h (by decide),fun h=>absurd h HOK2.out⟩,lh_ (I.out)⟩
  ·rcases HIM.out with ⟨_,_,_,hz⟩|⟨b9,o9,c9,hv,hb,hc⟩
   ·omega
   injection hv with hv1 _ hv3
   subst hv1 hv3
   have hin':i<n:=by omega
   obtain ⟨m,HM⟩:∃ m:Nat,Hid ((f i).2=m):=⟨_,lh_ rfl⟩
   have hm12:m≤12:=by rw [← HM.out];exact (HSZ.out i hin').2.2
   have HEM:Hid (∀ w',Gr w w'→w'.cell? ⟨b9,o9+i,none⟩=some (.int .i64 ((m:Nat):Int))):=lh_ (fun w' hw=>(Below.cell hw (p:=⟨b9,o9+i,none⟩) hb).trans (by rw [← HM.out];exact hc i hin'))
   clear hc hb
   have hil:(i:Int)<(n:Int):=by omega
   have hwi:IntKind.i64.wrap ((i:Int)+1)=(i:Int)+1:=qa7 om om
   by_cases h0:m=0
   ·obtain ⟨rfl,rfl,rfl⟩:=HV.out.1 ⟨i,hin',by rw [HM.out];exact h0⟩
    have HM0:=lh_ h0
    clear h0
    refine wp_seq ?_
    have hlt9:(i:Int)<(n:Int):=by omega
    refine ks4_ fun K O T Y=>?_
    iterate 4 refine tk ?_
    refine nlS Y I fun vw1 J=>?_
    clear Y T I
    go_wp2
    refine kO O ?_;clear O K
    have I:=J;clear J
    clear hlt9
    refine wp_cond_true (by rfl) ?_
    refine wp_skip ?_
    show Code.wp _ _ _ _ _
    refine wp_seq ?_
    refine wp_block ?_
    refine wp_seq ?_
    have hmz:(((m:Nat):Int) == 0)=true:=by have e9:=HM0.out;simp [e9]
    have lx90_0:=fun w' (h:Gr _ w')=>HEM.out w' (Gr.trans I.out.1 h)
    refine ks5_ fun K O T Y=>?_
    iterate 5 refine tk ?_
    refine nlS Y I fun vw2 J=>?_
    clear Y T I lx90_0
    go_wp2
    refine kO O ?_;clear O K
    have I:=J;clear J
    clear hmz
    refine wp_cond_true (by rfl) ?_
    refine kS fun K O=>?_
    refine wp_region_lit ?_
    go_wp2
    refine kF_ O (I.out) fun Wx6 J=>?_;clear O K
    clear I;have I:=J;clear J
    refine wp_ret ?_
    try simp only [Exit.then,Exit.inBlock]
    exact bodyPost_ret (v:=.tuple #[.int .i64 0,.int .i64 0,.int .i64 5]) (by simp [results,Tryz.results30,go_sem]) rfl ⟨rfl,I.out.1⟩
   ·have HM0:=lh_ h0
    have hm0:0<m:=by omega
    have HPI2:Hid (∀ j,j<i+1→0<(f j).2):=lh_ (fun j hj=>by
     rcases Nat.lt_succ_iff_lt_or_eq.1 hj with h|rfl
     ·exact HPI.out j h
     ·rw [HM.out];exact hm0)
    clear h0
    refine wp_seq ?_
    have hlt9:(i:Int)<(n:Int):=by omega
    refine ks4_ fun K O T Y=>?_
    iterate 4 refine tk ?_
    refine nlS Y I fun vw1 J=>?_
    clear Y T I
    go_wp2
    refine kO O ?_;clear O K
    have I:=J;clear J
    clear hlt9
    refine wp_cond_true (by rfl) ?_
    refine wp_skip ?_
    show Code.wp _ _ _ _ _
    refine wp_seq ?_
    refine wp_block ?_
    refine wp_seq ?_
    have hmz:(((m:Nat):Int) == 0)=false:=by have e9:=HM0.out;simpa using e9
    have hmzi:¬ ((m:Nat):Int)=0:=by omega
    have lx90_0:=fun w' (h:Gr _ w')=>HEM.out w' (Gr.trans I.out.1 h)
    refine ks5_ fun K O T Y=>?_
    iterate 5 refine tk ?_
    refine nlS Y I fun vw2 J=>?_
    clear Y T I lx90_0
    go_wp2
    refine kO O ?_;clear O K
    have I:=J;clear J
    clear hmz hmzi
    refine wp_cond_false (by rfl) ?_
    refine wp_skip ?_
    show Code.wp _ _ _ _ _
    refine ks2_ fun K O T Y=>?_
    refine tk2_ ?_
    refine nlS Y I fun vw3 J=>?_
    clear Y T I
    go_wp2
    refine kO O ?_;clear O K
    have I:=J;clear J
    refine wp_block ?_
    go_loopg [7] (m - 1) (fun k2 av wr=>∃ j:Nat,av=.int .i64 ((L*j:Nat):Int)∧j+k2=m∧1≤j∧Hid (∀ j',1≤j'→j'<j→¬ m ∣ L*j')∧Hid (HP w wr []))
    case atStart=>exact ⟨1,by rw [Nat.mul_one],by omega,Nat.le_refl _,lh_ (fun j' h1 h2=>by omega),I⟩
    case round =>
     rename_i Jb_ Kb_ hb1_ hb0_
     clear I
     obtain ⟨j,rfl,hjk,hj1,HND,I⟩:=hrel
     obtain ⟨A,hA⟩:∃ A,L*j=A:=⟨_,rfl⟩
     rw [hA]
     have hA9:A≤250000:=by have:=Nat.mul_le_mul hL9 (show j≤12 by omega);omega
     have hmi:¬ m=0:=by omega
     have hr1:Int.tmod ((A:Nat):Int) ((m:Nat):Int)=((A:Nat):Int) % ((m:Nat):Int):=rfl
     have hr3:((A:Nat):Int) % ((m:Nat):Int)=((A % m:Nat):Int):=rfl
     have hrl:=Nat.mod_lt A hm0
     have hwr:IntKind.i64.wrap (((A:Nat):Int) % ((m:Nat):Int))=((A:Nat):Int) % ((m:Nat):Int):=qa7 om om
     by_cases hd:A % m=0
     ·have hdv:=Nat.dvd_of_mod_eq_zero hd
      have HLC2:Hid (lcms f (i+1)=A):=lh_ (by rw [lcms,HLC.out,HM.out,← hA];exact qT3 hL0 hm0 hj1 (by rw [hA];exact hdv) HND.out)
      have hA0:0<A:=by rw [← hA];exact Nat.mul_pos hL0 hj1
      have hA12:A≤12 ^ (i+1):=by rw [← hA,Nat.pow_succ];exact Nat.mul_le_mul hL12 om
      have hq1:(((A:Nat):Int) % ((m:Nat):Int) == 0)=true:=by rw [hr3,hd];rfl
      have hq2:(((A:Nat):Int) % ((m:Nat):Int) != 0)=false:=by rw [hr3,hd];rfl
      clear hd hdv hr3 hrl hA
      refine wp_seq ?_
      have lx90_0:=fun w' (h:Gr _ w')=>HEM.out w' (Gr.trans I.out.1 h)
      refine ks7_ fun K O T Y=>?_
      iterate 7 refine tk ?_
      refine nlS Y I fun vw4 J=>?_
      clear Y T I lx90_0
      go_wp2
      refine kO O ?_;clear O K
      have I:=J;clear J
      refine wp_cond_false (by rfl) ?_
      refine wp_exit ?_
      show Code.wp _ _ _ _ _
      refine kL fun K O=>?_
      refine sq3_ fun T Y=>?_
      refine tk3_ ?_
      refine nlS Y I fun vw5 J=>?_
      clear Y T I
      go_wp2
      refine O.out _ _ ?_;clear O K
      try simp only [Exit.then,Exit.inBlock]
      have I:=lh_ (J.out);clear J
      refine ha0_ _ _ ?_
      go_roundg kk
      case measure=>omega
      case rel=>exact ⟨i+1,A,rfl,by go_num,by omega,HPI2,HLC2,hA0,hA12,lh_ (I.out)⟩
     ·have hjm:j<m:=by
       rcases Nat.lt_or_ge j m with h|h
       ·exact h
       ·exfalso
        obtain rfl:j=m:=by omega
        exact hd (by rw [← hA];exact Nat.mul_mod_left _ _)
      have HND2:Hid (∀ j',1≤j'→j'<j+1→¬ m ∣ L*j'):=lh_ (fun j' h1 h2 h3=>by
       rcases Nat.lt_succ_iff_lt_or_eq.1 h2 with h|rfl
       ·exact HND.out j' h1 h h3
       ·exact hd (by rw [← hA];exact Nat.mod_eq_zero_of_dvd h3))
      have HA:=lh_ hA
      have hq1:(((A:Nat):Int) % ((m:Nat):Int) == 0)=false:=by rw [hr3];simpa using (show ¬ ((A % m:Nat):Int)=0 by omega)
      have hq2:(((A:Nat):Int) % ((m:Nat):Int) != 0)=true:=by rw [hr3];simpa using (show ¬ ((A % m:Nat):Int)=0 by omega)
      have hq3:¬ ((A:Nat):Int) % ((m:Nat):Int)=0:=by rw [hr3];omega
      have hws:IntKind.i64.wrap (((A:Nat):Int)+((L:Nat):Int))=((A:Nat):Int)+((L:Nat):Int):=qa7 om om
      clear hd hr3 hrl hA
      refine wp_seq ?_
      have lx90_0:=fun w' (h:Gr _ w')=>HEM.out w' (Gr.trans I.out.1 h)
      refine ks7_ fun K O T Y=>?_
      iterate 7 refine tk ?_
      refine nlS Y I fun vw4 J=>?_
      clear Y T I lx90_0
      go_wp2
      refine kO O ?_;clear O K
      have I:=J;clear J
      refine wp_cond_true (by rfl) ?_
      refine wp_skip ?_
      show Code.wp _ _ _ _ _
      refine wp_block ?_
      refine kL fun K O=>?_
      refine sq4_ fun T Y=>?_
      iterate 4 refine tk ?_
      refine nlS Y I fun vw5 J=>?_
      clear Y T I
      go_wp2
      refine O.out _ _ ?_;clear O K
      try simp only [Exit.then,Exit.inBlock]
      have I:=lh_ (J.out);clear J
      refine hb0_ _ _ ?_
      go_roundg (gk - 1)
      case measure=>omega
      case rel=>exact ⟨j+1,by rw [show L*(j+1)=A+L by rw [Nat.mul_succ,HA.out],Int.natCast_add],by omega,by omega,HND2,lh_ (I.out)⟩
end Go.Proofs.YtobojnodohjiaaaGreatDoor
