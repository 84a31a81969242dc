
/- ReconsJoins: the law's walk (some moduli). -/
import Derived.Test.YtobojnodohjiaaaGreatDoorJoiP
import Derived.Test.YtobojnodohjiaaaGreatDoorRecW
import Derived.Test.YtobojnodohjiaaaGreatDoorLawZ2
import Derived.Test.YtobojnodohjiaaaGreatDoorHp2
import Derived.Test.YtobojnodohjiaaaGreatDoorEarly
set_option maxRecDepth 100000
set_option maxHeartbeats 16000000
set_option linter.unusedVariables false
set_option linter.unusedSimpArgs false
namespace Go.Proofs.YtobojnodohjiaaaGreatDoor
open Go.RowKit
attribute [local go_sem ↓] Go.wp_at_zero Go.wp_at_succ
attribute [local go_sem ↓] qb8 qa3 qc8 qd9 qb7
attribute [local go_sem] Instr.field asAgg
attribute [local go_sem ↓] qh7
theorem qL0 (bbx:Bool) (vx:Value) (kx:Nat) (fx:Nat→Nat) (mx:Nat) (a:Int) (v:Value) (n:Nat) (fw:Nat→Nat) (f:Nat→Int × Nat) (t:Int) (w:World) (HWx:Hid (Wa w vx kx fx)) (HFx:Hid (∀ i,i<kx→fx i<4294967296)) (HVx:Hid (vl fx kx=mx)) (HAx:Hid ((if bbx then -((mx:Nat):Int) else ((mx:Nat):Int))=a)) (hkx:kx≤8) (HWA:Hid (Wa w v n fw)) (HFW:Hid (∀ i,i<n→fw i<4294967296)) (hn0:0<n) (hn6:n≤6) (ht1:-9223372036854775808≤t) (ht2:t≤9223372036854775807) (Hf:Hid (jf a fw=f)) (HPF:Hid (∀ i,0<(f i).2)) (HSF:Hid (∀ i,i<n→wl (f i).1.natAbs≤9∧wl (f i).2≤1)) (HT:Hid (Tab w)) :
  Calls Tryz.prog 7 #[.agg #[.bool bbx,vx],v,.int .i64 t] w fun e w'=>e=.returned (.bool true)∧Below w.heap.size w w':=by
 obtain ⟨ao_x,c_x,rfl⟩:=HWx.out.slice
 have hm_x:wl mx≤8:=by rw [← HVx.out];have:=qb1.2 (qh4 HFx.out);omega
 have hb_x:wl a.natAbs≤8:=by rw [qB2 HAx.out];exact hm_x
 obtain ⟨ao,c,rfl⟩:=HWA.out.slice
 obtain ⟨i0,hi,hz0,hz1,hz2⟩:=info_parts qf6
 have hw1:IntKind.i64.wrap 1=1:=by decide
 go_enter Tryz.func7,Tryz.ntmps7
 have I:=lh_ (hp0 w)
 refine kS fun K O=>?_
 refine wp_region_lit ?_
 go_wp2
 refine kF_ O ((I.out).aL (w.heap.size)) fun Wx0 J=>?_;clear O K
 clear I;have I:=J;clear J
 refine wp_seq ?_
 have hx8:¬ 8<(kx:Int):=by omega
 have hnx9:¬ 6<(n:Int):=by omega
 have lx0:=kc0_ I
 refine ks9_ fun K O T Y=>?_
 iterate 9 refine tk ?_
 refine nlS Y I fun vw1 J=>?_
 clear Y T I lx0
 go_wp2
 refine kO O ?_;clear O K
 have I:=J;clear J
 clear hx8 hnx9
 refine wp_cond_false (by rfl) ?_
 refine wp_skip ?_
 show Code.wp _ _ _ _ _
 have HB:=HPb I
 have lx0:=kc0_ I
 refine ks2_ fun K O T Y=>?_
 refine tk ?_
 refine ck Tryz.call32 (fun w' hw=>zlof bbx kx fx mx a ao_x c_x w' (lh_ (HWx.out.gr (Gr.trans HB.out hw))) HFx HVx HAx om om) ?_
 refine nlS Y I fun vw2 J=>?_
 clear Y T I lx0 HB
 go_wp2
 refine kF_ O (((J.out).aL (vw2.heap.size)).er 0) fun Wx3 I=>?_;clear O K
 clear J
 generalize vw2.heap.size=gx2 at *
 refine kS fun K O=>?_
 refine wp_region_lit ?_
 go_wp2
 refine kF_ O (I.out) fun Wx4 J=>?_;clear O K
 clear I;have I:=J;clear J
 refine wp_seq ?_
 refine kS fun K O=>?_
 refine wp_region_lit ?_
 go_wp2
 refine kF_ O (I.out) fun Wx5 J=>?_;clear O K
 clear I;have I:=J;clear J
 refine wp_block ?_
 go_loopg [8,10] n (fun kk u iv wr=>∃ k:Nat,iv=.int .i64 (k:Int)∧k+kk=n∧((k=0∧u=.slice none 0 0∧Hid (HP w wr [Sum.inl (gx2,34,#[.int .u64 (lo a.natAbs),.string (bg a.natAbs),.bool (a<0)])]))∨(0<k∧∃ gR cur,Hid (HP w wr [Sum.inl (gx2,34,#[.int .u64 (lo a.natAbs),.string (bg a.natAbs),.bool (a<0)]),Sum.inl (gR,71,cur)])∧Hid (RowV gR cur 5 u k (rcs f k)))))
 case atStart=>exact ⟨0,rfl,by omega,.inl ⟨rfl,rfl,I⟩⟩
 case round =>
  rename_i J_ K_ hj1_ hj0_
  clear I
  obtain ⟨k,rfl,hkn,hu⟩:=hrel
  rcases gk with _|kk
  ·obtain rfl:n=k:=by omega
   rcases hu with ⟨h0,_⟩|⟨_,gR,cur,I,HR⟩
   ·omega
   obtain ⟨cap,rfl,hcap⟩:∃ cap,u8=.slice (some ⟨gR,0,none⟩) n cap∧n≤cap:=by
    obtain ⟨cap,e,h,_⟩:=HR.out
    exact ⟨cap,e,h⟩
   obtain ⟨kk,hkk,HKK⟩:∃ kk:Nat,kk<n∧Hid (Int.tmod (IntKind.u64.wrap t) (n:Int)=(kk:Int)):=by
    have h0:0≤IntKind.u64.wrap t:=by rw [IntKind.wrap_u64];omega
    obtain ⟨m,hm⟩:∃ m:Nat,IntKind.u64.wrap t=(m:Int):=⟨_,(Int.toNat_of_nonneg h0).symm⟩
    exact ⟨m % n,Nat.mod_lt _ hn0,lh_ (by rw [hm];rfl)⟩
   obtain ⟨M,hch,hM⟩:=xi5 a fw n
   rw [Hf.out] at hch
   obtain ⟨R,HRM⟩:∃ R,Hid (a % ((M:Nat):Int)=R):=⟨_,lh_ rfl⟩
   have hwM:wl M≤7:=by have e9:=qt9 (c:=1) (fun i hi=>(HSF.out i hi).2) hch;omega
   have hwR:wl R.natAbs≤7:=by rw [← HRM.out];exact qE6 hM hwM
   rw [HRM.out] at hch
   have HCH:=lh_ hch
   have HCV:=lh_ (qg1 (fun i hi=>HPF.out i) hch)
   have HCV2:Hid (chv (rrot f kk n) n R M 0):=lh_ (qg1 (fun i hi=>by obtain ⟨j,_,e⟩:=qs3 f kk n i hkk hi;rw [e];exact HPF.out j) (by
    have e9:=xw_ (a:=a) (fw:=fw) hkk (by rw [Hf.out,HRM.out];exact hch) hM
    rw [Hf.out,HRM.out] at e9
    exact e9))
   have HSZ:Hid (∀ i,i<n→wl (f i).1.natAbs≤100∧wl (f i).2≤10):=lh_ (fun i hi=>⟨Nat.le_trans (HSF.out i hi).1 (by decide),Nat.le_trans (HSF.out i hi).2 (by decide)⟩)
   have HSZ2:Hid (∀ i,i<n→wl (rrot f kk n i).1.natAbs≤100∧wl (rrot f kk n i).2≤10):=lh_ (fun i hi=>by obtain ⟨j,hj,e⟩:=qs3 f kk n i hkk hi;rw [e];exact HSZ.out j hj)
   clear hch
   refine wp_seq ?_
   have hlt9:¬ (n:Int)<(n:Int):=by omega
   refine ks4_ fun K O T Y=>?_
   iterate 4 refine tk ?_
   refine nlS Y I fun vw3 J=>?_
   clear Y T I
   go_wp2
   refine kO O ?_;clear O K
   have I:=J;clear J
   clear hlt9
   refine wp_cond_false (by rfl) ?_
   refine wp_exit ?_
   show Code.wp _ _ _ _ _
   refine kS fun K O=>?_
   refine wp_region_lit ?_
   go_wp2
   refine kF_ O (I.out) fun Wx10 J=>?_;clear O K
   clear I;have I:=J;clear J
   refine wp_seq ?_
   have hnz9:(0:Int)<(n:Int):=by omega
   refine ks3_ fun K O T Y=>?_
   refine tk3_ ?_
   refine nlS Y I fun vw4 J=>?_
   clear Y T I
   go_wp2
   refine kO O ?_;clear O K
   have I:=J;clear J
   clear hnz9
   refine wp_cond_true (by rfl) ?_
   refine kL fun K O=>?_
   have c1:IntKind.u64.wrap (n:Int)=(n:Int):=by rw [IntKind.wrap_u64];omega
   have c2:Int.tmod (IntKind.u64.wrap t) (n:Int)=(kk:Int):=HKK.out
   have c3:IntKind.i64.wrap (kk:Int)=(kk:Int):=by rw [IntKind.wrap_i64];omega
   have c4:¬ ((n:Int)=0):=by omega
   go_wp2
   refine O.out _ _ ?_;clear O K
   clear c1 c2 c3 c4
   show Code.wp _ _ _ _ _
   refine kS fun K O=>?_
   have c1:(0:Int)≤(kk:Int):=by omega
   have c2:(kk:Int)≤(n:Int):=by omega
   have c3:(n:Int)≤(cap:Int):=by omega
   have HA0:Hid (Apart [Sum.inl (gx2,34,#[.int .u64 (lo a.natAbs),.string (bg a.natAbs),.bool (a<0)]),Sum.inl (gR,71,cur)] (.slice none 0 0)):=lh_ (fun i x hx e=>by cases e)
   have HN:=lh_ (qA2 HR.out (I.out.bx 1 rfl) kk (n - kk) om)
   go_wp2_with (first|(at_builtin;refine apX I (lh_ (World.ownsRow_nil _ _ _ _)) HA0 (.tmp 76) (.tmp 79) 67 hi hz0 hz1 hz2 rfl Tryz.underlying67 (m:=n - kk) (c:=cap - kk) (ad:=⟨gR,kk*5,none⟩) (news:=rcs (fun i=>f (kk+i)) (n - kk)) (by unfold maxLen;omega) om (by intro i v m h;rcases i with _|_|i <;> simp at h) (by simp [Act.eval,Act.put]) (by simp [Act.eval,Act.put]) HN (qm8 _ _) (qV9 _ _) (by decide) rfl rfl ?_)|fail)
   intro v3 W3 HF3 HW3 HA3
   clear HA0 HN I
   go_wp2_with fail
   refine O.out _ _ ?_;clear O K
   clear c1 c2 c3
   show Code.wp _ _ _ _ _
   refine kS fun K O=>?_
   have c1:(0:Int)≤(kk:Int):=by omega
   have c2:(kk:Int)≤(cap:Int):=by omega
   have HN:Hid (∀ j u,(rcs f kk)[j]?=some u→W3.cell? ((⟨gR,0,none⟩:Addr).add j)=some u):=lh_ (by have:=qA2 HR.out (HF3.out.bx 1 rfl) 0 kk om;simpa using this)
   go_wp2_with (first|(at_builtin;refine apX HF3 HW3 HA3 (.tmp 81) (.tmp 84) 67 hi hz0 hz1 hz2 rfl Tryz.underlying67 (m:=kk) (c:=cap) (ad:=⟨gR,0,none⟩) (news:=rcs f kk) (by unfold maxLen;omega) om (by intro i v m h;rcases i with _|_|i <;> simp at h) (by simp [Act.eval,Act.put]) (by simp [Act.eval,Act.put]) HN (qm8 _ _) (qV9 _ _) (by decide) rfl rfl ?_)|fail)
   intro v4 W4 HF4 HW4 HA4
   obtain ⟨gT,curT,I,HR2⟩:∃ gT curT,Hid (HP w W4 ([Sum.inl (gx2,34,#[.int .u64 (lo a.natAbs),.string (bg a.natAbs),.bool (a<0)]),Sum.inl (gR,71,cur)] ++ [Sum.inl (gT,71,curT)]))∧Hid (RowV gT curT 5 v4 n (rcs (rrot f kk n) n)):=by
    have h0:=HW4.out
    try simp only [List.nil_append,Nat.zero_add] at h0
    rw [qM7 f kk n hkk,show n - kk+kk=n by omega] at h0
    obtain ⟨gT,curT,h1,h2⟩:=xi_ HF4.out h0 HA4.out hn0 (by decide)
    exact ⟨gT,curT,lh_ h1,lh_ h2⟩
   simp only [List.cons_append,List.nil_append] at I
   clear HN HF3 HW3 HA3 HF4 HW4 HA4
   go_wp2_with fail
   refine O.out _ _ ?_;clear O K
   clear c1 c2
   show Code.wp _ _ _ _ _
   have su1a:wl R.natAbs≤20:=om
   have su1b:wl M≤20:=om
   refine ks5_ fun K O T Y=>?_
   refine tk ?_
   refine ck Tryz.call29 (fun w' hw=>qe7 _ n f R M (0) _ HCV.out (qs2 HR.out ((I.out.bx 1 rfl).gr hw)) om (HSZ.out)) ?_
   refine tk3_ ?_
   refine nlS Y I fun vw5 J=>?_
   clear Y T I
   go_wp2
   refine kF_ O ((J.out).aL (vw5.heap.size)) fun Wx15 I=>?_;clear O K
   clear J
   generalize vw5.heap.size=gx101 at *
   have su2a:wl R.natAbs≤20:=om
   have su2b:wl M≤20:=om
   refine ks5_ fun K O T Y=>?_
   refine tk ?_
   refine ck Tryz.call29 (fun w' hw=>qe7 _ n (rrot f kk n) R M (0) _ HCV2.out (qs2 HR2.out ((I.out.bx 2 rfl).gr hw)) om (HSZ2.out)) ?_
   refine tk3_ ?_
   refine nlS Y I fun vw6 J=>?_
   clear Y T I
   go_wp2
   refine kF_ O ((J.out).aL (vw6.heap.size)) fun Wx16 I=>?_;clear O K
   clear J
   generalize vw6.heap.size=gx102 at *
   have su_0_17:wl 1≤1:=qb1.2 (by decide +kernel)
   refine ks2_ fun K O T Y=>?_
   refine ck Tryz.call24 (fun w' hw=>nzof 1 _ (by decide)) ?_
   refine tk ?_
   refine nlS Y I fun vw7 J=>?_
   clear Y T I
   go_wp2
   refine kF_ O ((J.out).aL (vw7.heap.size)) fun Wx17 I=>?_;clear O K
   clear J
   generalize vw7.heap.size=gx103 at *
   refine wp_seq ?_
   refine kS fun K O=>?_
   refine wp_region_lit ?_
   go_wp2
   refine kF_ O (I.out) fun Wx18 J=>?_;clear O K
   clear I;have I:=J;clear J
   refine wp_block ?_
   go_loopg [18] n (fun k9 iv wr=>∃ (k:Nat) (R1:Int) (M1:Nat),iv=.int .i64 (k:Int)∧k+k9=n∧Hid (chn f k=some (R1,M1))∧Hid (a % ((M1:Nat):Int)=R1)∧0<M1∧Hid (HP w wr [Sum.inl (gx2,34,#[.int .u64 (lo a.natAbs),.string (bg a.natAbs),.bool (a<0)]),Sum.inl (gR,71,cur),Sum.inl (gT,71,curT),Sum.inl (gx101,71,#[.int .u64 (lo R.natAbs),.string (bg R.natAbs),.bool (R<0),.int .u64 (lo M),.string (bg M)]),Sum.inl (gx102,71,#[.int .u64 (lo R.natAbs),.string (bg R.natAbs),.bool (R<0),.int .u64 (lo M),.string (bg M)]),Sum.inl (gx103,71,#[.int .u64 (lo R1.natAbs),.string (bg R1.natAbs),.bool (R1<0),.int .u64 (lo M1),.string (bg M1)])]))
   case atStart=>exact ⟨0,0,1,rfl,by omega,lh_ rfl,lh_ (Int.emod_one a),by decide,I⟩
   case round =>
    rename_i J2_ K2_ hm1_ hm0_
    clear I
    obtain ⟨k,R1,M1,rfl,hkn,HC1,HR1,hM1,I⟩:=hrel
    have hwM1:wl M1≤7:=by have e9:=qt9 (c:=1) (fun i hi=>(HSF.out i om).2) HC1.out;omega
    have hwR1:wl R1.natAbs≤7:=by rw [← HR1.out];exact qE6 hM1 hwM1
    rcases gk with _|k9
    ·obtain rfl:n=k:=by omega
     obtain ⟨rfl,rfl⟩:R=R1∧M=M1:=by have e9:=HC1.out;rw [HCH.out] at e9;injection e9 with e9;injection e9 with e8 e7;exact ⟨e8,e7⟩
     clear HC1 HR1
     refine wp_seq ?_
     have hlt9:¬ (n:Int)<(n:Int):=by omega
     refine ks4_ fun K O T Y=>?_
     iterate 4 refine tk ?_
     refine nlS Y I fun vw8 J=>?_
     clear Y T I
     go_wp2
     refine kO O ?_;clear O K
     have I:=J;clear J
     clear hlt9
     refine wp_cond_false (by rfl) ?_
     refine wp_exit ?_
     show Code.wp _ _ _ _ _
     have HZ3:Hid ((if false then -((M:Nat):Int) else ((M:Nat):Int))=((M:Nat):Int)):=lh_ (by rfl)
     have su3:wl (Int.natAbs (((M:Nat):Int)))≤20:=by have e:=HZ3.out;first|omega|(rw [← e];split <;> simp <;> omega)
     have HZ4:Hid (a / (((M:Nat):Int))=(a / ((M:Nat):Int))):=lh_ (rfl)
     have su4:wl (Int.natAbs ((a / ((M:Nat):Int))))≤9:=by have:=qi0 a (((M:Nat):Int));omega
     have HZ5:Hid (a % (((M:Nat):Int))=R):=lh_ (HRM.out)
     have su5:wl R.natAbs≤20:=by have e:=HZ5.out;first|omega|(rw [← e];have:=ql2 a (((M:Nat):Int)) om;omega)
     have lx2:=kc0_ I
     have lx101:=kc3_ I
     refine kS fun K O=>?_
     refine qa1 11 [9,10] [7,8] (fun i=>if i=9 then 19 else 20) (fun i=>if i=9 then .cells #[.int .u64 0,.string ⟨#[]⟩,.bool false] 34 else .cells #[.int .u64 0,.string ⟨#[]⟩,.bool false] 34) [(true,0),(true,1),(true,2),(true,3),(true,4),(true,5),(true,6),(true,7),(true,8)] (by kernel_rfl) (by kernel_rfl) (by intro i hi;simp only [List.mem_cons,List.not_mem_nil,or_false] at hi;rcases hi with rfl|rfl <;> exact ⟨_,rfl,rfl,rfl,by simp,fun ρ w=>by kernel_rfl⟩) (by intro i hi;simp only [List.mem_cons,List.not_mem_nil,or_false] at hi;rcases hi with rfl|rfl <;> exact ⟨_,rfl,qa_⟩) (fun _ _ _ _ _ h=>h) (fun T Y=>?_)
     refine tk3_ ?_
     refine ck Tryz.call37 (fun w' hw=>qb2 false M (((M:Nat):Int)) _ HZ3.out) ?_
     refine ck Tryz.call42 (fun w' hw=>qx_ a (((M:Nat):Int)) ((a / ((M:Nat):Int))) R _ HZ4.out HZ5.out om om om) ?_
     iterate 4 refine tk ?_
     refine qa0 (Y.out _ _ ?_)
     intro G vw9 hg hf
     simp only [puts,Act.put,lA,lB,lC,lD,lE,↓reduceIte,Nat.reduceEqDiff]
     have J:=lh_ (I.out.fr hg hf (zs:=[(#[.int .u64 0,.string ⟨#[]⟩,.bool false],34),(#[.int .u64 0,.string ⟨#[]⟩,.bool false],34)]) rfl (by decide) (by decide))
     simp only [zq1_,zq2_,zq3_,zq4_,lF,lG] at J
     clear Y T I hg hf lx2 lx101
     generalize G 9=gx104 at *
     generalize G 10=gx105 at *
     have lx104:=kc6_ J;have fx104:=kf6_ J
     have lx105:=kc7_ J;have fx105:=kf7_ J
     have r0:=Gr.refl vw9
     obtain ⟨d104_105,d105_104⟩:=J.out.ne 6 7 rfl rfl (by decide)
     go_wp2
     refine kO O ?_;clear O K
     clear r0 lx104 fx104 lx105 fx105 d104_105 d105_104
     refine fH (((((((J.out).put2 6 0 rfl).put 6 2 _ rfl).put2 7 0 rfl).put 7 2 _ rfl).er 6).er 0) fun Wx22 I=>?_
     clear J
     refine wp_seq ?_
     have lx101:=kc2_ I
     have lx102:=kc3_ I
     have lx103:=kc4_ I
     have lx105:=kc5_ I
     refine xx2 fun K O T Y=>?_
     iterate 26 refine tk ?_
     refine nlS Y I fun vw10 J=>?_
     clear Y T I lx101 lx102 lx103 lx105
     go_wp2
     refine kF_ O ((((J.out).er 5).er 4).er 3) fun Wx23 I=>?_;clear O K
     clear J
     refine wp_cond_false (by rfl) ?_
     refine wp_skip ?_
     show Code.wp _ _ _ _ _
     refine wp_seq ?_
     refine kS fun K O=>?_
     refine wp_region_lit ?_
     go_wp2
     refine kF_ O (I.out) fun Wx25 J=>?_;clear O K
     clear I;have I:=J;clear J
     refine wp_block ?_
     go_loopg [22] n (fun k9 iv wr=>∃ k:Nat,iv=.int .i64 (k:Int)∧k+k9=n∧Hid (HP w wr [Sum.inl (gR,71,cur),Sum.inl (gT,71,curT),Sum.inl (gx101,71,#[.int .u64 (lo R.natAbs),.string (bg R.natAbs),.bool (R<0),.int .u64 (lo M),.string (bg M)])]))
     case atStart=>exact ⟨0,rfl,by omega,I⟩
     case round =>
      rename_i J3_ K3_ hp1_ hp0_
      clear I
      obtain ⟨k,rfl,hkn,I⟩:=hrel
      rcases gk with _|k9
      ·obtain rfl:n=k:=by omega
       refine wp_seq ?_
       have hlt9:¬ (n:Int)<(n:Int):=by omega
       refine ks4_ fun K O T Y=>?_
       iterate 4 refine tk ?_
       refine nlS Y I fun vw11 J=>?_
       clear Y T I
       go_wp2
       refine kO O ?_;clear O K
       have I:=J;clear J
       clear hlt9
       refine wp_cond_false (by rfl) ?_
       refine wp_exit ?_
       show Code.wp _ _ _ _ _
       have HB:=HPb I
       refine ks2_ fun K O T Y=>?_
       refine ck Tryz.call27 (fun w' hw=>qa9 _ (lh_ (HT.out.gr (Gr.trans HB.out hw)))) ?_
       refine tk ?_
       refine nlS Y I fun vw12 J=>?_
       clear Y T I HB
       go_wp2
       refine kF_ O ((J.out).er 2) fun Wx35 I=>?_;clear O K
       clear J
       refine wp_ret ?_
       try simp only [Exit.then,Exit.inBlock]
       exact bodyPost_ret (v:=.bool true) (by simp [results,Tryz.results7,go_sem]) rfl ⟨rfl,I.out.1⟩
      ·have hkn':k<n:=by omega
       obtain ⟨r,mm,hfk⟩:∃ r mm,f k=(r,mm):=⟨_,_,rfl⟩
       have HFK:=lh_ hfk
       have hmm:0<mm:=by have e9:=HPF.out k;rw [hfk] at e9;exact e9
       obtain ⟨hwr,hwm⟩:wl r.natAbs≤9∧wl mm≤1:=by have e9:=HSF.out k hkn'; rw [hfk] at e9;exact e9
       clear hfk
       have hkl:(k:Int)<(n:Int):=by omega
       have hwi:IntKind.i64.wrap ((k:Int)+1)=(k:Int)+1:=by rw [IntKind.wrap_i64];omega
       have HDV:Hid (M % mm=0):=lh_ (xw8 (a:=a) (fw:=fw) (r:=r) (m:=mm) (by rw [Hf.out,HRM.out];exact HCH.out) hkn' (by rw [Hf.out];exact HFK.out))
       obtain ⟨r1,HR1⟩:∃ z,Hid (r+1=z):=⟨_,lh_ rfl⟩
       by_cases h1:mm=1
       ·have HM1:=lh_ h1
        obtain ⟨R3,M3,h3,hw3⟩:=xw9 (R:=R) (r:=r1) hM
        have HCV4:Hid (chv (f2r R M r1 mm) 2 R3 M3 0):=lh_ (by rw [h1];exact qg1 (qv8 hM (by decide)) h3)
        have hM3:wl M3≤20:=by omega
        have hR3:wl R3.natAbs≤20:=by
         have e9:=qf3 (qv8 hM (by decide)) h3
         exact Nat.le_trans (qa4 (by have:=e9.2.1;have:=e9.2.2.1;omega)) hM3
        clear h1 h3 hw3
        refine wp_seq ?_
        refine kS fun K O=>?_
        go_wp2
        refine kO O ?_;clear O K
        refine wp_cond_true (by rfl) ?_
        refine wp_skip ?_
        show Code.wp _ _ _ _ _
        refine wp_seq ?_
        refine wp_block ?_
        have HZ6:Hid (M / mm=(M / mm)):=lh_ (rfl)
        have su6:wl ((M / mm))≤20:=by have:=qj7 M mm;omega
        have HZ7:Hid (M % mm=0):=lh_ (HDV.out)
        have su7:wl (0)≤20:=by have e:=HZ7.out;first|omega|(rw [← e];have:=ql3 M mm;omega)|exact qb1.2 (by decide +kernel)
        have lx101:=kc2_ I
        have lx91_0:=fun w' (h:Gr _ w')=>qk3 HR.out ((I.out.bx 0 rfl).gr h) hkn' HFK.out
        have lx91_1:=fun w' (h:Gr _ w')=>qk4 HR.out ((I.out.bx 0 rfl).gr h) hkn' HFK.out
        have lx91_2:=fun w' (h:Gr _ w')=>qk5 HR.out ((I.out.bx 0 rfl).gr h) hkn' HFK.out
        have lx91_3:=fun w' (h:Gr _ w')=>qk6 HR.out ((I.out.bx 0 rfl).gr h) hkn' HFK.out
        have lx91_4:=fun w' (h:Gr _ w')=>qk7 HR.out ((I.out.bx 0 rfl).gr h) hkn' HFK.out
        refine kS fun K O=>?_
        refine qa1 14 [12,13] [10,11] (fun i=>if i=12 then 23 else 24) (fun i=>if i=12 then .cells #[.int .u64 0,.string ⟨#[]⟩] 30 else .cells #[.int .u64 0,.string ⟨#[]⟩] 30) [(true,0),(true,1),(true,2),(true,3),(true,4),(true,5),(true,6),(true,7),(true,8),(true,9),(true,10),(true,11)] (by kernel_rfl) (by kernel_rfl) (by intro i hi;simp only [List.mem_cons,List.not_mem_nil,or_false] at hi;rcases hi with rfl|rfl <;> exact ⟨_,rfl,rfl,rfl,by simp,fun ρ w=>by kernel_rfl⟩) (by intro i hi;simp only [List.mem_cons,List.not_mem_nil,or_false] at hi;rcases hi with rfl|rfl <;> exact ⟨_,rfl,qa_⟩) (fun _ _ _ _ _ h=>h) (fun T Y=>?_)
        iterate 7 refine tk ?_
        refine ck Tryz.call43 (fun w' hw=>qw8 M mm ((M / mm)) (0) _ HZ6.out HZ7.out (by exact hmm) om om) ?_
        iterate 4 refine tk ?_
        refine qa0 (Y.out _ _ ?_)
        intro G vw11 hg hf
        simp only [puts,Act.put,lA,lB,lC,lD,lE,↓reduceIte,Nat.reduceEqDiff]
        have J:=lh_ (I.out.fr hg hf (zs:=[(#[.int .u64 0,.string ⟨#[]⟩],30),(#[.int .u64 0,.string ⟨#[]⟩],30)]) rfl (by decide) (by decide))
        simp only [zq1_,zq2_,zq3_,zq4_,lF,lG] at J
        clear Y T I hg hf lx101 lx91_0 lx91_1 lx91_2 lx91_3 lx91_4
        generalize G 12=gx106 at *
        generalize G 13=gx107 at *
        have lx106:=kc3_ J;have fx106:=kf3_ J
        have lx107:=kc4_ J;have fx107:=kf4_ J
        have r0:=Gr.refl vw11
        obtain ⟨d106_107,d107_106⟩:=J.out.ne 3 4 rfl rfl (by decide)
        go_wp2
        refine kO O ?_;clear O K
        clear r0 lx106 fx106 lx107 fx107 d106_107 d107_106
        refine fH (((J.out).put2 3 0 rfl).put2 4 0 rfl) fun Wx28 I=>?_
        clear J
        refine wp_seq ?_
        have lx107:=kc4_ I
        refine ks3_ fun K O T Y=>?_
        refine tk3_ ?_
        refine nlS Y I fun vw12 J=>?_
        clear Y T I lx107
        go_wp2
        refine kO O ?_;clear O K
        have I:=J;clear J
        refine wp_cond_false (by rfl) ?_
        refine wp_skip ?_
        show Code.wp _ _ _ _ _
        have su8:wl (Int.natAbs (1))≤1:=qb1.2 (by decide +kernel)
        have HZ9:Hid (r+(1)=r1):=lh_ (HR1.out)
        have su9:wl r1.natAbs≤10:=by have e:=HZ9.out;first|omega|(rw [← e];have:=qf7 r (1);omega)
        have lx91_0:=fun w' (h:Gr _ w')=>qk3 HR.out ((I.out.bx 0 rfl).gr h) hkn' HFK.out
        have lx91_1:=fun w' (h:Gr _ w')=>qk4 HR.out ((I.out.bx 0 rfl).gr h) hkn' HFK.out
        have lx91_2:=fun w' (h:Gr _ w')=>qk5 HR.out ((I.out.bx 0 rfl).gr h) hkn' HFK.out
        have lx91_3:=fun w' (h:Gr _ w')=>qk6 HR.out ((I.out.bx 0 rfl).gr h) hkn' HFK.out
        have lx91_4:=fun w' (h:Gr _ w')=>qk7 HR.out ((I.out.bx 0 rfl).gr h) hkn' HFK.out
        refine kS fun K O=>?_
        refine qa1 14 [13] [] (fun _=>26) (fun _=>.cells #[.int .u64 0,.string ⟨#[]⟩,.bool false,.int .u64 0,.string ⟨#[]⟩] 71) [(true,0),(true,1),(true,2),(true,3),(true,4),(true,7),(true,8),(true,9),(true,10),(true,11),(true,5),(true,6),(true,12)] (by kernel_rfl) (by kernel_rfl) (by intro i hi;simp only [List.mem_cons,List.not_mem_nil,or_false] at hi;rcases hi with rfl <;> exact ⟨_,rfl,rfl,rfl,by simp,fun ρ w=>by kernel_rfl⟩) (fun i hi=>by cases hi) (fun _ _ _ _ _ h=>h) (fun T Y=>?_)
        iterate 10 refine tk ?_
        refine ck Tryz.call23 (fun w' hw=>qd3 (1) _ (by decide) (by decide)) ?_
        refine ck Tryz.call41 (fun w' hw=>qq3 r (1) r1 _ HZ9.out om om) ?_
        refine tk ?_
        refine qa0 (Y.out _ _ ?_)
        intro G vw13 hg hf
        simp only [puts,Act.put,lA,lB,lC,lD,lE,↓reduceIte,Nat.reduceEqDiff]
        have J:=lh_ (I.out.fr hg hf (zs:=[(#[.int .u64 0,.string ⟨#[]⟩,.bool false,.int .u64 0,.string ⟨#[]⟩],71)]) rfl (by decide) (by decide))
        simp only [zq1_,zq2_,zq3_,zq4_,lF,lG] at J
        clear Y T I hg hf lx91_0 lx91_1 lx91_2 lx91_3 lx91_4
        generalize G 13=gx108 at *
        have lx108:=kc5_ J;have fx108:=kf5_ J
        have r0:=Gr.refl vw13
        go_wp2
        refine kO O ?_;clear O K
        clear r0 lx108 fx108
        refine fH ((((J.out).put2 5 0 rfl).put2 5 2 rfl).put 5 4 _ rfl) fun Wx31 I=>?_
        clear J
        have su10a:wl R3.natAbs≤20:=om
        have su10b:wl M3≤20:=om
        have lx101:=kc2_ I
        have lx108:=kc5_ I
        refine kS fun K O=>?_
        have HG0:Hid (Gr Wx31 Wx31):=lh_ (Gr.refl _)
        refine qW5 fun T Y=>?_
        refine tk2_ ?_
        refine qd1 (cs:=#[.int .u64 (lo R.natAbs),.string (bg R.natAbs),.bool (R<0),.int .u64 (lo M),.string (bg M),.int .u64 (lo r1.natAbs),.string (bg r1.natAbs),.bool (r1<0),.int .u64 (lo mm),.string (bg mm)]) (E:=71) (n:=2) rfl (by rfl) (fun w' hw=>?_) (fun gx109 vv109 hg0 yx109 bx109=>?_)
        ·go_simp
        have YX109:=lh_ (Nat.le_trans HG0.out.size yx109)
        clear yx109
        replace HG0:=lh_ (HG0.out.trans hg0)
        have HGS:=lh_ hg0;clear hg0
        clear HGS
        have BX109:=lh_ bx109;clear bx109
        clear lx101;have lx101:=fun w' (h:Gr _ w')=>kc2_ I w' (HG0.out.trans h)
        clear lx108;have lx108:=fun w' (h:Gr _ w')=>kc5_ I w' (HG0.out.trans h)
        simp only [Act.put,lA,lB,lC]
        refine ck Tryz.call29 (fun w' hw=>qe7 _ 2 (f2r R M r1 mm) R3 M3 (0) _ HCV4.out (rs2 (BX109.out.gr hw)) om (qR4 om om om om)) ?_
        refine tk3_ ?_
        refine qa0 (Y.out _ _ ?_)
        intro vw14 hg
        simp only [puts,Act.put,lA,lB,lC,lD,lE,↓reduceIte,Nat.reduceEqDiff]
        have J:=lh_ (I.out.grS (HG0.out.trans hg) YX109.out (BX109.out.gr hg) (by decide))
        simp only [zq1_,zq2_,zq3_,zq4_,lF,lG] at J
        clear Y T I hg HG0 BX109 lx101 lx108
        clear YX109
        go_wp2
        refine kF_ O ((J.out).aL (vw14.heap.size)) fun Wx32 I=>?_;clear O K
        clear J
        generalize vw14.heap.size=gx110 at *
        have su_1_33:wl 1≤1:=qb1.2 (by decide +kernel)
        have hd1:decide (mm=1)=true:=decide_eq_true (by first|exact ok|exact HM1.out)
        have lx91_0:=fun w' (h:Gr _ w')=>qk3 HR.out ((I.out.bx 0 rfl).gr h) hkn' HFK.out
        have lx91_1:=fun w' (h:Gr _ w')=>qk4 HR.out ((I.out.bx 0 rfl).gr h) hkn' HFK.out
        have lx91_2:=fun w' (h:Gr _ w')=>qk5 HR.out ((I.out.bx 0 rfl).gr h) hkn' HFK.out
        have lx91_3:=fun w' (h:Gr _ w')=>qk6 HR.out ((I.out.bx 0 rfl).gr h) hkn' HFK.out
        have lx91_4:=fun w' (h:Gr _ w')=>qk7 HR.out ((I.out.bx 0 rfl).gr h) hkn' HFK.out
        refine kS fun K O=>?_
        refine xy5 fun T Y=>?_
        iterate 7 refine tk ?_
        refine ck Tryz.call24 (fun w' hw=>nzof 1 _ (by decide)) ?_
        refine tk ?_
        refine nlD Y I fun vw15 J=>?_
        clear Y T I lx91_0 lx91_1 lx91_2 lx91_3 lx91_4
        go_wp2
        refine kO O ?_;clear O K
        have I:=J;clear J
        clear hd1
        refine wp_cond_false (by rfl) ?_
        refine wp_skip ?_
        show Code.wp _ _ _ _ _
        refine kL fun K O=>?_
        refine sq3_ fun T Y=>?_
        refine tk3_ ?_
        refine nlS Y I fun vw16 J=>?_
        clear Y T I
        go_wp2
        refine O.out _ _ ?_;clear O K
        try simp only [Exit.then,Exit.inBlock]
        have I:=lh_ (J.out);clear J
        refine hp0_ _ _ ?_
        go_roundg k9
        case measure=>omega
        case rel=>exact ⟨k+1,rfl,by omega,lh_ ((((((I.out).er 7).er 6).er 5).er 4).er 3)⟩
       ·have HM1:=lh_ h1
        have HCV4:Hid (chv (f2r R M r1 mm) 2 0 0 6):=lh_ (qv4 (qv8 hM hmm) (by rw [← HR1.out,← HRM.out];exact xw7 (a:=a) (fw:=fw) (r:=r) (m:=mm) (by rw [Hf.out,HRM.out];exact HCH.out) hM hkn' (by rw [Hf.out];exact HFK.out) h1))
        clear h1
        refine wp_seq ?_
        refine kS fun K O=>?_
        go_wp2
        refine kO O ?_;clear O K
        refine wp_cond_true (by rfl) ?_
        refine wp_skip ?_
        show Code.wp _ _ _ _ _
        refine wp_seq ?_
        refine wp_block ?_
        have HZ6:Hid (M / mm=(M / mm)):=lh_ (rfl)
        have su6:wl ((M / mm))≤20:=by have:=qj7 M mm;omega
        have HZ7:Hid (M % mm=0):=lh_ (HDV.out)
        have su7:wl (0)≤20:=by have e:=HZ7.out;first|omega|(rw [← e];have:=ql3 M mm;omega)|exact qb1.2 (by decide +kernel)
        have lx101:=kc2_ I
        have lx91_0:=fun w' (h:Gr _ w')=>qk3 HR.out ((I.out.bx 0 rfl).gr h) hkn' HFK.out
        have lx91_1:=fun w' (h:Gr _ w')=>qk4 HR.out ((I.out.bx 0 rfl).gr h) hkn' HFK.out
        have lx91_2:=fun w' (h:Gr _ w')=>qk5 HR.out ((I.out.bx 0 rfl).gr h) hkn' HFK.out
        have lx91_3:=fun w' (h:Gr _ w')=>qk6 HR.out ((I.out.bx 0 rfl).gr h) hkn' HFK.out
        have lx91_4:=fun w' (h:Gr _ w')=>qk7 HR.out ((I.out.bx 0 rfl).gr h) hkn' HFK.out
        refine kS fun K O=>?_
        refine qa1 14 [12,13] [10,11] (fun i=>if i=12 then 23 else 24) (fun i=>if i=12 then .cells #[.int .u64 0,.string ⟨#[]⟩] 30 else .cells #[.int .u64 0,.string ⟨#[]⟩] 30) [(true,0),(true,1),(true,2),(true,3),(true,4),(true,5),(true,6),(true,7),(true,8),(true,9),(true,10),(true,11)] (by kernel_rfl) (by kernel_rfl) (by intro i hi;simp only [List.mem_cons,List.not_mem_nil,or_false] at hi;rcases hi with rfl|rfl <;> exact ⟨_,rfl,rfl,rfl,by simp,fun ρ w=>by kernel_rfl⟩) (by intro i hi;simp only [List.mem_cons,List.not_mem_nil,or_false] at hi;rcases hi with rfl|rfl <;> exact ⟨_,rfl,qa_⟩) (fun _ _ _ _ _ h=>h) (fun T Y=>?_)
        iterate 7 refine tk ?_
        refine ck Tryz.call43 (fun w' hw=>qw8 M mm ((M / mm)) (0) _ HZ6.out HZ7.out (by exact hmm) om om) ?_
        iterate 4 refine tk ?_
        refine qa0 (Y.out _ _ ?_)
        intro G vw11 hg hf
        simp only [puts,Act.put,lA,lB,lC,lD,lE,↓reduceIte,Nat.reduceEqDiff]
        have J:=lh_ (I.out.fr hg hf (zs:=[(#[.int .u64 0,.string ⟨#[]⟩],30),(#[.int .u64 0,.string ⟨#[]⟩],30)]) rfl (by decide) (by decide))
        simp only [zq1_,zq2_,zq3_,zq4_,lF,lG] at J
        clear Y T I hg hf lx101 lx91_0 lx91_1 lx91_2 lx91_3 lx91_4
        generalize G 12=gx106 at *
        generalize G 13=gx107 at *
        have lx106:=kc3_ J;have fx106:=kf3_ J
        have lx107:=kc4_ J;have fx107:=kf4_ J
        have r0:=Gr.refl vw11
        obtain ⟨d106_107,d107_106⟩:=J.out.ne 3 4 rfl rfl (by decide)
        go_wp2
        refine kO O ?_;clear O K
        clear r0 lx106 fx106 lx107 fx107 d106_107 d107_106
        refine fH (((J.out).put2 3 0 rfl).put2 4 0 rfl) fun Wx28 I=>?_
        clear J
        refine wp_seq ?_
        have lx107:=kc4_ I
        refine ks3_ fun K O T Y=>?_
        refine tk3_ ?_
        refine nlS Y I fun vw12 J=>?_
        clear Y T I lx107
        go_wp2
        refine kO O ?_;clear O K
        have I:=J;clear J
        refine wp_cond_false (by rfl) ?_
        refine wp_skip ?_
        show Code.wp _ _ _ _ _
        have su8:wl (Int.natAbs (1))≤1:=qb1.2 (by decide +kernel)
        have HZ9:Hid (r+(1)=r1):=lh_ (HR1.out)
        have su9:wl r1.natAbs≤10:=by have e:=HZ9.out;first|omega|(rw [← e];have:=qf7 r (1);omega)
        have lx91_0:=fun w' (h:Gr _ w')=>qk3 HR.out ((I.out.bx 0 rfl).gr h) hkn' HFK.out
        have lx91_1:=fun w' (h:Gr _ w')=>qk4 HR.out ((I.out.bx 0 rfl).gr h) hkn' HFK.out
        have lx91_2:=fun w' (h:Gr _ w')=>qk5 HR.out ((I.out.bx 0 rfl).gr h) hkn' HFK.out
        have lx91_3:=fun w' (h:Gr _ w')=>qk6 HR.out ((I.out.bx 0 rfl).gr h) hkn' HFK.out
        have lx91_4:=fun w' (h:Gr _ w')=>qk7 HR.out ((I.out.bx 0 rfl).gr h) hkn' HFK.out
        refine kS fun K O=>?_
        refine qa1 14 [13] [] (fun _=>26) (fun _=>.cells #[.int .u64 0,.string ⟨#[]⟩,.bool false,.int .u64 0,.string ⟨#[]⟩] 71) [(true,0),(true,1),(true,2),(true,3),(true,4),(true,7),(true,8),(true,9),(true,10),(true,11),(true,5),(true,6),(true,12)] (by kernel_rfl) (by kernel_rfl) (by intro i hi;simp only [List.mem_cons,List.not_mem_nil,or_false] at hi;rcases hi with rfl <;> exact ⟨_,rfl,rfl,rfl,by simp,fun ρ w=>by kernel_rfl⟩) (fun i hi=>by cases hi) (fun _ _ _ _ _ h=>h) (fun T Y=>?_)
        iterate 10 refine tk ?_
        refine ck Tryz.call23 (fun w' hw=>qd3 (1) _ (by decide) (by decide)) ?_
        refine ck Tryz.call41 (fun w' hw=>qq3 r (1) r1 _ HZ9.out om om) ?_
        refine tk ?_
        refine qa0 (Y.out _ _ ?_)
        intro G vw13 hg hf
        simp only [puts,Act.put,lA,lB,lC,lD,lE,↓reduceIte,Nat.reduceEqDiff]
        have J:=lh_ (I.out.fr hg hf (zs:=[(#[.int .u64 0,.string ⟨#[]⟩,.bool false,.int .u64 0,.string ⟨#[]⟩],71)]) rfl (by decide) (by decide))
        simp only [zq1_,zq2_,zq3_,zq4_,lF,lG] at J
        clear Y T I hg hf lx91_0 lx91_1 lx91_2 lx91_3 lx91_4
        generalize G 13=gx108 at *
        have lx108:=kc5_ J;have fx108:=kf5_ J
        have r0:=Gr.refl vw13
        go_wp2
        refine kO O ?_;clear O K
        clear r0 lx108 fx108
        refine fH ((((J.out).put2 5 0 rfl).put2 5 2 rfl).put 5 4 _ rfl) fun Wx31 I=>?_
        clear J
        have lx101:=kc2_ I
        have lx108:=kc5_ I
        refine kS fun K O=>?_
        have HG0:Hid (Gr Wx31 Wx31):=lh_ (Gr.refl _)
        refine qW5 fun T Y=>?_
        refine tk2_ ?_
        refine qd1 (cs:=#[.int .u64 (lo R.natAbs),.string (bg R.natAbs),.bool (R<0),.int .u64 (lo M),.string (bg M),.int .u64 (lo r1.natAbs),.string (bg r1.natAbs),.bool (r1<0),.int .u64 (lo mm),.string (bg mm)]) (E:=71) (n:=2) rfl (by rfl) (fun w' hw=>?_) (fun gx109 vv109 hg0 yx109 bx109=>?_)
        ·go_simp
        have YX109:=lh_ (Nat.le_trans HG0.out.size yx109)
        clear yx109
        replace HG0:=lh_ (HG0.out.trans hg0)
        have HGS:=lh_ hg0;clear hg0
        clear HGS
        have BX109:=lh_ bx109;clear bx109
        clear lx101;have lx101:=fun w' (h:Gr _ w')=>kc2_ I w' (HG0.out.trans h)
        clear lx108;have lx108:=fun w' (h:Gr _ w')=>kc5_ I w' (HG0.out.trans h)
        simp only [Act.put,lA,lB,lC]
        refine ck Tryz.call29 (fun w' hw=>qe7 _ 2 (f2r R M r1 mm) (0) (0) (6) _ HCV4.out (rs2 (BX109.out.gr hw)) om (qR4 om om om om)) ?_
        refine tk3_ ?_
        refine qa0 (Y.out _ _ ?_)
        intro vw14 hg
        simp only [puts,Act.put,lA,lB,lC,lD,lE,↓reduceIte,Nat.reduceEqDiff]
        have J:=lh_ (I.out.grS (HG0.out.trans hg) YX109.out (BX109.out.gr hg) (by decide))
        simp only [zq1_,zq2_,zq3_,zq4_,lF,lG] at J
        clear Y T I hg HG0 BX109 lx101 lx108
        clear YX109
        go_wp2
        refine kF_ O ((J.out).aL (vw14.heap.size)) fun Wx32 I=>?_;clear O K
        clear J
        generalize vw14.heap.size=gx110 at *
        have su_1_33:wl 1≤1:=qb1.2 (by decide +kernel)
        have hd1:decide (mm=1)=false:=decide_eq_false (by first|exact ok|exact HM1.out)
        have lx91_0:=fun w' (h:Gr _ w')=>qk3 HR.out ((I.out.bx 0 rfl).gr h) hkn' HFK.out
        have lx91_1:=fun w' (h:Gr _ w')=>qk4 HR.out ((I.out.bx 0 rfl).gr h) hkn' HFK.out
        have lx91_2:=fun w' (h:Gr _ w')=>qk5 HR.out ((I.out.bx 0 rfl).gr h) hkn' HFK.out
        have lx91_3:=fun w' (h:Gr _ w')=>qk6 HR.out ((I.out.bx 0 rfl).gr h) hkn' HFK.out
        have lx91_4:=fun w' (h:Gr _ w')=>qk7 HR.out ((I.out.bx 0 rfl).gr h) hkn' HFK.out
        refine kS fun K O=>?_
        refine xy5 fun T Y=>?_
        iterate 7 refine tk ?_
        refine ck Tryz.call24 (fun w' hw=>nzof 1 _ (by decide)) ?_
        refine tk ?_
        refine nlD Y I fun vw15 J=>?_
        clear Y T I lx91_0 lx91_1 lx91_2 lx91_3 lx91_4
        go_wp2
        refine kO O ?_;clear O K
        have I:=J;clear J
        clear hd1
        refine wp_cond_false (by rfl) ?_
        refine wp_skip ?_
        show Code.wp _ _ _ _ _
        refine kL fun K O=>?_
        refine sq3_ fun T Y=>?_
        refine tk3_ ?_
        refine nlS Y I fun vw16 J=>?_
        clear Y T I
        go_wp2
        refine O.out _ _ ?_;clear O K
        try simp only [Exit.then,Exit.inBlock]
        have I:=lh_ (J.out);clear J
        refine hp0_ _ _ ?_
        go_roundg k9
        case measure=>omega
        case rel=>exact ⟨k+1,rfl,by omega,lh_ ((((((I.out).er 7).er 6).er 5).er 4).er 3)⟩
    ·have hkn':k<n:=by omega
     obtain ⟨r,mm,hfk⟩:∃ r mm,f k=(r,mm):=⟨_,_,rfl⟩
     have HFK:=lh_ hfk
     have hmm:0<mm:=by have e9:=HPF.out k;rw [hfk] at e9;exact e9
     obtain ⟨hwr,hwm⟩:wl r.natAbs≤9∧wl mm≤1:=by have e9:=HSF.out k hkn'; rw [hfk] at e9;exact e9
     clear hfk
     have hkl:(k:Int)<(n:Int):=by omega
     have hwi:IntKind.i64.wrap ((k:Int)+1)=(k:Int)+1:=by rw [IntKind.wrap_i64];omega
     obtain ⟨M2,hc2,hM2,hp2⟩:=xn7 (a:=a) (fw:=fw) (r:=r) (m:=mm) (by rw [Hf.out,HR1.out];exact HC1.out) hM1 (by rw [Hf.out];exact HFK.out)
     obtain ⟨R2,HR2a⟩:∃ z,Hid (a % ((M2:Nat):Int)=z):=⟨_,lh_ rfl⟩
     rw [Hf.out,HR2a.out] at hc2
     rw [HR1.out,HR2a.out] at hp2
     have HC2:=lh_ hc2
     have HCV3:=lh_ (qg1 (qv8 hM1 hmm) hp2)
     have hwM2:wl M2≤7:=by have e9:=qt9 (c:=1) (fun i hi=>(HSF.out i om).2) hc2;omega
     have hwR2:wl R2.natAbs≤7:=by rw [← HR2a.out];exact qE6 hM2 hwM2
     clear hc2 hp2
     refine wp_seq ?_
     refine kS fun K O=>?_
     go_wp2
     refine kO O ?_;clear O K
     refine wp_cond_true (by rfl) ?_
     refine wp_skip ?_
     show Code.wp _ _ _ _ _
     refine wp_seq ?_
     refine wp_block ?_
     have su3a:wl R2.natAbs≤20:=om
     have su3b:wl M2≤20:=om
     have lx103:=kc5_ I
     have lx91_0:=fun w' (h:Gr _ w')=>qk3 HR.out ((I.out.bx 1 rfl).gr h) hkn' HFK.out
     have lx91_1:=fun w' (h:Gr _ w')=>qk4 HR.out ((I.out.bx 1 rfl).gr h) hkn' HFK.out
     have lx91_2:=fun w' (h:Gr _ w')=>qk5 HR.out ((I.out.bx 1 rfl).gr h) hkn' HFK.out
     have lx91_3:=fun w' (h:Gr _ w')=>qk6 HR.out ((I.out.bx 1 rfl).gr h) hkn' HFK.out
     have lx91_4:=fun w' (h:Gr _ w')=>qk7 HR.out ((I.out.bx 1 rfl).gr h) hkn' HFK.out
     refine kL fun K O=>?_
     have HG0:Hid (Gr wr wr):=lh_ (Gr.refl _)
     refine qh3 10 [] [9] (fun _=>0) (fun _=>.cells #[] 0) (fun i=>(2,#[.int .u64 (lo R1.natAbs),.string (bg R1.natAbs),.bool (R1<0),.int .u64 (lo M1),.string (bg M1),.int .u64 (lo r.natAbs),.string (bg r.natAbs),.bool (r<0),.int .u64 (lo mm),.string (bg mm)],71)) [(0,0),(0,1),(0,2),(0,3),(0,4),(1,5),(2,5),(0,6),(0,7),(0,8),(0,9)] (by kernel_rfl) (by kernel_rfl) (fun i hi=>by cases hi) (by intro i hi;simp only [List.mem_cons,List.not_mem_nil,or_false] at hi;rcases hi with rfl <;> exact ⟨_,rfl,qa_⟩) (fun _ _ _ _ _ h=>h) (fun T Y=>?_)
     iterate 5 (refine qe3 (v:=?_) rfl (by rfl) (fun w' hw=>?_) ?_;rotate_left;go_simp;with_reducible rfl;simp only [Act.put,lA,lB,lC])
     refine qp6 rfl (by rfl) (fun w'=>?_) ?_
     ·go_simp
     refine qm_ rfl (by rfl) (fun gx104 vv104 hg0 yx104 bx104=>?_)
     clear yx104
     replace HG0:=lh_ (HG0.out.trans hg0)
     have HGS:=lh_ hg0;clear hg0
     clear HGS
     have BX104:=lh_ bx104;clear bx104
     clear lx103;have lx103:=fun w' (h:Gr _ w')=>kc5_ I w' (HG0.out.trans h)
     clear lx91_0;have lx91_0:=fun w' (h:Gr _ w')=>(fun w' (h:Gr _ w')=>qk3 HR.out ((I.out.bx 1 rfl).gr h) hkn' HFK.out) w' (HG0.out.trans h)
     clear lx91_1;have lx91_1:=fun w' (h:Gr _ w')=>(fun w' (h:Gr _ w')=>qk4 HR.out ((I.out.bx 1 rfl).gr h) hkn' HFK.out) w' (HG0.out.trans h)
     clear lx91_2;have lx91_2:=fun w' (h:Gr _ w')=>(fun w' (h:Gr _ w')=>qk5 HR.out ((I.out.bx 1 rfl).gr h) hkn' HFK.out) w' (HG0.out.trans h)
     clear lx91_3;have lx91_3:=fun w' (h:Gr _ w')=>(fun w' (h:Gr _ w')=>qk6 HR.out ((I.out.bx 1 rfl).gr h) hkn' HFK.out) w' (HG0.out.trans h)
     clear lx91_4;have lx91_4:=fun w' (h:Gr _ w')=>(fun w' (h:Gr _ w')=>qk7 HR.out ((I.out.bx 1 rfl).gr h) hkn' HFK.out) w' (HG0.out.trans h)
     simp only [Act.put,lA,lB,lC]
     refine qf8 rfl (by rfl) Tryz.call29 (fun w' hw=>qe7 _ 2 (f2r R1 M1 r mm) R2 M2 (0) _ HCV3.out (rs2 (BX104.out.gr hw)) om (qR4 om om om om)) (by rfl) ?_
     simp only [Act.put,lA,lB,lC]
     iterate 3 (refine qe3 (v:=?_) rfl (by rfl) (fun w' hw=>?_) ?_;rotate_left;go_simp;with_reducible rfl;simp only [Act.put,lA,lB,lC])
     refine qm9 (Y.out _ _ ?_)
     intro G vw8 hg hf
     simp only [puts,Act.put,lA,lB,lC,lD,lE,↓reduceIte,Nat.reduceEqDiff]
     have J:=lh_ (I.out.gr (HG0.out.trans hg))
     clear Y T I hg hf HG0 BX104 lx103 lx91_0 lx91_1 lx91_2 lx91_3 lx91_4
     have lx103:=kc5_ J;have fx103:=kf5_ J
     have r0:=Gr.refl vw8
     go_wp2
     refine kO O ?_;clear O K
     clear r0 lx103 fx103
     refine fH ((((J.out).put2 5 0 rfl).put2 5 2 rfl).put 5 4 _ rfl) fun Wx21 I=>?_
     clear J
     refine kL fun K O=>?_
     refine sq3_ fun T Y=>?_
     refine tk3_ ?_
     refine nlS Y I fun vw9 J=>?_
     clear Y T I
     go_wp2
     refine O.out _ _ ?_;clear O K
     try simp only [Exit.then,Exit.inBlock]
     have I:=lh_ (J.out);clear J
     refine hm0_ _ _ ?_
     go_roundg k9
     case measure=>omega
     case rel=>exact ⟨k+1,_,_,rfl,by omega,HC2,HR2a,hM2,lh_ (I.out)⟩
  ·rcases HWA.out with ⟨_,_,_,hz⟩|⟨b9,o9,c',hv,hb,hc⟩
   ·omega
   injection hv with hv1 _ hv3
   subst hv1 hv3
   have hkn':k<n:=by omega
   obtain ⟨lw,HLW⟩:∃ x,Hid (fw k=x):=⟨_,lh_ rfl⟩
   have hlw:lw<4294967296:=by rw [← HLW.out];exact HFW.out k hkn'
   have HE0:Hid (∀ w',Gr w w'→w'.cell? ⟨b9,o9+k,none⟩=some (.int .u32 ((lw:Nat):Int))):=lh_ (fun w' hw=>(Below.cell hw (p:=⟨b9,o9+k,none⟩) hb).trans (by rw [← HLW.out];exact hc k hkn'))
   clear hc hb
   have hkl:(k:Int)<(n:Int):=by omega
   have hwi:IntKind.i64.wrap ((k:Int)+1)=(k:Int)+1:=by rw [IntKind.wrap_i64];omega
   obtain ⟨mm,hmm⟩:∃ x:Nat,max lw 1=x:=⟨_,rfl⟩
   have hmx:max ((lw:Nat):Int) 1=((mm:Nat):Int):=by omega
   have hm2:0<mm∧mm<4294967296:=by omega
   obtain ⟨hm0,hm3⟩:=hm2
   have hwlm:wl mm≤1:=qa6 hm3
   have hwm6:IntKind.u64.wrap ((mm:Nat):Int)=((mm:Nat):Int):=qe5 om
   obtain ⟨ev,HEV⟩:∃ x:Bool,Hid (decide (k % 2=0)=x):=⟨_,lh_ rfl⟩
   obtain ⟨sg,HSG⟩:∃ x:Int,Hid ((if ev=true then -((mm:Nat):Int) else ((mm:Nat):Int))=x):=⟨_,lh_ rfl⟩
   obtain ⟨r,HRR⟩:∃ x:Int,Hid (a+sg=x):=⟨_,lh_ rfl⟩
   have HFK:Hid (f k=(r,mm)):=lh_ (by
    rw [← Hf.out]
    unfold jf
    rw [HLW.out,hmm,← HRR.out,← HSG.out,← HEV.out]
    by_cases h2:k % 2=0
    ·rw [if_pos h2,if_pos (by simpa using h2)]
    ·rw [if_neg h2,if_neg (by simpa using h2)])
   have hev1:(Int.tmod ((k:Nat):Int) 2 == 0)=ev:=by
    rw [← HEV.out,show Int.tmod ((k:Nat):Int) 2=((k % 2:Nat):Int) from rfl]
    by_cases h2:k % 2=0
    ·rw [decide_eq_true h2];simp;omega
    ·rw [decide_eq_false h2];simp;omega
   have hwk2:IntKind.i64.wrap (((k:Nat):Int) % 2)=((k:Nat):Int) % 2:=qa7 om om
   have hwr:wl r.natAbs≤9:=by have e9:=(HSF.out k hkn').1;rw [HFK.out] at e9;exact e9
   have hwsg:wl sg.natAbs≤1:=by
    rw [← HSG.out];split
    ·rw [Int.natAbs_neg,Int.natAbs_natCast];exact hwlm
    ·rw [Int.natAbs_natCast];exact hwlm
   rcases hu with ⟨hk0,rfl,I⟩|⟨hk0,gR,cur,I,HR⟩
   ·have HK0:=lh_ hk0
    clear hk0 hmm
    refine wp_seq ?_
    refine kS fun K O=>?_
    go_wp2
    refine kO O ?_;clear O K
    refine wp_cond_true (by rfl) ?_
    refine wp_skip ?_
    show Code.wp _ _ _ _ _
    refine wp_seq ?_
    refine wp_block ?_
    have lx90_0:=fun w' (h:Gr _ w')=>HE0.out w' (Gr.trans I.out.1 h)
    refine ks7_ fun K O T Y=>?_
    iterate 6 refine tk ?_
    refine ck Tryz.call24 (fun w' hw=>nzof mm _ ok) ?_
    refine nlS Y I fun vw3 J=>?_
    clear Y T I lx90_0
    go_wp2
    refine kF_ O ((J.out).aL (vw3.heap.size)) fun Wx8 I=>?_;clear O K
    clear J
    generalize vw3.heap.size=gx3 at *
    have HZ1:Hid ((if ev then -((mm:Nat):Int) else ((mm:Nat):Int))=sg):=lh_ (HSG.out)
    have su1:wl sg.natAbs≤1:=by have e:=HZ1.out;first|omega|(rw [← e];split <;> simp <;> omega)
    have HZ2:Hid (a+(sg)=r):=lh_ (HRR.out)
    have su2:wl r.natAbs≤9:=by have e:=HZ2.out;first|omega|(rw [← e];have:=qf7 a sg;omega)
    have lx2:=kc0_ I
    have lx3:=kc1_ I
    refine kL fun K O=>?_
    have HG0:Hid (Gr Wx8 Wx8):=lh_ (Gr.refl _)
    refine qh3 11 [] [] (fun _=>0) (fun _=>.cells #[] 0) (fun i=>(1,#[.int .u64 (lo r.natAbs),.string (bg r.natAbs),.bool (r<0),.int .u64 (lo mm),.string (bg mm)],71)) [(0,0),(0,1),(0,2),(0,3),(0,4),(0,5),(0,8),(0,6),(0,7),(0,9),(1,10),(2,10)] (by kernel_rfl) (by kernel_rfl) (fun i hi=>by cases hi) (fun i hi=>by cases hi) (fun _ _ _ _ _ h=>h) (fun T Y=>?_)
    iterate 7 (refine qe3 (v:=?_) rfl (by rfl) (fun w' hw=>?_) ?_;rotate_left;go_simp;with_reducible rfl;simp only [Act.put,lA,lB,lC])
    refine qf8 rfl (by rfl) Tryz.call37 (fun w' hw=>qb2 ev mm sg _ HZ1.out) (by rfl) ?_
    simp only [Act.put,lA,lB,lC]
    refine qf8 rfl (by rfl) Tryz.call41 (fun w' hw=>qq3 a sg r _ HZ2.out om om) (by rfl) ?_
    simp only [Act.put,lA,lB,lC]
    refine qe3 (v:=?_) rfl (by rfl) (fun w' hw=>?_) ?_;rotate_left;go_simp;with_reducible rfl;simp only [Act.put,lA,lB,lC]
    refine qp6 rfl (by rfl) (fun w'=>?_) ?_
    ·go_simp
    refine qm_ rfl (by rfl) (fun gx4 vv4 hg0 yx4 bx4=>?_)
    have YX4:=lh_ (Nat.le_trans HG0.out.size yx4)
    clear yx4
    replace HG0:=lh_ (HG0.out.trans hg0)
    have HGS:=lh_ hg0;clear hg0
    clear HGS
    have BX4:=lh_ bx4;clear bx4
    clear lx2;have lx2:=fun w' (h:Gr _ w')=>kc0_ I w' (HG0.out.trans h)
    clear lx3;have lx3:=fun w' (h:Gr _ w')=>kc1_ I w' (HG0.out.trans h)
    simp only [Act.put,lA,lB,lC]
    refine qm9 (Y.out _ _ ?_)
    intro G vw4 hg hf
    simp only [puts,Act.put,lA,lB,lC,lD,lE,↓reduceIte,Nat.reduceEqDiff]
    have J:=lh_ (I.out.grS (HG0.out.trans hg) YX4.out (BX4.out.gr hg) (by decide))
    simp only [zq1_,zq2_,zq3_,zq4_,lF,lG] at J
    clear Y T I hg hf HG0 BX4 lx2 lx3
    clear YX4
    obtain ⟨ai1,ah1,az1,as1,ab1⟩:=info_parts (qf6)
    refine apN (m:=1) (c:=1) J 2 (.tmp 54) (.tmp 64) 67 ah1 az1 as1 ab1 rfl Tryz.underlying67 (by unfold maxLen;omega) om (fun bR1 cR1 vR1 vw4a I RV1=>?_)
    clear J;have J:=I;clear I
    simp only [Act.put,lA,lB,lC,List.cons_append,List.nil_append,List.append_eq,List.eraseIdx_cons_zero,List.eraseIdx_cons_succ]
    simp only [List.cons_append,List.nil_append,List.eraseIdx_cons_zero,List.eraseIdx_cons_succ] at J
    go_wp2
    refine kO O ?_;clear O K
    have I:=J;clear J
    refine kL fun K O=>?_
    refine sq3_ fun T Y=>?_
    refine tk3_ ?_
    refine nlS Y I fun vw5 J=>?_
    clear Y T I
    go_wp2
    refine O.out _ _ ?_;clear O K
    try simp only [Exit.then,Exit.inBlock]
    have I:=lh_ (J.out);clear J
    refine hj0_ _ _ ?_
    go_roundg kk
    case measure=>omega
    case rel=>exact ⟨k+1,rfl,by omega,.inr ⟨by omega,_,_,lh_ (((I.out).er 2).er 1),lh_ (by simp only [rcs,HFK.out];have e9:=RV1.out;have e8:=HK0.out;subst e8;exact e9)⟩⟩
   ·clear hmm
    have RVX:=HR
    refine wp_seq ?_
    refine kS fun K O=>?_
    go_wp2
    refine kO O ?_;clear O K
    refine wp_cond_true (by rfl) ?_
    refine wp_skip ?_
    show Code.wp _ _ _ _ _
    refine wp_seq ?_
    refine wp_block ?_
    have lx90_0:=fun w' (h:Gr _ w')=>HE0.out w' (Gr.trans I.out.1 h)
    refine ks7_ fun K O T Y=>?_
    iterate 6 refine tk ?_
    refine ck Tryz.call24 (fun w' hw=>nzof mm _ ok) ?_
    refine nlS Y I fun vw3 J=>?_
    clear Y T I lx90_0
    go_wp2
    refine kF_ O ((J.out).aL (vw3.heap.size)) fun Wx8 I=>?_;clear O K
    clear J
    generalize vw3.heap.size=gx81 at *
    have HZ1:Hid ((if ev then -((mm:Nat):Int) else ((mm:Nat):Int))=sg):=lh_ (HSG.out)
    have su1:wl sg.natAbs≤1:=by have e:=HZ1.out;first|omega|(rw [← e];split <;> simp <;> omega)
    have HZ2:Hid (a+(sg)=r):=lh_ (HRR.out)
    have su2:wl r.natAbs≤9:=by have e:=HZ2.out;first|omega|(rw [← e];have:=qf7 a sg;omega)
    have lx2:=kc0_ I
    have lx81:=kc2_ I
    refine kL fun K O=>?_
    have HG0:Hid (Gr Wx8 Wx8):=lh_ (Gr.refl _)
    refine qh3 11 [] [] (fun _=>0) (fun _=>.cells #[] 0) (fun i=>(1,#[.int .u64 (lo r.natAbs),.string (bg r.natAbs),.bool (r<0),.int .u64 (lo mm),.string (bg mm)],71)) [(0,0),(0,1),(0,2),(0,3),(0,4),(0,5),(0,8),(0,6),(0,7),(0,9),(1,10),(2,10)] (by kernel_rfl) (by kernel_rfl) (fun i hi=>by cases hi) (fun i hi=>by cases hi) (fun _ _ _ _ _ h=>h) (fun T Y=>?_)
    iterate 7 (refine qe3 (v:=?_) rfl (by rfl) (fun w' hw=>?_) ?_;rotate_left;go_simp;with_reducible rfl;simp only [Act.put,lA,lB,lC])
    refine qf8 rfl (by rfl) Tryz.call37 (fun w' hw=>qb2 ev mm sg _ HZ1.out) (by rfl) ?_
    simp only [Act.put,lA,lB,lC]
    refine qf8 rfl (by rfl) Tryz.call41 (fun w' hw=>qq3 a sg r _ HZ2.out om om) (by rfl) ?_
    simp only [Act.put,lA,lB,lC]
    refine qe3 (v:=?_) rfl (by rfl) (fun w' hw=>?_) ?_;rotate_left;go_simp;with_reducible rfl;simp only [Act.put,lA,lB,lC]
    refine qp6 rfl (by rfl) (fun w'=>?_) ?_
    ·go_simp
    refine qm_ rfl (by rfl) (fun gx82 vv82 hg0 yx82 bx82=>?_)
    have YX82:=lh_ (Nat.le_trans HG0.out.size yx82)
    clear yx82
    replace HG0:=lh_ (HG0.out.trans hg0)
    have HGS:=lh_ hg0;clear hg0
    clear HGS
    have BX82:=lh_ bx82;clear bx82
    clear lx2;have lx2:=fun w' (h:Gr _ w')=>kc0_ I w' (HG0.out.trans h)
    clear lx81;have lx81:=fun w' (h:Gr _ w')=>kc2_ I w' (HG0.out.trans h)
    simp only [Act.put,lA,lB,lC]
    refine qm9 (Y.out _ _ ?_)
    intro G vw4 hg hf
    simp only [puts,Act.put,lA,lB,lC,lD,lE,↓reduceIte,Nat.reduceEqDiff]
    have J:=lh_ (I.out.grS (HG0.out.trans hg) YX82.out (BX82.out.gr hg) (by decide))
    simp only [zq1_,zq2_,zq3_,zq4_,lF,lG] at J
    clear Y T I hg hf HG0 BX82 lx2 lx81
    clear YX82
    obtain ⟨ai1,ah1,az1,as1,ab1⟩:=info_parts (qf6)
    refine apS (m:=1) (c:=1) J RVX 1 3 (.tmp 54) (.tmp 64) 67 ah1 az1 as1 ab1 rfl Tryz.underlying67 (by unfold maxLen;omega) om (fun bR1 cR1 vR1 vw4a I RV1=>?_)
    clear J RVX;have J:=I;clear I
    simp only [Act.put,lA,lB,lC,List.cons_append,List.nil_append,List.append_eq,List.eraseIdx_cons_zero,List.eraseIdx_cons_succ]
    simp only [List.cons_append,List.nil_append,List.eraseIdx_cons_zero,List.eraseIdx_cons_succ] at J RV1
    go_wp2
    refine kO O ?_;clear O K
    have I:=J;clear J
    refine kL fun K O=>?_
    refine sq3_ fun T Y=>?_
    refine tk3_ ?_
    refine nlS Y I fun vw5 J=>?_
    clear Y T I
    go_wp2
    refine O.out _ _ ?_;clear O K
    try simp only [Exit.then,Exit.inBlock]
    have I:=lh_ (J.out);clear J
    refine hj0_ _ _ ?_
    go_roundg kk
    case measure=>omega
    case rel=>exact ⟨k+1,rfl,by omega,.inr ⟨by omega,_,_,lh_ (((I.out).er 2).er 1),lh_ (by simp only [rcs,HFK.out];exact RV1.out)⟩⟩
end Go.Proofs.YtobojnodohjiaaaGreatDoor
