
/- ReconsChinese: the law's walk. -/
import Derived.Test.YtobojnodohjiaaaGreatDoorOwnP
import Derived.Test.YtobojnodohjiaaaGreatDoorRr9
import Derived.Test.YtobojnodohjiaaaGreatDoorRecW
import Derived.Test.YtobojnodohjiaaaGreatDoorI64
import Derived.Test.YtobojnodohjiaaaGreatDoorQs
set_option maxRecDepth 100000
set_option maxHeartbeats 16000000
set_option linter.unusedVariables false
set_option linter.unusedSimpArgs false
namespace Go.Proofs.YtobojnodohjiaaaGreatDoor
open Go.RowKit
attribute [local go_sem ↓] Go.wp_at_zero Go.wp_at_succ
attribute [local go_sem ↓] qb8 qa3 qc8 qd9 qb7
attribute [local go_sem] Instr.field asAgg
attribute [local go_sem ↓] qh7
theorem qP9 (v:Value) (n:Nat) (N D:Nat→Int) (f:Nat→Int × Nat) (R:Int) (M:Nat) (cc:Int) (w:World) (HQ:Hid (Qs w v n N D)) (HQB:Hid (Qb n N D)) (hn4:n≤4) (Hf:Hid (∀ i,(Int.tmod (N i) 101,(Int.tmod (D i) 13).toNat)=f i)) (HCV:Hid (chv f n R M cc)) (hR0:0≤R) (hR1:R≤100000000) (hM1:M≤100000000) (hwR:wl R.natAbs≤1) (hwM:wl M≤1) (HSZ:Hid (∀ i,i<n→wl (f i).1.natAbs≤100∧wl (f i).2≤10)) (HSI:Hid (∀ i,i<n → -100≤(f i).1∧(f i).1≤100∧(f i).2≤12)) (HT:Hid (Tab w)) :
  Calls Tryz.prog 5 #[v] w fun e w'=>e=.returned (.bool true)∧Below w.heap.size w w':=by
 obtain ⟨ao,c,rfl⟩:=HQ.out.slice
 obtain ⟨i0,hi,hz0,hz1,hz2⟩:=info_parts qf6
 obtain ⟨i1,ji,jz0,jz1,jz2⟩:=info_parts qK7
 have hwM6:IntKind.u64.wrap ((M:Nat):Int)=((M:Nat):Int):=qe5 om
 go_enter Tryz.func5,Tryz.ntmps5
 have I:=lh_ (hp0 w)
 refine kS fun K O=>?_
 refine wp_region_lit ?_
 go_wp2
 refine kF_ O (I.out) fun Wx0 J=>?_;clear O K
 clear I;have I:=J;clear J
 refine wp_seq ?_
 have hnx4:¬ 4<(n:Int):=by omega
 refine ks3_ fun K O T Y=>?_
 refine tk3_ ?_
 refine nlS Y I fun vw1 J=>?_
 clear Y T I
 go_wp2
 refine kO O ?_;clear O K
 have I:=J;clear J
 clear hnx4
 refine wp_cond_false (by rfl) ?_
 refine wp_skip ?_
 show Code.wp _ _ _ _ _
 refine kS fun K O=>?_
 refine wp_region_lit ?_
 go_wp2
 refine kF_ O (I.out) fun Wx3 J=>?_;clear O K
 clear I;have I:=J;clear J
 refine kS fun K O=>?_
 refine wp_region_lit ?_
 go_wp2
 refine kF_ O (I.out) fun Wx4 J=>?_;clear O K
 clear I;have I:=J;clear J
 refine wp_seq ?_
 refine kS fun K O=>?_
 refine wp_region_lit ?_
 go_wp2
 refine kF_ O (I.out) fun Wx5 J=>?_;clear O K
 clear I;have I:=J;clear J
 refine wp_block ?_
 go_loopg [3,4,5,6] n (fun kk u3 u4 u5 iv wr=>∃ k:Nat,iv=.int .i64 (k:Int)∧k+kk=n∧(k=0→u3=.slice none 0 0∧u4=.slice none 0 0∧u5=.slice none 0 0)∧Hid (HP w wr [])∧Hid (wr.ownsRow w.heap.size 71 5 u3 k (rcs f k))∧Hid (wr.ownsRow w.heap.size 3 1 u4 k (ics (fun i=>(f i).1) k))∧Hid (wr.ownsRow w.heap.size 3 1 u5 k (ics (fun i=>(((f i).2:Nat):Int)) k))∧Hid (Dj u3 u4)∧Hid (Dj u3 u5)∧Hid (Dj u4 u5))
 case atStart=>exact ⟨0,rfl,by omega,fun _=>⟨rfl,rfl,rfl⟩,I,lh_ (World.ownsRow_nil _ _ _ _),lh_ (World.ownsRow_nil _ _ _ _),lh_ (World.ownsRow_nil _ _ _ _),lh_ (qQ_ _),lh_ (qQ_ _),lh_ (qQ_ _)⟩
 case round =>
  rename_i J_ K_ hj1_ hj0_
  clear I
  obtain ⟨k,rfl,hkn,hu0,I,HO3,HO4,HO5,HD34,HD35,HD45⟩:=hrel
  rcases gk with _|kk
  ·obtain rfl:n=k:=by omega
   have HRS:Hid (Rs wr u3 n f):=lh_ (by
    rcases Nat.eq_zero_or_pos n with h|h
    ·rw [(hu0 h).1,h];exact rs0 _ _
    ·exact xo7 HO3.out h)
   have HIR:Hid (Isl wr u4 n (fun i=>(f i).1)):=lh_ (by
    rcases Nat.eq_zero_or_pos n with h|h
    ·rw [(hu0 h).2.1,h];exact qS6 _ _
    ·exact qU6 HO4.out h)
   have HIM:Hid (Isl wr u5 n (fun i=>(((f i).2:Nat):Int))):=lh_ (by
    rcases Nat.eq_zero_or_pos n with h|h
    ·rw [(hu0 h).2.2,h];exact qS6 _ _
    ·exact qU6 HO5.out h)
   have HBW:=lh_ I.out.1
   replace HT:=lh_ (HT.out.gr HBW.out)
   clear I HO3 HO4 HO5 HD34 HD35 HD45 hu0
   have I:=lh_ (hp0 wr)
   refine wp_seq ?_
   have hlt9:¬ (n:Int)<(n:Int):=by omega
   refine ks4_ fun K O T Y=>?_
   iterate 4 refine tk ?_
   refine nlS Y I fun vw2 J=>?_
   clear Y T I
   go_wp2
   refine kO O ?_;clear O K
   have I:=J;clear J
   clear hlt9
   refine wp_cond_false (by rfl) ?_
   refine wp_exit ?_
   show Code.wp _ _ _ _ _
   have HB:=HPb I
   have su1a:wl R.natAbs≤20:=om
   have su1b:wl M≤20:=om
   refine ks5_ fun K O T Y=>?_
   refine tk ?_
   refine ck Tryz.call29 (fun w' hw=>qe7 _ n f R M cc _ HCV.out (HRS.out.gr (Gr.trans HB.out hw)) om (HSZ.out)) ?_
   refine tk3_ ?_
   refine nlS Y I fun vw3 J=>?_
   clear Y T I HB
   go_wp2
   refine kF_ O ((J.out).aL (vw3.heap.size)) fun Wx12 I=>?_;clear O K
   clear J
   generalize vw3.heap.size=gx1 at *
   have HB:=HPb I
   refine qT2 fun K O T Y=>?_
   refine tk2_ ?_
   refine ck Tryz.call30 (fun w' hw=>xp9 _ _ n f R M cc _ HCV (lh_ (HIR.out.gr (Gr.trans HB.out hw))) (lh_ (HIM.out.gr (Gr.trans HB.out hw))) hn4 HSI) ?_
   iterate 7 refine tk ?_
   refine nlS Y I fun vw4 J=>?_
   clear Y T I HB
   go_wp2
   refine kO O ?_;clear O K
   have I:=J;clear J
   have HB:=HPb I
   have hcc9:(cc == cc)=true:=by simp
   have su2:wl R.natAbs≤2:=qi6 om om
   have lx1:=kc0_ I
   refine kS fun K O=>?_
   refine xG6 fun T Y=>?_
   iterate 8 refine tk ?_
   refine ck Tryz.call23 (fun w' hw=>qd3 R _ om om) ?_
   refine ck Tryz.call24 (fun w' hw=>nzof M _ ok) ?_
   iterate 4 refine tk ?_
   refine ck Tryz.call27 (fun w' hw=>qa9 _ (lh_ (HT.out.gr (Gr.trans HB.out hw)))) ?_
   refine tk ?_
   refine nlD Y I fun vw5 J=>?_
   clear Y T I lx1 HB
   go_wp2
   refine kF_ O ((J.out).er 0) fun Wx14 I=>?_;clear O K
   clear J
   clear hcc9
   refine wp_ret ?_
   try simp only [Exit.then,Exit.inBlock]
   exact bodyPost_ret (v:=.bool true) (by simp [results,Tryz.results5,go_sem]) rfl ⟨rfl,HBW.out.trans (I.out.1.mono HBW.out.size)⟩
  ·rcases HQ.out with ⟨_,_,_,hz⟩|⟨b9,o9,c',hv,hb,hc⟩
   ·omega
   injection hv with hv1 _ hv3
   subst hv1 hv3
   have hkn':k<n:=by omega
   obtain ⟨x,HX⟩:∃ x,Hid (N k=x):=⟨_,lh_ rfl⟩
   obtain ⟨y,HY⟩:∃ x,Hid (D k=x):=⟨_,lh_ rfl⟩
   have HXB:=HQB.out k hkn'
   rw [HX.out,HY.out] at HXB
   obtain ⟨x1,x2,y1,y2⟩:=HXB
   obtain ⟨r,HR⟩:∃ z,Hid (Int.tmod x 101=z):=⟨_,lh_ rfl⟩
   obtain ⟨m,hm,hm13⟩:=qo0 y1 (show (0:Int)<13 by decide)
   have HM:=lh_ hm
   obtain ⟨q1,q2⟩:=qp4 x 101 (by decide)
   rw [HR.out] at q1 q2
   have HFK:Hid (f k=(r,m)):=lh_ (by rw [← Hf.out,HX.out,HY.out,HR.out,hm];rfl)
   have hr1:Int.tmod x 101=r:=HR.out
   have hr2:Int.tmod y 13=((m:Nat):Int):=hm
   clear hm
   have hwr:IntKind.i64.wrap r=r:=qa7 om om
   have hwm:IntKind.u32.wrap ((m:Nat):Int)=((m:Nat):Int):=ql0 om
   have hwmi:IntKind.i64.wrap ((m:Nat):Int)=((m:Nat):Int):=qa7 om om
   have HE0:Hid (∀ w',Gr w w'→w'.cell? ⟨b9,o9+k*2,none⟩=some (.int .i64 x)):=lh_ (fun w' hw=>(Below.cell hw (p:=⟨b9,o9+k*2,none⟩) hb).trans (by rw [← HX.out];exact (hc k hkn').1))
   have HE1:Hid (∀ w',Gr w w'→w'.cell? ⟨b9,o9+k*2+1,none⟩=some (.int .u32 y)):=lh_ (fun w' hw=>(Below.cell hw (p:=⟨b9,o9+k*2+1,none⟩) hb).trans (by rw [← HY.out];exact (hc k hkn').2))
   clear hc hb
   have hkl:(k:Int)<(n:Int):=by omega
   have hwi:IntKind.i64.wrap ((k:Int)+1)=(k:Int)+1:=qa7 om om
   have HD43:=lh_ HD34.out.symm
   refine wp_seq ?_
   refine kS fun K O=>?_
   go_wp2
   refine kO O ?_;clear O K
   refine wp_cond_true (by rfl) ?_
   refine wp_skip ?_
   show Code.wp _ _ _ _ _
   refine wp_seq ?_
   refine wp_block ?_
   have lx90_0:=fun w' (h:Gr _ w')=>HE0.out w' (Gr.trans I.out.1 h)
   have lx90_1:=fun w' (h:Gr _ w')=>HE1.out w' (Gr.trans I.out.1 h)
   refine kS fun K O=>?_
   refine qa1 14 [13] [] (fun _=>7) (fun _=>.cells #[.int .i64 0,.int .u32 0] 69) [(true,0),(true,1),(true,2),(true,3),(true,4),(true,5),(true,6),(true,7),(true,8),(true,9),(true,10),(true,11),(true,12)] (by kernel_rfl) (by kernel_rfl) (by intro i hi;simp only [List.mem_cons,List.not_mem_nil,or_false] at hi;rcases hi with rfl <;> exact ⟨_,rfl,rfl,rfl,by simp,fun ρ w=>by kernel_rfl⟩) (fun i hi=>by cases hi) (fun _ _ _ _ _ h=>h) (fun T Y=>?_)
   iterate 13 refine tk ?_
   refine qa0 (Y.out _ _ ?_)
   intro G vw2 hg hf
   have hfr:=(hf.1 13 (by simp)).1
   have hb3:∀ j,u3.ownBlock=some j→j≠G 13:=fun j hj=>by have:=(World.ownsRow.lt HO3.out j hj).2;omega
   have hb4:∀ j,u4.ownBlock=some j→j≠G 13:=fun j hj=>by have:=(World.ownsRow.lt HO4.out j hj).2;omega
   have hb5:∀ j,u5.ownBlock=some j→j≠G 13:=fun j hj=>by have:=(World.ownsRow.lt HO5.out j hj).2;omega
   replace HO3:=lh_ (qe4 HO3.out hg)
   replace HO4:=lh_ (qe4 HO4.out hg)
   replace HO5:=lh_ (qe4 HO5.out hg)
   clear hfr
   simp only [puts,Act.put,lA,lB,lC,lD,lE,↓reduceIte,Nat.reduceEqDiff]
   have J:=lh_ (I.out.fr hg hf (zs:=[(#[.int .i64 0,.int .u32 0],69)]) rfl (by decide) (by decide))
   simp only [zq1_,zq2_,zq3_,zq4_,lF,lG] at J
   clear Y T I hg hf lx90_0 lx90_1
   generalize G 13=gx1 at *
   have lx1:=kc0_ J;have fx1:=kf0_ J
   have r0:=Gr.refl vw2
   go_wp2
   refine kO O ?_;clear O K
   clear r0 lx1 fx1
   refine fO (P:=fun W=>W.ownsRow w.heap.size 71 5 u3 k (rcs f k)∧W.ownsRow w.heap.size 3 1 u4 k (ics (fun i=>(f i).1) k)∧W.ownsRow w.heap.size 3 1 u5 k (ics (fun i=>(((f i).2:Nat):Int)) k)) ((J.out).put2 0 0 rfl) ⟨qp2 (qp2 HO3.out hb3) hb3,qp2 (qp2 HO4.out hb4) hb4,qp2 (qp2 HO5.out hb5) hb5⟩ fun Wx8 I ho=>?_
   clear HO3 HO4 HO5
   have HO3:=lh_ ho.1
   have HO4:=lh_ ho.2.1
   have HO5:=lh_ ho.2.2
   clear ho
   have HAP3:=lh_ (qO3 (T:=69) (cs:=#[.int .i64 r,.int .u32 ((m:Nat):Int)]) hb3)
   have HAP4:=lh_ (qO3 (T:=69) (cs:=#[.int .i64 r,.int .u32 ((m:Nat):Int)]) hb4)
   have HAP5:=lh_ (qO3 (T:=69) (cs:=#[.int .i64 r,.int .u32 ((m:Nat):Int)]) hb5)
   clear hb3 hb4 hb5
   clear J
   refine kS fun K O=>?_
   have lx5:=kc0_ I
   have r0:=Gr.refl Wx8
   go_wp2_with fail
   refine (qs0 r m Wx8 om om om).mono ?_
   rintro e wa ⟨rfl,hb1⟩
   have HF1:=lh_ (I.out.gr hb1)
   have HP3:=lh_ (qe4 HO3.out hb1)
   have HP4:=lh_ (qe4 HO4.out hb1)
   have HP5:=lh_ (qe4 HO5.out hb1)
   clear hb1 lx5 r0 I HO3 HO4 HO5
   have I:=HF1
   have HO3:=HP3
   have HO4:=HP4
   have HO5:=HP5
   clear HF1 HP3 HP4 HP5
   have HN:=lh_ (show ∀ j u,[.int .u64 (lo r.natAbs),.string (bg r.natAbs),.bool (r<0),.int .u64 (lo m),.string (bg m)][j]?=some u→(wa.alloc (.cells #[.int .u64 (lo r.natAbs),.string (bg r.natAbs),.bool (r<0),.int .u64 (lo m),.string (bg m)] 71)).cell? ((⟨wa.heap.size,0,none⟩:Addr).add j)=some u from fun j u hj=>by
    match j,hj with
    | 0,hj=>simp at hj;subst hj;simp [Addr.add,go_sem]
    | 1,hj=>simp at hj;subst hj;simp [Addr.add,go_sem]
    | 2,hj=>simp at hj;subst hj;simp [Addr.add,go_sem]
    | 3,hj=>simp at hj;subst hj;simp [Addr.add,go_sem]
    | 4,hj=>simp at hj;subst hj;simp [Addr.add,go_sem])
   have HF2:=lh_ (I.out.gr (Gr.alloc _ (.cells #[.int .u64 (lo r.natAbs),.string (bg r.natAbs),.bool (r<0),.int .u64 (lo m),.string (bg m)] 71)))
   have HA2:=lh_ (qe4 HO3.out (Gr.alloc _ (.cells #[.int .u64 (lo r.natAbs),.string (bg r.natAbs),.bool (r<0),.int .u64 (lo m),.string (bg m)] 71)))
   have HB2:=lh_ (qe4 HO4.out (Gr.alloc _ (.cells #[.int .u64 (lo r.natAbs),.string (bg r.natAbs),.bool (r<0),.int .u64 (lo m),.string (bg m)] 71)))
   have HC2:=lh_ (qe4 HO5.out (Gr.alloc _ (.cells #[.int .u64 (lo r.natAbs),.string (bg r.natAbs),.bool (r<0),.int .u64 (lo m),.string (bg m)] 71)))
   clear I HO3 HO4 HO5
   go_wp2_with (first|(at_builtin;refine apY HF2 HA2 HAP3 HB2 HC2 HD34 HD35 (.tmp 36) (.tmp 39) 67 hi hz0 hz1 hz2 rfl Tryz.underlying67 (m:=1) (c:=1) (ad:=⟨wa.heap.size,0,none⟩) (news:=[.int .u64 (lo r.natAbs),.string (bg r.natAbs),.bool (r<0),.int .u64 (lo m),.string (bg m)]) (by unfold maxLen;omega) om (by intro i v m h;rcases i with _|_|i <;> simp at h) (by simp [Act.eval,Act.put]) (by simp [Act.eval,Act.put]) HN rfl ?c1 (by decide) rfl rfl ?_)|fail)
   case c1=>intro u hu;simp at hu;rcases hu with rfl|rfl|rfl|rfl|rfl <;> rfl
   intro u3' wb I HO3 HAP3 HO4 HO5 HD34 HD35
   clear HF2 HA2 HB2 HC2 HN
   go_wp2_with fail
   refine kO O ?_;clear O K
   replace HD43:=lh_ HD34.out.symm
   refine kS fun K O=>?_
   have lx5:=kc0_ I
   have r0:=Gr.refl wb
   have HN:=lh_ (show ∀ j u,[.int .i64 r][j]?=some u→(wb.alloc (.cells #[.int .i64 r] 3)).cell? ((⟨wb.heap.size,0,none⟩:Addr).add j)=some u from fun j u hj=>by
    match j,hj with
    | 0,hj=>simp at hj;subst hj;simp [Addr.add,go_sem])
   have HF2:=lh_ (I.out.gr (Gr.alloc _ (.cells #[.int .i64 r] 3)))
   have HA2:=lh_ (qe4 HO4.out (Gr.alloc _ (.cells #[.int .i64 r] 3)))
   have HB2:=lh_ (qe4 HO3.out (Gr.alloc _ (.cells #[.int .i64 r] 3)))
   have HC2:=lh_ (qe4 HO5.out (Gr.alloc _ (.cells #[.int .i64 r] 3)))
   clear I HO3 HO4 HO5
   go_wp2_with (first|(at_builtin;refine apY HF2 HA2 HAP4 HB2 HC2 HD43 HD45 (.tmp 41) (.tmp 44) 42 ji jz0 jz1 jz2 rfl Tryz.underlying42 (m:=1) (c:=1) (ad:=⟨wb.heap.size,0,none⟩) (news:=[.int .i64 r]) (by unfold maxLen;omega) om (by intro i v m h;rcases i with _|_|i <;> simp at h) (by simp [Act.eval,Act.put]) (by simp [Act.eval,Act.put]) HN rfl ?c1 (by decide) rfl rfl ?_)|fail)
   case c1=>intro u hu;simp at hu;rcases hu with rfl <;> rfl
   intro u4' wc I HO4 HAP4 HO3 HO5 HD43 HD45
   clear HF2 HA2 HB2 HC2 HN lx5 r0
   go_wp2_with fail
   refine kO O ?_;clear O K
   have HD53:=lh_ HD35.out.symm
   have HD54:=lh_ HD45.out.symm
   refine kL fun K O=>?_
   have lx5:=kc0_ I
   have r0:=Gr.refl wc
   have HN:=lh_ (show ∀ j u,[.int .i64 ((m:Nat):Int)][j]?=some u→(wc.alloc (.cells #[.int .i64 ((m:Nat):Int)] 3)).cell? ((⟨wc.heap.size,0,none⟩:Addr).add j)=some u from fun j u hj=>by
    match j,hj with
    | 0,hj=>simp at hj;subst hj;simp [Addr.add,go_sem])
   have HF2:=lh_ (I.out.gr (Gr.alloc _ (.cells #[.int .i64 ((m:Nat):Int)] 3)))
   have HA2:=lh_ (qe4 HO5.out (Gr.alloc _ (.cells #[.int .i64 ((m:Nat):Int)] 3)))
   have HB2:=lh_ (qe4 HO3.out (Gr.alloc _ (.cells #[.int .i64 ((m:Nat):Int)] 3)))
   have HC2:=lh_ (qe4 HO4.out (Gr.alloc _ (.cells #[.int .i64 ((m:Nat):Int)] 3)))
   clear I HO3 HO4 HO5
   go_wp2_with (first|(at_builtin;refine apY HF2 HA2 HAP5 HB2 HC2 HD53 HD54 (.tmp 46) (.tmp 50) 42 ji jz0 jz1 jz2 rfl Tryz.underlying42 (m:=1) (c:=1) (ad:=⟨wc.heap.size,0,none⟩) (news:=[.int .i64 ((m:Nat):Int)]) (by unfold maxLen;omega) om (by intro i v m h;rcases i with _|_|i <;> simp at h) (by simp [Act.eval,Act.put]) (by simp [Act.eval,Act.put]) HN rfl ?c1 (by decide) rfl rfl ?_)|fail)
   case c1=>intro u hu;simp at hu;rcases hu with rfl <;> rfl
   intro u5' wd I HO5 HAP5 HO3 HO4 HD53 HD54
   clear HF2 HA2 HB2 HC2 HN lx5 r0
   go_wp2_with fail
   refine kO O ?_;clear O K
   refine kL fun K O=>?_
   go_wp2
   refine O.out _ _ ?_;clear O K
   try simp only [Exit.then,Exit.inBlock]
   refine hj0_ _ _ ?_
   go_roundg kk
   case measure=>omega
   case rel=>exact ⟨k+1,rfl,by omega,fun h=>by omega,lh_ (I.out.er 0),lh_ (by rw [rcs,HFK.out];exact HO3.out),lh_ (by rw [ics,HFK.out];exact HO4.out),lh_ (by rw [ics,HFK.out];exact HO5.out),lh_ HD43.out.symm,lh_ HD53.out.symm,lh_ HD54.out.symm⟩
theorem qZ8 (v:Value) (n:Nat) (N D:Nat→Int) (w:World) (HQ:Hid (Qs w v n N D)) (hn:4<n) (HT:Hid (Tab w)) :
  Calls Tryz.prog 5 #[v] w fun e w'=>e=.returned (.bool true)∧Below w.heap.size w w':=by
 obtain ⟨ao,c,rfl⟩:=HQ.out.slice
 have hn':(4:Int)<(n:Int):=by omega
 go_enter Tryz.func5,Tryz.ntmps5
 go_wp2_with fail
 refine (qa9 w HT).mono ?_
 rintro e V1 ⟨rfl,hb⟩
 have HGf:=lh_ hb
 clear hb
 go_wp2_with fail
 exact bodyPost_ret (v:=.bool true) (by simp [results,Tryz.results5,go_sem]) rfl ⟨rfl,HGf.out⟩
theorem qG2 (v:Value) (n:Nat) (N D:Nat→Int) (w:World) (HQ:Hid (Qs w v n N D)) (HQB:Hid (Qb n N D)) (HT:Hid (Tab w)) :
  Calls Tryz.prog 5 #[v] w fun e w'=>e=.returned (.bool true)∧Below w.heap.size w w':=by
 by_cases h4:n≤4
 ·have hs:∀ i,i<n → -100≤(Int.tmod (N i) 101)∧(Int.tmod (N i) 101)≤100∧(Int.tmod (D i) 13).toNat≤12:=fun i hi=>by
   have h1:=qp4 (N i) 101 (by decide)
   have h2:=qp4 (D i) 13 (by decide)
   omega
  obtain ⟨R,M,c,h,hR0,hR1,hM1,_⟩:=xu8 (fun i=>(Int.tmod (N i) 101,(Int.tmod (D i) 13).toNat)) n (fun i hi=>(hs i hi).2.2) h4
  exact qP9 v n N D _ R M c w HQ HQB h4 (lh_ fun _=>rfl) (lh_ h) hR0 hR1 hM1 (qa6 om) (qa6 om) (lh_ (fun i hi=>by
   obtain ⟨a1,a2,a3⟩:=hs i hi
   exact ⟨Nat.le_trans (qa6 (by show Int.natAbs (Int.tmod (N i) 101)<_;omega)) (by decide),Nat.le_trans (qa6 (by show (Int.tmod (D i) 13).toNat<_;omega)) (by decide)⟩)) (lh_ hs) HT
 ·exact qZ8 v n N D w HQ om HT
end Go.Proofs.YtobojnodohjiaaaGreatDoor
