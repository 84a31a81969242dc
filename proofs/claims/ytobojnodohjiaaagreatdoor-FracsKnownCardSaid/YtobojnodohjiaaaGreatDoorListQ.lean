
/- FracsLists: the law's walk. -/
import Derived.Test.YtobojnodohjiaaaGreatDoorQs
import Derived.Test.YtobojnodohjiaaaGreatDoorPL
import Derived.Test.YtobojnodohjiaaaGreatDoorFMax
import Derived.Test.YtobojnodohjiaaaGreatDoorSumL
import Derived.Test.YtobojnodohjiaaaGreatDoorPJ
import Derived.Test.YtobojnodohjiaaaGreatDoorIntE
import Derived.Test.YtobojnodohjiaaaGreatDoorWorksQ
import Derived.Deep.QuietTactic
set_option maxRecDepth 100000
set_option maxHeartbeats 16000000
set_option linter.unusedVariables false
set_option linter.unusedSimpArgs false
namespace Go.Proofs.YtobojnodohjiaaaGreatDoor
open Go.RowKit
attribute [local go_sem ↓] Go.wp_at_zero Go.wp_at_succ
attribute [local go_sem ↓] eq_frac eq_frac_zero
theorem qq8 {W:World} {g E n j:Nat} {cur:Array Value} {v:Value} {f:Nat→Rat} {q:Rat} (h:RowV g cur 5 v n (fcs f n)) (hB:Bx W g E cur) (hj:j<n) (hq:f j=q):W.cell? ⟨g,j*5,none⟩=some (.int .u64 (lo (Int.natAbs (q.num)))):=by
 obtain ⟨cap,rfl,h1,h2,h3,h4,h5⟩:=h
 subst hq
 have hx:=qv4 f n j 0 hj (by decide)
 have hlt:j*5+0<n*5:=by omega
 rw [← h4,List.getElem?_take_of_lt hlt,Array.getElem?_toList] at hx
 rw [hB.cells W (Gr.refl _)]
 exact hx
theorem qq9 {W:World} {g E n j:Nat} {cur:Array Value} {v:Value} {f:Nat→Rat} {q:Rat} (h:RowV g cur 5 v n (fcs f n)) (hB:Bx W g E cur) (hj:j<n) (hq:f j=q):W.cell? ⟨g,j*5+1,none⟩=some (.string (bg (Int.natAbs (q.num)))):=by
 obtain ⟨cap,rfl,h1,h2,h3,h4,h5⟩:=h
 subst hq
 have hx:=qv4 f n j 1 hj (by decide)
 have hlt:j*5+1<n*5:=by omega
 rw [← h4,List.getElem?_take_of_lt hlt,Array.getElem?_toList] at hx
 rw [hB.cells W (Gr.refl _)]
 exact hx
theorem qq_ {W:World} {g E n j:Nat} {cur:Array Value} {v:Value} {f:Nat→Rat} {q:Rat} (h:RowV g cur 5 v n (fcs f n)) (hB:Bx W g E cur) (hj:j<n) (hq:f j=q):W.cell? ⟨g,j*5+2,none⟩=some (.bool (decide (q.num<0))):=by
 obtain ⟨cap,rfl,h1,h2,h3,h4,h5⟩:=h
 subst hq
 have hx:=qv4 f n j 2 hj (by decide)
 have hlt:j*5+2<n*5:=by omega
 rw [← h4,List.getElem?_take_of_lt hlt,Array.getElem?_toList] at hx
 rw [hB.cells W (Gr.refl _)]
 exact hx
theorem qr0 {W:World} {g E n j:Nat} {cur:Array Value} {v:Value} {f:Nat→Rat} {q:Rat} (h:RowV g cur 5 v n (fcs f n)) (hB:Bx W g E cur) (hj:j<n) (hq:f j=q):W.cell? ⟨g,j*5+3,none⟩=some (.int .u64 (lo (q.den - 1))):=by
 obtain ⟨cap,rfl,h1,h2,h3,h4,h5⟩:=h
 subst hq
 have hx:=qv4 f n j 3 hj (by decide)
 have hlt:j*5+3<n*5:=by omega
 rw [← h4,List.getElem?_take_of_lt hlt,Array.getElem?_toList] at hx
 rw [hB.cells W (Gr.refl _)]
 exact hx
theorem qr1 {W:World} {g E n j:Nat} {cur:Array Value} {v:Value} {f:Nat→Rat} {q:Rat} (h:RowV g cur 5 v n (fcs f n)) (hB:Bx W g E cur) (hj:j<n) (hq:f j=q):W.cell? ⟨g,j*5+4,none⟩=some (.string (bg (q.den - 1))):=by
 obtain ⟨cap,rfl,h1,h2,h3,h4,h5⟩:=h
 subst hq
 have hx:=qv4 f n j 4 hj (by decide)
 have hlt:j*5+4<n*5:=by omega
 rw [← h4,List.getElem?_take_of_lt hlt,Array.getElem?_toList] at hx
 rw [hB.cells W (Gr.refl _)]
 exact hx
theorem xe3 {f:Nat→Rat} {j:Nat} {h:Rat} (H:(true=true) ↔ ∃ x,x<j∧f x=h):(true=true) ↔ ∃ x,x<j+1∧f x=h :=
 ⟨fun _=>by obtain ⟨x,a,b⟩:=H.1 rfl;exact ⟨x,by omega,b⟩,fun _=>rfl⟩
theorem xe2 {f:Nat→Rat} {j:Nat} {h q:Rat} (hq:f j=q) (H:(false=true) ↔ ∃ x,x<j∧f x=h):(decide (q=h)=true) ↔ ∃ x,x<j+1∧f x=h:=by
 rw [decide_eq_true_iff]
 constructor
 ·intro e;exact ⟨j,by omega,hq.trans e⟩
 rintro ⟨x,a,b⟩
 rcases Nat.lt_or_ge x j with hx|hx
 ·exact absurd (H.2 ⟨x,hx,b⟩) (by decide)
 obtain rfl:x=j:=by omega
 exact hq.symm.trans b
theorem xc9 (n:Nat) (f:Nat→Rat) (v:Value) (z:Rat) (w:World) (h:Fs w v n f) (hn:n≤1000000) (hs:∀ i,i<n→sz (f i)≤1000) (hz:bst mx f n=z) :
  CB 155 #[v] w (Value.agg #[.int .u64 (lo z.num.natAbs),.string (bg z.num.natAbs),.bool (z.num<0),.int .u64 (lo (z.den - 1)),.string (bg (z.den - 1))]):=hz ▸ qS3 n f v w h hn hs
theorem xc_ (n:Nat) (f:Nat→Rat) (v:Value) (z:Rat) (w:World) (h:Fs w v n f) (hn:n≤1000000) (hs:∀ i,i<n→sz (f i)≤1000) (hz:bst mi f n=z) :
  CB 156 #[v] w (Value.agg #[.int .u64 (lo z.num.natAbs),.string (bg z.num.natAbs),.bool (z.num<0),.int .u64 (lo (z.den - 1)),.string (bg (z.den - 1))]):=hz ▸ qS5 n f v w h hn hs
theorem qT7:(Tryz.prog.info? 36).map (fun i=>(i.zero,i.size,i.bytes))=some (some (.agg #[.int .u64 0,.string ⟨#[]⟩,.bool false,.int .u64 0,.string ⟨#[]⟩]),5,56):=by kernel_rfl
theorem qM5 (v:Value) (n:Nat) (N D:Nat→Int) (t:Int) (w:World) (HQ:Hid (Qs w v n N D)) (hn:20<n) (HT:Hid (Tab w)) :
  CB 60 #[v,.int .i64 t] w (.bool true):=by
 obtain ⟨ao,c,rfl⟩:=HQ.out.slice
 have hn':(20:Int)<(n:Int):=by omega
 go_enter Tryz.func60,Tryz.ntmps60
 go_wp2_with fail
 refine (worksq_any w HT).mono ?_
 rintro e V1 ⟨rfl,hb⟩
 have HGf:=lh_ hb
 clear hb
 go_wp2_with fail
 exact bR ⟨rfl,HGf.out⟩ (by simp [results,Tryz.results60,go_sem])
theorem qM6 (v:Value) (n:Nat) (N D:Nat→Int) (t:Int) (w:World) (HQ:Hid (Qs w v n N D)) (HB:Hid (Qb n N D)) (hn:0<n) (hn20:n≤20) (lt:-9223372036854775808≤t) (ut:t≤9223372036854775807) (HT:Hid (Tab w)) :
  CB 60 #[v,.int .i64 t] w (.bool true):=by
 obtain ⟨ao,c,rfl⟩:=HQ.out.slice
 obtain ⟨i0,hi,hz0,hz1,hz2⟩:=info_parts qT7
 obtain ⟨f,Hf⟩:∃ f:Nat→Rat,Hid (∀ i,qv (N i) (D i)=f i):=⟨fun i=>qv (N i) (D i),lh_ fun _=>rfl⟩
 have HS:Hid (∀ i,i<n→sz (f i)≤4):=lh_ (fun i hi=>by rw [← Hf.out];obtain ⟨a,b,c,d⟩:=HB.out i hi;exact sz_qv _ _ a b c d)
 have hn':(n:Int)≤20:=by omega
 have hn0:(0:Int)<(n:Int):=by omega
 go_enter Tryz.func60,Tryz.ntmps60
 go_wp2_with fail
 refine qS6 (L:=[Sum.inl (w.heap.size,36,#[.int .u64 (lo (Int.natAbs ((qsum f 0).num))),.string (bg (Int.natAbs ((qsum f 0).num))),.bool (decide (((qsum f 0).num)<0)),.int .u64 (lo ((qsum f 0).den - 1)),.string (bg ((qsum f 0).den - 1))])]) ((hp0 w).al (b:=w.heap.size) rfl (by decide)) fun W1 HF0=>?_
 obtain ⟨g7,hg7⟩:=ex_ (w.heap.size)
 rw [hg7.out] at HF0 ⊢
 go_loopw [5,8] (fun u i wr=>∃ k:Nat,k≤n∧i=.int .i64 (k:Int)∧Hid (HP w wr [Sum.inl (g7,36,#[.int .u64 (lo (Int.natAbs ((qsum f k).num))),.string (bg (Int.natAbs ((qsum f k).num))),.bool (decide (((qsum f k).num)<0)),.int .u64 (lo ((qsum f k).den - 1)),.string (bg ((qsum f k).den - 1))])])∧Hid (wr.ownsRow w.heap.size 36 5 u k (fcs f k))∧Hid (Apart [Sum.inl (g7,36,#[.int .u64 (lo (Int.natAbs ((qsum f k).num))),.string (bg (Int.natAbs ((qsum f k).num))),.bool (decide (((qsum f k).num)<0)),.int .u64 (lo ((qsum f k).den - 1)),.string (bg ((qsum f k).den - 1))])] u)) (fun _ i _=>n - (intOf i).toNat)
 case atStart=>exact ⟨0,by omega,rfl,HF0,lh_ (World.ownsRow_nil _ _ _ _),lh_ (fun i x hx e=>by cases e)⟩
 case round =>
  rename_i hx9 K1 hK1
  obtain ⟨k,hk,rfl,I,HW,HA⟩:=hrel
  clear HF0
  by_cases hkn:k<n
  ·rcases HQ.out with ⟨_,_,_,hz⟩|⟨b,o,c',hv,hb,hc⟩
   ·omega
   injection hv with hv1 _ hv3
   subst hv1 hv3
   obtain ⟨x,HX⟩:=ex_ (N k)
   obtain ⟨y,HY⟩:=ex_ (D k)
   obtain ⟨q,HQQ⟩:=ex_ (qv x y)
   have HXB:=HB.out k hkn
   rw [HX.out,HY.out] at HXB
   obtain ⟨x1,x2,y1,y2⟩:=HXB
   have HFK:Hid (f k=q):=lh_ (by rw [← Hf.out,HX.out,HY.out];exact HQQ.out)
   have HSUM:Hid (qsum f k+q=qsum f (k+1)):=lh_ (by rw [← HFK.out];rfl)
   have hsq:sz q≤4:=by rw [← HFK.out];exact HS.out k hkn
   have hss:sz (qsum f k)≤101:=by have:=qE_ f n 4 HS.out k hk;omega
   have HE0:Hid (∀ w',Gr w w'→w'.cell? ⟨b,o+k*2,none⟩=some (.int .i64 x)):=lh_ (fun w' hw=>(Below.cell hw (p:=⟨b,o+k*2,none⟩) hb).trans (by rw [← HX.out];exact (hc k hkn).1))
   have HE1:Hid (∀ w',Gr w w'→w'.cell? ⟨b,o+k*2+1,none⟩=some (.int .u32 y)):=lh_ (fun w' hw=>(Below.cell hw (p:=⟨b,o+k*2+1,none⟩) hb).trans (by rw [← HY.out];exact (hc k hkn).2))
   clear hc hb
   have hkn':(k:Int)<(n:Int):=by omega
   refine wp_seq ?_
   refine kS fun K O=>?_
   go_wp2
   refine kO O ?_;clear O K
   refine wp_cond_true (by rfl) ?_
   refine wp_skip ?_
   show Code.wp _ _ _ _ _
   refine wp_seq ?_
   refine wp_block ?_
   refine kS fun K O=>?_
   have e0:=HE0.out wr I.out.1
   have e1:=HE1.out wr I.out.1
   go_wp2_with fail
   refine (qv_any x y q wr HQQ.out x1 x2 y1 y2).mono ?_
   rintro e w1 ⟨rfl,hb1⟩
   have HF1:=lh_ (I.out.gr hb1)
   have HW1:=lh_ (xk3 HW.out hb1)
   clear hb1 e0 e1 I HW
   have HN:=lh_ (show ∀ j u,[.int .u64 (lo q.num.natAbs),.string (bg q.num.natAbs),.bool (q.num<0),.int .u64 (lo (q.den - 1)),.string (bg (q.den - 1))][j]?=some u→(w1.alloc (.cells #[.int .u64 (lo q.num.natAbs),.string (bg q.num.natAbs),.bool (q.num<0),.int .u64 (lo (q.den - 1)),.string (bg (q.den - 1))] 36)).cell? ((⟨w1.heap.size,0,none⟩:Addr).add j)=some u from fun j u hj=>by
    match j,hj with
    | 0,hj=>simp at hj;subst hj;simp [Addr.add,go_sem]
    | 1,hj=>simp at hj;subst hj;simp [Addr.add,go_sem]
    | 2,hj=>simp at hj;subst hj;simp [Addr.add,go_sem]
    | 3,hj=>simp at hj;subst hj;simp [Addr.add,go_sem]
    | 4,hj=>simp at hj;subst hj;simp [Addr.add,go_sem])
   have HF2:=lh_ (HF1.out.gr (Gr.alloc _ (.cells #[.int .u64 (lo q.num.natAbs),.string (bg q.num.natAbs),.bool (q.num<0),.int .u64 (lo (q.den - 1)),.string (bg (q.den - 1))] 36)))
   have HW2:=lh_ (xk3 HW1.out (Gr.alloc _ (.cells #[.int .u64 (lo q.num.natAbs),.string (bg q.num.natAbs),.bool (q.num<0),.int .u64 (lo (q.den - 1)),.string (bg (q.den - 1))] 36)))
   clear HF1 HW1
   go_wp2_with (first|(at_builtin;refine apX HF2 HW2 HA (.tmp 25) (.tmp 31) 200 hi hz0 hz1 hz2 rfl Tryz.underlying200 (m:=1) (c:=1) (ad:=⟨w1.heap.size,0,none⟩) (news:=[.int .u64 (lo q.num.natAbs),.string (bg q.num.natAbs),.bool (q.num<0),.int .u64 (lo (q.den - 1)),.string (bg (q.den - 1))]) (by unfold maxLen;omega) om (by intro i v m h;rcases i with _|i <;> simp at h) (by simp [Act.eval,Act.put]) (by simp [Act.eval,Act.put]) HN rfl ?c1 (by decide) rfl rfl ?_)|fail)
   case c1=>intro u hu;simp at hu;rcases hu with rfl|rfl|rfl|rfl|rfl <;> rfl
   intro u' w3 HF3 HW3 HA3
   obtain ⟨gR,cur,I,HR⟩:∃ gR cur,Hid (HP w w3 [Sum.inl (g7,36,#[.int .u64 (lo (Int.natAbs ((qsum f k).num))),.string (bg (Int.natAbs ((qsum f k).num))),.bool (decide (((qsum f k).num)<0)),.int .u64 (lo ((qsum f k).den - 1)),.string (bg ((qsum f k).den - 1))]),Sum.inl (gR,36,cur)])∧Hid (RowV gR cur 5 u' (k+1) (fcs f k ++ [.int .u64 (lo q.num.natAbs),.string (bg q.num.natAbs),.bool (q.num<0),.int .u64 (lo (q.den - 1)),.string (bg (q.den - 1))])):=by
    obtain ⟨gR,cur,h1,h2⟩:=qV9 HF3.out HW3.out HA3.out om (by decide)
    exact ⟨gR,cur,lh_ h1,lh_ h2⟩
   clear HF2 HW2 HA HN HF3 HW3 HA3
   go_wp2_with fail
   refine kO O ?_;clear O K
   have HZ1:Hid (qv x y=q):=lh_ (HQQ.out)
   have su1:sz q≤4:=by have e:=HZ1.out;first|omega|(rw [← e];exact sz_qv x y om om om om)
   have HZ2:Hid ((qsum f k)+(q)=qsum f (k+1)):=lh_ (HSUM.out)
   have su2:sz (qsum f (k+1))≤106:=by have e:=HZ2.out;first|omega|(rw [← e];have:=qc9 (qsum f k) q;omega)
   have lx0:=kc0_ I
   have lx9_0:=fun w' (h:Gr _ w')=>HE0.out w' (Gr.trans I.out.1 h)
   have lx9_1:=fun w' (h:Gr _ w')=>HE1.out w' (Gr.trans I.out.1 h)
   refine kL fun K O=>?_
   refine xC5 fun T Y=>?_
   iterate 5 refine tk ?_
   refine ck Tryz.call50 (fun w' hw=>qv_any x y q _ HZ1.out om om om om) ?_
   refine ck Tryz.call130 (fun w' hw=>qa_ (qsum f k) q (qsum f (k+1)) _ HZ2.out om om) ?_
   refine nlD Y I fun vw1 J=>?_
   clear Y T I lx0 lx9_0 lx9_1
   have lx0:=kc0_ J;have fx0:=kf0_ J
   have r0:=Gr.refl vw1
   go_wp2
   refine kO O ?_;clear O K
   clear r0 lx0 fx0
   refine fH ((((J.out).put2 0 0 rfl).put2 0 2 rfl).put 0 4 _ rfl) fun Wx9 I=>?_
   clear J
   have hwi:IntKind.i64.wrap ((k:Int)+1)=(k:Int)+1:=by rw [IntKind.wrap_i64];omega
   refine kL fun K O=>?_
   refine sq3_ fun T Y=>?_
   refine tk3_ ?_
   refine nlS Y I fun vw2 J=>?_
   clear Y T I
   go_wp2
   refine O.out _ _ ?_;clear O K
   try simp only [Exit.then,Exit.inBlock]
   have I:=J;clear J
   clear hwi
   obtain ⟨h1,h2,h3⟩:=xv1 (L:=[Sum.inl (g7,36,#[.int .u64 (lo (Int.natAbs ((qsum f (k+1)).num))),.string (bg (Int.natAbs ((qsum f (k+1)).num))),.bool (decide (((qsum f (k+1)).num)<0)),.int .u64 (lo ((qsum f (k+1)).den - 1)),.string (bg ((qsum f (k+1)).den - 1))])]) I.out HR.out
   go_roundw
   case rel=>exact ⟨k+1,by omega,by go_num,lh_ h1,lh_ (by rw [fcs,HFK.out];exact h2),lh_ h3⟩
   case measure=>simp [intOf];omega
  obtain rfl:k=n:=by omega
  obtain ⟨gR,cur,I,HR⟩:∃ gR cur,Hid (HP w wr [Sum.inl (g7,36,#[.int .u64 (lo (Int.natAbs ((qsum f k).num))),.string (bg (Int.natAbs ((qsum f k).num))),.bool (decide (((qsum f k).num)<0)),.int .u64 (lo ((qsum f k).den - 1)),.string (bg ((qsum f k).den - 1))]),Sum.inl (gR,36,cur)])∧Hid (RowV gR cur 5 u5 k (fcs f k)):=by
   obtain ⟨gR,cur,h1,h2⟩:=qV9 I.out HW.out HA.out hn (by decide)
   exact ⟨gR,cur,lh_ h1,lh_ h2⟩
  clear HW HA
  obtain ⟨cap,rfl,hcap⟩:∃ cap,u5=.slice (some ⟨gR,0,none⟩) k cap∧k≤cap:=by
   obtain ⟨cap,e,h,_⟩:=HR.out
   exact ⟨cap,e,h⟩
  obtain ⟨su,HSU⟩:=ex_ (qsum f k)
  have hssu:sz su≤101:=by have:=qE_ f k 4 HS.out k (Nat.le_refl _);rw [HSU.out] at this;omega
  rw [HSU.out] at I
  obtain ⟨kk,hkk,HKK⟩:∃ kk:Nat,kk<k∧Hid (Int.tmod (IntKind.u64.wrap t) (k:Int)=(kk:Int)):=by
   have h0:0≤IntKind.u64.wrap t:=by rw [IntKind.wrap_u64];omega
   obtain ⟨m,hm⟩:∃ m:Nat,IntKind.u64.wrap t=(m:Int):=⟨_,(Int.toNat_of_nonneg h0).symm⟩
   exact ⟨m % k,Nat.mod_lt _ hn,lh_ (by rw [hm];rfl)⟩
  have hkn':¬ (k:Int)<(k:Int):=by omega
  obtain ⟨hgh,HHI⟩:=ex_ (bst mx f k)
  obtain ⟨lw,HLO⟩:=ex_ (bst mi f k)
  have HHI2:Hid (bst mx (rot f kk k) k=hgh):=lh_ (by rw [xq2 f kk k hkk];exact HHI.out)
  have HLO2:Hid (bst mi (rot f kk k) k=lw):=lh_ (by rw [xq3 f kk k hkk];exact HLO.out)
  have HSU2:Hid (qsum (rot f kk k) k=su):=lh_ (by rw [xq4 f kk k hkk];exact HSU.out)
  have HSa:Hid (∀ i,i<k→sz (f i)≤1000):=lh_ (fun i hi=>Nat.le_trans (HS.out i hi) (by decide))
  have HSb:Hid (∀ i,i<k→sz (rot f kk k i)≤1000):=lh_ (fun i hi=>by obtain ⟨j,hj,e⟩:=qX3 f kk k i hkk hi;rw [e];exact HSa.out j hj)
  have hshg:sz hgh≤4:=by rw [← HHI.out];exact qJ7 _ f k 4 (by decide) HS.out k (Nat.le_refl _)
  have hslw:sz lw≤4:=by rw [← HLO.out];exact qJ7 _ f k 4 (by decide) HS.out k (Nat.le_refl _)
  refine wp_seq ?_
  refine kS fun K O=>?_
  go_wp2
  refine kO O ?_;clear O K
  refine wp_cond_false (by rfl) ?_
  refine wp_exit ?_
  try simp only [Exit.then,Exit.inBlock]
  refine hK1 _ _ ?_
  clear hK1
  show Code.wp _ _ _ _ _
  refine kSl fun K O=>?_;go_wp2
  refine kF_ O (I.out) fun Wx10 J=>?_;clear O K
  clear I;have I:=J;clear J
  refine wp_seq ?_
  refine kS fun K O=>?_
  go_wp2
  refine kO O ?_;clear O K
  refine wp_cond_true (by rfl) ?_
  refine kL fun K O=>?_
  have c1:IntKind.u64.wrap (k:Int)=(k:Int):=by rw [IntKind.wrap_u64];omega
  have c2:Int.tmod (IntKind.u64.wrap t) (k:Int)=(kk:Int):=HKK.out
  have c3:IntKind.i64.wrap (kk:Int)=(kk:Int):=by rw [IntKind.wrap_i64];omega
  have c4:¬ ((k:Int)=0):=by omega
  go_wp2
  refine O.out _ _ ?_;clear O K
  clear c1 c2 c3 c4
  show Code.wp _ _ _ _ _
  refine kS fun K O=>?_
  have c1:(0:Int)≤(kk:Int):=by omega
  have c2:(kk:Int)≤(k:Int):=by omega
  have c3:(k:Int)≤(cap:Int):=by omega
  have HA0:Hid (Apart [Sum.inl (g7,36,#[.int .u64 (lo su.num.natAbs),.string (bg su.num.natAbs),.bool (su.num<0),.int .u64 (lo (su.den - 1)),.string (bg (su.den - 1))]),Sum.inl (gR,36,cur)] (.slice none 0 0)):=lh_ (fun i x hx e=>by cases e)
  have HN:=lh_ (qJ4 HR.out (I.out.bx 1 rfl) kk (k - kk) om)
  go_wp2_with (first|(at_builtin;refine apX I (lh_ (World.ownsRow_nil _ _ _ _)) HA0 (.tmp 50) (.tmp 53) 200 hi hz0 hz1 hz2 rfl Tryz.underlying200 (m:=k - kk) (c:=cap - kk) (ad:=⟨gR,kk*5,none⟩) (news:=fcs (fun i=>f (kk+i)) (k - kk)) (by unfold maxLen;omega) om (by intro i v m h;rcases i with _|_|i <;> simp at h) (by simp [Act.eval,Act.put]) (by simp [Act.eval,Act.put]) HN (ql4 _ _) (qR_ _ _) (by decide) rfl rfl ?_)|fail)
  intro v3 W3 HF3 HW3 HA3
  clear HA0 HN I
  go_wp2_with fail
  refine O.out _ _ ?_;clear O K
  clear c1 c2 c3
  show Code.wp _ _ _ _ _
  refine kS fun K O=>?_
  have c1:(0:Int)≤(kk:Int):=by omega
  have c2:(kk:Int)≤(cap:Int):=by omega
  have HN:Hid (∀ j u,(fcs f kk)[j]?=some u→W3.cell? ((⟨gR,0,none⟩:Addr).add j)=some u):=lh_ (by have:=qJ4 HR.out (HF3.out.bx 1 rfl) 0 kk om;simpa using this)
  go_wp2_with (first|(at_builtin;refine apX HF3 HW3 HA3 (.tmp 55) (.tmp 58) 200 hi hz0 hz1 hz2 rfl Tryz.underlying200 (m:=kk) (c:=cap) (ad:=⟨gR,0,none⟩) (news:=fcs f kk) (by unfold maxLen;omega) om (by intro i v m h;rcases i with _|_|i <;> simp at h) (by simp [Act.eval,Act.put]) (by simp [Act.eval,Act.put]) HN (ql4 _ _) (qR_ _ _) (by decide) rfl rfl ?_)|fail)
  intro v4 W4 HF4 HW4 HA4
  obtain ⟨gT,curT,I,HR2⟩:∃ gT curT,Hid (HP w W4 ([Sum.inl (g7,36,#[.int .u64 (lo su.num.natAbs),.string (bg su.num.natAbs),.bool (su.num<0),.int .u64 (lo (su.den - 1)),.string (bg (su.den - 1))]),Sum.inl (gR,36,cur)] ++ [Sum.inl (gT,36,curT)]))∧Hid (RowV gT curT 5 v4 k (fcs (rot f kk k) k)):=by
   have h0:=HW4.out
   try simp only [List.nil_append,Nat.zero_add] at h0
   rw [qX2 f kk k hkk,show k - kk+kk=k by omega] at h0
   obtain ⟨gT,curT,h1,h2⟩:=qV9 HF4.out h0 HA4.out hn (by decide)
   exact ⟨gT,curT,lh_ h1,lh_ h2⟩
  simp only [List.cons_append,List.nil_append] at I
  clear HN HF3 HW3 HA3 HF4 HW4 HA4
  go_wp2_with fail
  refine O.out _ _ ?_;clear O K
  clear c1 c2
  show Code.wp _ _ _ _ _
  refine qb2 fun K O T Y=>?_
  refine tk ?_
  refine ck Tryz.call155 (fun w' hw=>xc9 k f _ hgh _ (qp7 HR.out ((I.out.bx 1 rfl).gr hw)) om HSa.out HHI.out) ?_
  refine tk ?_
  refine ck Tryz.call156 (fun w' hw=>xc_ k f _ lw _ (qp7 HR.out ((I.out.bx 1 rfl).gr hw)) om HSa.out HLO.out) ?_
  refine nlS Y I fun vw1 J=>?_
  clear Y T I
  go_wp2
  refine kF_ O (((J.out).aL (vw1.heap.size)).aL (vw1.heap.size+1)) fun Wx15 I=>?_;clear O K
  clear J
  generalize vw1.heap.size+1=gx16 at *
  generalize vw1.heap.size=gx15 at *
  refine wp_seq ?_
  have lx0:=kc0_ I
  have lx15:=kc3_ I
  have lx16:=kc4_ I
  refine kS fun K O=>?_
  refine xw5 fun T Y=>?_
  refine tk2_ ?_
  refine ck Tryz.call157 (fun w' hw=>qm7 k f _ su _ (qp7 HR.out ((I.out.bx 1 rfl).gr hw)) om HSa.out HSU.out) ?_
  iterate 4 refine tk ?_
  refine ck Tryz.call157 (fun w' hw=>qm7 k (rot f kk k) _ su _ (qp7 HR2.out ((I.out.bx 2 rfl).gr hw)) om HSb.out HSU2.out) ?_
  iterate 5 refine tk ?_
  refine ck Tryz.call155 (fun w' hw=>xc9 k (rot f kk k) _ hgh _ (qp7 HR2.out ((I.out.bx 2 rfl).gr hw)) om HSb.out HHI2.out) ?_
  iterate 5 refine tk ?_
  refine ck Tryz.call156 (fun w' hw=>xc_ k (rot f kk k) _ lw _ (qp7 HR2.out ((I.out.bx 2 rfl).gr hw)) om HSb.out HLO2.out) ?_
  refine tk ?_
  refine nlD Y I fun vw2 J=>?_
  clear Y T I lx0 lx15 lx16
  go_wp2
  refine kO O ?_;clear O K
  have I:=J;clear J
  refine wp_cond_false (by rfl) ?_
  refine wp_skip ?_
  show Code.wp _ _ _ _ _
  refine wp_seq ?_
  have hd1:(((k:Int)) == (0))=false:=by have:¬ ((k:Int)=0):=(ok);simpa using this
  refine ks3_ fun K O T Y=>?_
  refine tk3_ ?_
  refine nz Y I O ?_;clear Y T I O K;intro vw3 I
  clear hd1
  refine wp_cond_false (by rfl) ?_
  refine wp_skip ?_
  show Code.wp _ _ _ _ _
  refine kSl fun K O=>?_;go_wp2
  refine kF_ O ((I.out).er 0) fun Wx20 J=>?_;clear O K
  clear I;have I:=J;clear J
  refine wp_seq ?_
  go_wp2_with fail
  go_loopw [12,13,14] (fun a b i wr=>∃ (j:Nat) (p1 p2:Bool),j≤k∧i=.int .i64 (j:Int)∧a=.bool p1∧b=.bool p2∧Hid (p1=true ↔ ∃ x,x<j∧f x=hgh)∧Hid (p2=true ↔ ∃ x,x<j∧f x=lw)∧Hid (HP w wr [Sum.inl (gR,36,cur),Sum.inl (gT,36,curT),Sum.inl (gx15,36,#[.int .u64 (lo hgh.num.natAbs),.string (bg hgh.num.natAbs),.bool (hgh.num<0),.int .u64 (lo (hgh.den - 1)),.string (bg (hgh.den - 1))]),Sum.inl (gx16,36,#[.int .u64 (lo lw.num.natAbs),.string (bg lw.num.natAbs),.bool (lw.num<0),.int .u64 (lo (lw.den - 1)),.string (bg (lw.den - 1))])])) (fun _ _ i _=>k - (intOf i).toNat)
  case atStart=>exact ⟨0,false,false,by omega,rfl,rfl,rfl,lh_ (by simp),lh_ (by simp),I⟩
  case round =>
   clear I
   obtain ⟨j,p1,p2,hj,rfl,rfl,rfl,H1,H2,I⟩:=hrel
   by_cases hjk:j<k
   ·obtain ⟨q,HQJ⟩:∃ q,Hid (f j=q):=⟨_,lh_ rfl⟩
    have hsq:sz q≤4:=by rw [← HQJ.out];exact HS.out j hjk
    obtain ⟨cm,HCM⟩:=ex_ (sgQ (q - hgh))
    obtain ⟨cn,HCN⟩:=ex_ (sgQ (q - lw))
    have hcm:Hid (¬ 0<cm):=lh_ (fun h=>by
     have h1:=(qV2 q hgh).1 (by rw [HCM.out];exact decide_eq_true h)
     have h2:=qC4 f k j hjk
     rw [HQJ.out,HHI.out] at h2
     exact absurd h1 (Rat.not_lt.2 h2))
    have hcn:Hid (¬ cn<0):=lh_ (fun h=>by
     have h1:=(qU_ q lw).1 (by rw [HCN.out];exact decide_eq_true h)
     have h2:=qC5 f k j hjk
     rw [HQJ.out,HLO.out] at h2
     exact absurd h1 (Rat.not_lt.2 h2))
    have hjk':(j:Int)<(k:Int):=by omega
    rcases p1 with _|_ <;> rcases p2 with _|_
    ·skip
     refine wp_seq ?_
     refine kS fun K O=>?_
     go_wp2
     refine kO O ?_;clear O K
     refine wp_cond_true (by rfl) ?_
     refine wp_skip ?_
     show Code.wp _ _ _ _ _
     refine wp_seq ?_
     refine wp_block ?_
     have lx15:=kc2_ I
     have lx9_0:=fun w' (h:Gr _ w')=>qq8 HR.out ((I.out.bx 0 rfl).gr h) hjk HQJ.out
     have lx9_1:=fun w' (h:Gr _ w')=>qq9 HR.out ((I.out.bx 0 rfl).gr h) hjk HQJ.out
     have lx9_2:=fun w' (h:Gr _ w')=>qq_ HR.out ((I.out.bx 0 rfl).gr h) hjk HQJ.out
     have lx9_3:=fun w' (h:Gr _ w')=>qr0 HR.out ((I.out.bx 0 rfl).gr h) hjk HQJ.out
     have lx9_4:=fun w' (h:Gr _ w')=>qr1 HR.out ((I.out.bx 0 rfl).gr h) hjk HQJ.out
     refine kS fun K O=>?_
     refine pd0_ fun T Y=>?_
     iterate 9 refine tk ?_
     refine nlD Y I fun vw1 J=>?_
     clear Y T I lx15 lx9_0 lx9_1 lx9_2 lx9_3 lx9_4
     go_wp2
     refine kO O ?_;clear O K
     have I:=J;clear J
     have lx16:=kc3_ I
     have lx9_0:=fun w' (h:Gr _ w')=>qq8 HR.out ((I.out.bx 0 rfl).gr h) hjk HQJ.out
     have lx9_1:=fun w' (h:Gr _ w')=>qq9 HR.out ((I.out.bx 0 rfl).gr h) hjk HQJ.out
     have lx9_2:=fun w' (h:Gr _ w')=>qq_ HR.out ((I.out.bx 0 rfl).gr h) hjk HQJ.out
     have lx9_3:=fun w' (h:Gr _ w')=>qr0 HR.out ((I.out.bx 0 rfl).gr h) hjk HQJ.out
     have lx9_4:=fun w' (h:Gr _ w')=>qr1 HR.out ((I.out.bx 0 rfl).gr h) hjk HQJ.out
     refine kS fun K O=>?_
     refine pd0_ fun T Y=>?_
     iterate 9 refine tk ?_
     refine nlD Y I fun vw2 J=>?_
     clear Y T I lx16 lx9_0 lx9_1 lx9_2 lx9_3 lx9_4
     go_wp2
     refine kO O ?_;clear O K
     have I:=J;clear J
     have hc1:¬ 0<cm:=by have h9:=hcm.out;omega
     have hc2:¬ cn<0:=by have h9:=hcn.out;omega
     have lx15:=kc2_ I
     have lx16:=kc3_ I
     have lx9_0:=fun w' (h:Gr _ w')=>qq8 HR.out ((I.out.bx 0 rfl).gr h) hjk HQJ.out
     have lx9_1:=fun w' (h:Gr _ w')=>qq9 HR.out ((I.out.bx 0 rfl).gr h) hjk HQJ.out
     have lx9_2:=fun w' (h:Gr _ w')=>qq_ HR.out ((I.out.bx 0 rfl).gr h) hjk HQJ.out
     have lx9_3:=fun w' (h:Gr _ w')=>qr0 HR.out ((I.out.bx 0 rfl).gr h) hjk HQJ.out
     have lx9_4:=fun w' (h:Gr _ w')=>qr1 HR.out ((I.out.bx 0 rfl).gr h) hjk HQJ.out
     refine kS fun K O=>?_
     refine xg0 fun T Y=>?_
     iterate 5 refine tk ?_
     refine ck Tryz.call140 (fun w' hw=>qa3 q hgh cm _ (HCM.out) om om) ?_
     iterate 7 refine tk ?_
     refine ck Tryz.call140 (fun w' hw=>qa3 q lw cn _ (HCN.out) om om) ?_
     refine tk ?_
     refine nlD Y I fun vw3 J=>?_
     clear Y T I lx15 lx16 lx9_0 lx9_1 lx9_2 lx9_3 lx9_4
     go_wp2
     refine kO O ?_;clear O K
     have I:=J;clear J
     clear hc1 hc2
     refine wp_cond_false (by rfl) ?_
     refine wp_skip ?_
     show Code.wp _ _ _ _ _
     have hwi:IntKind.i64.wrap ((j:Int)+1)=(j:Int)+1:=by rw [IntKind.wrap_i64];omega
     refine kL fun K O=>?_
     refine sq3_ fun T Y=>?_
     refine tk3_ ?_
     refine nlS Y I fun vw4 J=>?_
     clear Y T I
     go_wp2
     refine O.out _ _ ?_;clear O K
     try simp only [Exit.then,Exit.inBlock]
     have I:=J;clear J
     clear hwi
     go_roundw
     case rel=>exact ⟨j+1,_,_,by omega,by go_num,rfl,rfl,lh_ (xe2 HQJ.out (by have h9:=H1.out;simpa using h9)),lh_ (xe2 HQJ.out (by have h9:=H2.out;simpa using h9)),I⟩
     case measure=>simp [intOf];omega
    ·skip
     refine wp_seq ?_
     refine kS fun K O=>?_
     go_wp2
     refine kO O ?_;clear O K
     refine wp_cond_true (by rfl) ?_
     refine wp_skip ?_
     show Code.wp _ _ _ _ _
     refine wp_seq ?_
     refine wp_block ?_
     have lx15:=kc2_ I
     have lx9_0:=fun w' (h:Gr _ w')=>qq8 HR.out ((I.out.bx 0 rfl).gr h) hjk HQJ.out
     have lx9_1:=fun w' (h:Gr _ w')=>qq9 HR.out ((I.out.bx 0 rfl).gr h) hjk HQJ.out
     have lx9_2:=fun w' (h:Gr _ w')=>qq_ HR.out ((I.out.bx 0 rfl).gr h) hjk HQJ.out
     have lx9_3:=fun w' (h:Gr _ w')=>qr0 HR.out ((I.out.bx 0 rfl).gr h) hjk HQJ.out
     have lx9_4:=fun w' (h:Gr _ w')=>qr1 HR.out ((I.out.bx 0 rfl).gr h) hjk HQJ.out
     refine kS fun K O=>?_
     refine pd0_ fun T Y=>?_
     iterate 9 refine tk ?_
     refine nlD Y I fun vw1 J=>?_
     clear Y T I lx15 lx9_0 lx9_1 lx9_2 lx9_3 lx9_4
     go_wp2
     refine kO O ?_;clear O K
     have I:=J;clear J
     have lx16:=kc3_ I
     refine kS fun K O=>?_
     refine pd0_ fun T Y=>?_
     refine tk2_ ?_
     iterate 6 refine sk ?_
     refine tk ?_
     refine nlD Y I fun vw2 J=>?_
     clear Y T I lx16
     go_wp2
     refine kO O ?_;clear O K
     have I:=J;clear J
     have hc1:¬ 0<cm:=by have h9:=hcm.out;omega
     have hc2:¬ cn<0:=by have h9:=hcn.out;omega
     have lx15:=kc2_ I
     have lx16:=kc3_ I
     have lx9_0:=fun w' (h:Gr _ w')=>qq8 HR.out ((I.out.bx 0 rfl).gr h) hjk HQJ.out
     have lx9_1:=fun w' (h:Gr _ w')=>qq9 HR.out ((I.out.bx 0 rfl).gr h) hjk HQJ.out
     have lx9_2:=fun w' (h:Gr _ w')=>qq_ HR.out ((I.out.bx 0 rfl).gr h) hjk HQJ.out
     have lx9_3:=fun w' (h:Gr _ w')=>qr0 HR.out ((I.out.bx 0 rfl).gr h) hjk HQJ.out
     have lx9_4:=fun w' (h:Gr _ w')=>qr1 HR.out ((I.out.bx 0 rfl).gr h) hjk HQJ.out
     refine kS fun K O=>?_
     refine xg0 fun T Y=>?_
     iterate 5 refine tk ?_
     refine ck Tryz.call140 (fun w' hw=>qa3 q hgh cm _ (HCM.out) om om) ?_
     iterate 7 refine tk ?_
     refine ck Tryz.call140 (fun w' hw=>qa3 q lw cn _ (HCN.out) om om) ?_
     refine tk ?_
     refine nlD Y I fun vw3 J=>?_
     clear Y T I lx15 lx16 lx9_0 lx9_1 lx9_2 lx9_3 lx9_4
     go_wp2
     refine kO O ?_;clear O K
     have I:=J;clear J
     clear hc1 hc2
     refine wp_cond_false (by rfl) ?_
     refine wp_skip ?_
     show Code.wp _ _ _ _ _
     have hwi:IntKind.i64.wrap ((j:Int)+1)=(j:Int)+1:=by rw [IntKind.wrap_i64];omega
     refine kL fun K O=>?_
     refine sq3_ fun T Y=>?_
     refine tk3_ ?_
     refine nlS Y I fun vw4 J=>?_
     clear Y T I
     go_wp2
     refine O.out _ _ ?_;clear O K
     try simp only [Exit.then,Exit.inBlock]
     have I:=J;clear J
     clear hwi
     go_roundw
     case rel=>exact ⟨j+1,_,true,by omega,by go_num,rfl,rfl,lh_ (xe2 HQJ.out (by have h9:=H1.out;simpa using h9)),lh_ (xe3 (by have h9:=H2.out;simpa using h9)),I⟩
     case measure=>simp [intOf];omega
    ·skip
     refine wp_seq ?_
     refine kS fun K O=>?_
     go_wp2
     refine kO O ?_;clear O K
     refine wp_cond_true (by rfl) ?_
     refine wp_skip ?_
     show Code.wp _ _ _ _ _
     refine wp_seq ?_
     refine wp_block ?_
     have lx15:=kc2_ I
     refine kS fun K O=>?_
     refine pd0_ fun T Y=>?_
     refine tk2_ ?_
     iterate 6 refine sk ?_
     refine tk ?_
     refine nlD Y I fun vw1 J=>?_
     clear Y T I lx15
     go_wp2
     refine kO O ?_;clear O K
     have I:=J;clear J
     have lx16:=kc3_ I
     have lx9_0:=fun w' (h:Gr _ w')=>qq8 HR.out ((I.out.bx 0 rfl).gr h) hjk HQJ.out
     have lx9_1:=fun w' (h:Gr _ w')=>qq9 HR.out ((I.out.bx 0 rfl).gr h) hjk HQJ.out
     have lx9_2:=fun w' (h:Gr _ w')=>qq_ HR.out ((I.out.bx 0 rfl).gr h) hjk HQJ.out
     have lx9_3:=fun w' (h:Gr _ w')=>qr0 HR.out ((I.out.bx 0 rfl).gr h) hjk HQJ.out
     have lx9_4:=fun w' (h:Gr _ w')=>qr1 HR.out ((I.out.bx 0 rfl).gr h) hjk HQJ.out
     refine kS fun K O=>?_
     refine pd0_ fun T Y=>?_
     iterate 9 refine tk ?_
     refine nlD Y I fun vw2 J=>?_
     clear Y T I lx16 lx9_0 lx9_1 lx9_2 lx9_3 lx9_4
     go_wp2
     refine kO O ?_;clear O K
     have I:=J;clear J
     have hc1:¬ 0<cm:=by have h9:=hcm.out;omega
     have hc2:¬ cn<0:=by have h9:=hcn.out;omega
     have lx15:=kc2_ I
     have lx16:=kc3_ I
     have lx9_0:=fun w' (h:Gr _ w')=>qq8 HR.out ((I.out.bx 0 rfl).gr h) hjk HQJ.out
     have lx9_1:=fun w' (h:Gr _ w')=>qq9 HR.out ((I.out.bx 0 rfl).gr h) hjk HQJ.out
     have lx9_2:=fun w' (h:Gr _ w')=>qq_ HR.out ((I.out.bx 0 rfl).gr h) hjk HQJ.out
     have lx9_3:=fun w' (h:Gr _ w')=>qr0 HR.out ((I.out.bx 0 rfl).gr h) hjk HQJ.out
     have lx9_4:=fun w' (h:Gr _ w')=>qr1 HR.out ((I.out.bx 0 rfl).gr h) hjk HQJ.out
     refine kS fun K O=>?_
     refine xg0 fun T Y=>?_
     iterate 5 refine tk ?_
     refine ck Tryz.call140 (fun w' hw=>qa3 q hgh cm _ (HCM.out) om om) ?_
     iterate 7 refine tk ?_
     refine ck Tryz.call140 (fun w' hw=>qa3 q lw cn _ (HCN.out) om om) ?_
     refine tk ?_
     refine nlD Y I fun vw3 J=>?_
     clear Y T I lx15 lx16 lx9_0 lx9_1 lx9_2 lx9_3 lx9_4
     go_wp2
     refine kO O ?_;clear O K
     have I:=J;clear J
     clear hc1 hc2
     refine wp_cond_false (by rfl) ?_
     refine wp_skip ?_
     show Code.wp _ _ _ _ _
     have hwi:IntKind.i64.wrap ((j:Int)+1)=(j:Int)+1:=by rw [IntKind.wrap_i64];omega
     refine kL fun K O=>?_
     refine sq3_ fun T Y=>?_
     refine tk3_ ?_
     refine nlS Y I fun vw4 J=>?_
     clear Y T I
     go_wp2
     refine O.out _ _ ?_;clear O K
     try simp only [Exit.then,Exit.inBlock]
     have I:=J;clear J
     clear hwi
     go_roundw
     case rel=>exact ⟨j+1,true,_,by omega,by go_num,rfl,rfl,lh_ (xe3 (by have h9:=H1.out;simpa using h9)),lh_ (xe2 HQJ.out (by have h9:=H2.out;simpa using h9)),I⟩
     case measure=>simp [intOf];omega
    skip
    refine wp_seq ?_
    refine kS fun K O=>?_
    go_wp2
    refine kO O ?_;clear O K
    refine wp_cond_true (by rfl) ?_
    refine wp_skip ?_
    show Code.wp _ _ _ _ _
    refine wp_seq ?_
    refine wp_block ?_
    have lx15:=kc2_ I
    refine kS fun K O=>?_
    refine pd0_ fun T Y=>?_
    refine tk2_ ?_
    iterate 6 refine sk ?_
    refine tk ?_
    refine nlD Y I fun vw1 J=>?_
    clear Y T I lx15
    go_wp2
    refine kO O ?_;clear O K
    have I:=J;clear J
    have lx16:=kc3_ I
    refine kS fun K O=>?_
    refine pd0_ fun T Y=>?_
    refine tk2_ ?_
    iterate 6 refine sk ?_
    refine tk ?_
    refine nlD Y I fun vw2 J=>?_
    clear Y T I lx16
    go_wp2
    refine kO O ?_;clear O K
    have I:=J;clear J
    have hc1:¬ 0<cm:=by have h9:=hcm.out;omega
    have hc2:¬ cn<0:=by have h9:=hcn.out;omega
    have lx15:=kc2_ I
    have lx16:=kc3_ I
    have lx9_0:=fun w' (h:Gr _ w')=>qq8 HR.out ((I.out.bx 0 rfl).gr h) hjk HQJ.out
    have lx9_1:=fun w' (h:Gr _ w')=>qq9 HR.out ((I.out.bx 0 rfl).gr h) hjk HQJ.out
    have lx9_2:=fun w' (h:Gr _ w')=>qq_ HR.out ((I.out.bx 0 rfl).gr h) hjk HQJ.out
    have lx9_3:=fun w' (h:Gr _ w')=>qr0 HR.out ((I.out.bx 0 rfl).gr h) hjk HQJ.out
    have lx9_4:=fun w' (h:Gr _ w')=>qr1 HR.out ((I.out.bx 0 rfl).gr h) hjk HQJ.out
    refine kS fun K O=>?_
    refine xg0 fun T Y=>?_
    iterate 5 refine tk ?_
    refine ck Tryz.call140 (fun w' hw=>qa3 q hgh cm _ (HCM.out) om om) ?_
    iterate 7 refine tk ?_
    refine ck Tryz.call140 (fun w' hw=>qa3 q lw cn _ (HCN.out) om om) ?_
    refine tk ?_
    refine nlD Y I fun vw3 J=>?_
    clear Y T I lx15 lx16 lx9_0 lx9_1 lx9_2 lx9_3 lx9_4
    go_wp2
    refine kO O ?_;clear O K
    have I:=J;clear J
    clear hc1 hc2
    refine wp_cond_false (by rfl) ?_
    refine wp_skip ?_
    show Code.wp _ _ _ _ _
    have hwi:IntKind.i64.wrap ((j:Int)+1)=(j:Int)+1:=by rw [IntKind.wrap_i64];omega
    refine kL fun K O=>?_
    refine sq3_ fun T Y=>?_
    refine tk3_ ?_
    refine nlS Y I fun vw4 J=>?_
    clear Y T I
    go_wp2
    refine O.out _ _ ?_;clear O K
    try simp only [Exit.then,Exit.inBlock]
    have I:=J;clear J
    clear hwi
    go_roundw
    case rel=>exact ⟨j+1,true,true,by omega,by go_num,rfl,rfl,lh_ (xe3 (by have h9:=H1.out;simpa using h9)),lh_ (xe3 (by have h9:=H2.out;simpa using h9)),I⟩
    case measure=>simp [intOf];omega
   have HFF:=I
   obtain rfl:j=k:=by omega
   have e1:=H1.out.2 (by obtain ⟨x,a,b⟩:=qo8 mx f j hn;exact ⟨x,a,b.trans HHI.out⟩)
   have e2:=H2.out.2 (by obtain ⟨x,a,b⟩:=qo8 mi f j hn;exact ⟨x,a,b.trans HLO.out⟩)
   subst e1 e2
   have hjk':¬ (j:Int)<(j:Int):=by omega
   go_wp2_with fail
   refine (worksq_any _ (lh_ (HT.out.gr HFF.out.1))).mono ?_
   rintro e V1 ⟨rfl,hb⟩
   have HGf:=lh_ (Gr.trans HFF.out.1 hb)
   clear hb
   go_wp2_with fail
   exact bR ⟨rfl,HGf.out⟩ (by simp [results,Tryz.results60,go_sem])
theorem qU7 (v:Value) (N D:Nat→Int) (t:Int) (w:World) (HQ:Hid (Qs w v 0 N D)) (HT:Hid (Tab w)) :
  CB 60 #[v,.int .i64 t] w (.bool true):=by
 obtain ⟨ao,c,rfl⟩:=HQ.out.slice
 go_enter Tryz.func60,Tryz.ntmps60
 go_wp2_with fail
 obtain ⟨z,HZ⟩:∃ z:Rat,Hid ((0:Rat)=z):=⟨_,lh_ rfl⟩
 have hsz:sz z≤1:=by rw [← HZ.out];exact sz_of (wl_le.2 (by decide)) (wl_le.2 (by decide))
 refine qS6 (L:=[Sum.inl (w.heap.size,36,#[.int .u64 (lo z.num.natAbs),.string (bg z.num.natAbs),.bool (z.num<0),.int .u64 (lo (z.den - 1)),.string (bg (z.den - 1))])]) (by rw [← HZ.out];exact (hp0 w).al (b:=w.heap.size) rfl (by decide)) fun W1 HF0=>?_
 obtain ⟨g7,hg7⟩:=ex_ (w.heap.size)
 rw [hg7.out] at HF0 ⊢
 go_loopw [5,8] (fun u i wr=>u=.slice none 0 0∧i=.int .i64 0∧Hid (wr=W1)) (fun _ i _=>0)
 case atStart=>exact ⟨rfl,rfl,lh_ rfl⟩
 case round =>
  rename_i K1 hK1
  obtain ⟨rfl,rfl,hw⟩:=hrel
  obtain rfl:=hw.out
  clear hw
  have I:=HF0;clear HF0
  refine wp_seq ?_
  refine kS fun K O=>?_
  go_wp2
  refine kO O ?_;clear O K
  refine wp_cond_false (by rfl) ?_
  refine wp_exit ?_
  try simp only [Exit.then,Exit.inBlock]
  refine hK1 _ _ ?_
  clear hK1
  show Code.wp _ _ _ _ _
  refine kS fun K O=>?_
  go_wp2
  refine kO O ?_;clear O K
  refine wp_seq ?_
  refine kS fun K O=>?_
  go_wp2
  refine kO O ?_;clear O K
  refine wp_cond_false (by rfl) ?_
  refine wp_skip ?_
  show Code.wp _ _ _ _ _
  refine kS fun K O=>?_
  go_wp2
  refine kO O ?_;clear O K
  refine kS fun K O=>?_
  go_wp2
  refine kO O ?_;clear O K
  refine qb2 fun K O T Y=>?_
  refine tk ?_
  refine ck Tryz.call155 (fun w' hw=>xc9 0 (fun _=>0) _ z _ (.inl ⟨_,_,rfl,rfl⟩) (by decide) (fun i hi=>absurd hi (Nat.not_lt_zero _)) HZ.out) ?_
  refine tk ?_
  refine ck Tryz.call156 (fun w' hw=>xc_ 0 (fun _=>0) _ z _ (.inl ⟨_,_,rfl,rfl⟩) (by decide) (fun i hi=>absurd hi (Nat.not_lt_zero _)) HZ.out) ?_
  refine nlS Y I fun vw1 J=>?_
  clear Y T I
  go_wp2
  refine kF_ O (((J.out).aL (vw1.heap.size)).aL (vw1.heap.size+1)) fun Wx15 I=>?_;clear O K
  clear J
  generalize vw1.heap.size+1=gx3 at *
  generalize vw1.heap.size=gx2 at *
  refine wp_seq ?_
  have lx0:=kc0_ I
  have lx2:=kc1_ I
  have lx3:=kc2_ I
  refine kS fun K O=>?_
  refine xw5 fun T Y=>?_
  refine tk2_ ?_
  refine ck Tryz.call157 (fun w' hw=>qm7 0 (fun _=>0) _ z _ (.inl ⟨_,_,rfl,rfl⟩) (by decide) (fun i hi=>absurd hi (Nat.not_lt_zero _)) HZ.out) ?_
  iterate 4 refine tk ?_
  refine ck Tryz.call157 (fun w' hw=>qm7 0 (fun _=>0) _ z _ (.inl ⟨_,_,rfl,rfl⟩) (by decide) (fun i hi=>absurd hi (Nat.not_lt_zero _)) HZ.out) ?_
  iterate 5 refine tk ?_
  refine ck Tryz.call155 (fun w' hw=>xc9 0 (fun _=>0) _ z _ (.inl ⟨_,_,rfl,rfl⟩) (by decide) (fun i hi=>absurd hi (Nat.not_lt_zero _)) HZ.out) ?_
  iterate 5 refine tk ?_
  refine ck Tryz.call156 (fun w' hw=>xc_ 0 (fun _=>0) _ z _ (.inl ⟨_,_,rfl,rfl⟩) (by decide) (fun i hi=>absurd hi (Nat.not_lt_zero _)) HZ.out) ?_
  refine tk ?_
  refine nlD Y I fun vw2 J=>?_
  clear Y T I lx0 lx2 lx3
  go_wp2
  refine kO O ?_;clear O K
  have I:=J;clear J
  refine wp_cond_false (by rfl) ?_
  refine wp_skip ?_
  show Code.wp _ _ _ _ _
  refine wp_seq ?_
  refine kS fun K O=>?_
  go_wp2
  refine kO O ?_;clear O K
  refine wp_cond_true (by rfl) ?_
  have hz9:decide (z=0)=true:=decide_eq_true HZ.out.symm
  have lx0:=kc0_ I
  have lx2:=kc1_ I
  have lx3:=kc2_ I
  refine xC0 fun K O T Y=>?_
  iterate 14 refine tk ?_
  refine ck Tryz.call62 (fun w' hw=>worksq_any _ (lh_ (HT.out.gr (Gr.trans I.out.1 hw)))) ?_
  refine tk2_ ?_
  refine nzR Y O (fun w2 hg=>(I.out.gr hg).er 0) ?_;clear Y T I lx0 lx2 lx3 O K;intro Wx19 I
  clear hz9
  refine wp_ret ?_
  try simp only [Exit.then,Exit.inBlock]
  exact bR ⟨rfl,I.out.1⟩ (by simp [results,Tryz.results60,go_sem])
theorem listq_law (v:Value) (n:Nat) (N D:Nat→Int) (t:Int) (w:World) (HQ:Hid (Qs w v n N D)) (HB:Hid (Qb n N D)) (lt:-9223372036854775808≤t) (ut:t≤9223372036854775807) (HT:Hid (Tab w)) :
  CB 60 #[v,.int .i64 t] w (.bool true):=by
 rcases Nat.eq_zero_or_pos n with h|h
 ·subst h;exact qU7 v N D t w HQ HT
 by_cases h20:n≤20
 ·exact qM6 v n N D t w HQ HB h h20 lt ut HT
 exact qM5 v n N D t w HQ om HT
end Go.Proofs.YtobojnodohjiaaaGreatDoor
