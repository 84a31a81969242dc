
/- A slice of pairs that stand for fractions. No condition. -/
import Derived.Test.YtobojnodohjiaaaGreatDoorIntE
import Derived.Test.YtobojnodohjiaaaGreatDoorPJ
import Derived.Test.YtobojnodohjiaaaGreatDoorHp
import Derived.Test.YtobojnodohjiaaaGreatDoorWorksQ
import Derived.Maps.AppendAt
import Derived.Test.YtobojnodohjiaaaGreatDoorPL
set_option maxRecDepth 100000
set_option maxHeartbeats 16000000
set_option linter.unusedVariables false
set_option linter.unusedSimpArgs false
namespace Go.Proofs.YtobojnodohjiaaaGreatDoor
open Go.RowKit
theorem xi5 {n:Nat} (h0:0<n) (h:n≤9223372036854775808):IntKind.i64.wrap (IntKind.u64.wrap (-(n:Int))) = -(n:Int):=by
 rw [IntKind.wrap_i64,IntKind.wrap_u64];omega
theorem xi6 {n:Nat} (h:n<9223372036854775808):IntKind.i64.wrap (n:Int)=(n:Int):=by
 rw [IntKind.wrap_i64];omega
theorem xo3 (n:Nat) (w:World) (h0:0<n) (h:n≤9223372036854775808) :
  CB 46 #[.agg #[.int .u64 (lo n),.string (bg n),.bool true]] w (.tuple #[.int .i64 (-(n:Int)),.bool true]):=by
 obtain ⟨W0,HW⟩:=ex_ ((w.alloc (.cells #[.int .u64 (lo n),.string (bg n),.bool true] 34)))
 have HS:=lh_ (show w.heap.size+1=W0.heap.size by rw [← HW.out];simp)
 have z0:w.heap.size<W0.heap.size:=by rw [← HS.out];omega
 have c0_0:W0.cell? ⟨w.heap.size,0,none⟩=some (.int .u64 (lo n)):=by rw [← HW.out];simp [go_sem]
 have c0_1:W0.cell? ⟨w.heap.size,1,none⟩=some (.string (bg n)):=by rw [← HW.out];simp [go_sem]
 have c0_2:W0.cell? ⟨w.heap.size,2,none⟩=some (.bool true):=by rw [← HW.out];simp [go_sem]
 have f_0:W0.frozen? ⟨w.heap.size,0,none⟩=false:=by rw [← HW.out];simp [go_sem]
 have f_1:W0.frozen? ⟨w.heap.size,1,none⟩=false:=by rw [← HW.out];simp [go_sem]
 have f_2:W0.frozen? ⟨w.heap.size,2,none⟩=false:=by rw [← HW.out];simp [go_sem]
 have hbw:Below w.heap.size w W0:=by rw [← HW.out];exact (Below.refl _ _).alloc (Nat.le_refl _) _
 have HR:Hid (∀ w1:World,Below W0.heap.size W0 w1→w1.cell? ⟨w.heap.size,0,none⟩=some (.int .u64 (lo n))∧w1.cell? ⟨w.heap.size,1,none⟩=some (.string (bg n))∧w1.cell? ⟨w.heap.size,2,none⟩=some (.bool true)∧w1.frozen? ⟨w.heap.size,0,none⟩=false∧w1.frozen? ⟨w.heap.size,1,none⟩=false∧w1.frozen? ⟨w.heap.size,2,none⟩=false∧Below w.heap.size w w1):=fun w1 hb=>⟨(held W0 w1 hb _ _ z0).trans c0_0,(held W0 w1 hb _ _ z0).trans c0_1,(held W0 w1 hb _ _ z0).trans c0_2,(qb_ W0 w1 hb _ _ z0).trans f_0,(qb_ W0 w1 hb _ _ z0).trans f_1,(qb_ W0 w1 hb _ _ z0).trans f_2,grow hbw hb⟩
 have HBW:=lh_ hbw
 clear hbw
 have hw:=xi5 h0 h
 have hle:(n:Int)≤9223372036854775808:=by omega
 go_enter Tryz.func46,Tryz.ntmps46
 go_wp2_with fail
 rw [HW.out]
 refine (xv_ n n _ rfl om).mono ?_
 rintro e w1 ⟨rfl,hb1⟩
 clear c0_0 c0_1 c0_2 f_0 f_1 f_2 HBW;obtain ⟨c0_0,c0_1,c0_2,f_0,f_1,f_2,hbw⟩:=HR.out w1 hb1;have HBW:=lh_ hbw;clear hbw
 clear h0 h
 go_wp2_with fail
 go_ret2
 exact ⟨rfl,HBW.out⟩
theorem xo4 (n:Nat) (w:World) (h:n<9223372036854775808) :
  CB 46 #[.agg #[.int .u64 (lo n),.string (bg n),.bool false]] w (.tuple #[.int .i64 (n:Int),.bool true]):=by
 obtain ⟨W0,HW⟩:=ex_ ((w.alloc (.cells #[.int .u64 (lo n),.string (bg n),.bool false] 34)))
 have HS:=lh_ (show w.heap.size+1=W0.heap.size by rw [← HW.out];simp)
 have z0:w.heap.size<W0.heap.size:=by rw [← HS.out];omega
 have c0_0:W0.cell? ⟨w.heap.size,0,none⟩=some (.int .u64 (lo n)):=by rw [← HW.out];simp [go_sem]
 have c0_1:W0.cell? ⟨w.heap.size,1,none⟩=some (.string (bg n)):=by rw [← HW.out];simp [go_sem]
 have c0_2:W0.cell? ⟨w.heap.size,2,none⟩=some (.bool false):=by rw [← HW.out];simp [go_sem]
 have f_0:W0.frozen? ⟨w.heap.size,0,none⟩=false:=by rw [← HW.out];simp [go_sem]
 have f_1:W0.frozen? ⟨w.heap.size,1,none⟩=false:=by rw [← HW.out];simp [go_sem]
 have f_2:W0.frozen? ⟨w.heap.size,2,none⟩=false:=by rw [← HW.out];simp [go_sem]
 have hbw:Below w.heap.size w W0:=by rw [← HW.out];exact (Below.refl _ _).alloc (Nat.le_refl _) _
 have HR:Hid (∀ w1:World,Below W0.heap.size W0 w1→w1.cell? ⟨w.heap.size,0,none⟩=some (.int .u64 (lo n))∧w1.cell? ⟨w.heap.size,1,none⟩=some (.string (bg n))∧w1.cell? ⟨w.heap.size,2,none⟩=some (.bool false)∧w1.frozen? ⟨w.heap.size,0,none⟩=false∧w1.frozen? ⟨w.heap.size,1,none⟩=false∧w1.frozen? ⟨w.heap.size,2,none⟩=false∧Below w.heap.size w w1):=fun w1 hb=>⟨(held W0 w1 hb _ _ z0).trans c0_0,(held W0 w1 hb _ _ z0).trans c0_1,(held W0 w1 hb _ _ z0).trans c0_2,(qb_ W0 w1 hb _ _ z0).trans f_0,(qb_ W0 w1 hb _ _ z0).trans f_1,(qb_ W0 w1 hb _ _ z0).trans f_2,grow hbw hb⟩
 have HBW:=lh_ hbw
 clear hbw
 have hw:=xi6 h
 have hlt:(n:Int)<9223372036854775808:=by omega
 go_enter Tryz.func46,Tryz.ntmps46
 go_wp2_with fail
 rw [HW.out]
 refine (xv_ n n _ rfl om).mono ?_
 rintro e w1 ⟨rfl,hb1⟩
 clear c0_0 c0_1 c0_2 f_0 f_1 f_2 HBW;obtain ⟨c0_0,c0_1,c0_2,f_0,f_1,f_2,hbw⟩:=HR.out w1 hb1;have HBW:=lh_ hbw;clear hbw
 clear h
 go_wp2_with fail
 go_ret2
 exact ⟨rfl,HBW.out⟩
def In64 (a:Int):Prop:=-9223372036854775808≤a∧a≤9223372036854775807
theorem xv2 (a:Int) (w:World) (h:In64 a) :
  CB 46 #[(Value.agg #[.int .u64 (lo a.natAbs),.string (bg a.natAbs),.bool (a<0)])] w (.tuple #[.int .i64 a,.bool true]):=by
 obtain ⟨h1,h2⟩:=h
 by_cases ha:a<0
 ·rw [decide_eq_true ha]
  have e:a = -((a.natAbs:Nat):Int):=by omega
  have:=xo3 a.natAbs w om om
  rw [← e] at this
  exact this
 rw [decide_eq_false ha]
 have e:a=((a.natAbs:Nat):Int):=by omega
 have:=xo4 a.natAbs w om
 rw [← e] at this
 exact this
end Go.Proofs.YtobojnodohjiaaaGreatDoor

set_option maxRecDepth 100000
set_option maxHeartbeats 16000000
set_option linter.unusedVariables false
set_option linter.unusedSimpArgs false
namespace Go.Proofs.YtobojnodohjiaaaGreatDoor
open Go.RowKit
attribute [local go_sem ↓] Go.wp_at_zero Go.wp_at_succ
attribute [local go_sem ↓] eq_nat eq_nat_zero eq_int eq_frac eq_frac_zero
attribute [local go_sem] Instr.field asAgg
theorem qE8 (n:Int) (w:World) (h1:-9223372036854775808≤n) (h2:n≤9223372036854775807) (HT:Hid (Tab w)) :
  CB 56 #[.int .i64 n,.int .i64 0] w (.bool true):=by
 go_enter Tryz.func56,Tryz.ntmps56
 have I:=lh_ (hp0 w)
 refine kSl fun K O=>?_;go_wp2
 refine kF_ O (I.out) fun Wx0 J=>?_;clear O K
 clear I;have I:=J;clear J
 refine qa2 fun K O T Y=>?_
 refine tk2_ ?_
 refine ck Tryz.call104 (fun w' hw=>qH9 n (0) _ ok om om) ?_
 refine tk3_ ?_
 refine nlS Y I fun vw1 J=>?_
 clear Y T I
 go_wp2
 refine kF_ O ((J.out).aL (vw1.heap.size)) fun Wx1 I=>?_;clear O K
 clear J
 generalize vw1.heap.size=gx1 at *
 refine wp_seq ?_
 refine ks2_ fun K O T Y=>?_
 refine tk2_ ?_
 refine nz Y I O ?_;clear Y T I O K;intro vw2 I
 refine wp_cond_true (by rfl) ?_
 have HB:=HPb I
 have lx1:=kc0_ I
 refine qr5 fun K O T Y=>?_
 iterate 8 refine tk ?_
 refine ck Tryz.call62 (fun w' hw=>worksq_any _ (lh_ (HT.out.gr (Gr.trans HB.out hw)))) ?_
 refine tk2_ ?_
 refine nz Y I O ?_;clear Y T I lx1 HB O K;intro vw3 I
 refine wp_ret ?_
 try simp only [Exit.then,Exit.inBlock]
 exact bR ⟨rfl,I.out.1⟩ (by simp [results,Tryz.results56,go_sem])
theorem qY3 (n d:Int) (q r:Rat) (w:World) (h1:-9223372036854775808≤n) (h2:n≤9223372036854775807) (h3:-9223372036854775808≤d) (h4:d≤9223372036854775807) (hd:d≠0) (HN:Hid (((n:Int):Rat)=q)) (HD:Hid (((d:Int):Rat)=r)) (hr0:r≠0) (HT:Hid (Tab w)) :
  CB 56 #[.int .i64 n,.int .i64 d] w (.bool true):=by
 go_enter Tryz.func56,Tryz.ntmps56
 have I:=lh_ (hp0 w)
 refine kSl fun K O=>?_;go_wp2
 refine kF_ O (I.out) fun Wx0 J=>?_;clear O K
 clear I;have I:=J;clear J
 obtain ⟨u1,HZ1⟩:=ex_ (((n:Int):Rat) / ((d:Int):Rat))
 have su1:sz u1≤4:=by rw [← HZ1.out];exact qy4 n d om om om om
 refine qa2 fun K O T Y=>?_
 refine tk2_ ?_
 refine ck Tryz.call104 (fun w' hw=>qD1 n d u1 _ HZ1.out (by first|decide|omega) om om om om) ?_
 refine tk3_ ?_
 refine nlS Y I fun vw1 J=>?_
 clear Y T I
 go_wp2
 refine kF_ O ((J.out).aL (vw1.heap.size)) fun Wx1 I=>?_;clear O K
 clear J
 generalize vw1.heap.size=gx1 at *
 refine wp_seq ?_
 have hd1:(d == (0))=false:=by have:¬ (d=0):=qy7;simpa using this
 refine ks2_ fun K O T Y=>?_
 refine tk2_ ?_
 refine nz Y I O ?_;clear Y T I O K;intro vw2 I
 clear hd1
 refine wp_cond_false (by rfl) ?_
 refine wp_skip ?_
 show Code.wp _ _ _ _ _
 have HZ2:Hid (((n:Int):Rat)=q):=lh_ qy7
 have su2:sz q≤2:=by have e:=HZ2.out;first|omega|(rw [← e];exact qf2 om om)
 have HZ3:Hid (((d:Int):Rat)=r):=lh_ qy7
 have su3:sz r≤2:=by have e:=HZ3.out;first|omega|(rw [← e];exact qf2 om om)
 have HZ4:Hid (q / r=u1):=lh_ (by rw [← HZ1.out,HN.out,HD.out])
 have su4:sz u1≤4:=by have e:=HZ4.out;first|omega|(rw [← e];have:=sz_div q r;omega)
 refine qd4 fun K O T Y=>?_
 refine tk ?_
 refine ck Tryz.call147 (fun w' hw=>fint_any n q _ HZ2.out om om) ?_
 refine tk ?_
 refine ck Tryz.call147 (fun w' hw=>fint_any d r _ HZ3.out om om) ?_
 refine ck Tryz.call79 (fun w' hw=>fdiv_any q r u1 _ HZ4.out qy7 om om) ?_
 refine tk3_ ?_
 refine nlS Y I fun vw3 J=>?_
 clear Y T I
 go_wp2
 refine kF_ O ((J.out).aL (vw3.heap.size)) fun Wx4 I=>?_;clear O K
 clear J
 generalize vw3.heap.size=gx2 at *
 have HZ5:Hid (((n:Int):Rat)=q):=lh_ qy7
 have su5:sz q≤2:=by have e:=HZ5.out;first|omega|(rw [← e];exact qf2 om om)
 have HZ6:Hid (q.num=n):=lh_ (by rw [← HN.out];rfl)
 have su6:wl n.natAbs≤2:=by have e:=HZ6.out;first|omega|(rw [← e];exact Nat.le_trans (sz_num _) om)
 refine qj6 fun K O T Y=>?_
 refine tk ?_
 refine ck Tryz.call147 (fun w' hw=>fint_any n q _ HZ5.out om om) ?_
 refine ck Tryz.call40 (fun w' hw=>xu_ q n _ HZ6.out) ?_
 refine ck Tryz.call46 (fun w' hw=>xv2 n _ (by exact ⟨by omega,by omega⟩)) ?_
 iterate 5 refine tk ?_
 refine nz Y I O ?_;clear Y T I O K;intro vw4 I
 have HB:=HPb I
 have HZ7:Hid (((d:Int):Rat)=r):=lh_ qy7
 have su7:sz r≤2:=by have e:=HZ7.out;first|omega|(rw [← e];exact qf2 om om)
 have HZ8:Hid (u1*(r)=q):=lh_ (by rw [← HZ1.out,HN.out,HD.out];exact Rat.div_mul_cancel hr0)
 have su8:sz q≤6:=by have e:=HZ8.out;first|omega|(rw [← e];have:=sz_mul u1 r;omega)
 have HZ9:Hid (((n:Int):Rat)=q):=lh_ qy7
 have su9:sz q≤2:=by have e:=HZ9.out;first|omega|(rw [← e];exact qf2 om om)
 have HZ10:Hid (((n:Int):Rat)=q):=lh_ qy7
 have su10:sz q≤2:=by have e:=HZ10.out;first|omega|(rw [← e];exact qf2 om om)
 have lx1:=kc0_ I
 have lx2:=kc1_ I
 refine kS fun K O=>?_
 refine xD7 fun T Y=>?_
 iterate 15 refine tk ?_
 refine ck Tryz.call147 (fun w' hw=>fint_any d r _ HZ7.out om om) ?_
 refine ck Tryz.call134 (fun w' hw=>fmul_any u1 r q _ HZ8.out om om) ?_
 refine ck Tryz.call147 (fun w' hw=>fint_any n q _ HZ9.out om om) ?_
 iterate 12 refine tk ?_
 refine ck Tryz.call147 (fun w' hw=>fint_any n q _ HZ10.out om om) ?_
 refine ck Tryz.call146 (fun w' hw=>qa4 q true _ (decide_eq_true qy7)) ?_
 refine tk2_ ?_
 refine ck Tryz.call62 (fun w' hw=>worksq_any _ (lh_ (HT.out.gr (Gr.trans HB.out hw)))) ?_
 refine tk ?_
 refine nlD Y I fun vw5 J=>?_
 clear Y T I lx1 lx2 HB
 go_wp2
 refine kF_ O (((J.out).er 1).er 0) fun Wx6 I=>?_;clear O K
 clear J
 refine wp_ret ?_
 try simp only [Exit.then,Exit.inBlock]
 exact bR ⟨rfl,I.out.1⟩ (by simp [results,Tryz.results56,go_sem])
theorem smallq_law (n d:Int) (w:World) (h1:-9223372036854775808≤n) (h2:n≤9223372036854775807) (h3:-9223372036854775808≤d) (h4:d≤9223372036854775807) (HT:Hid (Tab w)) :
  CB 56 #[.int .i64 n,.int .i64 d] w (.bool true):=by
 by_cases hd:d=0
 ·subst hd
  exact qE8 n w h1 h2 HT
 exact qY3 n d _ _ w h1 h2 h3 h4 hd (lh_ rfl) (lh_ rfl) (fun e=>hd (Rat.intCast_eq_zero_iff.1 e)) HT
end Go.Proofs.YtobojnodohjiaaaGreatDoor

set_option linter.unusedVariables false
set_option linter.unusedSimpArgs false
namespace Go.Proofs.YtobojnodohjiaaaGreatDoor
open Go.RowKit
def RowV (b:Nat) (cur:Array Value) (k:Nat) (v:Value) (n:Nat) (xs:List Value):Prop :=
 ∃ cap,v=.slice (some ⟨b,0,none⟩) n cap∧n≤cap∧cap≤maxLen∧cur.size=cap*k∧cur.toList.take (n*k)=xs∧xs.length=n*k
section
variable {w0 W W':World} {L:List Fk} {b E k n:Nat} {cur:Array Value} {v:Value} {xs:List Value}
theorem RowV.own (h:RowV b cur k v n xs) (hB:Bx W b E cur) (hle:w0.heap.size≤b):W.ownsRow w0.heap.size E k v n xs:=by
 obtain ⟨cap,rfl,h1,h2,h3,h4,h5⟩:=h
 exact ⟨h5,.inr ⟨b,cap,cur,rfl,hle,hB,h1,h2,h3,h4⟩⟩
theorem RowV.blk (h:RowV b cur k v n xs):v.ownBlock=some b:=by
 obtain ⟨cap,rfl,_⟩:=h;rfl
theorem RowV.sl (h:RowV b cur k v n xs):∃ cap,v=.slice (some ⟨b,0,none⟩) n cap:=by
 obtain ⟨cap,e,_⟩:=h;exact ⟨cap,e⟩
theorem RowV.cell (h:RowV b cur k v n xs) (hB:Bx W b E cur) (g:Gr W W') (i:Nat) (hi:i<n*k):W'.cell? ⟨b,i,none⟩=xs[i]?:=by
 obtain ⟨cap,rfl,h1,h2,h3,h4,h5⟩:=h
 rw [hB.cells W' g,← h4,List.getElem?_take_of_lt hi,Array.getElem?_toList]
theorem Rn.kept {u:Value} {m:Nat} {row:Option Nat} (h:Rn W u m) (g:W.grownBy W' row) (hne:∀ j,row=some j→u.ownBlock≠some j):Rn W' u m:=by
 refine World.ownsRow.kept h g ?_
 cases hr:row with
 | none=>cases hu:u.ownBlock with
  | none=>exact .inl rfl
  | some j=>exact .inr (by simp)
 | some j=>exact .inr (hne j hr)
end
end Go.Proofs.YtobojnodohjiaaaGreatDoor

set_option linter.unusedVariables false
set_option linter.unusedSimpArgs false
namespace Go.Proofs.YtobojnodohjiaaaGreatDoor
open Go.RowKit
def fcl (q:Rat):List Value:=[.int .u64 (lo q.num.natAbs),.string (bg q.num.natAbs),.bool (q.num<0),.int .u64 (lo (q.den - 1)),.string (bg (q.den - 1))]
def Fs (w:World) (v:Value) (n:Nat) (f:Nat→Rat):Prop :=
 (∃ ao c,v=.slice ao n c∧n=0)∨∃ b o c,v=.slice (some ⟨b,o,none⟩) n c∧b<w.heap.size∧∀ i,i<n→∀ j,j<5→w.cell? ⟨b,o+i*5+j,none⟩=(fcl (f i))[j]?
theorem Fs.gr {w w':World} {v:Value} {n:Nat} {f:Nat→Rat} (h:Fs w v n f) (hg:Gr w w'):Fs w' v n f:=by
 rcases h with h|⟨b,o,c,rfl,hb,hc⟩
 ·exact .inl h
 exact .inr ⟨b,o,c,rfl,Nat.lt_of_lt_of_le hb hg.size,fun i hi j hj=>(Below.cell hg (p:=⟨b,o+i*5+j,none⟩) hb).trans (hc i hi j hj)⟩
theorem Fs.slice {w:World} {v:Value} {n:Nat} {f:Nat→Rat} (h:Fs w v n f):∃ ao c,v=.slice ao n c:=by
 rcases h with ⟨ao,c,rfl,_⟩|⟨b,o,c,rfl,_⟩
 ·exact ⟨_,_,rfl⟩
 exact ⟨_,_,rfl⟩
def qsum (f:Nat→Rat):Nat→Rat
 | 0=>0
 | k+1=>qsum f k+f k
theorem qE_ (f:Nat→Rat) (n M:Nat) (h:∀ i,i<n→sz (f i)≤M) (k:Nat) (hk:k≤n):sz (qsum f k)≤1+k*(M+1):=by
 induction k with
 | zero=>exact Nat.le_trans (sz_of (wl_small (by decide)) (wl_small (by decide)):sz (0:Rat)≤1) (Nat.le_add_right 1 _)
 | succ k ih =>
  have h1:=qc9 (qsum f k) (f k)
  have h2:=ih om
  have h3:=h k om
  have h4:(k+1)*(M+1)=k*(M+1)+(M+1):=by rw [Nat.succ_mul]
  show sz (qsum f k+f k)≤_
  omega
def bst (t:Int→Bool) (f:Nat→Rat):Nat→Rat
 | 0=>0
 | k+1=>if k=0 then f 0 else if t (sgQ (f k - bst t f k)) then f k else bst t f k
theorem qJ7 (t:Int→Bool) (f:Nat→Rat) (n M:Nat) (hM:1≤M) (h:∀ i,i<n→sz (f i)≤M) (k:Nat) (hk:k≤n):sz (bst t f k)≤M:=by
 induction k with
 | zero=>exact Nat.le_trans (sz_of (wl_le.2 (by decide)) (wl_le.2 (by decide)):sz (0:Rat)≤1) hM
 | succ k ih =>
  unfold bst
  split
  ·exact h 0 om
  split
  ·exact h k om
  exact ih om
end Go.Proofs.YtobojnodohjiaaaGreatDoor

set_option linter.unusedVariables false
set_option linter.unusedSimpArgs false
namespace Go.Proofs.YtobojnodohjiaaaGreatDoor
open Go.RowKit
section
variable {w0 W:World} {L:List Fk} {E k n:Nat} {v:Value} {xs:List Value}
def Apart (L:List Fk) (v:Value):Prop:=∀ (i:Nat) (x:Nat × TypeId × Array Value),L[i]?=some (Sum.inl x)→v.ownBlock≠some x.1
theorem HP.grown {W':World} {row:Option Nat} (h:HP w0 W L) (hrow:∀ j,row=some j→w0.heap.size≤j) (hM:∀ (i:Nat) (x:Nat × TypeId × Array Value),L[i]?=some (Sum.inl x)→row≠some x.1)
  (hR:∀ (i:Nat) (v:Value) (m:Nat),L[i]? ≠ some (Sum.inr (v,m))) (g:W.grownBy W' row):HP w0 W' L:=by
 obtain ⟨h1,h2,h3⟩:=h
 refine ⟨h1.grown g h1.size hrow,fun i e he=>?_,h3⟩
 have:=h2 i e he
 rcases e with ⟨c,S,ds⟩|⟨u,m⟩
 ·exact ⟨(g.block c this.1.lt (fun e=>hM i _ he e.symm)).trans this.1,this.2⟩
 exact absurd he (hR i u m)
theorem xw4 (own:W.ownsRow w0.heap.size E k v n xs):∀ j,v.ownBlock=some j→w0.heap.size≤j:=by
 obtain ⟨_,⟨rfl,_⟩|⟨g,cap,cur,rfl,h,_⟩⟩:=own
 ·intro j hj;cases hj
 intro j hj;injection hj with hj;subst hj;exact h
theorem apX {ops:Array Oper} {rest:List Oper} {o:Oper} {a:Act} {Q:Exit→Act→World→Prop} {ad:Addr} {m c bytes:Nat} {news:List Value} {i:TypeInfo} {z:Value} (I:Hid (HP w0 W L)) (own:Hid (W.ownsRow w0.heap.size E k v n xs)) (HA:Hid (Apart L v)) (s x:Operand) (t:TypeId)
  (hi:Tryz.prog.info? E=some i) (hz:i.zero=some z) (hsize:i.size=k) (hby:i.bytes=bytes) (hzs:z.cells.size=k) (hty:Tryz.prog.underlying t=some (.slice E))
  (h63:n+m≤maxLen) (hbytes:(n+m)*bytes≤140737488355328) (hR:∀ (i:Nat) (v:Value) (m:Nat),L[i]? ≠ some (Sum.inr (v,m)))
  (hv:a.eval s=v) (hx:a.eval x=.slice (some ad) m c) (hnews:Hid (∀ j u,news[j]?=some u→W.cell? (ad.add j)=some u)) (hl:news.length=m*k) (h1:∀ u ∈ news,u.oneCell'=true) (hk:0<k)
  (ho:o.op=.call { callee:=.builtin .append,args:=#[s,x],argTypes:=#[t,t] }) (hgd:o.guard=none)
  (h:∀ v' W',Hid (HP w0 W' L)→Hid (W'.ownsRow w0.heap.size E k v' (n+m) (xs ++ news))→Hid (Apart L v')→wpList Tryz.prog ops Q rest (a.put o.dst v') W'):wpList Tryz.prog ops Q (o :: rest) a W:=by
 refine wpList_append_own_at W hgd s x t ho w0.heap.size E i z k bytes hty hi hz hsize hby hzs hk v n xs hv own.out ad m c news hx hl hnews.out h1 h63 hbytes I.out.1.size ?_
 intro v' W' own' grown _ hat
 refine h v' W' (lh_ (I.out.grown (xw4 own.out) HA.out hR grown)) (lh_ own') (lh_ fun j y hy e=>?_)
 rcases hat with ha|ha
 ·exact HA.out j y hy (ha ▸ e)
 have:=I.out.lt j y hy
 rw [e] at ha
 injection ha with ha
 omega
theorem xk3 {B:Nat} {W':World} (h:W.ownsRow B E k v n xs) (hg:Gr W W'):W'.ownsRow B E k v n xs:=by
 obtain ⟨hl,h|⟨g,cap,cur,rfl,h0,hc,h1⟩⟩:=h
 ·exact ⟨hl,.inl h⟩
 exact ⟨hl,.inr ⟨g,cap,cur,rfl,h0,Bx.gr (show Bx W g E cur from hc) hg,h1⟩⟩
theorem qV9 (h:HP w0 W L) (own:W.ownsRow w0.heap.size E k v n xs) (ha:Apart L v) (hn:0<n) (hE:E≠3):∃ g cur,HP w0 W (L ++ [Sum.inl (g,E,cur)])∧RowV g cur k v n xs:=by
 obtain ⟨hl,⟨_,h0⟩|⟨g,cap,cur,rfl,hg,hc,h1,h2,h3,h4⟩⟩:=own
 ·omega
 exact ⟨g,cur,h.add hc hE hg (fun i x hx e=>ha i x hx (by show some g=some x.1;rw [e])),⟨cap,rfl,h1,h2,h3,h4,hl⟩⟩
theorem xv1 {g:Nat} {cur:Array Value} (h:HP w0 W (L ++ [Sum.inl (g,E,cur)])) (hr:RowV g cur k v n xs):HP w0 W L∧W.ownsRow w0.heap.size E k v n xs∧Apart L v:=by
 have hl:(L ++ [(Sum.inl (g,E,cur):Fk)])[L.length]?=some (Sum.inl (g,E,cur)):=by simp
 refine ⟨?_,hr.own (h.bx L.length hl) (h.2.1 L.length _ hl).2.2,fun i x hx e=>?_⟩
 ·have:=h.er L.length
  rwa [List.eraseIdx_append_of_length_le (Nat.le_refl _),Nat.sub_self,List.eraseIdx_cons_zero,List.append_nil] at this
 rw [hr.blk] at e
 injection e with e
 have hi:i<L.length:=(List.getElem?_eq_some_iff.1 hx).1
 exact h.2.2 i L.length x _ om (by rw [List.getElem?_append_left hi];exact hx) hl e.symm
end
def fcs (f:Nat→Rat):Nat→List Value
 | 0=>[]
 | k+1=>fcs f k ++ fcl (f k)
theorem ql4 (f:Nat→Rat) (n:Nat):(fcs f n).length=n*5:=by
 induction n with
 | zero=>rfl
 | succ n ih=>rw [fcs,List.length_append,ih];show _+5=_;omega
theorem qv4 (f:Nat→Rat) (n i j:Nat) (hi:i<n) (hj:j<5):(fcs f n)[i*5+j]?=(fcl (f i))[j]?:=by
 induction n with
 | zero=>omega
 | succ n ih =>
  have hl:=ql4 f n
  rcases Nat.lt_or_ge i n with h|h
  ·rw [fcs,List.getElem?_append_left om]
   exact ih h
  obtain rfl:i=n:=by omega
  rw [fcs,List.getElem?_append_right om,hl,Nat.add_sub_cancel_left]
theorem qR_ (f:Nat→Rat) (n:Nat):∀ u ∈ fcs f n,u.oneCell'=true:=by
 induction n with
 | zero=>intro u hu;cases hu
 | succ n ih =>
  intro u hu
  rw [fcs] at hu
  rcases List.mem_append.1 hu with hu|hu
  ·exact ih u hu
  simp [fcl] at hu
  rcases hu with rfl|rfl|rfl|rfl|rfl <;> rfl
theorem qC_ (f:Nat→Rat) (n m:Nat):fcs f (n+m)=fcs f n ++ fcs (fun i=>f (n+i)) m:=by
 induction m with
 | zero=>simp [fcs]
 | succ m ih=>rw [← Nat.add_assoc,fcs,ih,fcs,List.append_assoc]
theorem xj_ (f g:Nat→Rat) (n:Nat) (h:∀ i,i<n→f i=g i):fcs f n=fcs g n:=by
 induction n with
 | zero=>rfl
 | succ n ih=>rw [fcs,fcs,ih (fun i hi=>h i om),h n om]
theorem qp7 {W:World} {g E n:Nat} {cur:Array Value} {v:Value} {f:Nat→Rat} (h:RowV g cur 5 v n (fcs f n)) (hB:Bx W g E cur):Fs W v n f:=by
 obtain ⟨cap,rfl,h1,h2,h3,h4,h5⟩:=h
 refine .inr ⟨g,0,cap,rfl,hB.lt,fun i hi j hj=>?_⟩
 have hlt:i*5+j<n*5:=by omega
 rw [Nat.zero_add,hB.cells W (Gr.refl _),← qv4 f n i j hi hj,← h4,List.getElem?_take_of_lt hlt,Array.getElem?_toList]
theorem qJ4 {W:World} {g E n:Nat} {cur:Array Value} {v:Value} {f:Nat→Rat} (h:RowV g cur 5 v n (fcs f n)) (hB:Bx W g E cur) (a m:Nat) (ham:a+m≤n) :
  ∀ j u,(fcs (fun i=>f (a+i)) m)[j]?=some u→W.cell? ((⟨g,a*5,none⟩:Addr).add j)=some u:=by
 obtain ⟨cap,rfl,h1,h2,h3,h4,h5⟩:=h
 intro j u hj
 have hl:j<m*5:=by have:=(List.getElem?_eq_some_iff.1 hj).1;rwa [ql4] at this
 have e:fcs f n=fcs f (a+m) ++ fcs (fun i=>f (a+m+i)) (n - (a+m)):=by rw [← qC_];congr 1;omega
 have hlt:a*5+j<n*5:=by omega
 have hq:(fcs f n)[a*5+j]?=some u:=by
  rw [e,List.getElem?_append_left (by rw [ql4];omega),qC_,List.getElem?_append_right (by rw [ql4];omega),ql4,Nat.add_sub_cancel_left]
  exact hj
 rw [← h4,List.getElem?_take_of_lt hlt,Array.getElem?_toList] at hq
 rw [Go.WideShapes.add_plain,hB.cells W (Gr.refl _)]
 exact hq
end Go.Proofs.YtobojnodohjiaaaGreatDoor

set_option linter.unusedVariables false
set_option linter.unusedSimpArgs false
namespace Go.Proofs.YtobojnodohjiaaaGreatDoor
open Go.RowKit
abbrev mx:Int→Bool:=fun c=>decide (0<c)
abbrev mi:Int→Bool:=fun c=>decide (c<0)
theorem qV2 (a b:Rat):mx (sgQ (a - b))=true ↔ b<a:=by
 unfold sgQ
 by_cases h:a - b=0
 ·have:a=b:=by grind
  subst this
  simp [Rat.lt_irrefl,Rat.sub_self]
 rw [if_neg h]
 by_cases h2:a - b<0
 ·rw [if_pos h2]
  have:¬ b<a:=by grind
  simp [this]
 rw [if_neg h2]
 have:b<a:=by grind
 simp [this]
theorem qU_ (a b:Rat):mi (sgQ (a - b))=true ↔ a<b:=by
 unfold sgQ
 by_cases h:a - b=0
 ·have:a=b:=by grind
  subst this
  simp [Rat.lt_irrefl,Rat.sub_self]
 rw [if_neg h]
 by_cases h2:a - b<0
 ·rw [if_pos h2]
  have:a<b:=by grind
  simp [this]
 rw [if_neg h2]
 have:¬ a<b:=by grind
 simp [this]
theorem qo8 (t:Int→Bool) (f:Nat→Rat) (n:Nat) (h:0<n):∃ i,i<n∧f i=bst t f n:=by
 induction n with
 | zero=>omega
 | succ n ih =>
  unfold bst
  by_cases h0:n=0
  ·rw [if_pos h0];exact ⟨0,by omega,rfl⟩
  rw [if_neg h0]
  by_cases h1:t (sgQ (f n - bst t f n))=true
  ·rw [if_pos h1];exact ⟨n,by omega,rfl⟩
  rw [if_neg h1]
  obtain ⟨i,hi,e⟩:=ih om
  exact ⟨i,by omega,e⟩
theorem qC4 (f:Nat→Rat) (n:Nat):∀ i,i<n→f i≤bst mx f n:=by
 induction n with
 | zero=>intro i hi;omega
 | succ n ih =>
  intro i hi
  unfold bst
  by_cases h0:n=0
  ·rw [if_pos h0]
   obtain rfl:i=0:=by omega
   exact Rat.le_refl
  rw [if_neg h0]
  by_cases h1:mx (sgQ (f n - bst mx f n))=true
  ·rw [if_pos h1]
   have h2:=(qV2 _ _).1 h1
   rcases Nat.lt_or_ge i n with h|h
   ·have:=ih i h;grind
   obtain rfl:i=n:=by omega
   exact Rat.le_refl
  rw [if_neg h1]
  have h2:¬ bst mx f n<f n:=fun h=>h1 ((qV2 _ _).2 h)
  rcases Nat.lt_or_ge i n with h|h
  ·exact ih i h
  obtain rfl:i=n:=by omega
  exact Rat.not_lt.1 h2
theorem qC5 (f:Nat→Rat) (n:Nat):∀ i,i<n→bst mi f n≤f i:=by
 induction n with
 | zero=>intro i hi;omega
 | succ n ih =>
  intro i hi
  unfold bst
  by_cases h0:n=0
  ·rw [if_pos h0]
   obtain rfl:i=0:=by omega
   exact Rat.le_refl
  rw [if_neg h0]
  by_cases h1:mi (sgQ (f n - bst mi f n))=true
  ·rw [if_pos h1]
   have h2:=(qU_ _ _).1 h1
   rcases Nat.lt_or_ge i n with h|h
   ·have:=ih i h;grind
   obtain rfl:i=n:=by omega
   exact Rat.le_refl
  rw [if_neg h1]
  have h2:¬ f n<bst mi f n:=fun h=>h1 ((qU_ _ _).2 h)
  rcases Nat.lt_or_ge i n with h|h
  ·exact ih i h
  obtain rfl:i=n:=by omega
  exact Rat.not_lt.1 h2
def rot (f:Nat→Rat) (k n i:Nat):Rat:=if i<n - k then f (k+i) else f (i - (n - k))
theorem qX3 (f:Nat→Rat) (k n i:Nat) (hk:k<n) (hi:i<n):∃ j,j<n∧rot f k n i=f j:=by
 unfold rot
 split
 ·exact ⟨k+i,by omega,rfl⟩
 exact ⟨i - (n - k),by omega,rfl⟩
theorem qX4 (f:Nat→Rat) (k n j:Nat) (hk:k<n) (hj:j<n):∃ i,i<n∧rot f k n i=f j:=by
 unfold rot
 by_cases h:k≤j
 ·exact ⟨j - k,by omega,by rw [if_pos om,show k+(j - k)=j by omega]⟩
 exact ⟨j+(n - k),by omega,by rw [if_neg om,Nat.add_sub_cancel]⟩
theorem xq2 (f:Nat→Rat) (k n:Nat) (hk:k<n):bst mx (rot f k n) n=bst mx f n:=by
 obtain ⟨i,hi,ei⟩:=qo8 mx (rot f k n) n om
 obtain ⟨j,hj,ej⟩:=qo8 mx f n om
 obtain ⟨i',hi',ei'⟩:=qX3 f k n i hk hi
 obtain ⟨j',hj',ej'⟩:=qX4 f k n j hk hj
 have h1:=qC4 f n i' hi'
 have h2:=qC4 (rot f k n) n j' hj'
 rw [← ei',ei] at h1
 rw [ej',ej] at h2
 exact Rat.le_antisymm h1 h2
theorem xq3 (f:Nat→Rat) (k n:Nat) (hk:k<n):bst mi (rot f k n) n=bst mi f n:=by
 obtain ⟨i,hi,ei⟩:=qo8 mi (rot f k n) n om
 obtain ⟨j,hj,ej⟩:=qo8 mi f n om
 obtain ⟨i',hi',ei'⟩:=qX3 f k n i hk hi
 obtain ⟨j',hj',ej'⟩:=qX4 f k n j hk hj
 have h1:=qC5 f n i' hi'
 have h2:=qC5 (rot f k n) n j' hj'
 rw [← ei',ei] at h1
 rw [ej',ej] at h2
 exact Rat.le_antisymm h2 h1
theorem qJ1 (f:Nat→Rat) (n m:Nat):qsum f (n+m)=qsum f n+qsum (fun i=>f (n+i)) m:=by
 induction m with
 | zero=>show qsum f n=qsum f n+0;grind
 | succ m ih =>
  show qsum f (n+m)+f (n+m)=qsum f n+(qsum (fun i=>f (n+i)) m+f (n+m))
  rw [ih];grind
theorem qW8 (f g:Nat→Rat) (n:Nat) (h:∀ i,i<n→f i=g i):qsum f n=qsum g n:=by
 induction n with
 | zero=>rfl
 | succ n ih =>
  show qsum f n+f n=qsum g n+g n
  rw [ih (fun i hi=>h i om),h n om]
theorem xq4 (f:Nat→Rat) (k n:Nat) (hk:k<n):qsum (rot f k n) n=qsum f n:=by
 have h1:qsum (rot f k n) ((n - k)+k)=_:=qJ1 _ _ _
 have h2:qsum f (k+(n - k))=_:=qJ1 _ _ _
 rw [show n - k+k=n by omega] at h1
 rw [show k+(n - k)=n by omega] at h2
 rw [h1,h2,qW8 (rot f k n) (fun i=>f (k+i)) (n - k) (fun i hi=>by unfold rot;rw [if_pos hi]),qW8 (fun i=>rot f k n (n - k+i)) f k (fun i hi=>by
  show rot f k n (n - k+i)=_
  unfold rot
  rw [if_neg om,Nat.add_sub_cancel_left])]
 grind
theorem qX2 (f:Nat→Rat) (k n:Nat) (hk:k<n):fcs (fun i=>f (k+i)) (n - k) ++ fcs f k=fcs (rot f k n) n:=by
 have h1:fcs (rot f k n) ((n - k)+k)=_:=qC_ _ _ _
 rw [show n - k+k=n by omega] at h1
 rw [h1,xj_ (rot f k n) (fun i=>f (k+i)) (n - k) (fun i hi=>by unfold rot;rw [if_pos hi]),xj_ (fun i=>rot f k n (n - k+i)) f k (fun i hi=>by
  show rot f k n (n - k+i)=_
  unfold rot
  rw [if_neg om,Nat.add_sub_cancel_left])]
end Go.Proofs.YtobojnodohjiaaaGreatDoor

set_option linter.unusedVariables false
set_option linter.unusedSimpArgs false
namespace Go.Proofs.YtobojnodohjiaaaGreatDoor
open Go.RowKit
def Qs (w:World) (v:Value) (n:Nat) (N D:Nat→Int):Prop :=
 (∃ ao c,v=.slice ao n c∧n=0)∨∃ b o c,v=.slice (some ⟨b,o,none⟩) n c∧b<w.heap.size∧∀ i,i<n→w.cell? ⟨b,o+i*2,none⟩=some (.int .i64 (N i))∧w.cell? ⟨b,o+i*2+1,none⟩=some (.int .u32 (D i))
theorem Qs.slice {w:World} {v:Value} {n:Nat} {N D:Nat→Int} (h:Qs w v n N D):∃ ao c,v=.slice ao n c:=by
 rcases h with ⟨ao,c,rfl,_⟩|⟨b,o,c,rfl,_⟩
 ·exact ⟨_,_,rfl⟩
 exact ⟨_,_,rfl⟩
def Qb (n:Nat) (N D:Nat→Int):Prop:=∀ i,i<n → -9223372036854775808≤N i∧N i≤9223372036854775807∧0≤D i∧D i≤4294967295
end Go.Proofs.YtobojnodohjiaaaGreatDoor
