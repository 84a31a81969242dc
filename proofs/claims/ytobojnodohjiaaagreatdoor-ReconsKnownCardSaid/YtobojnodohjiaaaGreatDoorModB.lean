
/- mods: OfInt, OfFrac. -/
import Derived.Test.YtobojnodohjiaaaGreatDoorModP
import Derived.Test.YtobojnodohjiaaaGreatDoorRecA
import Derived.Test.YtobojnodohjiaaaGreatDoorPJ
import Derived.Test.YtobojnodohjiaaaGreatDoorHp
set_option maxRecDepth 100000
set_option maxHeartbeats 16000000
set_option linter.unusedVariables false
set_option linter.unusedSimpArgs false
namespace Go.Proofs.YtobojnodohjiaaaGreatDoor
open Go.RowKit
attribute [local go_sem ↓] Go.wp_at_zero Go.wp_at_succ
attribute [local go_sem ↓] qb8 qa3 qc8
attribute [local go_sem ↓] qb8 qa3 qd9 qb7
theorem xh2 (n:Int) (z:Nat) (w:World) (hz:n.natAbs=z) :
  Calls Tryz.prog 100 #[(Value.agg #[.int .u64 (lo n.natAbs),.string (bg n.natAbs),.bool (n<0)])] w fun e w'=>e=.returned (Value.agg #[.int .u64 (lo z),.string (bg z)])∧Below w.heap.size w w':=hz ▸ qf2 n w
theorem qT8 (a r:Int) (p z:Nat) (w:World) (HR:Hid (a % ((p:Nat):Int)=r)) (HZ:Hid (Int.natAbs r=z)) (hz:z<4294967296) (hp:0<p) (hp2:p<4294967296) (hwp:wl p≤1) (hwa:wl a.natAbs≤500) :
  Calls Tryz.prog 125 #[(Value.agg #[.int .u64 (lo a.natAbs),.string (bg a.natAbs),.bool (a<0)]),.int .u32 (((p:Nat):Int))] w fun e w'=>e=.returned ((.int .u32 ((z:Nat):Int)))∧Below w.heap.size w w':=by
 have hwp6:IntKind.u64.wrap ((p:Nat):Int)=((p:Nat):Int):=qe5 om
 have hwz:IntKind.u32.wrap ((z:Nat):Int)=((z:Nat):Int):=ql0 hz
 go_enter Tryz.func125,Tryz.ntmps125
 have I:=lh_ (hp0 w)
 refine kS fun K O=>?_
 refine wp_region_lit ?_
 go_wp2
 refine kF_ O ((I.out).aL (w.heap.size)) fun Wx0 J=>?_;clear O K
 clear I;have I:=J;clear J
 have HZ1:Hid ((if false then -((p:Nat):Int) else ((p:Nat):Int))=((p:Nat):Int)):=lh_ (by rfl)
 have su1:wl (Int.natAbs (((p:Nat):Int)))≤1:=by have e:=HZ1.out;first|omega|(rw [← e];split <;> simp <;> omega)
 obtain ⟨u2,HZ2⟩:∃ z,Hid (a / (((p:Nat):Int))=z):=⟨_,lh_ rfl⟩
 have su2:wl u2.natAbs≤501:=by rw [← HZ2.out];have:=qi0 a (((p:Nat):Int));omega
 have HZ3:Hid (a % (((p:Nat):Int))=r):=lh_ (HR.out)
 have su3:wl r.natAbs≤500:=by have e:=HZ3.out;first|omega|(rw [← e];have:=ql2 a (((p:Nat):Int)) om;omega)
 have lx0:=kc0_ I
 refine kS fun K O=>?_
 refine qa1 12 [10,11] [8,9] (fun i=>if i=10 then 5 else 6) (fun i=>if i=10 then .cells #[.int .u64 0,.string ⟨#[]⟩,.bool false] 34 else .cells #[.int .u64 0,.string ⟨#[]⟩,.bool false] 34) [(true,0),(true,1),(true,2),(true,3),(true,4),(true,5),(true,6),(true,7),(true,8),(true,9)] (by kernel_rfl) (by kernel_rfl) (by intro i hi;simp only [List.mem_cons,List.not_mem_nil,or_false] at hi;rcases hi with rfl|rfl <;> exact ⟨_,rfl,rfl,rfl,by simp,fun ρ w=>by kernel_rfl⟩) (by intro i hi;simp only [List.mem_cons,List.not_mem_nil,or_false] at hi;rcases hi with rfl|rfl <;> exact ⟨_,rfl,qa_⟩) (fun _ _ _ _ _ h=>h) (fun T Y=>?_)
 refine tk3_ ?_
 refine ck Tryz.call24 (fun w' hw=>nzof p _ ok) ?_
 refine ck Tryz.call37 (fun w' hw=>qb2 false p (((p:Nat):Int)) _ HZ1.out) ?_
 refine ck Tryz.call42 (fun w' hw=>qx_ a (((p:Nat):Int)) u2 r _ HZ2.out HZ3.out om om om) ?_
 iterate 4 refine tk ?_
 refine qa0 (Y.out _ _ ?_)
 intro G vw1 hg hf
 simp only [puts,Act.put,lA,lB,lC,lD,lE,↓reduceIte,Nat.reduceEqDiff]
 have J:=lh_ (I.out.fr hg hf (zs:=[(#[.int .u64 0,.string ⟨#[]⟩,.bool false],34),(#[.int .u64 0,.string ⟨#[]⟩,.bool false],34)]) rfl (by decide) (by decide))
 simp only [zq1_,zq2_,zq3_,zq4_,lF,lG] at J
 clear Y T I hg hf lx0
 generalize G 10=gx2 at *
 generalize G 11=gx3 at *
 have lx2:=kc1_ J;have fx2:=kf1_ J
 have lx3:=kc2_ J;have fx3:=kf2_ J
 have r0:=Gr.refl vw1
 obtain ⟨d2_3,d3_2⟩:=J.out.ne 1 2 rfl rfl (by decide)
 go_wp2
 refine kO O ?_;clear O K
 clear r0 lx2 fx2 lx3 fx3 d2_3 d3_2
 refine fH (((((((J.out).put2 1 0 rfl).put 1 2 _ rfl).put2 2 0 rfl).put 2 2 _ rfl).er 1).er 0) fun Wx1 I=>?_
 clear J
 have lx3:=kc0_ I
 refine ks8_ fun K O T Y=>?_
 refine tk ?_
 refine ck Tryz.call100 (fun w' hw=>xh2 r z _ (HZ.out)) ?_
 refine ck Tryz.call47 (fun w' hw=>xd_ z z _ rfl (by first|exact ok|(simp only [← HZ2.out] <;> first|exact ok))) ?_
 iterate 5 refine tk ?_
 refine nlS Y I fun vw2 J=>?_
 clear Y T I lx3
 go_wp2
 refine kF_ O ((J.out).er 0) fun Wx2 I=>?_;clear O K
 clear J
 refine wp_seq ?_
 refine ks2_ fun K O T Y=>?_
 refine tk2_ ?_
 refine nlS Y I fun vw3 J=>?_
 clear Y T I
 go_wp2
 refine kO O ?_;clear O K
 have I:=J;clear J
 refine wp_cond_false (by rfl) ?_
 refine wp_skip ?_
 show Code.wp _ _ _ _ _
 refine ks3_ fun K O T Y=>?_
 refine tk3_ ?_
 refine nlS Y I fun vw4 J=>?_
 clear Y T I
 go_wp2
 refine kO O ?_;clear O K
 have I:=J;clear J
 refine wp_ret ?_
 try simp only [Exit.then,Exit.inBlock]
 exact bodyPost_ret (v:=.int .u32 (((z:Nat):Int))) (by simp [results,Tryz.results125,go_sem]) rfl ⟨rfl,I.out.1⟩
theorem xF6 (q:Rat) (p d i n v:Nat) (w:World) (HD:Hid (Int.natAbs (((q.den:Nat):Int) % ((p:Nat):Int))=d)) (hd:d<4294967296) (HI:Hid (invs d p i true)) (hi:i<4294967296) (HN:Hid (Int.natAbs (q.num % ((p:Nat):Int))=n)) (hn:n<4294967296) (HV:Hid ((n*i) % p=v)) (hp:0<p) (hp2:p<4294967296) (hwp:wl p≤1) (hs:sz q≤400) :
  Calls Tryz.prog 52 #[(Value.agg #[.int .u64 (lo q.num.natAbs),.string (bg q.num.natAbs),.bool (q.num<0),.int .u64 (lo (q.den - 1)),.string (bg (q.den - 1))]),.int .u32 (((p:Nat):Int))] w fun e w'=>e=.returned ((.tuple #[.int .u32 ((v:Nat):Int),.bool true]))∧Below w.heap.size w w':=by
 go_enter Tryz.func52,Tryz.ntmps52
 have I:=lh_ (hp0 w)
 refine kS fun K O=>?_
 refine wp_region_lit ?_
 go_wp2
 refine kF_ O ((I.out).aL (w.heap.size)) fun Wx0 J=>?_;clear O K
 clear I;have I:=J;clear J
 have su1:wl (q.den)≤400:=Nat.le_trans (qb_ _) om
 have sp1:0<(q).den:=(q).den_pos
 have HZ2:Hid ((if false then -((q.den:Nat):Int) else ((q.den:Nat):Int))=((q.den:Nat):Int)):=lh_ (by rfl)
 have su2:wl (Int.natAbs (((q.den:Nat):Int)))≤400:=by have e:=HZ2.out;first|omega|(rw [← e];split <;> simp <;> omega)
 have lx0:=kc0_ I
 refine xx0 fun K O T Y=>?_
 refine tk ?_
 refine ck Tryz.call38 (fun w' hw=>qf5 q _ om) ?_
 refine ck Tryz.call37 (fun w' hw=>qb2 false (q.den) (((q.den:Nat):Int)) _ HZ2.out) ?_
 refine tk ?_
 refine ck Tryz.call125 (fun w' hw=>qT8 (((q.den:Nat):Int)) _ p d _ (lh_ rfl) (lh_ (HD.out)) hd hp hp2 hwp om) ?_
 refine tk ?_
 refine ck Tryz.call124 (fun w' hw=>minv d p i true _ (HI.out) om hp hp2) ?_
 iterate 5 refine tk ?_
 refine nlS Y I fun vw1 J=>?_
 clear Y T I lx0
 go_wp2
 refine kO O ?_;clear O K
 have I:=J;clear J
 refine wp_seq ?_
 refine ks2_ fun K O T Y=>?_
 refine tk2_ ?_
 refine nlS Y I fun vw2 J=>?_
 clear Y T I
 go_wp2
 refine kO O ?_;clear O K
 have I:=J;clear J
 refine wp_cond_false (by rfl) ?_
 refine wp_skip ?_
 show Code.wp _ _ _ _ _
 have su3:wl q.num.natAbs≤400:=Nat.le_trans (qc3 _) om
 have lx0:=kc0_ I
 refine ks9_ fun K O T Y=>?_
 refine tk ?_
 refine ck Tryz.call40 (fun w' hw=>qh8 q _) ?_
 refine tk ?_
 refine ck Tryz.call125 (fun w' hw=>qT8 (q.num) _ p n _ (lh_ rfl) (lh_ (HN.out)) hn hp hp2 hwp om) ?_
 refine tk2_ ?_
 refine ck Tryz.call126 (fun w' hw=>mmul n i p v _ (HV.out) om om hp hp2) ?_
 refine tk2_ ?_
 refine nlS Y I fun vw3 J=>?_
 clear Y T I lx0
 go_wp2
 refine kF_ O ((J.out).er 0) fun Wx4 I=>?_;clear O K
 clear J
 refine wp_ret ?_
 try simp only [Exit.then,Exit.inBlock]
 exact bodyPost_ret (v:=.tuple #[.int .u32 (((v:Nat):Int)),.bool true]) (by simp [results,Tryz.results52,go_sem]) rfl ⟨rfl,I.out.1⟩
theorem xF5 (q:Rat) (p d:Nat) (w:World) (HD:Hid (Int.natAbs (((q.den:Nat):Int) % ((p:Nat):Int))=d)) (hd:d<4294967296) (HI:Hid (invs d p 0 false)) (hp:0<p) (hp2:p<4294967296) (hwp:wl p≤1) (hs:sz q≤400) :
  Calls Tryz.prog 52 #[(Value.agg #[.int .u64 (lo q.num.natAbs),.string (bg q.num.natAbs),.bool (q.num<0),.int .u64 (lo (q.den - 1)),.string (bg (q.den - 1))]),.int .u32 (((p:Nat):Int))] w fun e w'=>e=.returned ((.tuple #[.int .u32 0,.bool false]))∧Below w.heap.size w w':=by
 go_enter Tryz.func52,Tryz.ntmps52
 have I:=lh_ (hp0 w)
 refine kS fun K O=>?_
 refine wp_region_lit ?_
 go_wp2
 refine kF_ O ((I.out).aL (w.heap.size)) fun Wx0 J=>?_;clear O K
 clear I;have I:=J;clear J
 have su1:wl (q.den)≤400:=Nat.le_trans (qb_ _) om
 have sp1:0<(q).den:=(q).den_pos
 have HZ2:Hid ((if false then -((q.den:Nat):Int) else ((q.den:Nat):Int))=((q.den:Nat):Int)):=lh_ (by rfl)
 have su2:wl (Int.natAbs (((q.den:Nat):Int)))≤400:=by have e:=HZ2.out;first|omega|(rw [← e];split <;> simp <;> omega)
 have lx0:=kc0_ I
 refine xx0 fun K O T Y=>?_
 refine tk ?_
 refine ck Tryz.call38 (fun w' hw=>qf5 q _ om) ?_
 refine ck Tryz.call37 (fun w' hw=>qb2 false (q.den) (((q.den:Nat):Int)) _ HZ2.out) ?_
 refine tk ?_
 refine ck Tryz.call125 (fun w' hw=>qT8 (((q.den:Nat):Int)) _ p d _ (lh_ rfl) (lh_ (HD.out)) hd hp hp2 hwp om) ?_
 refine tk ?_
 refine ck Tryz.call124 (fun w' hw=>minv d p 0 false _ (HI.out) om hp hp2) ?_
 iterate 5 refine tk ?_
 refine nlS Y I fun vw1 J=>?_
 clear Y T I lx0
 go_wp2
 refine kO O ?_;clear O K
 have I:=J;clear J
 refine wp_seq ?_
 refine ks2_ fun K O T Y=>?_
 refine tk2_ ?_
 refine nlS Y I fun vw2 J=>?_
 clear Y T I
 go_wp2
 refine kO O ?_;clear O K
 have I:=J;clear J
 refine wp_cond_true (by rfl) ?_
 refine kS fun K O=>?_
 refine wp_region_lit ?_
 go_wp2
 refine kF_ O (I.out) fun Wx3 J=>?_;clear O K
 clear I;have I:=J;clear J
 refine wp_ret ?_
 try simp only [Exit.then,Exit.inBlock]
 exact bodyPost_ret (v:=.tuple #[.int .u32 0,.bool false]) (by simp [results,Tryz.results52,go_sem]) rfl ⟨rfl,I.out.1⟩
theorem mof (q:Rat) (p v:Nat) (b:Bool) (w:World) (h:ofs q p v b) (hp:0<p) (hp2:p<4294967296) (hs:sz q≤400) :
  Calls Tryz.prog 52 #[(Value.agg #[.int .u64 (lo q.num.natAbs),.string (bg q.num.natAbs),.bool (q.num<0),.int .u64 (lo (q.den - 1)),.string (bg (q.den - 1))]),.int .u32 ((p:Nat):Int)] w fun e w'=>e=.returned (.tuple #[.int .u32 ((v:Nat):Int),.bool b])∧Below w.heap.size w w':=by
 have hwp:wl p≤1:=qa6 hp2
 have e1:=Int.emod_nonneg ((q.den:Nat):Int) (show ((p:Nat):Int)≠0 by omega)
 have e2:=Int.emod_lt_of_pos ((q.den:Nat):Int) (show (0:Int)<((p:Nat):Int) by omega)
 have e3:=Int.emod_nonneg q.num (show ((p:Nat):Int)≠0 by omega)
 have e4:=Int.emod_lt_of_pos q.num (show (0:Int)<((p:Nat):Int) by omega)
 have hdm:Int.natAbs (((q.den:Nat):Int) % ((p:Nat):Int))=q.den % p:=rfl
 obtain ⟨i,b',hi⟩:=qS5 (q.den % p) p hp
 rcases hi with ⟨rfl,h1,h2⟩|⟨rfl,rfl,h2⟩
 ·have hg:=qw2 h2
  rw [qr8] at hg
  obtain rfl:b=true:=by rcases h with ⟨hb,_⟩|⟨_,_,hn⟩; exact hb;exact absurd hg hn
  have hv:=xo4 h hp rfl hdm h2
  exact xF6 q p _ i _ v w (lh_ hdm) om (lh_ (.inl ⟨rfl,h1,h2⟩)) om (lh_ rfl) om (lh_ hv) hp hp2 hwp hs
 ·have hg:=h2
  rw [qr8] at hg
  obtain ⟨rfl,rfl⟩:0=v∧false=b:=by rcases h with ⟨_,hn,_⟩|⟨hb,hv,_⟩; exact absurd hn hg;exact ⟨hv.symm,hb.symm⟩
  exact xF5 q p _ w (lh_ hdm) om (lh_ (.inr ⟨rfl,rfl,h2⟩)) hp hp2 hwp hs
end Go.Proofs.YtobojnodohjiaaaGreatDoor
