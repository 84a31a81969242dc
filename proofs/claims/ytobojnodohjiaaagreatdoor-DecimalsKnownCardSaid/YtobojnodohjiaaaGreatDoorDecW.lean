
/- gussetlaw04: works. -/
import Derived.Test.YtobojnodohjiaaaGreatDoorDecW0
import Derived.Test.YtobojnodohjiaaaGreatDoorIntE
import Derived.Test.YtobojnodohjiaaaGreatDoorPJ
set_option maxRecDepth 100000
set_option maxHeartbeats 16000000
set_option linter.unusedVariables false
set_option linter.unusedSimpArgs false
namespace Go.Proofs.YtobojnodohjiaaaGreatDoor
open Go.RowKit
attribute [local go_sem ↓] Go.wp_at_zero Go.wp_at_succ
attribute [local go_sem ↓] eq_nat eq_nat_zero eq_int
attribute [local go_sem ↓] qh7 qd0 eq_nat eq_nat_zero
theorem worksd_any  (w:World)  (HT:Hid (Tab w)) :
  CB 64 #[] w (.bool true):=by
 go_enter Tryz.func64,Tryz.ntmps64
 have I:=lh_ (hp0 w)
 refine kSl fun K O=>?_;go_wp2
 refine kF_ O (I.out) fun Wx0 J=>?_;clear O K
 clear I;have I:=J;clear J
 have HZ1:Hid (((1:Int):Rat) / ((8:Int):Rat)=(1/8:Rat)):=lh_ (by decide +kernel)
 have su1:sz ((1/8:Rat))≤4:=qc9 (qa2.2 (by decide +kernel)) (qa2.2 (by decide +kernel))
 refine ks1_ fun K O T Y=>?_
 refine ck Tryz.call166 (fun w' hw=>qe9 (1) (8) (1/8:Rat) _ (lh_ HZ1.out) (by decide) om om om om) ?_
 refine nlS Y I fun vw1 J=>?_
 clear Y T I
 go_wp2
 refine kF_ O ((J.out).aL (vw1.heap.size)) fun Wx1 I=>?_;clear O K
 clear J
 generalize vw1.heap.size=gx1 at *
 refine wp_seq ?_
 have HB:=HPb I
 have HZ2:Hid (((3:Int):Rat) / ((8:Int):Rat)=(3/8:Rat)):=lh_ (by decide +kernel)
 have su2:sz ((3/8:Rat))≤4:=qc9 (qa2.2 (by decide +kernel)) (qa2.2 (by decide +kernel))
 have HZ3:Hid (((-1:Int):Rat) / ((8:Int):Rat)=(-1/8:Rat)):=lh_ (by decide +kernel)
 have su3:sz ((-1/8:Rat))≤4:=qc9 (qa2.2 (by decide +kernel)) (qa2.2 (by decide +kernel))
 have HZ4:Hid (((-1:Int):Rat) / ((8:Int):Rat)=(-1/8:Rat)):=lh_ (by decide +kernel)
 have su4:sz ((-1/8:Rat))≤4:=qc9 (qa2.2 (by decide +kernel)) (qa2.2 (by decide +kernel))
 have HZ5:Hid (((-1:Int):Rat) / ((1000:Int):Rat)=(-1/1000:Rat)):=lh_ (by decide +kernel)
 have su5:sz ((-1/1000:Rat))≤4:=qc9 (qa2.2 (by decide +kernel)) (qa2.2 (by decide +kernel))
 have HZ6:Hid (((5:Int):Rat) / ((2:Int):Rat)=(5/2:Rat)):=lh_ (by decide +kernel)
 have su6:sz ((5/2:Rat))≤4:=qc9 (qa2.2 (by decide +kernel)) (qa2.2 (by decide +kernel))
 have lx1:=kc0_ I
 refine xP3 fun K O T Y=>?_
 refine tk ?_
 refine ck Tryz.call167 (fun w' hw=>qg5 (1/8:Rat) 2 (1) ⟨#[48,46,49,50]⟩ _ (lh_ (by rw [show rnd (1) ((1/8:Rat)*(((10 ^ 2:Nat):Int):Rat))=(12) from by decide +kernel];exact qm1 (l:=[49,50]) (ql_ 2 (by decide +kernel) (by decide +kernel)) (by decide +kernel))) (by decide) (by decide) (by decide) om (lh_ (HT.out.gr (Gr.trans HB.out hw)))) ?_
 refine tk3_ ?_
 refine ck Tryz.call167 (fun w' hw=>qg5 (1/8:Rat) 2 (2) ⟨#[48,46,49,51]⟩ _ (lh_ (by rw [show rnd (2) ((1/8:Rat)*(((10 ^ 2:Nat):Int):Rat))=(13) from by decide +kernel];exact qm1 (l:=[49,51]) (ql_ 2 (by decide +kernel) (by decide +kernel)) (by decide +kernel))) (by decide) (by decide) (by decide) om (lh_ (HT.out.gr (Gr.trans HB.out hw)))) ?_
 iterate 4 refine tk ?_
 refine ck Tryz.call167 (fun w' hw=>qg5 (1/8:Rat) 2 (3) ⟨#[48,46,49,50]⟩ _ (lh_ (by rw [show rnd (3) ((1/8:Rat)*(((10 ^ 2:Nat):Int):Rat))=(12) from by decide +kernel];exact qm1 (l:=[49,50]) (ql_ 2 (by decide +kernel) (by decide +kernel)) (by decide +kernel))) (by decide) (by decide) (by decide) om (lh_ (HT.out.gr (Gr.trans HB.out hw)))) ?_
 refine tk3_ ?_
 refine ck Tryz.call166 (fun w' hw=>qe9 (3) (8) (3/8:Rat) _ (lh_ HZ2.out) (by decide) om om om om) ?_
 refine ck Tryz.call167 (fun w' hw=>qg5 (3/8:Rat) 2 (3) ⟨#[48,46,51,56]⟩ _ (lh_ (by rw [show rnd (3) ((3/8:Rat)*(((10 ^ 2:Nat):Int):Rat))=(38) from by decide +kernel];exact qm1 (l:=[51,56]) (ql_ 2 (by decide +kernel) (by decide +kernel)) (by decide +kernel))) (by decide) (by decide) (by decide) om (lh_ (HT.out.gr (Gr.trans HB.out hw)))) ?_
 refine tk3_ ?_
 refine ck Tryz.call166 (fun w' hw=>qe9 (-1) (8) (-1/8:Rat) _ (lh_ HZ3.out) (by decide) om om om om) ?_
 refine ck Tryz.call167 (fun w' hw=>qg5 (-1/8:Rat) 2 (1) ⟨#[45,48,46,49,51]⟩ _ (lh_ (by rw [show rnd (1) ((-1/8:Rat)*(((10 ^ 2:Nat):Int):Rat))=(-13) from by decide +kernel];exact qm1 (l:=[49,51]) (ql_ 2 (by decide +kernel) (by decide +kernel)) (by decide +kernel))) (by decide) (by decide) (by decide) om (lh_ (HT.out.gr (Gr.trans HB.out hw)))) ?_
 refine tk3_ ?_
 refine ck Tryz.call166 (fun w' hw=>qe9 (-1) (8) (-1/8:Rat) _ (lh_ HZ4.out) (by decide) om om om om) ?_
 refine ck Tryz.call167 (fun w' hw=>qg5 (-1/8:Rat) 2 (2) ⟨#[45,48,46,49,50]⟩ _ (lh_ (by rw [show rnd (2) ((-1/8:Rat)*(((10 ^ 2:Nat):Int):Rat))=(-12) from by decide +kernel];exact qm1 (l:=[49,50]) (ql_ 2 (by decide +kernel) (by decide +kernel)) (by decide +kernel))) (by decide) (by decide) (by decide) om (lh_ (HT.out.gr (Gr.trans HB.out hw)))) ?_
 refine tk3_ ?_
 refine ck Tryz.call166 (fun w' hw=>qe9 (-1) (1000) (-1/1000:Rat) _ (lh_ HZ5.out) (by decide) om om om om) ?_
 refine ck Tryz.call167 (fun w' hw=>qg5 (-1/1000:Rat) 2 (2) ⟨#[48,46,48,48]⟩ _ (lh_ (by rw [show rnd (2) ((-1/1000:Rat)*(((10 ^ 2:Nat):Int):Rat))=(0) from by decide +kernel];exact qm1 (l:=[48]) (ql_ 1 (by decide +kernel) (by decide +kernel)) (by decide +kernel))) (by decide) (by decide) (by decide) om (lh_ (HT.out.gr (Gr.trans HB.out hw)))) ?_
 refine tk3_ ?_
 refine ck Tryz.call166 (fun w' hw=>qe9 (5) (2) (5/2:Rat) _ (lh_ HZ6.out) (by decide) om om om om) ?_
 refine ck Tryz.call167 (fun w' hw=>qg5 (5/2:Rat) 0 (3) ⟨#[50]⟩ _ (lh_ (by rw [show rnd (3) ((5/2:Rat)*(((10 ^ 0:Nat):Int):Rat))=(2) from by decide +kernel];exact qm1 (l:=[50]) (ql_ 1 (by decide +kernel) (by decide +kernel)) (by decide +kernel))) (by decide) (by decide) (by decide) om (lh_ (HT.out.gr (Gr.trans HB.out hw)))) ?_
 refine tk2_ ?_
 refine nzR Y O (fun w2 hg=>(I.out.gr hg).er 0) ?_;clear Y T I lx1 HB O K;intro Wx2 I
 refine wp_cond_false (by rfl) ?_
 refine wp_skip ?_
 show Code.wp _ _ _ _ _
 have HZ7:Hid (((2:Int):Rat) / ((3:Int):Rat)=(2/3:Rat)):=lh_ (by decide +kernel)
 have su7:sz ((2/3:Rat))≤4:=qc9 (qa2.2 (by decide +kernel)) (qa2.2 (by decide +kernel))
 have HZ8:Hid (rdd (2) (2/3:Rat) 1=(7/10:Rat)):=lh_ (by decide +kernel)
 have su8:sz ((7/10:Rat))≤17:=qc9 (qa2.2 (by decide +kernel)) (qa2.2 (by decide +kernel))
 refine ks5_ fun K O T Y=>?_
 refine ck Tryz.call166 (fun w' hw=>qe9 (2) (3) (2/3:Rat) _ (lh_ HZ7.out) (by decide) om om om om) ?_
 refine ck Tryz.call168 (fun w' hw=>qd9 (2) (2/3:Rat) 1 (7/10:Rat) _ HZ8.out om om om om) ?_
 refine tk3_ ?_
 refine nlS Y I fun vw3 J=>?_
 clear Y T I
 go_wp2
 refine kF_ O ((J.out).aL (vw3.heap.size)) fun Wx4 I=>?_;clear O K
 clear J
 generalize vw3.heap.size=gx2 at *
 have HZ9:Hid (((-1:Int):Rat) / ((3:Int):Rat)=(-1/3:Rat)):=lh_ (by decide +kernel)
 have su9:sz ((-1/3:Rat))≤4:=qc9 (qa2.2 (by decide +kernel)) (qa2.2 (by decide +kernel))
 have HZ10:Hid (rdd 1 (-1/3:Rat) 1=(-2/5:Rat)):=lh_ (by decide +kernel)
 have su10:sz ((-2/5:Rat))≤17:=qc9 (qa2.2 (by decide +kernel)) (qa2.2 (by decide +kernel))
 have HZ11:Hid (rdd 2 (-1/3:Rat) 1=(-3/10:Rat)):=lh_ (by decide +kernel)
 have su11:sz ((-3/10:Rat))≤17:=qc9 (qa2.2 (by decide +kernel)) (qa2.2 (by decide +kernel))
 refine ks6_ fun K O T Y=>?_
 refine ck Tryz.call166 (fun w' hw=>qe9 (-1) (3) (-1/3:Rat) _ (lh_ HZ9.out) (by decide) om om om om) ?_
 refine ck Tryz.call169 (fun w' hw=>qh3 (-1/3:Rat) (-2/5:Rat) (-3/10:Rat) 1 _ (lh_ HZ10.out) (lh_ HZ11.out) om om) ?_
 iterate 4 refine tk ?_
 refine nlS Y I fun vw4 J=>?_
 clear Y T I
 go_wp2
 refine kF_ O (((J.out).aL (vw4.heap.size)).aL (vw4.heap.size+1)) fun Wx5 I=>?_;clear O K
 clear J
 generalize vw4.heap.size+1=gx4 at *
 generalize vw4.heap.size=gx3 at *
 have HZ12:Hid (((1:Int):Rat)=(1:Rat)):=lh_ (by decide +kernel)
 have su12:sz ((1:Rat))≤2:=qc9 (qa2.2 (by decide +kernel)) (qa2.2 (by decide +kernel))
 refine ks7_ fun K O T Y=>?_
 refine ck Tryz.call147 (fun w' hw=>qb9 (1) (1:Rat) _ HZ12.out om om) ?_
 refine ck Tryz.call170 (fun w' hw=>qp3 (1:Rat) (101) (1) (3) _ (by decide) (by decide) om) ?_
 iterate 5 refine tk ?_
 refine nz Y I O ?_;clear Y T I O K;intro vw5 I
 have HZ13:Hid (((1:Int):Rat)=(1:Rat)):=lh_ (by decide +kernel)
 have su13:sz ((1:Rat))≤2:=qc9 (qa2.2 (by decide +kernel)) (qa2.2 (by decide +kernel))
 refine ks7_ fun K O T Y=>?_
 refine ck Tryz.call147 (fun w' hw=>qb9 (1) (1:Rat) _ HZ13.out om om) ?_
 refine ck Tryz.call170 (fun w' hw=>qp3 (1:Rat) (0) (4) (1) _ (by decide) (by decide) om) ?_
 iterate 5 refine tk ?_
 refine nz Y I O ?_;clear Y T I O K;intro vw6 I
 refine wp_seq ?_
 have HZ14:Hid (((7:Int):Rat) / ((10:Int):Rat)=(7/10:Rat)):=lh_ (by decide +kernel)
 have su14:sz ((7/10:Rat))≤4:=qc9 (qa2.2 (by decide +kernel)) (qa2.2 (by decide +kernel))
 have HZ15:Hid (((-2:Int):Rat) / ((5:Int):Rat)=(-2/5:Rat)):=lh_ (by decide +kernel)
 have su15:sz ((-2/5:Rat))≤4:=qc9 (qa2.2 (by decide +kernel)) (qa2.2 (by decide +kernel))
 have HZ16:Hid (((-3:Int):Rat) / ((10:Int):Rat)=(-3/10:Rat)):=lh_ (by decide +kernel)
 have su16:sz ((-3/10:Rat))≤4:=qc9 (qa2.2 (by decide +kernel)) (qa2.2 (by decide +kernel))
 have lx2:=kc0_ I
 have lx3:=kc1_ I
 have lx4:=kc2_ I
 refine kS fun K O=>?_
 refine pd3_ fun T Y=>?_
 refine tk ?_
 refine ck Tryz.call166 (fun w' hw=>qe9 (7) (10) (7/10:Rat) _ (lh_ HZ14.out) (by decide) om om om om) ?_
 refine tk3_ ?_
 refine ck Tryz.call166 (fun w' hw=>qe9 (-2) (5) (-2/5:Rat) _ (lh_ HZ15.out) (by decide) om om om om) ?_
 iterate 4 refine tk ?_
 refine ck Tryz.call166 (fun w' hw=>qe9 (-3) (10) (-3/10:Rat) _ (lh_ HZ16.out) (by decide) om om om om) ?_
 iterate 13 refine tk ?_
 refine nlD Y I fun vw7 J=>?_
 clear Y T I lx2 lx3 lx4
 go_wp2
 refine kF_ O ((((J.out).er 2).er 1).er 0) fun Wx8 I=>?_;clear O K
 clear J
 refine wp_cond_false (by rfl) ?_
 refine wp_skip ?_
 show Code.wp _ _ _ _ _
 refine wp_seq ?_
 have HB:=HPb I
 refine xl_ fun K O T Y=>?_
 refine ck Tryz.call171 (fun w' hw=>qM8 ⟨#[45,49,46,50,53]⟩ ⟨#[45,53,47,52]⟩ (-5/4:Rat) _ (lh_ (by decide +kernel)) (lh_ (by decide +kernel)) (lh_ (by decide +kernel)) (by decide) (qc9 (qa2.2 (by decide +kernel)) (qa2.2 (by decide +kernel))) (lh_ (HT.out.gr (Gr.trans HB.out hw)))) ?_
 refine tk2_ ?_
 refine ck Tryz.call171 (fun w' hw=>qu1 ⟨#[48,48,55]⟩ _ (lh_ (by decide +kernel)) (lh_ (by decide +kernel)) (by decide) (lh_ (HT.out.gr (Gr.trans HB.out hw)))) ?_
 refine tk3_ ?_
 refine ck Tryz.call171 (fun w' hw=>qu1 ⟨#[49,46]⟩ _ (lh_ (by decide +kernel)) (lh_ (by decide +kernel)) (by decide) (lh_ (HT.out.gr (Gr.trans HB.out hw)))) ?_
 refine tk3_ ?_
 refine ck Tryz.call171 (fun w' hw=>qu1 ⟨#[46,53]⟩ _ (lh_ (by decide +kernel)) (lh_ (by decide +kernel)) (by decide) (lh_ (HT.out.gr (Gr.trans HB.out hw)))) ?_
 refine tk3_ ?_
 refine ck Tryz.call171 (fun w' hw=>qu1 ⟨#[45,48,46,48]⟩ _ (lh_ (by decide +kernel)) (lh_ (by decide +kernel)) (by decide) (lh_ (HT.out.gr (Gr.trans HB.out hw)))) ?_
 refine tk3_ ?_
 refine ck Tryz.call171 (fun w' hw=>qM8 ⟨#[51,46,49,48]⟩ ⟨#[51,49,47,49,48]⟩ (31/10:Rat) _ (lh_ (by decide +kernel)) (lh_ (by decide +kernel)) (lh_ (by decide +kernel)) (by decide) (qc9 (qa2.2 (by decide +kernel)) (qa2.2 (by decide +kernel))) (lh_ (HT.out.gr (Gr.trans HB.out hw)))) ?_
 refine tk2_ ?_
 refine nz Y I O ?_;clear Y T I HB O K;intro vw8 I
 refine wp_cond_false (by rfl) ?_
 refine wp_skip ?_
 show Code.wp _ _ _ _ _
 have HZ17:Hid (((1:Int):Rat) / ((109:Int):Rat)=(1/109:Rat)):=lh_ (by decide +kernel)
 have su17:sz ((1/109:Rat))≤4:=qc9 (qa2.2 (by decide +kernel)) (qa2.2 (by decide +kernel))
 refine ks9_ fun K O T Y=>?_
 refine ck Tryz.call166 (fun w' hw=>qe9 (1) (109) (1/109:Rat) _ (lh_ HZ17.out) (by decide) om om om om) ?_
 refine ck Tryz.call67 (fun w' hw=>qf8 (1/109:Rat) 0 0 3 _ (by decide +kernel) om) ?_
 iterate 7 refine tk ?_
 refine nz Y I O ?_;clear Y T I O K;intro vw9 I
 have HZ18:Hid (((1:Int):Rat) / ((6:Int):Rat)=(1/6:Rat)):=lh_ (by decide +kernel)
 have su18:sz ((1/6:Rat))≤4:=qc9 (qa2.2 (by decide +kernel)) (qa2.2 (by decide +kernel))
 have HZ19:Hid (((1:Int):Rat) / ((7:Int):Rat)=(1/7:Rat)):=lh_ (by decide +kernel)
 have su19:sz ((1/7:Rat))≤4:=qc9 (qa2.2 (by decide +kernel)) (qa2.2 (by decide +kernel))
 have HZ20:Hid (((-1:Int):Rat) / ((8:Int):Rat)=(-1/8:Rat)):=lh_ (by decide +kernel)
 have su20:sz ((-1/8:Rat))≤4:=qc9 (qa2.2 (by decide +kernel)) (qa2.2 (by decide +kernel))
 have HZ21:Hid (((3:Int):Rat)=(3:Rat)):=lh_ (by decide +kernel)
 have su21:sz ((3:Rat))≤2:=qc9 (qa2.2 (by decide +kernel)) (qa2.2 (by decide +kernel))
 refine qB5 fun K O T Y=>?_
 refine ck Tryz.call166 (fun w' hw=>qe9 (1) (6) (1/6:Rat) _ (lh_ HZ18.out) (by decide) om om om om) ?_
 refine ck Tryz.call172 (fun w' hw=>qk9 (1/6:Rat) (1) (1) _ (lh_ (by decide +kernel)) om) ?_
 refine tk ?_
 refine ck Tryz.call166 (fun w' hw=>qe9 (1) (7) (1/7:Rat) _ (lh_ HZ19.out) (by decide) om om om om) ?_
 refine ck Tryz.call172 (fun w' hw=>qk9 (1/7:Rat) (0) (6) _ (lh_ (by decide +kernel)) om) ?_
 refine tk2_ ?_
 refine ck Tryz.call166 (fun w' hw=>qe9 (-1) (8) (-1/8:Rat) _ (lh_ HZ20.out) (by decide) om om om om) ?_
 refine ck Tryz.call172 (fun w' hw=>qk9 (-1/8:Rat) (3) (0) _ (lh_ (by decide +kernel)) om) ?_
 refine tk2_ ?_
 refine ck Tryz.call147 (fun w' hw=>qb9 (3) (3:Rat) _ HZ21.out om om) ?_
 refine ck Tryz.call172 (fun w' hw=>qk9 (3:Rat) (0) (0) _ (lh_ (by decide +kernel)) om) ?_
 iterate 6 refine tk ?_
 refine nz Y I O ?_;clear Y T I O K;intro vw10 I
 refine wp_ret ?_
 try simp only [Exit.then,Exit.inBlock]
 exact bR ⟨rfl,I.out.1⟩ (by simp [results,Tryz.results64,go_sem])
end Go.Proofs.YtobojnodohjiaaaGreatDoor
