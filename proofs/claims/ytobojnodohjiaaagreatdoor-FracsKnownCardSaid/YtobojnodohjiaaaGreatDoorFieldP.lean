
/- plain facts of FracsField. -/
import Derived.Test.YtobojnodohjiaaaGreatDoorGreatP
set_option maxRecDepth 100000
set_option maxHeartbeats 16000000
set_option linter.unusedVariables false
set_option linter.unusedSimpArgs false
namespace Go.Proofs.YtobojnodohjiaaaGreatDoor
open Go.RowKit
attribute [local go_sem ↓] Go.wp_at_zero Go.wp_at_succ
attribute [local go_sem ↓] eq_nat eq_nat_zero eq_int
theorem qJ0 (b0:Bool) (ao00:Option Addr) (k00 c00:Nat) (ao01:Option Addr) (k01 c01:Nat) (b1:Bool) (ao10:Option Addr) (k10 c10:Nat) (ao11:Option Addr) (k11 c11:Nat) (b2:Bool) (ao20:Option Addr) (k20 c20:Nat) (ao21:Option Addr) (k21 c21:Nat) (C:Int) (g:Nat) (w:World) (bx9:Bx w g 83 #[.bool b0,(.slice ao00 k00 c00),(.slice ao01 k01 c01),.bool b1,(.slice ao10 k10 c10),(.slice ao11 k11 c11),.bool b2,(.slice ao20 k20 c20),(.slice ao21 k21 c21)]) (h00:(k00:Int)≤C) (h01:(k01:Int)≤C) (h10:(k10:Int)≤C) (h11:(k11:Int)≤C) (h20:(k20:Int)≤C) (h21:(k21:Int)≤C) :
  CB 127 #[.int .i64 C,.slice (some ⟨g,0,none⟩) 3 3] w (.bool true):=by
 have hw1:IntKind.i64.wrap 1=1:=by decide
 have hw2:IntKind.i64.wrap 2=2:=by decide
 have hw3:IntKind.i64.wrap 3=3:=by decide
 go_enter Tryz.func127,Tryz.ntmps127
 have I:=lh_ (hp0 w)
 have BX9:=lh_ bx9;clear bx9
 refine kSl fun K O=>?_;go_wp2
 refine kF_ O (I.out) fun Wx0 J=>?_;clear O K
 clear I;have I:=J;clear J
 refine wp_seq ?_
 refine kSl fun K O=>?_;go_wp2
 refine kF_ O (I.out) fun Wx1 J=>?_;clear O K
 clear I;have I:=J;clear J
 refine wp_block ?_
 refine wp_loop_rounds 12 ?_
 rw [rounds_succ]
 refine wp_seq ?_
 refine qb2 fun K O T Y=>?_
 iterate 4 refine tk ?_
 refine nz Y I O ?_;clear Y T I O K;intro vw1 I
 refine wp_cond_true (by rfl) ?_
 refine wp_skip ?_
 show Code.wp _ _ _ _ _
 refine wp_seq ?_
 refine wp_block ?_
 have hd1:¬ (C<((k00:Int))):=ok
 have hd2:¬ (C<((k01:Int))):=ok
 have lx9:=(BX9.out.gr I.out.1).cells
 refine qM3 fun K O T Y=>?_
 iterate 19 refine tk ?_
 refine nz Y I O ?_;clear Y T I lx9 O K;intro vw2 I
 clear hd1 hd2
 refine wp_cond_false (by rfl) ?_
 refine wp_skip ?_
 show Code.wp _ _ _ _ _
 refine kL fun K O=>?_
 refine sq3_ fun T Y=>?_
 refine tk3_ ?_
 refine nlS Y I fun vw3 J=>?_
 clear Y T I
 go_wp2
 refine O.out _ _ ?_;clear O K
 show Code.rounds _ _ _ _ _ _
 rw [rounds_succ]
 have I:=J;clear J
 refine wp_seq ?_
 refine qb2 fun K O T Y=>?_
 iterate 4 refine tk ?_
 refine nz Y I O ?_;clear Y T I O K;intro vw4 I
 refine wp_cond_true (by rfl) ?_
 refine wp_skip ?_
 show Code.wp _ _ _ _ _
 refine wp_seq ?_
 refine wp_block ?_
 have hd3:¬ (C<((k10:Int))):=ok
 have hd4:¬ (C<((k11:Int))):=ok
 have lx9:=(BX9.out.gr I.out.1).cells
 refine qM3 fun K O T Y=>?_
 iterate 19 refine tk ?_
 refine nz Y I O ?_;clear Y T I lx9 O K;intro vw5 I
 clear hd3 hd4
 refine wp_cond_false (by rfl) ?_
 refine wp_skip ?_
 show Code.wp _ _ _ _ _
 refine kL fun K O=>?_
 refine sq3_ fun T Y=>?_
 refine tk3_ ?_
 refine nlS Y I fun vw6 J=>?_
 clear Y T I
 go_wp2
 refine O.out _ _ ?_;clear O K
 show Code.rounds _ _ _ _ _ _
 rw [rounds_succ]
 have I:=J;clear J
 refine wp_seq ?_
 refine qb2 fun K O T Y=>?_
 iterate 4 refine tk ?_
 refine nz Y I O ?_;clear Y T I O K;intro vw7 I
 refine wp_cond_true (by rfl) ?_
 refine wp_skip ?_
 show Code.wp _ _ _ _ _
 refine wp_seq ?_
 refine wp_block ?_
 have hd5:¬ (C<((k20:Int))):=ok
 have hd6:¬ (C<((k21:Int))):=ok
 have lx9:=(BX9.out.gr I.out.1).cells
 refine qM3 fun K O T Y=>?_
 iterate 19 refine tk ?_
 refine nz Y I O ?_;clear Y T I lx9 O K;intro vw8 I
 clear hd5 hd6
 refine wp_cond_false (by rfl) ?_
 refine wp_skip ?_
 show Code.wp _ _ _ _ _
 refine kL fun K O=>?_
 refine sq3_ fun T Y=>?_
 refine tk3_ ?_
 refine nlS Y I fun vw9 J=>?_
 clear Y T I
 go_wp2
 refine O.out _ _ ?_;clear O K
 show Code.rounds _ _ _ _ _ _
 rw [rounds_succ]
 have I:=J;clear J
 refine wp_seq ?_
 refine qb2 fun K O T Y=>?_
 iterate 4 refine tk ?_
 refine nz Y I O ?_;clear Y T I O K;intro vw10 I
 refine wp_cond_false (by rfl) ?_
 refine wp_exit ?_
 show Code.wp _ _ _ _ _
 refine kSl fun K O=>?_;go_wp2
 refine kF_ O (I.out) fun Wx6 J=>?_;clear O K
 clear I;have I:=J;clear J
 refine wp_ret ?_
 try simp only [Exit.then,Exit.inBlock]
 exact bR ⟨rfl,I.out.1⟩ (by simp [results,Tryz.results127,go_sem])
end Go.Proofs.YtobojnodohjiaaaGreatDoor

set_option linter.unusedVariables false
set_option linter.unusedSimpArgs false
namespace Go.Proofs.YtobojnodohjiaaaGreatDoor
open Go.RowKit
attribute [local go_sem ↓] Go.wp_at_zero Go.wp_at_succ
theorem qB0 (a b c:Rat):sgQ (a+c - (b+c))=sgQ (a - b):=by
 congr 1;grind
theorem qu2 (a:Rat):(a<0∧sgQ a = -1)∨(a=0∧sgQ a=0)∨(0<a∧sgQ a=1):=by
 by_cases h0:a=0
 ·subst h0;exact .inr (.inl ⟨rfl,rfl⟩)
 by_cases h:a<0
 ·exact .inl ⟨h,qk0 h⟩
 have:0<a:=Rat.lt_of_le_of_ne (Rat.not_lt.1 h) (fun e=>h0 e.symm)
 exact .inr (.inr ⟨this,qp8 this⟩)
theorem qn6 (a b:Rat):sgQ (a*b)=sgQ a*sgQ b:=by
 rcases qu2 a with ⟨h1,e1⟩|⟨h1,e1⟩|⟨h1,e1⟩ <;> rcases qu2 b with ⟨h2,e2⟩|⟨h2,e2⟩|⟨h2,e2⟩ <;> rw [e1,e2]
 ·exact qp8 (by have:=Rat.mul_pos (a:=-a) (b:=-b) (by have:=Rat.neg_lt_neg h1;rwa [Rat.neg_zero] at this) (by have:=Rat.neg_lt_neg h2;rwa [Rat.neg_zero] at this);rwa [Rat.neg_mul,Rat.mul_neg,Rat.neg_neg] at this)
 ·subst h2;rw [Rat.mul_zero];rfl
 ·exact qk0 ((Rat.mul_neg_iff_of_pos_right h2).2 h1)
 ·subst h1;rw [Rat.zero_mul];rfl
 ·subst h1;rw [Rat.zero_mul];rfl
 ·subst h1;rw [Rat.zero_mul];rfl
 ·exact qk0 ((Rat.mul_neg_iff_of_pos_left h1).2 h2)
 ·subst h2;rw [Rat.mul_zero];rfl
 exact qp8 (Rat.mul_pos h1 h2)
theorem qw0 (a b c:Rat):sgQ (a*c - b*c)=sgQ (a - b)*sgQ c:=by
 rw [← qn6];congr 1;grind
theorem sgQ_flip (a b:Rat):sgQ (b - a) = -sgQ (a - b):=by
 have e:b - a=(a - b)*(-1):=by grind
 rw [e,qn6,show sgQ (-1) = -1 from by decide +kernel];omega
theorem sgQ_one (a:Rat):-1≤sgQ a∧sgQ a≤1:=by
 rcases qu2 a with ⟨_,e⟩|⟨_,e⟩|⟨_,e⟩ <;> rw [e] <;> decide
theorem sgQ_pone (a b:Rat):-1≤sgQ a*sgQ b∧sgQ a*sgQ b≤1:=by rw [← qn6];exact sgQ_one _
theorem qx9 {a b:Rat} (h:a<b):a - b<0:=by grind
theorem qx_ {a b:Rat} (h:b<a):0<a - b:=by grind
theorem qI5 (a:Rat) (k:Int) (h:k≠0):mkRat (a.num*(if false=true then -((k.natAbs:Nat):Int) else ((k.natAbs:Nat):Int))) (a.den*k.natAbs)=a:=by
 rw [if_neg (by decide),Rat.mkRat_mul_right om,Rat.mkRat_self]
theorem qI4 (f:Int):mkRat f 1=(f:Rat):=(Rat.mk_eq_mkRat f 1 (by decide) (by simp)).symm
end Go.Proofs.YtobojnodohjiaaaGreatDoor
