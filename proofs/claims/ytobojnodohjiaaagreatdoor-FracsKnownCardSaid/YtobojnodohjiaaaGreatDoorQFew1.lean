
/- gussetlaw03.few of 1. -/
import Derived.Test.YtobojnodohjiaaaGreatDoorGreatP
set_option maxRecDepth 100000
set_option maxHeartbeats 16000000
set_option linter.unusedVariables false
set_option linter.unusedSimpArgs false
namespace Go.Proofs.YtobojnodohjiaaaGreatDoor
open Go.RowKit
attribute [local go_sem ↓] Go.wp_at_zero Go.wp_at_succ
attribute [local go_sem ↓] eq_nat eq_nat_zero eq_int
theorem qi_ (b0:Bool) (ao00:Option Addr) (k00 c00:Nat) (ao01:Option Addr) (k01 c01:Nat) (C:Int) (g:Nat) (w:World) (bx9:Bx w g 83 #[.bool b0,(.slice ao00 k00 c00),(.slice ao01 k01 c01)]) (h00:(k00:Int)≤C) (h01:(k01:Int)≤C) :
  CB 127 #[.int .i64 C,.slice (some ⟨g,0,none⟩) 1 1] w (.bool true):=by
 have hw1:IntKind.i64.wrap 1=1:=by decide
 have hw2:IntKind.i64.wrap 2=2:=by decide
 have hw3:IntKind.i64.wrap 3=3:=by decide
 go_enter Tryz.func127,Tryz.ntmps127
 have I:=lh_ (hp0 w)
 have BX9:=lh_ bx9;clear bx9
 refine kSl fun K O=>?_;go_wp2
 refine kF_ O (I.out) fun Wx0 J=>?_;clear O K
 clear I;have I:=J;clear J
 refine wp_seq ?_
 refine kSl fun K O=>?_;go_wp2
 refine kF_ O (I.out) fun Wx1 J=>?_;clear O K
 clear I;have I:=J;clear J
 refine wp_block ?_
 refine wp_loop_rounds 12 ?_
 rw [rounds_succ]
 refine wp_seq ?_
 refine qb2 fun K O T Y=>?_
 iterate 4 refine tk ?_
 refine nz Y I O ?_;clear Y T I O K;intro vw1 I
 refine wp_cond_true (by rfl) ?_
 refine wp_skip ?_
 show Code.wp _ _ _ _ _
 refine wp_seq ?_
 refine wp_block ?_
 have hd1:¬ (C<((k00:Int))):=ok
 have hd2:¬ (C<((k01:Int))):=ok
 have lx9:=(BX9.out.gr I.out.1).cells
 refine qM3 fun K O T Y=>?_
 iterate 19 refine tk ?_
 refine nz Y I O ?_;clear Y T I lx9 O K;intro vw2 I
 clear hd1 hd2
 refine wp_cond_false (by rfl) ?_
 refine wp_skip ?_
 show Code.wp _ _ _ _ _
 refine kL fun K O=>?_
 refine sq3_ fun T Y=>?_
 refine tk3_ ?_
 refine nlS Y I fun vw3 J=>?_
 clear Y T I
 go_wp2
 refine O.out _ _ ?_;clear O K
 show Code.rounds _ _ _ _ _ _
 rw [rounds_succ]
 have I:=J;clear J
 refine wp_seq ?_
 refine qb2 fun K O T Y=>?_
 iterate 4 refine tk ?_
 refine nz Y I O ?_;clear Y T I O K;intro vw4 I
 refine wp_cond_false (by rfl) ?_
 refine wp_exit ?_
 show Code.wp _ _ _ _ _
 refine kSl fun K O=>?_;go_wp2
 refine kF_ O (I.out) fun Wx6 J=>?_;clear O K
 clear I;have I:=J;clear J
 refine wp_ret ?_
 try simp only [Exit.then,Exit.inBlock]
 exact bR ⟨rfl,I.out.1⟩ (by simp [results,Tryz.results127,go_sem])
end Go.Proofs.YtobojnodohjiaaaGreatDoor
