
/- DecimalsCycle: the law's walk. -/
import Derived.Test.YtobojnodohjiaaaGreatDoorRCyc
import Derived.Test.YtobojnodohjiaaaGreatDoorDecW
import Derived.Test.YtobojnodohjiaaaGreatDoorPL
import Derived.Test.YtobojnodohjiaaaGreatDoorPN
import Derived.Test.YtobojnodohjiaaaGreatDoorIntE
set_option maxRecDepth 100000
set_option maxHeartbeats 16000000
set_option linter.unusedVariables false
set_option linter.unusedSimpArgs false
namespace Go.Proofs.YtobojnodohjiaaaGreatDoor
open Go.RowKit
attribute [local go_sem ↓] Go.wp_at_zero Go.wp_at_succ
attribute [local go_sem ↓] eq_nat eq_nat_zero eq_int qh7 qd0
attribute [local go_sem] Instr.field asAgg
theorem qI1 (n d:Int) (a:Rat) (c1 c2 c3:Int) (w:World) (HA0:Hid (qv n d=a)) (HC:Hid (cyc a.den=(c1,c2,c3))) (h1:-9223372036854775808≤n) (h2:n≤9223372036854775807) (h3:0≤d) (h4:d≤4294967295) (HT:Hid (Tab w)) :
  CB 14 #[.agg #[.int .i64 n,.int .u32 d]] w (.bool true):=by
 go_enter Tryz.func14,Tryz.ntmps14
 have I:=lh_ (hp0 w)
 refine kSl fun K O=>?_;go_wp2
 refine kF_ O (al1_ I) fun Wx0 J=>?_;clear O K
 clear I;have I:=J;clear J
 have HZ1:Hid (qv n d=a):=lh_ (HA0.out)
 have su1:sz a≤4:=by have e:=HZ1.out;first|omega|(rw [← e];exact xR4 n d om om om om)
 have lx0:=kc0_ I
 refine qy5 fun K O T Y=>?_
 refine tk ?_
 refine ck Tryz.call50 (fun w' hw=>xI6 n d a _ HZ1.out om om om om) ?_
 refine ck Tryz.call67 (fun w' hw=>qf8 a c1 c2 c3 _ (HC.out) om) ?_
 iterate 7 refine tk ?_
 refine nz Y I O ?_;clear Y T I lx0 O K;intro vw1 I
 have HZ2:Hid (qv n d=a):=lh_ (HA0.out)
 have su2:rz a≤10:=by have e:=HZ2.out;first|omega|(rw [← e];exact xR2 n d om om om om)
 have lx0:=kc0_ I
 refine kS fun K O=>?_
 have HG0:Hid (Gr vw1 vw1):=lh_ (Gr.refl _)
 refine qu9 fun T Y=>?_
 refine tk ?_
 refine ce2 Tryz.call69 HG0 (fun w' hw=>xz8 n d a _ HZ2.out om om om om) ?_;clear HG0;intro vv2 HG0 _ ao1 nn1 cc1 ao2 nn2 cc2 RN2 RN3
 clear lx0;have lx0:=fun w' (h:Gr _ w')=>kc0_ I w' (HG0.out.trans h)
 refine ck Tryz.call68 (fun w' hw=>xn9 a c1 c2 c3 _ _ _ (HC.out) om (RN2.out.gr hw) (RN3.out.gr hw)) ?_
 iterate 7 refine tk ?_
 refine nzR Y O (fun w2 hg=>(((((I.out.gr (HG0.out.trans hg)).ar (RN2.out.gr hg)).ar (RN3.out.gr hg)).er 2).er 1).er 0) ?_;clear Y T I HG0 RN2 RN3 lx0 O K;intro Wx2 I
 have HB:=HPb I
 refine xP2 fun K O T Y=>?_
 iterate 14 refine tk ?_
 refine ck Tryz.call64 (fun w' hw=>worksd_any _ (lh_ (HT.out.gr (Gr.trans HB.out hw)))) ?_
 refine tk2_ ?_
 refine nz Y I O ?_;clear Y T I HB O K;intro vw3 I
 refine wp_ret ?_
 try simp only [Exit.then,Exit.inBlock]
 exact bR ⟨rfl,I.out.1⟩ (by simp [results,Tryz.results14,go_sem])
theorem cycled_law (n d:Int) (w:World) (h1:-9223372036854775808≤n) (h2:n≤9223372036854775807) (h3:0≤d) (h4:d≤4294967295) (HT:Hid (Tab w)) :
  CB 14 #[.agg #[.int .i64 n,.int .u32 d]] w (.bool true) :=
 qI1 n d _ _ _ _ w (lh_ rfl) (lh_ rfl) h1 h2 h3 h4 HT
end Go.Proofs.YtobojnodohjiaaaGreatDoor
