
/- (ints.Int).I64: the integer where it is an int64, else 0 and false. -/
import Derived.Test.YtobojnodohjiaaaGreatDoorRr7
import Derived.Test.YtobojnodohjiaaaGreatDoorRecW
import Derived.Test.YtobojnodohjiaaaGreatDoorGreatP
import Derived.Test.YtobojnodohjiaaaGreatDoorHp2
import Derived.Test.YtobojnodohjiaaaGreatDoorIntE
import Derived.Test.YtobojnodohjiaaaGreatDoorPJ
import Derived.Test.YtobojnodohjiaaaGreatDoorHp
set_option maxRecDepth 100000
set_option maxHeartbeats 16000000
set_option linter.unusedVariables false
set_option linter.unusedSimpArgs false
namespace Go.Proofs.YtobojnodohjiaaaGreatDoor
open Go.RowKit
attribute [local go_sem ↓] Go.wp_at_zero Go.wp_at_succ
theorem xz1 {n:Int} {d m:Nat} {a:Int} (hd:d≠0) (hc:n.natAbs.Coprime d):rfit ⟨n,d,hd,hc⟩ a m ↔ fit7 n d a m:=Iff.rfl
theorem xz0 {n:Int} {d m:Nat} (hd:d≠0) (hc:n.natAbs.Coprime d):rfar ⟨n,d,hd,hc⟩ m ↔ (2*(n.natAbs*n.natAbs)<m∧2*(d*d)<m):=Iff.rfl
theorem qI6 {d m:Nat} (h:2*(d*d)<m) (hm:m≤1000):d≤500:=by
 rcases Nat.lt_or_ge 500 d with h1|h1
 ·have:=Nat.mul_le_mul h1 h1;omega
 ·exact h1
def xo2 (a:Int) (m d k:Nat):Prop:=∀ n,n<k→Nat.gcd n d=1→¬ fit7 (n:Int) d a m∧¬ fit7 (-(n:Int)) d a m
theorem xi3 {a:Int} {m d n:Nat} {z:Rat} {b:Bool} {N D:Int} {x:Int} (hz:bk a m z b) (hN:(if b then z.num else 0)=N) (hD:(if b then (z.den:Int) else 0)=D) (hd:d≠0) (h1:2*(n*n)<m) (h2:2*(d*d)<m) (hx:x.natAbs=n) (hg:Nat.gcd n d=1) (hf:fit7 x d a m):x=N∧(d:Int)=D∧true=b:=by
 have hc:x.natAbs.Coprime d:=by rw [hx];exact hg
 obtain ⟨rfl,rfl⟩:=qy1 (f:=⟨x,d,hd,hc⟩) hz ((xz0 hd hc).2 ⟨by rw [hx];exact h1,h2⟩) ((xz1 hd hc).2 hf)
 exact ⟨hN,hD,rfl⟩
theorem xF2 {a:Int} {m:Nat} {z:Rat} {b:Bool} {N D:Int} (hz:bk a m z b) (hN:(if b then z.num else 0)=N) (hD:(if b then (z.den:Int) else 0)=D) (h:∀ d,1≤d→2*(d*d)<m→∀ n,2*(n*n)<m→Nat.gcd n d=1→¬ fit7 (n:Int) d a m∧¬ fit7 (-(n:Int)) d a m):(0:Int)=N∧(0:Int)=D∧false=b:=by
 rcases hz with ⟨rfl,h1,h2⟩|⟨rfl,_,_⟩
 ·exfalso
  obtain ⟨c1,c2⟩:=h z.den z.den_pos h1.2 z.num.natAbs h1.1 z.reduced
  have h2:fit7 z.num z.den a m:=h2
  rcases Int.natAbs_eq z.num with e|e
  ·rw [e] at h2;exact c1 h2
  ·rw [e] at h2;exact c2 h2
 ·exact ⟨hN,hD,rfl⟩
theorem xj1 (a:Int) (m:Nat) (z:Rat) (b:Bool) (N D:Int) (w:World) (hz:bk a m z b) (hN:(if b then z.num else 0)=N) (hD:(if b then (z.den:Int) else 0)=D) (ha1:-3000≤a) (ha2:a≤3000) (hm:m≤1000) :
  Calls Tryz.prog 25 #[.int .i64 a,.int .i64 (m:Int)] w fun e w'=>e=.returned (.tuple #[.int .i64 N,.int .i64 D,.bool b])∧Below w.heap.size w w':=by
 have HZ:=lh_ hz
 have HN:=lh_ hN
 have HD:=lh_ hD
 clear hz hN hD
 go_enter Tryz.func25,Tryz.ntmps25
 go_wp2
 go_loopg [7] 600 (fun k dv wr=>∃ d:Nat,dv=.int .i64 (d:Int)∧1≤d∧d≤501∧d+k=601∧Hid (Below w.heap.size w wr)∧Hid (∀ d',1≤d'→d'<d→2*(d'*d')<m→∀ n,2*(n*n)<m→Nat.gcd n d'=1→¬ fit7 (n:Int) d' a m∧¬ fit7 (-(n:Int)) d' a m))
 case atStart=>exact ⟨1,rfl,by omega,by omega,by omega,lh_ (Below.refl _ _),lh_ (fun d' h1 h2=>by omega)⟩
 case round =>
  rename_i J_ K_ h1_ h0_
  obtain ⟨d,rfl,hd1,hd2,hdk,HB,HE⟩:=hrel
  obtain ⟨ko,hko⟩:∃ ko,ko=gk:=⟨_,rfl⟩
  have hsq:((d*d:Nat):Int)≤501*501:=by have:=Nat.mul_le_mul hd2 hd2;omega
  have hx:2*(d:Int)*(d:Int)=((2*(d*d):Nat):Int):=by rw [Int.mul_assoc,← Int.natCast_mul];omega
  have hw1:IntKind.i64.wrap (2*(d:Int))=2*(d:Int):=qa7 om om
  have hw2:IntKind.i64.wrap (2*(d:Int)*(d:Int))=2*(d:Int)*(d:Int):=qa7 om om
  have hw3:IntKind.i64.wrap ((d:Int)+1)=(d:Int)+1:=qa7 om om
  by_cases hdm:2*(d*d)<m
  ·have hd500:=qI6 hdm hm
   have hlt:2*(d:Int)*(d:Int)<(m:Int):=by omega
   have HDM:=lh_ hdm
   clear hx hdm
   go_wp2
   clear hw1 hw2 hlt
   go_loopg [8] 600 (fun k nv wi=>∃ n:Nat,nv=.int .i64 (n:Int)∧n≤501∧n+k=600∧Hid (Below w.heap.size w wi)∧Hid (xo2 a m d n))
   case atStart=>exact ⟨0,rfl,by omega,by omega,HB,lh_ (fun n h=>absurd h (Nat.not_lt_zero _))⟩
   case round =>
    rename_i J2_ K2_ m1_ m0_
    clear HB
    obtain ⟨n,rfl,hn2,hnk,HB,HNN⟩:=hrel
    have hsq:((n*n:Nat):Int)≤501*501:=by have:=Nat.mul_le_mul hn2 hn2;omega
    have hx:2*(n:Int)*(n:Int)=((2*(n*n):Nat):Int):=by rw [Int.mul_assoc,← Int.natCast_mul];omega
    have hw1:IntKind.i64.wrap (2*(n:Int))=2*(n:Int):=qa7 om om
    have hw2:IntKind.i64.wrap (2*(n:Int)*(n:Int))=2*(n:Int)*(n:Int):=qa7 om om
    have hw4:IntKind.i64.wrap ((n:Int)+1)=(n:Int)+1:=qa7 om om
    have hw5:IntKind.i64.wrap (-(n:Int)) = -(n:Int):=qa7 om om
    by_cases hnm:2*(n*n)<m
    ·have hn500:=qI6 hnm hm
     have hlt:2*(n:Int)*(n:Int)<(m:Int):=by omega
     have HNM:=lh_ hnm
     clear hx hnm
     obtain ⟨c,HC⟩:∃ c,Hid (Nat.gcd n d=c):=⟨_,lh_ rfl⟩
     go_wp2_with fail
     refine (xz4 n d c _ HC.out om om hd1).mono ?_
     rintro e w1 ⟨rfl,hb1⟩
     have HB1:=lh_ (HB.out.trans (hb1.mono HB.out.size))
     clear hb1
     by_cases hc:c=1
     ·subst hc
      obtain ⟨b1,HF1⟩:∃ b1,Hid (decide (fit7 (n:Int) d a m)=b1):=⟨_,lh_ rfl⟩
      go_wp2_with fail
      refine (qV4 (n:Int) d a m b1 _ HF1.out om om ha1 ha2 om om).mono ?_
      rintro e w2 ⟨rfl,hb2⟩
      have HB2:=lh_ (HB1.out.trans (hb2.mono HB1.out.size))
      clear hb2
      cases b1
      ·obtain ⟨b2,HF2⟩:∃ b2,Hid (decide (fit7 (-(n:Int)) d a m)=b2):=⟨_,lh_ rfl⟩
       go_wp2_with fail
       refine (qV4 (-(n:Int)) d a m b2 _ HF2.out om om ha1 ha2 om om).mono ?_
       rintro e w3 ⟨rfl,hb3⟩
       have HB3:=lh_ (HB2.out.trans (hb3.mono HB2.out.size))
       clear hb3
       cases b2
       ·have HN2:Hid (xo2 a m d (n+1)):=lh_ (fun n' hn' hg'=>by
         rcases Nat.lt_succ_iff_lt_or_eq.1 hn' with h|rfl
         ·exact HNN.out n' h hg'
         ·exact ⟨of_decide_eq_false HF1.out,of_decide_eq_false HF2.out⟩)
        go_wp2
        go_roundg (gk - 1)
        case measure=>omega
        case rel=>exact ⟨n+1,by go_num,by omega,by omega,HB3,HN2⟩
       ·obtain ⟨e1,e2,e3⟩:=xi3 (x:=-(n:Int)) HZ.out HN.out HD.out om HNM.out HDM.out om HC.out (of_decide_eq_true HF2.out)
        subst e1 e2 e3
        go_wp2
        exact bodyPost_ret (v:=.tuple #[.int .i64 (-(n:Int)),.int .i64 (d:Int),.bool true]) (by simp [results,Tryz.results25,go_sem]) rfl ⟨rfl,HB3.out⟩
      ·obtain ⟨e1,e2,e3⟩:=xi3 (x:=(n:Int)) HZ.out HN.out HD.out om HNM.out HDM.out om HC.out (of_decide_eq_true HF1.out)
       subst e1 e2 e3
       go_wp2
       exact bodyPost_ret (v:=.tuple #[.int .i64 (n:Int),.int .i64 (d:Int),.bool true]) (by simp [results,Tryz.results25,go_sem]) rfl ⟨rfl,HB2.out⟩
     ·have hq:((c:Int) == 1)=false:=by simpa using (show ¬ (c:Int)=1 by omega)
      have hq2:¬ (c:Int)=1:=by omega
      have HN2:Hid (xo2 a m d (n+1)):=lh_ (fun n' hn' hg'=>by
       rcases Nat.lt_succ_iff_lt_or_eq.1 hn' with h|rfl
       ·exact HNN.out n' h hg'
       ·exact absurd (HC.out.symm.trans hg') hc)
      have HCC:=lh_ hc
      clear hc
      go_wp2
      go_roundg (gk - 1)
      case measure=>omega
      case rel=>exact ⟨n+1,by go_num,by omega,by omega,HB1,HN2⟩
    ·have hlt:¬ 2*(n:Int)*(n:Int)<(m:Int):=by omega
     have HE2:Hid (∀ d',1≤d'→d'<d+1→2*(d'*d')<m→∀ n,2*(n*n)<m→Nat.gcd n d'=1→¬ fit7 (n:Int) d' a m∧¬ fit7 (-(n:Int)) d' a m):=lh_ (fun d' h1 h2 h3 n' h4 h5=>by
      rcases Nat.lt_succ_iff_lt_or_eq.1 h2 with h|rfl
      ·exact HE.out d' h1 h h3 n' h4 h5
      ·refine HNN.out n' ?_ h5
       rcases Nat.lt_or_ge n' n with h|h
       ·exact h
       ·have:=Nat.mul_le_mul h h;omega)
     clear hx hnm
     go_wp2
     go_roundg (ko - 1)
     case measure=>omega
     case rel=>exact ⟨d+1,by go_num,by omega,by omega,by omega,HB,HE2⟩
  ·have hlt:¬ 2*(d:Int)*(d:Int)<(m:Int):=by omega
   obtain ⟨e1,e2,e3⟩:=xF2 HZ.out HN.out HD.out (fun d' h1 h2 n h3 h4=>by
    refine HE.out d' h1 ?_ h2 n h3 h4
    rcases Nat.lt_or_ge d' d with h|h
    ·exact h
    ·have:=Nat.mul_le_mul h h;omega)
   subst e1 e2 e3
   clear hx hdm
   go_wp2
   exact bodyPost_ret (v:=.tuple #[.int .i64 0,.int .i64 0,.bool false]) (by simp [results,Tryz.results25,go_sem]) rfl ⟨rfl,HB.out⟩
end Go.Proofs.YtobojnodohjiaaaGreatDoor

set_option maxRecDepth 100000
set_option maxHeartbeats 16000000
set_option linter.unusedVariables false
set_option linter.unusedSimpArgs false
namespace Go.Proofs.YtobojnodohjiaaaGreatDoor
open Go.RowKit
attribute [local go_sem ↓] Go.wp_at_zero Go.wp_at_succ
attribute [local go_sem ↓] qb8 qa3 qc8 qd9 qb7
attribute [local go_sem] Instr.field asAgg
theorem qp4 (a k:Int) (hk:0<k):-k<Int.tmod a k∧Int.tmod a k<k:=by
 have h:=Int.natAbs_tmod a k
 have:=Nat.mod_lt a.natAbs (show 0<k.natAbs by omega)
 omega
theorem qo0 {m k:Int} (h:0≤m) (hk:0<k):∃ r:Nat,Int.tmod m k=((r:Nat):Int)∧(r:Int)<k:=by
 have h1:=Int.emod_nonneg m (show k≠0 by omega)
 have h2:=Int.emod_lt_of_pos m hk
 exact ⟨(m % k).toNat,by rw [Int.tmod_eq_emod_of_nonneg h];omega,by omega⟩
theorem xd9 (z:Rat):((z.num:Int):Rat) / (((z.den:Nat):Int):Rat)=z:=by
 have h:=Rat.mkRat_eq_div z.num z.den
 rw [Rat.mkRat_self] at h
 exact h.symm
theorem qR6 {z:Rat} {m:Nat} (h:rfar z m) (hm:m≤400):-400≤z.num∧z.num≤400∧z.den≤400:=by
 have e1:=Nat.le_mul_self z.num.natAbs
 have e2:=Nat.le_mul_self z.den
 have:=h.1
 have:=h.2
 omega
theorem qW6 (n:Int):((n.natAbs*n.natAbs:Nat):Int)=n*n:=by
 rw [Int.natCast_mul]
 rcases Int.natAbs_eq n with e|e
 ·rw [← e]
 ·have e2:(n.natAbs:Int) = -n:=by omega
  rw [e2,Int.neg_mul_neg]
theorem far7 (q:Rat) (m:Nat) (b:Bool) (h:decide (rfar q m)=b):decide (2*q.num*q.num<(m:Int)∧2*((q.den:Nat):Int)*((q.den:Nat):Int)<(m:Int))=b:=by
 rw [← h]
 have e:(2*q.num*q.num<(m:Int)∧2*((q.den:Nat):Int)*((q.den:Nat):Int)<(m:Int)) ↔ rfar q m:=by
  have e1:=qW6 q.num
  have e2:(((q.den:Nat):Int)*((q.den:Nat):Int))=((q.den*q.den:Nat):Int):=(Int.natCast_mul _ _).symm
  rw [Int.mul_assoc,Int.mul_assoc,e2,← e1]
  unfold rfar
  omega
 by_cases c:rfar q m
 ·rw [decide_eq_true c,decide_eq_true (e.2 c)]
 ·rw [decide_eq_false c,decide_eq_false (fun h=>c (e.1 h))]
theorem xl2  (a m x:Int) (y:Nat) (z:Rat) (N D:Int) (w:World)  (ha1:-32768≤a) (ha2:a≤32767) (hm1:0≤m) (hm2:m≤65535) (HX:Hid (Int.tmod a 2001=x)) (HY:Hid (Int.tmod m 401=((y:Nat):Int))) (hx1:-2000≤x) (hx2:x≤2000) (hy9:y≤400) (HBX:Hid (bk x y z true)) (HN:Hid (z.num=N)) (HD:Hid (((z.den:Nat):Int)=D)) (HZD:Hid (((N:Int):Rat) / ((D:Int):Rat)=z)) (hn1:-400≤N) (hn2:N≤400) (hd1:0<D) (hd2:D≤400) (HT:Hid (Tab w)) :
  Calls Tryz.prog 4 #[.int .i16 a,.int .u16 m] w fun e w'=>e=.returned (.bool true)∧Below w.heap.size w w':=by
 have hwa:IntKind.i64.wrap a=a:=by rw [IntKind.wrap_i64];omega
 have hwm:IntKind.i64.wrap m=m:=by rw [IntKind.wrap_i64];omega
 have hwy:IntKind.u64.wrap ((y:Nat):Int)=((y:Nat):Int):=by rw [IntKind.wrap_u64];omega
 have hwy1:wl y≤1:=qa6 om
 go_enter Tryz.func4,Tryz.ntmps4
 have I:=lh_ (hp0 w)
 refine kS fun K O=>?_
 refine wp_region_lit ?_
 go_wp2
 refine kF_ O (I.out) fun Wx0 J=>?_;clear O K
 clear I;have I:=J;clear J
 have hrx:Int.tmod a 2001=x:=HX.out
 have hry:Int.tmod m 401=((y:Nat):Int):=HY.out
 refine ks8_ fun K O T Y=>?_
 iterate 8 refine tk ?_
 refine nlS Y I fun vw1 J=>?_
 clear Y T I
 go_wp2
 refine kO O ?_;clear O K
 have I:=J;clear J
 clear hrx hry
 have su1:wl x.natAbs≤2:=qi6 om om
 have su2:sz z≤1:=qj8 (HBX.out) om (by decide)
 refine ks9_ fun K O T Y=>?_
 refine tk ?_
 refine ck Tryz.call23 (fun w' hw=>qd3 x _ om om) ?_
 refine tk2_ ?_
 refine ck Tryz.call24 (fun w' hw=>nzof y _ ok) ?_
 refine ck Tryz.call22 (fun w' hw=>qt3 x y z true _ (HBX.out) om om) ?_
 refine tk3_ ?_
 refine nlS Y I fun vw2 J=>?_
 clear Y T I
 go_wp2
 refine kF_ O ((J.out).aL (vw2.heap.size)) fun Wx2 I=>?_;clear O K
 clear J
 generalize vw2.heap.size=gx1 at *
 refine qT2 fun K O T Y=>?_
 refine tk2_ ?_
 refine ck Tryz.call25 (fun w' hw=>xj1 x y z true N D _ HBX.out (HN.out) (HD.out) om om om) ?_
 iterate 7 refine tk ?_
 refine nlS Y I fun vw3 J=>?_
 clear Y T I
 go_wp2
 refine kO O ?_;clear O K
 have I:=J;clear J
 refine wp_seq ?_
 refine ks3_ fun K O T Y=>?_
 refine tk3_ ?_
 refine nlS Y I fun vw4 J=>?_
 clear Y T I
 go_wp2
 refine kO O ?_;clear O K
 have I:=J;clear J
 refine wp_cond_false (by rfl) ?_
 refine wp_skip ?_
 show Code.wp _ _ _ _ _
 have HB:=HPb I
 have HZ3:Hid (((N:Int):Rat) / ((D:Int):Rat)=z):=lh_ (HZD.out)
 have su3:sz z≤1:=by have e:=HZ3.out;first|omega|(rw [← e];exact qs9 N D om om om om)
 have lx1:=kc0_ I
 refine kS fun K O=>?_
 refine xy4 fun T Y=>?_
 refine tk3_ ?_
 iterate 3 refine sk ?_
 iterate 7 refine tk ?_
 refine ck Tryz.call26 (fun w' hw=>qp1 N D z _ (lh_ HZ3.out) om om om om om) ?_
 iterate 4 refine tk ?_
 refine ck Tryz.call27 (fun w' hw=>qa9 _ (lh_ (HT.out.gr (Gr.trans HB.out hw)))) ?_
 refine tk ?_
 refine nlD Y I fun vw5 J=>?_
 clear Y T I lx1 HB
 go_wp2
 refine kF_ O ((J.out).er 0) fun Wx6 I=>?_;clear O K
 clear J
 refine wp_ret ?_
 try simp only [Exit.then,Exit.inBlock]
 exact bodyPost_ret (v:=.bool true) (by simp [results,Tryz.results4,go_sem]) rfl ⟨rfl,I.out.1⟩
theorem xl1  (a m x:Int) (y:Nat) (w:World)  (ha1:-32768≤a) (ha2:a≤32767) (hm1:0≤m) (hm2:m≤65535) (HX:Hid (Int.tmod a 2001=x)) (HY:Hid (Int.tmod m 401=((y:Nat):Int))) (hx1:-2000≤x) (hx2:x≤2000) (hy9:y≤400) (HBX:Hid (bk x y 0 false)) (HT:Hid (Tab w)) :
  Calls Tryz.prog 4 #[.int .i16 a,.int .u16 m] w fun e w'=>e=.returned (.bool true)∧Below w.heap.size w w':=by
 have hwa:IntKind.i64.wrap a=a:=by rw [IntKind.wrap_i64];omega
 have hwm:IntKind.i64.wrap m=m:=by rw [IntKind.wrap_i64];omega
 have hwy:IntKind.u64.wrap ((y:Nat):Int)=((y:Nat):Int):=by rw [IntKind.wrap_u64];omega
 have hwy1:wl y≤1:=qa6 om
 go_enter Tryz.func4,Tryz.ntmps4
 have I:=lh_ (hp0 w)
 refine kS fun K O=>?_
 refine wp_region_lit ?_
 go_wp2
 refine kF_ O (I.out) fun Wx0 J=>?_;clear O K
 clear I;have I:=J;clear J
 have hrx:Int.tmod a 2001=x:=HX.out
 have hry:Int.tmod m 401=((y:Nat):Int):=HY.out
 refine ks8_ fun K O T Y=>?_
 iterate 8 refine tk ?_
 refine nlS Y I fun vw1 J=>?_
 clear Y T I
 go_wp2
 refine kO O ?_;clear O K
 have I:=J;clear J
 clear hrx hry
 have su1:wl x.natAbs≤2:=qi6 om om
 refine ks9_ fun K O T Y=>?_
 refine tk ?_
 refine ck Tryz.call23 (fun w' hw=>qd3 x _ om om) ?_
 refine tk2_ ?_
 refine ck Tryz.call24 (fun w' hw=>nzof y _ ok) ?_
 refine ck Tryz.call22 (fun w' hw=>qt3 x y 0 false _ (HBX.out) om om) ?_
 refine tk3_ ?_
 refine nlS Y I fun vw2 J=>?_
 clear Y T I
 go_wp2
 refine kF_ O ((J.out).aL (vw2.heap.size)) fun Wx2 I=>?_;clear O K
 clear J
 generalize vw2.heap.size=gx1 at *
 refine qT2 fun K O T Y=>?_
 refine tk2_ ?_
 refine ck Tryz.call25 (fun w' hw=>xj1 x y 0 false (0) (0) _ HBX.out (rfl) (rfl) om om om) ?_
 iterate 7 refine tk ?_
 refine nlS Y I fun vw3 J=>?_
 clear Y T I
 go_wp2
 refine kO O ?_;clear O K
 have I:=J;clear J
 refine wp_seq ?_
 refine ks3_ fun K O T Y=>?_
 refine tk3_ ?_
 refine nlS Y I fun vw4 J=>?_
 clear Y T I
 go_wp2
 refine kO O ?_;clear O K
 have I:=J;clear J
 refine wp_cond_false (by rfl) ?_
 refine wp_skip ?_
 show Code.wp _ _ _ _ _
 have HB:=HPb I
 have lx1:=kc0_ I
 refine kS fun K O=>?_
 refine xy4 fun T Y=>?_
 iterate 8 refine tk ?_
 iterate 8 refine sk ?_
 refine tk2_ ?_
 refine ck Tryz.call27 (fun w' hw=>qa9 _ (lh_ (HT.out.gr (Gr.trans HB.out hw)))) ?_
 refine tk ?_
 refine nlD Y I fun vw5 J=>?_
 clear Y T I lx1 HB
 go_wp2
 refine kF_ O ((J.out).er 0) fun Wx6 I=>?_;clear O K
 clear J
 refine wp_ret ?_
 try simp only [Exit.then,Exit.inBlock]
 exact bodyPost_ret (v:=.bool true) (by simp [results,Tryz.results4,go_sem]) rfl ⟨rfl,I.out.1⟩
theorem qO5 (a m:Int) (w:World) (ha1:-32768≤a) (ha2:a≤32767) (hm1:0≤m) (hm2:m≤65535) (HT:Hid (Tab w)) :
  Calls Tryz.prog 4 #[.int .i16 a,.int .u16 m] w fun e w'=>e=.returned (.bool true)∧Below w.heap.size w w':=by
 obtain ⟨x1,x2⟩:=qp4 a 2001 (by decide)
 obtain ⟨y,hy,hy2⟩:=qo0 hm1 (show (0:Int)<401 by decide)
 obtain ⟨z,b,hz⟩:=qO9 (Int.tmod a 2001) y
 cases b
 ·obtain rfl:z=0:=by rcases hz with ⟨h,_⟩|⟨_,h,_⟩; cases h;exact h
  exact xl1 a m _ y w ha1 ha2 hm1 hm2 (lh_ rfl) (lh_ hy) om om om (lh_ hz) HT
 ·have hf:rfar z y:=by rcases hz with ⟨_,h,_⟩|⟨h,_⟩; exact h;cases h
  obtain ⟨n1,n2,d2⟩:=qR6 hf om
  have d1:=z.den_pos
  exact xl2 a m _ y z _ _ w ha1 ha2 hm1 hm2 (lh_ rfl) (lh_ hy) om om om (lh_ hz) (lh_ rfl) (lh_ rfl) (lh_ (xd9 z)) n1 n2 om om HT
end Go.Proofs.YtobojnodohjiaaaGreatDoor

set_option maxRecDepth 100000
set_option maxHeartbeats 16000000
set_option linter.unusedVariables false
set_option linter.unusedSimpArgs false
namespace Go.Proofs.YtobojnodohjiaaaGreatDoor
open Go.RowKit
theorem xg_ {n:Nat} (h0:0<n) (h:n≤9223372036854775808):IntKind.i64.wrap (IntKind.u64.wrap (-(n:Int))) = -(n:Int):=by
 rw [IntKind.wrap_i64,IntKind.wrap_u64];omega
theorem xh0 {n:Nat} (h:n<9223372036854775808):IntKind.i64.wrap (n:Int)=(n:Int):=by
 rw [IntKind.wrap_i64];omega
theorem xn2 (n:Nat) (w:World) (h0:0<n) (h:n≤9223372036854775808) :
  Calls Tryz.prog 46 #[.agg #[.int .u64 (lo n),.string (bg n),.bool true]] w fun e w'=>e=.returned (.tuple #[.int .i64 (-(n:Int)),.bool true])∧Below w.heap.size w w':=by
 obtain ⟨W0,HW⟩:∃ W0,Hid ((w.alloc (.cells #[.int .u64 (lo n),.string (bg n),.bool true] 34))=W0):=⟨_,lh_ rfl⟩
 have HS:=lh_ (show w.heap.size+1=W0.heap.size by rw [← HW.out];simp)
 have z0:w.heap.size<W0.heap.size:=by rw [← HS.out];omega
 have c0_0:W0.cell? ⟨w.heap.size,0,none⟩=some (.int .u64 (lo n)):=by rw [← HW.out];simp [go_sem]
 have c0_1:W0.cell? ⟨w.heap.size,1,none⟩=some (.string (bg n)):=by rw [← HW.out];simp [go_sem]
 have c0_2:W0.cell? ⟨w.heap.size,2,none⟩=some (.bool true):=by rw [← HW.out];simp [go_sem]
 have f_0:W0.frozen? ⟨w.heap.size,0,none⟩=false:=by rw [← HW.out];simp [go_sem]
 have f_1:W0.frozen? ⟨w.heap.size,1,none⟩=false:=by rw [← HW.out];simp [go_sem]
 have f_2:W0.frozen? ⟨w.heap.size,2,none⟩=false:=by rw [← HW.out];simp [go_sem]
 have hbw:Below w.heap.size w W0:=by rw [← HW.out];exact (Below.refl _ _).alloc (Nat.le_refl _) _
 have HR:Hid (∀ w1:World,Below W0.heap.size W0 w1→w1.cell? ⟨w.heap.size,0,none⟩=some (.int .u64 (lo n))∧w1.cell? ⟨w.heap.size,1,none⟩=some (.string (bg n))∧w1.cell? ⟨w.heap.size,2,none⟩=some (.bool true)∧w1.frozen? ⟨w.heap.size,0,none⟩=false∧w1.frozen? ⟨w.heap.size,1,none⟩=false∧w1.frozen? ⟨w.heap.size,2,none⟩=false∧Below w.heap.size w w1):=fun w1 hb=>⟨(held W0 w1 hb _ _ z0).trans c0_0,(held W0 w1 hb _ _ z0).trans c0_1,(held W0 w1 hb _ _ z0).trans c0_2,(qc5 W0 w1 hb _ _ z0).trans f_0,(qc5 W0 w1 hb _ _ z0).trans f_1,(qc5 W0 w1 hb _ _ z0).trans f_2,grow hbw hb⟩
 have HBW:=lh_ hbw
 clear hbw
 have hw:=xg_ h0 h
 have hle:(n:Int)≤9223372036854775808:=by omega
 go_enter Tryz.func46,Tryz.ntmps46
 go_wp2_with fail
 rw [HW.out]
 refine (xd_ n n _ rfl om).mono ?_
 rintro e w1 ⟨rfl,hb1⟩
 clear c0_0 c0_1 c0_2 f_0 f_1 f_2 HBW;obtain ⟨c0_0,c0_1,c0_2,f_0,f_1,f_2,hbw⟩:=HR.out w1 hb1;have HBW:=lh_ hbw;clear hbw
 clear h0 h
 go_wp2_with fail
 go_ret2
 exact ⟨rfl,HBW.out⟩
theorem xn3 (n:Nat) (w:World) (h:n<9223372036854775808) :
  Calls Tryz.prog 46 #[.agg #[.int .u64 (lo n),.string (bg n),.bool false]] w fun e w'=>e=.returned (.tuple #[.int .i64 (n:Int),.bool true])∧Below w.heap.size w w':=by
 obtain ⟨W0,HW⟩:∃ W0,Hid ((w.alloc (.cells #[.int .u64 (lo n),.string (bg n),.bool false] 34))=W0):=⟨_,lh_ rfl⟩
 have HS:=lh_ (show w.heap.size+1=W0.heap.size by rw [← HW.out];simp)
 have z0:w.heap.size<W0.heap.size:=by rw [← HS.out];omega
 have c0_0:W0.cell? ⟨w.heap.size,0,none⟩=some (.int .u64 (lo n)):=by rw [← HW.out];simp [go_sem]
 have c0_1:W0.cell? ⟨w.heap.size,1,none⟩=some (.string (bg n)):=by rw [← HW.out];simp [go_sem]
 have c0_2:W0.cell? ⟨w.heap.size,2,none⟩=some (.bool false):=by rw [← HW.out];simp [go_sem]
 have f_0:W0.frozen? ⟨w.heap.size,0,none⟩=false:=by rw [← HW.out];simp [go_sem]
 have f_1:W0.frozen? ⟨w.heap.size,1,none⟩=false:=by rw [← HW.out];simp [go_sem]
 have f_2:W0.frozen? ⟨w.heap.size,2,none⟩=false:=by rw [← HW.out];simp [go_sem]
 have hbw:Below w.heap.size w W0:=by rw [← HW.out];exact (Below.refl _ _).alloc (Nat.le_refl _) _
 have HR:Hid (∀ w1:World,Below W0.heap.size W0 w1→w1.cell? ⟨w.heap.size,0,none⟩=some (.int .u64 (lo n))∧w1.cell? ⟨w.heap.size,1,none⟩=some (.string (bg n))∧w1.cell? ⟨w.heap.size,2,none⟩=some (.bool false)∧w1.frozen? ⟨w.heap.size,0,none⟩=false∧w1.frozen? ⟨w.heap.size,1,none⟩=false∧w1.frozen? ⟨w.heap.size,2,none⟩=false∧Below w.heap.size w w1):=fun w1 hb=>⟨(held W0 w1 hb _ _ z0).trans c0_0,(held W0 w1 hb _ _ z0).trans c0_1,(held W0 w1 hb _ _ z0).trans c0_2,(qc5 W0 w1 hb _ _ z0).trans f_0,(qc5 W0 w1 hb _ _ z0).trans f_1,(qc5 W0 w1 hb _ _ z0).trans f_2,grow hbw hb⟩
 have HBW:=lh_ hbw
 clear hbw
 have hw:=xh0 h
 have hlt:(n:Int)<9223372036854775808:=by omega
 go_enter Tryz.func46,Tryz.ntmps46
 go_wp2_with fail
 rw [HW.out]
 refine (xd_ n n _ rfl om).mono ?_
 rintro e w1 ⟨rfl,hb1⟩
 clear c0_0 c0_1 c0_2 f_0 f_1 f_2 HBW;obtain ⟨c0_0,c0_1,c0_2,f_0,f_1,f_2,hbw⟩:=HR.out w1 hb1;have HBW:=lh_ hbw;clear hbw
 clear h
 go_wp2_with fail
 go_ret2
 exact ⟨rfl,HBW.out⟩
def In64 (a:Int):Prop:=-9223372036854775808≤a∧a≤9223372036854775807
theorem xw2 (a:Int) (w:World) (h:In64 a) :
  Calls Tryz.prog 46 #[(Value.agg #[.int .u64 (lo a.natAbs),.string (bg a.natAbs),.bool (a<0)])] w fun e w'=>e=.returned (.tuple #[.int .i64 a,.bool true])∧Below w.heap.size w w':=by
 obtain ⟨h1,h2⟩:=h
 by_cases ha:a<0
 ·rw [decide_eq_true ha]
  have e:a = -((a.natAbs:Nat):Int):=by omega
  have:=xn2 a.natAbs w om om
  rw [← e] at this
  exact this
 ·rw [decide_eq_false ha]
  have e:a=((a.natAbs:Nat):Int):=by omega
  have:=xn3 a.natAbs w om
  rw [← e] at this
  exact this
end Go.Proofs.YtobojnodohjiaaaGreatDoor
