
/- ReconsFits: the law's walk. -/
import Derived.Test.YtobojnodohjiaaaGreatDoorI64
set_option maxRecDepth 100000
set_option maxHeartbeats 16000000
set_option linter.unusedVariables false
set_option linter.unusedSimpArgs false
namespace Go.Proofs.YtobojnodohjiaaaGreatDoor
open Go.RowKit
attribute [local go_sem ↓] Go.wp_at_zero Go.wp_at_succ
attribute [local go_sem ↓] qb8 qa3 qc8 qd9 qb7
attribute [local go_sem] Instr.field asAgg
theorem xv8 (q:Rat) (z:Nat) (w:World) (hz:q.den=z) (hs:sz q≤1000) :
  Calls Tryz.prog 38 #[(Value.agg #[.int .u64 (lo q.num.natAbs),.string (bg q.num.natAbs),.bool (q.num<0),.int .u64 (lo (q.den - 1)),.string (bg (q.den - 1))])] w fun e w'=>e=.returned (Value.agg #[.int .u64 (lo z),.string (bg z)])∧Below w.heap.size w w':=hz ▸ qf5 q w (Nat.le_trans hs (by decide))
theorem qM3 {N:Int} {D:Nat} {q:Rat} (hq:((N:Int):Rat) / ((((D:Nat):Int)+1:Int):Rat)=q) (h1:-300≤N) (h2:N≤300) (h3:D≤59):-300≤q.num∧q.num≤300∧q.den≤60:=by
 have e:mkRat N (D+1)=q:=by
  rw [← hq,Rat.mkRat_eq_div]
  rfl
 obtain ⟨m,hm,k1,k2⟩:=Rat.mkRat_num_den (n:=N) (d:=D+1) (n':=q.num) (d':=q.den) (z':=q.den_nz) (c:=q.reduced) om e
 have hd:=q.den_pos
 have e2:q.den*1≤q.den*m:=Nat.mul_le_mul_left _ om
 have e3:N.natAbs=q.num.natAbs*m:=by rw [k1,Int.natAbs_mul,Int.natAbs_natCast]
 have e4:q.num.natAbs*1≤q.num.natAbs*m:=Nat.mul_le_mul_left _ om
 omega
theorem qK3  (n a d m N x P:Int) (D y E:Nat) (q:Rat) (b1 b2:Bool) (w:World)  (hn1:-32768≤n) (hn2:n≤32767) (ha1:-32768≤a) (ha2:a≤32767) (hd1:0≤d) (hd2:d≤65535) (hm1:0≤m) (hm2:m≤65535) (HN:Hid (Int.tmod n 301=N)) (HX:Hid (Int.tmod a 301=x)) (HD:Hid (Int.tmod d 60=((D:Nat):Int))) (HY:Hid (Int.tmod m 401=((y:Nat):Int))) (hN1:-300≤N) (hN2:N≤300) (hx1:-300≤x) (hx2:x≤300) (hD9:D≤59) (hy9:y≤400) (HQ:Hid (((N:Int):Rat) / ((((D:Nat):Int)+1:Int):Rat)=q)) (HP:Hid (q.num=P)) (HDN:Hid (q.den=E)) (hP1:-300≤P) (hP2:P≤300) (hE1:0<E) (hE2:E≤60) (HF1:Hid (decide (rfit q x y)=b1)) (HF2:Hid (decide (rfar q y)=b2)) (HT:Hid (Tab w)) :
  Calls Tryz.prog 9 #[.int .i16 n,.int .i16 a,.int .u16 d,.int .u16 m] w fun e w'=>e=.returned (.bool true)∧Below w.heap.size w w':=by
 have hwE:IntKind.i64.wrap ((E:Nat):Int)=((E:Nat):Int):=by rw [IntKind.wrap_i64];omega
 have hwn:IntKind.i64.wrap n=n:=by rw [IntKind.wrap_i64];omega
 have hwa:IntKind.i64.wrap a=a:=by rw [IntKind.wrap_i64];omega
 have hwm:IntKind.i64.wrap m=m:=by rw [IntKind.wrap_i64];omega
 have hwy:IntKind.u64.wrap ((y:Nat):Int)=((y:Nat):Int):=by rw [IntKind.wrap_u64];omega
 have hwy1:wl y≤1:=qa6 om
 go_enter Tryz.func9,Tryz.ntmps9
 have I:=lh_ (hp0 w)
 refine kS fun K O=>?_
 refine wp_region_lit ?_
 go_wp2
 refine kF_ O (I.out) fun Wx0 J=>?_;clear O K
 clear I;have I:=J;clear J
 have hrn:Int.tmod n 301=N:=HN.out
 have hrd:Int.tmod d 60=((D:Nat):Int):=HD.out
 have hwD:IntKind.i64.wrap ((D:Nat):Int)=((D:Nat):Int):=by rw [IntKind.wrap_i64];omega
 have hwD1:IntKind.i64.wrap (((D:Nat):Int)+1)=((D:Nat):Int)+1:=by rw [IntKind.wrap_i64];omega
 have HZ1:Hid (((N:Int):Rat) / ((((D:Nat):Int)+1:Int):Rat)=q):=lh_ (HQ.out)
 have su1:sz q≤4:=by have e:=HZ1.out;first|omega|(rw [← e];exact qs9 N (((D:Nat):Int)+1) om om om om)
 refine ks8_ fun K O T Y=>?_
 iterate 7 refine tk ?_
 refine ck Tryz.call26 (fun w' hw=>qp1 N (((D:Nat):Int)+1) q _ (lh_ HZ1.out) om om om om om) ?_
 refine nlS Y I fun vw1 J=>?_
 clear Y T I
 go_wp2
 refine kF_ O ((J.out).aL (vw1.heap.size)) fun Wx1 I=>?_;clear O K
 clear J
 generalize vw1.heap.size=gx1 at *
 clear hrn hrd hwD hwD1
 have HZ2:Hid (q.num=P):=lh_ (HP.out)
 have su2:wl P.natAbs≤4:=by have e:=HZ2.out;first|omega|(rw [← e];exact Nat.le_trans (qc3 _) om)
 have lx1:=kc0_ I
 refine ks8_ fun K O T Y=>?_
 refine tk ?_
 refine ck Tryz.call40 (fun w' hw=>xv_ q P _ HZ2.out) ?_
 refine ck Tryz.call46 (fun w' hw=>xw2 P _ (by unfold In64;omega)) ?_
 iterate 5 refine tk ?_
 refine nlS Y I fun vw2 J=>?_
 clear Y T I lx1
 go_wp2
 refine kO O ?_;clear O K
 have I:=J;clear J
 have su3:wl E≤1:=qa6 om
 have lx1:=kc0_ I
 refine ks8_ fun K O T Y=>?_
 refine tk ?_
 refine ck Tryz.call38 (fun w' hw=>xv8 q E _ HDN.out om) ?_
 refine ck Tryz.call47 (fun w' hw=>xd_ E E _ rfl ok) ?_
 iterate 5 refine tk ?_
 refine nlS Y I fun vw3 J=>?_
 clear Y T I lx1
 go_wp2
 refine kO O ?_;clear O K
 have I:=J;clear J
 have hrx:Int.tmod a 301=x:=HX.out
 have hry:Int.tmod m 401=((y:Nat):Int):=HY.out
 refine ks8_ fun K O T Y=>?_
 iterate 8 refine tk ?_
 refine nlS Y I fun vw4 J=>?_
 clear Y T I
 go_wp2
 refine kO O ?_;clear O K
 have I:=J;clear J
 clear hrx hry
 have HB:=HPb I
 have su4:wl x.natAbs≤2:=qi6 om om
 have hbb1:(b1 == b1)=true:=by simp
 have hbb2:(b2 == b2)=true:=by simp
 have lx1:=kc0_ I
 refine kS fun K O=>?_
 refine xG8 fun T Y=>?_
 iterate 9 refine tk ?_
 refine ck Tryz.call23 (fun w' hw=>qd3 x _ om om) ?_
 refine ck Tryz.call24 (fun w' hw=>nzof y _ ok) ?_
 refine ck Tryz.call33 (fun w' hw=>ql8 q x y b1 _ (HF1.out) om om om) ?_
 refine ck Tryz.call48 (fun w' hw=>qV4 P E x y b1 _ (by rw [← HP.out,← HDN.out];exact HF1.out) om om om om om om) ?_
 iterate 9 refine tk ?_
 refine ck Tryz.call24 (fun w' hw=>nzof y _ ok) ?_
 refine ck Tryz.call34 (fun w' hw=>rFar q y b2 _ (HF2.out) om om) ?_
 refine ck Tryz.call49 (fun w' hw=>xH5 P E y b2 _ (by rw [← HP.out,← HDN.out];exact far7 q y b2 HF2.out) om om om om) ?_
 refine tk3_ ?_
 refine ck Tryz.call27 (fun w' hw=>qa9 _ (lh_ (HT.out.gr (Gr.trans HB.out hw)))) ?_
 refine tk ?_
 refine nlD Y I fun vw5 J=>?_
 clear Y T I lx1 HB
 go_wp2
 refine kF_ O ((J.out).er 0) fun Wx5 I=>?_;clear O K
 clear J
 clear hbb1 hbb2
 refine wp_ret ?_
 try simp only [Exit.then,Exit.inBlock]
 exact bodyPost_ret (v:=.bool true) (by simp [results,Tryz.results9,go_sem]) rfl ⟨rfl,I.out.1⟩
theorem qR8 (n a d m:Int) (w:World) (hn1:-32768≤n) (hn2:n≤32767) (ha1:-32768≤a) (ha2:a≤32767) (hd1:0≤d) (hd2:d≤65535) (hm1:0≤m) (hm2:m≤65535) (HT:Hid (Tab w)) :
  Calls Tryz.prog 9 #[.int .i16 n,.int .i16 a,.int .u16 d,.int .u16 m] w fun e w'=>e=.returned (.bool true)∧Below w.heap.size w w':=by
 obtain ⟨x1,x2⟩:=qp4 a 301 (by decide)
 obtain ⟨n1,n2⟩:=qp4 n 301 (by decide)
 obtain ⟨y,hy,hy2⟩:=qo0 hm1 (show (0:Int)<401 by decide)
 obtain ⟨D,hD,hD2⟩:=qo0 hd1 (show (0:Int)<60 by decide)
 obtain ⟨q,hq⟩:∃ q,((Int.tmod n 301:Int):Rat) / ((((D:Nat):Int)+1:Int):Rat)=q:=⟨_,rfl⟩
 obtain ⟨p1,p2,e2⟩:=qM3 hq om om om
 have e1:=q.den_pos
 exact qK3 n a d m _ _ _ D y _ q _ _ w hn1 hn2 ha1 ha2 hd1 hd2 hm1 hm2 (lh_ rfl) (lh_ rfl) (lh_ hD) (lh_ hy) om om om om om om (lh_ hq) (lh_ rfl) (lh_ rfl) p1 p2 om om (lh_ rfl) (lh_ rfl) HT
end Go.Proofs.YtobojnodohjiaaaGreatDoor
