/- A pack of texts: NatZ, LawN, LawN2, LawW. No condition but those stated. -/
import Derived.Test.YtobojnodohjiaaaGreatDoorPC
import Derived.Test.YtobojnodohjiaaaGreatDoorPR
import Derived.Test.YtobojnodohjiaaaGreatDoorPE
import Derived.Test.YtobojnodohjiaaaGreatDoorPP
import Derived.Test.YtobojnodohjiaaaGreatDoorPI
set_option maxRecDepth 100000
set_option maxHeartbeats 16000000
set_option linter.unusedVariables false
set_option linter.unusedSimpArgs false
namespace Go.Proofs.YtobojnodohjiaaaGreatDoor
section
open Go.RowKit
theorem nzof (n:Nat) (w:World) (h:n<18446744073709551616) :
  Calls Tryz.prog 24 #[.int .u64 ((n:Nat):Int)] w fun e w'=>e=.returned (Value.agg #[.int .u64 (lo n),.string (bg n)])∧Below w.heap.size w w':=by
 have:=qx4 ((n:Nat):Int) w (by omega) (by omega)
 rwa [Int.toNat_natCast] at this
theorem xf9 (a b z:Nat) (w:World) (hz:Nat.gcd a b=z) (ha:wl a≤549755813888) (hb:wl b≤549755813888) :
  Calls Tryz.prog 111 #[(Value.agg #[.int .u64 (lo a),.string (bg a)]),(Value.agg #[.int .u64 (lo b),.string (bg b)])] w fun e w'=>e=.returned (Value.agg #[.int .u64 (lo z),.string (bg z)])∧Below w.heap.size w w':=hz ▸ qT2 a b w ha hb
theorem xp0 (a b z:Nat) (w:World) (hz:a+b=z) (ha:wl a≤549755813888) (hb:wl b≤549755813888) :
  Calls Tryz.prog 109 #[(Value.agg #[.int .u64 (lo a),.string (bg a)]),(Value.agg #[.int .u64 (lo b),.string (bg b)])] w fun e w'=>e=.returned (Value.agg #[.int .u64 (lo z),.string (bg z)])∧Below w.heap.size w w':=hz ▸ qC1 a b w ha hb
theorem xp1 (a b z:Nat) (w:World) (hz:a*b=z) (ha:wl a≤549755813888) (hb:wl b≤549755813888) :
  Calls Tryz.prog 110 #[(Value.agg #[.int .u64 (lo a),.string (bg a)]),(Value.agg #[.int .u64 (lo b),.string (bg b)])] w fun e w'=>e=.returned (Value.agg #[.int .u64 (lo z),.string (bg z)])∧Below w.heap.size w w':=hz ▸ qp5 a b w ha hb
theorem qM9 (a b q r:Nat) (w:World) (hq:a / b=q) (hr:a % b=r) (h0:0<b) (ha:wl a≤549755813888) (hb:wl b≤549755813888) :
  Calls Tryz.prog 43 #[(Value.agg #[.int .u64 (lo a),.string (bg a)]),(Value.agg #[.int .u64 (lo b),.string (bg b)])] w fun e w'=>e=.returned (.tuple #[(Value.agg #[.int .u64 (lo q),.string (bg q)]),(Value.agg #[.int .u64 (lo r),.string (bg r)]),.bool true])∧Below w.heap.size w w':=by
 refine (qC8 a b w ha hb).mono fun e w' h=>?_
 unfold DivPost at h
 rw [if_neg (by omega),hq,hr] at h
 exact h
theorem qM_ (a n z:Nat) (w:World) (hz:a ^ n=z) (hn:n≤4096) (hb:n*nb a≤262144) (ha:wl a≤8192) :
  Calls Tryz.prog 164 #[(Value.agg #[.int .u64 (lo a),.string (bg a)]),.int .i64 ((n:Nat):Int)] w fun e w'=>e=.returned (.tuple #[(Value.agg #[.int .u64 (lo z),.string (bg z)]),.int .i64 0])∧Below w.heap.size w w':=hz ▸ xw_ a n w hn hb ha
theorem qh3 (s:ByteArray) (n:Nat) (c:Int) (w:World) (hn:pnum s=n) (hc:qb8 s=c) (hs:s.size≤9223372036854775807) :
  Calls Tryz.prog 163 #[.string s] w fun e w'=>e=.returned (.tuple #[(Value.agg #[.int .u64 (lo n),.string (bg n)]),.int .i64 c])∧Below w.heap.size w w':=hn ▸ hc ▸ qV_ s w hs
theorem xv_ (a z:Nat) (w:World) (hz:a=z) (h:a<18446744073709551616) :
  Calls Tryz.prog 47 #[(Value.agg #[.int .u64 (lo a),.string (bg a)])] w fun e w'=>e=.returned (.tuple #[.int .u64 ((z:Nat):Int),.bool true])∧Below w.heap.size w w':=by
 have e1:lo a=z:=by rw [qb0 h];exact hz
 have e2:decide (a<18446744073709551616)=true:=decide_eq_true h
 refine (xr9 a w).mono fun e w' hh=>⟨?_,hh.2⟩
 rw [hh.1,e1,e2]
def decF:Nat→Nat→List UInt8→List UInt8
 | 0,_,acc=>acc
 | k+1,u,acc=>if u<10 then UInt8.ofNat (48+u) :: acc else decF k (u / 10) (UInt8.ofNat (48+u % 10) :: acc)
theorem qR0:∀ (k u:Nat) (acc:List UInt8),u<10 ^ (k+1)→decF (k+1) u acc=Lib.decDigits u ++ acc
 | 0,u,acc,h=>by
  have h':u<10:=by simpa using h
  unfold decF
  rw [if_pos h',Lib.decDigits,dif_pos h']
  rfl
 | k+1,u,acc,h=>by
  unfold decF
  by_cases h':u<10
  ·rw [if_pos h',Lib.decDigits,dif_pos h'];rfl
  rw [if_neg h',qR0 k (u / 10) _ (by rw [Nat.pow_succ] at h;omega),qc5 h',List.append_assoc];rfl
theorem qR1 {u:Nat} {s:List UInt8} (k:Nat) (h:u<10 ^ (k+1)) (e:decF (k+1) u []=s):Lib.decDigits u=s:=by
 rw [← e,qR0 k u [] h,List.append_nil]
end
section
open Go.RowKit
theorem xE8 (v:Value) (k:Nat) (f:Nat→Nat) (z:Nat) (w0 w:World) (hz:vl f k=z) (hk:k≤1000000) (h:Wa w0 v k f) (hgr:Gr w0 w) (hf:∀ i,i<k→f i<4294967296) :
  Calls Tryz.prog 31 #[v] w fun e w'=>e=.returned (Value.agg #[.int .u64 (lo z),.string (bg z)])∧Below w.heap.size w w':=by
 have HZ:=Lib.hid hz
 have HF:=Lib.hid hf
 have HW:=Lib.hid (h.gr hgr)
 obtain ⟨ao,c,rfl⟩:=h.slice
 clear hf h hz hgr
 obtain ⟨W0,HW0⟩:∃ W0,Hid ((w.alloc (.cells #[.int .u64 0,.string ⟨#[]⟩] 30)).alloc (.cells #[.int .u64 0,.string ⟨#[]⟩] 30)=W0):=⟨_,Lib.hid rfl⟩
 have HB0:Hid (Below w.heap.size w W0):=Lib.hid (by rw [← HW0.out];exact ((Below.refl _ _).alloc (Nat.le_refl _) _).alloc (by simp) _)
 have HR0:Hid (Bx W0 w.heap.size 30 #[.int .u64 0,.string ⟨#[]⟩]):=Lib.hid (by rw [← HW0.out];exact (Bx.new _ _ _).alloc _)
 have HO0:Hid (Bx W0 (w.heap.size+1) 30 #[.int .u64 (lo (upv f k k)),.string (bg (upv f k k))]):=Lib.hid (by rw [← HW0.out,qJ9,qp3,qo7];exact Bx.at (by simp))
 go_enter Tryz.func31,Tryz.ntmps31
 go_wp2_with fail
 rw [HW0.out]
 clear HW0
 go_loopg [4] k (fun j i wr=>i=.int .i64 ((j:Int) - 1)∧j≤k∧Hid (Bx wr w.heap.size 30 #[.int .u64 0,.string ⟨#[]⟩])∧Hid (Bx wr (w.heap.size+1) 30 #[.int .u64 (lo (upv f k j)),.string (bg (upv f k j))])∧Hid (Below w.heap.size w wr))
 case atStart=>exact ⟨rfl,Nat.le_refl _,HR0,HO0,HB0⟩
 case round =>
  obtain ⟨rfl,hj,HR,HO,HB⟩:=hrel
  clear HR0 HO0 HB0
  by_cases h0:gk=0
  ·subst h0
   have hv:upv f k 0=z:=by rw [qZ6];exact HZ.out
   rw [hv] at HO
   clear hv
   have x0:=HO.out.c0 (Gr.refl _)
   have x1:=HO.out.c1 (Gr.refl _)
   have r0:=HR.out.c0 (Gr.refl _)
   have r1:=HR.out.c1 (Gr.refl _)
   have fr:=HR.out.free wr (Gr.refl _)
   go_wp2_with fail
   exact bodyPost_ret (v:=(Value.agg #[.int .u64 (lo z),.string (bg z)])) (by simp [results,Tryz.results31,go_sem,r0,r1]) rfl ⟨rfl,qi0 HB.out (Nat.le_refl _) _ _⟩
  obtain ⟨j,rfl⟩:∃ j,gk=j+1:=⟨gk - 1,by omega⟩
  have hj2:((j+1:Nat):Int) - 1=(j:Int):=by omega
  rw [hj2]
  rcases HW.out with ⟨_,_,_,h⟩|⟨b,o,c2,hv,hb,hcell⟩
  ·omega
  injection hv with hv1 _ hv3
  subst hv1 hv3
  obtain ⟨d,hd⟩:∃ d,f j=d:=⟨_,rfl⟩
  have hd2:d<4294967296:=by rw [← hd];exact HF.out j (by omega)
  have hc:∀ w',Gr wr w'→w'.cell? ⟨b,o+j,none⟩=some (.int .u32 (d:Int)):=fun w' hw=>by
   rw [← hd,← hcell j (by omega)]
   exact Below.cell (Below.trans HB.out (Below.mono hw HB.out.size)) (p:=⟨b,o+j,none⟩) hb
  go_wp2_with fail
  have HC:=Lib.hid hc
  have HBW:Hid (wl (upv f k (j+1))≤1000000):=Lib.hid (Nat.le_trans (xl7 HF.out (j+1)) hk)
  have hst:=qJ_ f (show j<k by omega)
  rw [hd] at hst
  have HST:=Lib.hid hst
  obtain ⟨x,hx⟩:∃ x,upv f k (j+1)=x:=⟨_,rfl⟩
  rw [hx] at HO HBW HST
  obtain ⟨y,hy⟩:∃ y,x*4294967296=y:=⟨_,rfl⟩
  rw [hy] at HST
  have HY:Hid (x*4294967296=y∧wl y≤1000002):=Lib.hid ⟨hy,by have:=qi5 x 4294967296;have:=HBW.out;have h2:wl 4294967296≤2:=wl_le.2 (by decide);rw [← hy];omega⟩
  have HDW:Hid (wl d≤1):=Lib.hid (wl_small hd2)
  clear hx hy hst hcell hc HW
  have HOX:=Lib.hid HO.out.cells
  refine wp_region_plan 10 [] [] (fun _=>0) (fun _=>.cells #[] 0) [(true,0),(true,1),(true,2),(true,3),(true,4),(true,5),(true,6),(true,7),(true,8),(true,9)] (by kernel_rfl) (by kernel_rfl) (fun i hi=>by cases hi) (fun i hi=>by cases hi) (fun _ _ _ _ _ h=>h) (fun T hT=>?_)
  have lx:=HC.out
  have lo:=HOX.out
  have hjk:j<k:=by omega
  have hwr:IntKind.u64.wrap (d:Int)=(d:Int):=by rw [IntKind.wrap_u64];omega
  iterate 1
   refine wpPlan_takeL (v:=?_) rfl (by rfl) (fun w' hw=>?_) ?_
   rotate_left
   ·go_simp
    with_reducible rfl
   simp only [Act.put,List.setIfInBounds_toArray,List.set_cons_zero,List.set_cons_succ]
  refine qe9 rfl (by rfl) Tryz.call24 (fun w' hw=>nzof 4294967296 _ (by decide)) (by rfl) ?_
  simp only [Act.put,List.setIfInBounds_toArray,List.set_cons_zero,List.set_cons_succ]
  refine qe9 rfl (by rfl) Tryz.call110 (fun w' hw=>xp1 x 4294967296 y _ HY.out.1 (by have:=HBW.out;omega) (by have h2:wl 4294967296≤2:=wl_le.2 (by decide);omega)) (by rfl) ?_
  simp only [Act.put,List.setIfInBounds_toArray,List.set_cons_zero,List.set_cons_succ]
  iterate 5
   refine wpPlan_takeL (v:=?_) rfl (by rfl) (fun w' hw=>?_) ?_
   rotate_left
   ·go_simp
    with_reducible rfl
   simp only [Act.put,List.setIfInBounds_toArray,List.set_cons_zero,List.set_cons_succ]
  refine qe9 rfl (by rfl) Tryz.call24 (fun w' hw=>nzof d _ (by omega)) (by rfl) ?_
  simp only [Act.put,List.setIfInBounds_toArray,List.set_cons_zero,List.set_cons_succ]
  refine qe9 rfl (by rfl) Tryz.call109 (fun w' hw=>xp0 y d _ _ HST.out.symm (by have:=HY.out.2;omega) (by have:=HDW.out;omega)) (by rfl) ?_
  simp only [Act.put,List.setIfInBounds_toArray,List.set_cons_zero,List.set_cons_succ]
  refine wpPlan_nil (hT.out _ _ ?_);clear hT T
  intro G vw1 hg hf
  simp only [puts,Act.put,List.setIfInBounds_toArray,List.set_cons_zero,List.set_cons_succ,List.drop_succ_cons,List.drop_zero,↓reduceIte,Nat.reduceEqDiff]
  have HG:=Lib.hid hg
  clear hg hf lx lo HC HOX hwr hd2
  have x0:=HO.out.c0 HG.out
  have x1:=HO.out.c1 HG.out
  have fx:=HO.out.free vw1 HG.out
  go_wp2_with fail
  go_roundg j
  case measure=>omega
  case rel=>exact ⟨rfl,by omega,Lib.hid ((HR.out.gr HG.out).keep2 (by omega) _ _),Lib.hid ((HO.out.gr HG.out).set2 _ _),Lib.hid (qi0 (Below.trans HB.out (Below.mono HG.out HB.out.size)) (by omega) _ _)⟩
end
section
open Go.RowKit
attribute [local go_sem ↓] Go.wp_at_zero Go.wp_at_succ
theorem xE_ (v:Value) (k:Nat) (f:Nat→Nat) (z:Nat) (w0 w:World) (hz:vl f k=z) (hk:k≤1000000) (h:Wa w0 v k f) (hg:Gr w0 w) (hf:∀ i,i<k→f i<4294967296) :
  Calls Tryz.prog 251 #[v] w fun e w'=>(∃ v',e=.returned v'∧Rn w' v' z)∧Below w.heap.size w w':=hz ▸ xh3 v k f w hk (h.gr hg) hf
theorem qK2 (v:Value) (x n:Nat) (w:World) (hz:nb x=n) (hx:Rn w v x) (bx:tw x≤10000000) :
  Calls Tryz.prog 149 #[v] w fun e w'=>e=.returned (.int .i64 ((n:Nat):Int))∧Below w.heap.size w w':=hz ▸ qX0 v x w hx bx
theorem qe2 (s:ByteArray) (n:Nat) (c:Int) (w:World) (hn:pnum s=n) (hc:qb8 s=c) (hs:s.size≤9223372036854775807) :
  Calls Tryz.prog 234 #[.string s] w fun e w'=>(∃ v',e=.returned (.tuple #[v',.int .i64 c])∧Rn w' v' n)∧Below w.heap.size w w':=hn ▸ hc ▸ qO2 s w hs
theorem xB7 (v:Value) (x:Nat) (s:ByteArray) (w:World) (hs:(⟨(Lib.decDigits x).toArray⟩:ByteArray)=s) (hx:Rn w v x) (bx:tw x≤10000000) :
  Calls Tryz.prog 177 #[v] w fun e w'=>e=.returned (.string s)∧Below w.heap.size w w':=hs ▸ qu0 v x w hx bx
theorem qV7 (a:Nat) (s:ByteArray) (w:World) (hs:(⟨(Lib.decDigits a).toArray⟩:ByteArray)=s) (ha:wl a≤900000) (HT:Hid (Tab w)) :
  Calls Tryz.prog 154 #[(Value.agg #[.int .u64 (lo a),.string (bg a)])] w fun e w'=>e=.returned (.string s)∧Below w.heap.size w w':=hs ▸ qy6 a w (by omega) HT
theorem Rn.len {w:World} {ao:Option Addr} {n c k:Nat} (h:Rn w (.slice ao n c) k):n=tw k:=by
 obtain ⟨ao',c',e,_⟩:=Dr.slice h
 injection e with _ e2 _
end
section
open Go.RowKit
attribute [local go_sem ↓] Go.wp_at_zero Go.wp_at_succ
attribute [local go_sem ↓] eq_nat eq_nat_zero
end
end Go.Proofs.YtobojnodohjiaaaGreatDoor
