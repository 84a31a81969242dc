/- A pack of texts: GcdP, IntGcd. No condition but those stated. -/
import Derived.Test.YtobojnodohjiaaaGreatDoorIntDiv
import Derived.Test.YtobojnodohjiaaaGreatDoorPE
set_option maxRecDepth 100000
set_option maxHeartbeats 16000000
set_option linter.unusedVariables false
set_option linter.unusedSimpArgs false
namespace Go.Proofs.YtobojnodohjiaaaGreatDoor
section
open Go.RowKit
attribute [local go_sem ↓] Go.wp_at_zero Go.wp_at_succ
theorem qU9 (a b:Int):∀ i,(∀ j,j<i→(pr a b j).2≠0)→(pr a b i).2.natAbs*2 ^ ((i - 1) / 2)≤b.natAbs
 | 0,_=>by simp [pr]
 | 1,h=>by simpa using (qn7 a b 1 h).2
 | 2,h=>by simpa using (qn7 a b 2 h).2
 | i+3,h=>by
  have ih:=qU9 a b (i+1) (fun j hj=>h j om)
  have e:(i+3 - 1) / 2=(i+1 - 1) / 2+1:=by omega
  rw [e,Nat.pow_succ]
  have h2:2*(pr a b (i+3)).2.natAbs≤(pr a b (i+1)).2.natAbs:=by
   have n0:=h i om
   have n1:=h (i+1) om
   have n2:=h (i+2) om
   rw [qk2 a b (i+2)]
   show 2*((pr a b (i+2)).1 % (pr a b (i+2)).2).natAbs≤_
   have e1:(pr a b (i+2)).1=(pr a b (i+1)).2:=by rw [qk2 a b (i+1)]
   have e2:(pr a b (i+2)).2=(pr a b (i+1)).1 % (pr a b (i+1)).2:=by rw [qk2 a b (i+1)]
   have e3:(pr a b (i+1)).2=(pr a b i).1 % (pr a b i).2:=by rw [qk2 a b i]
   have p1:=qg5 (pr a b i).1 n0
   have p2:=qg5 (pr a b (i+1)).1 n1
   rw [← e2] at p2
   rw [← e3] at p1
   rw [e1]
   generalize (pr a b (i+1)).2=y at *
   generalize (pr a b (i+2)).2=z at *
   have p3:=qg5 y n2
   have p4:=Int.mul_ediv_add_emod y z
   have p5:1≤y / z:=Int.le_ediv_of_mul_le om om
   have p6:z*1≤z*(y / z):=Int.mul_le_mul_of_nonneg_left p5 om
   omega
  have h3:=Nat.mul_le_mul_right (2 ^ ((i+1 - 1) / 2)) h2
  have h4:(pr a b (i+3)).2.natAbs*(2 ^ ((i+1 - 1) / 2)*2)=2*(pr a b (i+3)).2.natAbs*2 ^ ((i+1 - 1) / 2):=by rw [Nat.mul_comm (2 ^ _) 2,← Nat.mul_assoc,Nat.mul_comm _ 2]
  omega
theorem qH5 (a b:Int) (i:Nat) (h:∀ j,j<i→(pr a b j).2≠0):i≤2*nb b.natAbs+2:=by
 rcases i with _|i
 ·omega
 have h1:=qU9 a b i (fun j hj=>h j om)
 have h2:=h i om
 have h3:1*2 ^ ((i - 1) / 2)≤(pr a b i).2.natAbs*2 ^ ((i - 1) / 2):=Nat.mul_le_mul_right _ om
 have h4:b.natAbs<2 ^ nb b.natAbs:=ql7.1 (Nat.le_refl _)
 have h5:2 ^ ((i - 1) / 2)<2 ^ nb b.natAbs:=by omega
 have h6:=(Nat.pow_lt_pow_iff_right (by decide:1<2)).1 h5
 omega
def ec (a b:Int) (i:Nat):Int × Int × Int:=egcd (pr a b i).1 (pr a b i).2
theorem qC1 (a b:Int):ec a b 0=egcd a b:=rfl
theorem xm3 (a b:Int) (i:Nat) (h:(pr a b i).2≠0):ec a b i=((ec a b (i+1)).1,(ec a b (i+1)).2.2,(ec a b (i+1)).2.1 - ((pr a b i).1 / (pr a b i).2)*(ec a b (i+1)).2.2):=xm4 a b i h
theorem xv7 (a b:Int) (i:Nat) (h:(pr a b i).2=0):ec a b i=(((pr a b i).1.natAbs:Int),sgI (pr a b i).1,0):=by unfold ec;rw [h,qi2]
theorem xI4 (a b:Int) (i:Nat) (h:∀ j,j<i→(pr a b j).2≠0) (ha:wl a.natAbs≤1000000000) (hb:wl b.natAbs≤1000000000):wl (ec a b i).2.1.natAbs≤1000000003∧wl (ec a b i).2.2.natAbs≤1000000003:=by
 obtain ⟨h1,h2⟩:=qn7 a b i h
 obtain ⟨h3,h4⟩:=qu0 (pr a b i).1 (pr a b i).2
 have hs:wl (5*((a.natAbs+b.natAbs)+b.natAbs)+5)≤1000000003:=by
  have e1:=ql1 a.natAbs b.natAbs
  have e2:=ql1 (a.natAbs+b.natAbs) b.natAbs
  have e3:=qf1 5 ((a.natAbs+b.natAbs)+b.natAbs)
  have e5:wl 5≤1:=qa6 (by decide)
  have e6:(5*((a.natAbs+b.natAbs)+b.natAbs)+5)≤20*(max a.natAbs b.natAbs+1):=by omega
  have e7:=qf1 20 (max a.natAbs b.natAbs+1)
  have e8:wl 20≤1:=qa6 (by decide)
  have e9:=ql1 (max a.natAbs b.natAbs) 1
  have e10:wl 1≤1:=qa6 (by decide)
  have e11:wl (max a.natAbs b.natAbs)≤1000000000:=by
   rcases Nat.le_total a.natAbs b.natAbs with h|h
   ·rw [Nat.max_eq_right h];exact hb
   ·rw [Nat.max_eq_left h];exact ha
  have:=qa4 e6
  omega
 constructor
 ·exact Nat.le_trans (qa4 (by unfold ec;omega)) hs
 ·exact Nat.le_trans (qa4 (by unfold ec;omega)) hs
theorem xt1 (a b:Int) (i:Nat) (h:∀ j,j<i→(pr a b j).2≠0) (ha:wl a.natAbs≤1000000000) (hb:wl b.natAbs≤1000000000):wl (pr a b i).1.natAbs≤1000000001∧wl (pr a b i).2.natAbs≤1000000000∧wl ((pr a b i).1 / (pr a b i).2).natAbs≤1000000002:=by
 obtain ⟨h1,h2⟩:=qn7 a b i h
 have e1:=qa4 h1
 have e2:=ql1 a.natAbs b.natAbs
 have e3:=qa4 h2
 have e4:=qi0 (pr a b i).1 (pr a b i).2
 omega
def qrow (a b:Int):Nat→List Value
 | 0=>[]
 | n+1=>qrow a b n ++ [.int .u64 (lo (Int.natAbs ((pr a b n).1 / (pr a b n).2))),.string (bg (Int.natAbs ((pr a b n).1 / (pr a b n).2))),.bool (decide (((pr a b n).1 / (pr a b n).2)<0))]
theorem qj0 (a b:Int):∀ n,(qrow a b n).length=n*3
 | 0=>rfl
 | n+1=>by unfold qrow;rw [List.length_append,qj0 a b n];simp;omega
theorem qH9 (a b:Int) (i k:Nat) (hk:k<3):∀ n,i<n→(qrow a b n)[i*3+k]? = [.int .u64 (lo (Int.natAbs ((pr a b i).1 / (pr a b i).2))),.string (bg (Int.natAbs ((pr a b i).1 / (pr a b i).2))),.bool (decide (((pr a b i).1 / (pr a b i).2)<0))][k]?
 | 0,h=>by omega
 | n+1,h=>by
  unfold qrow
  by_cases e:i=n
  ·subst e
   rw [List.getElem?_append_right (by rw [qj0];omega),qj0]
   congr 1
   omega
  ·rw [List.getElem?_append_left (by rw [qj0];omega)]
   exact qH9 a b i k hk n om
def Qr (w:World) (B:Nat) (v:Value) (n:Nat) (xs:List Value):Prop:=w.ownsRow B 34 3 v n xs
theorem Qr.gr {w w':World} {B:Nat} {v:Value} {n:Nat} {xs:List Value} (h:Qr w B v n xs) (hg:Gr w w'):Qr w' B v n xs:=by
 refine ⟨h.1,?_⟩
 rcases h.2 with hn|⟨b,c,cur,rfl,hb,hh,rest⟩
 ·exact .inl hn
 ·exact .inr ⟨b,c,cur,rfl,hb,hg.block hh,rest⟩
theorem Qr.setOther {w:World} {B:Nat} {v:Value} {n:Nat} {xs:List Value} (h:Qr w B v n xs) {a:Addr} (ha:a.block<B) (u:Value):Qr (w.setCell a u) B v n xs:=by
 refine ⟨h.1,?_⟩
 rcases h.2 with hn|⟨b,c,cur,rfl,hb,hh,rest⟩
 ·exact .inl hn
 ·exact .inr ⟨b,c,cur,rfl,hb,(Below.heap_setCell w a u b om).trans hh,rest⟩
theorem Qr.own {w:World} {B:Nat} {v:Value} {n:Nat} {xs:List Value} (h:Qr w B v n xs):∀ k,v.ownBlock=some k→B≤k∧k<w.heap.size:=World.ownsRow.lt h
theorem Qr.nil (w:World) (B:Nat):Qr w B (.slice none 0 0) 0 []:=World.ownsRow_nil _ _ _ _
theorem Bx.grown {wr w1:World} {B:Nat} {v:Value} {n k:Nat} {xs:List Value} {o:Obj} {T:TypeId} {cs:Array Value} (hx:Bx wr k T cs) (hk:k<B) (ho:Qr wr B v n xs) (hg:(wr.alloc o).grownBy w1 v.ownBlock):Bx w1 k T cs :=
 (hg.block _ (Nat.lt_of_lt_of_le hx.lt (by simp)) (fun e=>by have:=(ho.own _ e.symm).1;omega)).trans (hx.alloc o)
theorem Qr.below {wr w1 w0:World} {B:Nat} {v:Value} {n:Nat} {xs:List Value} {o:Obj} (hb:Below w0.heap.size w0 wr) (ho:Qr wr B v n xs) (hB:w0.heap.size≤B) (hg:(wr.alloc o).grownBy w1 v.ownBlock):Below w0.heap.size w0 w1 :=
 (hb.alloc hb.size o).grown hg (Nat.le_trans hb.size (by simp)) (fun j hj=>Nat.le_trans hB (ho.own j hj).1)
theorem Bx.grown' {wr w1:World} {v:Value} {k:Nat} {o:Obj} {T:TypeId} {cs:Array Value} (hx:Bx wr k T cs) (hne:∀ j,v.ownBlock=some j→j≠k) (hg:(wr.alloc o).grownBy w1 v.ownBlock):Bx w1 k T cs :=
 (hg.block _ (Nat.lt_of_lt_of_le hx.lt (by simp)) (fun e=>hne _ e.symm rfl)).trans (hx.alloc o)
theorem Qr.sl {w:World} {B:Nat} {v:Value} {n:Nat} {xs:List Value} (h:Qr w B v n xs):(∃ ao c,v=.slice ao n c)∧(0<n→∃ g c,v=.slice (some ⟨g,0,none⟩) n c∧∀ i,i<n*3→w.cell? ⟨g,i,none⟩=xs[i]?):=by
 rcases h.2 with ⟨rfl,rfl⟩|⟨b,c,cur,rfl,hb,hh,rest⟩
 ·exact ⟨⟨none,0,rfl⟩,fun h=>by omega⟩
 ·exact ⟨⟨_,_,rfl⟩,fun _=>⟨b,c,rfl,fun i hi=>World.ownsRow.cellAt h i hi⟩⟩
theorem Bx.k0 {w w':World} {b:Nat} {T:TypeId} {u v t:Value} (h:Bx w b T #[u,v,t]) (hg:Gr w w'):w'.cell? ⟨b,0,none⟩=some u:=by rw [h.cells w' hg];rfl
theorem Bx.k1 {w w':World} {b:Nat} {T:TypeId} {u v t:Value} (h:Bx w b T #[u,v,t]) (hg:Gr w w'):w'.cell? ⟨b,1,none⟩=some v:=by rw [h.cells w' hg];rfl
theorem Bx.k2 {w w':World} {b:Nat} {T:TypeId} {u v t:Value} (h:Bx w b T #[u,v,t]) (hg:Gr w w'):w'.cell? ⟨b,2,none⟩=some t:=by rw [h.cells w' hg];rfl
theorem Bx.set3 {w:World} {b:Nat} {T:TypeId} {u v t:Value} (h:Bx w b T #[u,v,t]) (u' v' t':Value):Bx (((w.setCell ⟨b,0,none⟩ u').setCell ⟨b,1,none⟩ v').setCell ⟨b,2,none⟩ t') b T #[u',v',t']:=((((h.set 0 _).set 1 _).set 2 _).eq rfl)
theorem Bx.keep3 {w:World} {b:Nat} {T:TypeId} {cs:Array Value} (h:Bx w b T cs) {b':Nat} (hb:b≠b') (u' v' t':Value):Bx (((w.setCell ⟨b',0,none⟩ u').setCell ⟨b',1,none⟩ v').setCell ⟨b',2,none⟩ t') b T cs:=((h.setOther hb _).setOther hb _).setOther hb _
theorem Qr.keep3 {w:World} {B:Nat} {v:Value} {n:Nat} {xs:List Value} (h:Qr w B v n xs) {b':Nat} (hb:b'<B) (u' v' t':Value):Qr (((w.setCell ⟨b',0,none⟩ u').setCell ⟨b',1,none⟩ v').setCell ⟨b',2,none⟩ t') B v n xs:=((h.setOther hb _).setOther hb _).setOther hb _
theorem qe0 {B:Nat} {w w':World} (h:Below B w w') {b:Nat} (hb:B≤b) (u' v' t':Value):Below B w (((w'.setCell ⟨b,0,none⟩ u').setCell ⟨b,1,none⟩ v').setCell ⟨b,2,none⟩ t'):=((h.setCell hb _).setCell hb _).setCell hb _
theorem xc5:(Tryz.prog.info? 34).map (fun i=>(i.zero,i.size,i.bytes))=some (some (.agg #[.int .u64 0,.string ⟨#[]⟩,.bool false]),3,32):=by kernel_rfl
end
section
open Go.RowKit
attribute [local go_sem ↓] Go.wp_at_zero Go.wp_at_succ
theorem xc3 (a b:Int) (w:World) (ha:wl a.natAbs≤1000000000) (hb:wl b.natAbs≤1000000000) :
  Calls Tryz.prog 36 #[(Value.agg #[.int .u64 (lo a.natAbs),.string (bg a.natAbs),.bool (a<0)]),(Value.agg #[.int .u64 (lo b.natAbs),.string (bg b.natAbs),.bool (b<0)])] w fun e w'=>e=.returned (.tuple #[(Value.agg #[.int .u64 (lo (Int.natAbs ((egcd a b).1))),.string (bg (Int.natAbs ((egcd a b).1))),.bool (decide (((egcd a b).1)<0))]),(Value.agg #[.int .u64 (lo (Int.natAbs ((egcd a b).2.1))),.string (bg (Int.natAbs ((egcd a b).2.1))),.bool (decide (((egcd a b).2.1)<0))]),(Value.agg #[.int .u64 (lo (Int.natAbs ((egcd a b).2.2))),.string (bg (Int.natAbs ((egcd a b).2.2))),.bool (decide (((egcd a b).2.2)<0))])])∧Below w.heap.size w w':=by
 obtain ⟨i0,hi,hz0,hz1,hz2⟩:=info_parts xc5
 have HA:=lh_ ha
 have HBB:=lh_ hb
 clear ha hb
 obtain ⟨W0,HW⟩:∃ W0,Hid (((((w.alloc (.cells #[.int .u64 (lo a.natAbs),.string (bg a.natAbs),.bool (a<0)] 34)).alloc (.cells #[.int .u64 (lo b.natAbs),.string (bg b.natAbs),.bool (b<0)] 34)).alloc (.cells #[.int .u64 0,.string ⟨#[]⟩,.bool false] 34)).alloc (.cells #[.int .u64 0,.string ⟨#[]⟩,.bool false] 34)).alloc (.cells #[.int .u64 0,.string ⟨#[]⟩,.bool false] 34)=W0):=⟨_,lh_ rfl⟩
 have HX0:Hid (Bx W0 (w.heap.size) 34 #[.int .u64 (lo a.natAbs),.string (bg a.natAbs),.bool (a<0)]):=lh_ (by rw [← HW.out];exact ((((Bx.at rfl).alloc _).alloc _).alloc _).alloc _)
 have HX1:Hid (Bx W0 (w.heap.size+1) 34 #[.int .u64 (lo b.natAbs),.string (bg b.natAbs),.bool (b<0)]):=lh_ (by rw [← HW.out];exact (((Bx.at (by simp)).alloc _).alloc _).alloc _)
 have HX2:Hid (Bx W0 (w.heap.size+1+1) 34 #[.int .u64 0,.string ⟨#[]⟩,.bool false]):=lh_ (by rw [← HW.out];exact ((Bx.at (by simp)).alloc _).alloc _)
 have HX3:Hid (Bx W0 (w.heap.size+1+1+1) 34 #[.int .u64 0,.string ⟨#[]⟩,.bool false]):=lh_ (by rw [← HW.out];exact (Bx.at (by simp)).alloc _)
 have HX4:Hid (Bx W0 (w.heap.size+1+1+1+1) 34 #[.int .u64 0,.string ⟨#[]⟩,.bool false]):=lh_ (by rw [← HW.out];exact Bx.at (by simp))
 have HB0:Hid (Below w.heap.size w W0):=lh_ (by rw [← HW.out];exact (((((Below.refl _ _).alloc (Nat.le_refl _) _).alloc (by simp) _).alloc (by simp;omega) _).alloc (by simp;omega) _).alloc (by simp;omega) _)
 go_enter Tryz.func36,Tryz.ntmps36
 go_wp2_with fail
 rw [HW.out]
 clear HW
 go_loopg [7] b.natAbs (fun k lv wr=>∃ i,Hid ((pr a b i).2.natAbs=k)∧Hid (∀ j,j<i→(pr a b j).2≠0)∧Hid (Qr wr (w.heap.size+1+1+1+1+1) lv i (qrow a b i))∧Hid (Bx wr (w.heap.size) 34 #[.int .u64 (lo (Int.natAbs ((pr a b i).1))),.string (bg (Int.natAbs ((pr a b i).1))),.bool (decide (((pr a b i).1)<0))])∧Hid (Bx wr (w.heap.size+1) 34 #[.int .u64 (lo (Int.natAbs ((pr a b i).2))),.string (bg (Int.natAbs ((pr a b i).2))),.bool (decide (((pr a b i).2)<0))])∧Hid (Bx wr (w.heap.size+1+1) 34 #[.int .u64 0,.string ⟨#[]⟩,.bool false])∧Hid (Bx wr (w.heap.size+1+1+1) 34 #[.int .u64 0,.string ⟨#[]⟩,.bool false])∧Hid (Bx wr (w.heap.size+1+1+1+1) 34 #[.int .u64 0,.string ⟨#[]⟩,.bool false])∧Hid (Below w.heap.size w wr))
 case atStart=>exact ⟨0,lh_ rfl,lh_ (fun j hj=>by omega),lh_ (Qr.nil _ _),HX0,HX1,HX2,HX3,HX4,HB0⟩
 case round =>
  obtain ⟨i,HK,HNZ,HQ,BX0,BX1,BX2,BX3,BX4,HB⟩:=hrel
  clear HX0 HX1 HX2 HX3 HX4 HB0
  obtain ⟨y,HY⟩:∃ y,Hid ((pr a b i).2=y):=⟨_,lh_ rfl⟩
  obtain ⟨x,HX⟩:∃ x,Hid ((pr a b i).1=x):=⟨_,lh_ rfl⟩
  rw [HY.out] at BX1 HK
  rw [HX.out] at BX0
  have q1:=BX1.out.k0 (Gr.refl _)
  have q2:=BX1.out.k1 (Gr.refl _)
  by_cases hk0:y=0
  ·have hd:decide (y=0)=true:=decide_eq_true hk0
   have HYZ:=lh_ hk0
   clear hk0
   go_wp2_with fail
   refine (qi5 y.natAbs wr).mono ?_
   rintro e w1 ⟨rfl,hb1⟩
   have HG1:Hid (Gr wr w1):=lh_ hb1
   clear hb1 q1 q2
   have HQ1:=lh_ (HQ.out.gr HG1.out)
   have bx0:=BX0.out.gr HG1.out
   have bx2:=BX2.out.gr HG1.out
   have bx3:=BX3.out.gr HG1.out
   have bx4:=BX4.out.gr HG1.out
   replace HB:=lh_ (HB.out.trans (HG1.out.mono HB.out.size))
   obtain ⟨⟨ao,c,hv⟩,hcells⟩:=HQ1.out.sl
   obtain ⟨gd,HGN⟩:∃ gd,Hid ((if false then -((Int.natAbs x:Nat):Int) else ((Int.natAbs x:Nat):Int))=gd):=⟨_,lh_ rfl⟩
   obtain ⟨s,HSG⟩:∃ s,Hid (sgI x=s):=⟨_,lh_ rfl⟩
   have hs:-1≤s∧s≤1:=by rw [← HSG.out];unfold sgI;split;simp;split <;> simp
   obtain ⟨hs1,hs2⟩:=hs
   have hwx:wl x.natAbs≤2000000000:=by rw [← HX.out];have:=(xt1 a b i HNZ.out HA.out HBB.out).1;omega
   have HE:Hid (ec a b i=(gd,s,0)):=lh_ (by rw [xv7 a b i (by rw [HY.out,HYZ.out]),HX.out,HSG.out,← HGN.out];rfl)
   have HIB:Hid (i≤64000000002):=lh_ (by have h1:=qH5 a b i HNZ.out;have h2:=qD0 b.natAbs;have:=HBB.out;omega)
   have HCL:=lh_ hcells
   clear HG1 BX0 BX1 BX2 BX3 BX4 HQ HK HYZ hcells
   go_wp2_with fail
   have HZ1:Hid ((if false then -((Int.natAbs x:Nat):Int) else ((Int.natAbs x:Nat):Int))=gd):=lh_ (HGN.out)
   have su1:wl gd.natAbs≤2000000000:=by have e:=HZ1.out;first|omega|(rw [← e];split <;> simp <;> omega)
   have su2:wl s.natAbs≤2:=qi6 (by first|omega|exact Nat.le_trans (qa6 (by decide)) (by decide)) (by first|omega|exact Nat.le_trans (qa6 (by decide)) (by decide))
   have lx0:=bx0.cells
   have BX0:=lh_ bx0
   have BX2:=lh_ bx2
   have BX3:=lh_ bx3
   have BX4:=lh_ bx4
   clear bx0 bx2 bx3 bx4
   refine qa1 7 [] [] (fun _=>0) (fun _=>.cells #[] 0) [(true,0),(true,1),(true,2),(true,4),(true,3),(true,5),(true,6)] (by kernel_rfl) (by kernel_rfl) (fun i hi=>by cases hi) (fun i hi=>by cases hi) (fun _ _ _ _ _ h=>h) (fun T J=>?_)
   iterate 4
    refine qg3 (v:=?_) rfl (by rfl) (fun w' hw=>?_) ?_
    rotate_left
    ·go_simp
     with_reducible rfl
    simp only [Act.put,List.setIfInBounds_toArray,List.set_cons_zero,List.set_cons_succ]
   refine qc7 rfl (by rfl) Tryz.call37 (fun w' hw=>qb2 false x.natAbs gd _ HZ1.out) (by rfl) ?_
   simp only [Act.put,List.setIfInBounds_toArray,List.set_cons_zero,List.set_cons_succ]
   refine qc7 rfl (by rfl) Tryz.call101 (fun w' hw=>qv0 x s _ (HSG.out)) (by rfl) ?_
   simp only [Act.put,List.setIfInBounds_toArray,List.set_cons_zero,List.set_cons_succ]
   refine qc7 rfl (by rfl) Tryz.call23 (fun w' hw=>qd3 s _ (by first|omega|exact Nat.le_trans (qa6 (by decide)) (by decide)) (by first|omega|exact Nat.le_trans (qa6 (by decide)) (by decide))) (by rfl) ?_
   simp only [Act.put,List.setIfInBounds_toArray,List.set_cons_zero,List.set_cons_succ]
   refine qa0 (J.out _ _ ?_);clear J T
   intro G vw1 hg hf
   simp only [puts,Act.put,List.setIfInBounds_toArray,List.set_cons_zero,List.set_cons_succ,List.drop_succ_cons,List.drop_zero,↓reduceIte,Nat.reduceEqDiff]
   clear lx0
   have I:=lh_ hg
   clear hg
   have bx0:=BX0.out.gr I.out;clear BX0
   have bx2:=BX2.out.gr I.out;clear BX2
   have bx3:=BX3.out.gr I.out;clear BX3
   have bx4:=BX4.out.gr I.out;clear BX4
   have lx2:=bx2.cells;have fx2:=bx2.free
   have lx3:=bx3.cells;have fx3:=bx3.free
   clear lx2 fx2 lx3 fx3 bx0 hd
   have bx9:=HQ1.out.gr I.out
   subst hv
   have lx2:=bx2.cells;have fx2:=bx2.free
   have lx3:=bx3.cells;have fx3:=bx3.free
   have r0:=Gr.refl vw1
   have BX2:=lh_ bx2
   have BX3:=lh_ bx3
   have BX4:=lh_ bx4
   have BX9:=lh_ bx9
   clear bx2 bx3 bx4 bx9
   have hib:=HIB.out
   go_wp2_with fail
   go_loopg [11] i (fun j iv wq=>iv=.int .i64 ((j:Int) - 1)∧j≤i∧Hid ((ec a b j).1=gd)∧Hid (Qr wq (w.heap.size+1+1+1+1+1) (Value.slice ao i c) i (qrow a b i))∧Hid (Bx wq (w.heap.size+1+1) 34 #[.int .u64 (lo gd.natAbs),.string (bg gd.natAbs),.bool (gd<0)])∧Hid (Bx wq (w.heap.size+1+1+1) 34 #[.int .u64 (lo (Int.natAbs ((ec a b j).2.1))),.string (bg (Int.natAbs ((ec a b j).2.1))),.bool (decide (((ec a b j).2.1)<0))])∧Hid (Bx wq (w.heap.size+1+1+1+1) 34 #[.int .u64 (lo (Int.natAbs ((ec a b j).2.2))),.string (bg (Int.natAbs ((ec a b j).2.2))),.bool (decide (((ec a b j).2.2)<0))])∧Hid (Below w.heap.size w wq))
   case atStart =>
    refine ⟨rfl,Nat.le_refl _,lh_ (by rw [HE.out]),lh_ ((BX9.out.keep3 om _ _ _).keep3 om _ _ _),lh_ ((BX2.out.set3 _ _ _).keep3 om _ _ _),lh_ ?_,lh_ ?_,lh_ (qe0 (qe0 (HB.out.trans (I.out.mono HB.out.size)) om _ _ _) om _ _ _)⟩
    ·rw [HE.out];exact (BX3.out.keep3 om _ _ _).set3 _ _ _
    ·rw [HE.out];exact ((BX4.out.keep3 om _ _ _).keep3 om _ _ _).eq (by simp [qm5,qm2])
   case round =>
    obtain ⟨rfl,hji,HGD,HQR,BX2,BX3,BX4,HB⟩:=hrel
    clear BX9 r0 hf HE HQ1 HCL lx2 fx2 lx3 fx3 hwx hs1 hs2 su1 su2
    obtain ⟨X,HXX⟩:∃ X,Hid ((ec a b gk).2.1=X):=⟨_,lh_ rfl⟩
    obtain ⟨Y,HYY⟩:∃ Y,Hid ((ec a b gk).2.2=Y):=⟨_,lh_ rfl⟩
    rw [HXX.out] at BX3
    rw [HYY.out] at BX4
    by_cases h0:gk=0
    ·subst h0
     have hg0:(egcd a b).1=gd:=by rw [← qC1];exact HGD.out
     have hx0:(egcd a b).2.1=X:=by rw [← qC1];exact HXX.out
     have hy0:(egcd a b).2.2=Y:=by rw [← qC1];exact HYY.out
     have HG0:=lh_ hg0
     have HX0:=lh_ hx0
     have HY0:=lh_ hy0
     clear hg0 hx0 hy0
     have p1:=BX2.out.k0 (Gr.refl _)
     have p2:=BX2.out.k1 (Gr.refl _)
     have p3:=BX2.out.k2 (Gr.refl _)
     have p4:=BX3.out.k0 (Gr.refl _)
     have p5:=BX3.out.k1 (Gr.refl _)
     have p6:=BX3.out.k2 (Gr.refl _)
     have p7:=BX4.out.k0 (Gr.refl _)
     have p8:=BX4.out.k1 (Gr.refl _)
     have p9:=BX4.out.k2 (Gr.refl _)
     have f1:=BX2.out.free _ (Gr.refl _)
     have f2:=BX3.out.free _ (Gr.refl _)
     have f3:=BX4.out.free _ (Gr.refl _)
     go_wp2_with fail
     go_region
     go_wp2_with fail
     exact bodyPost_ret (v:=.tuple #[(Value.agg #[.int .u64 (lo gd.natAbs),.string (bg gd.natAbs),.bool (gd<0)]),(Value.agg #[.int .u64 (lo X.natAbs),.string (bg X.natAbs),.bool (X<0)]),(Value.agg #[.int .u64 (lo Y.natAbs),.string (bg Y.natAbs),.bool (Y<0)])]) (by simp [results,Tryz.results36,go_sem,p1,p2,p3,p4,p5,p6,p7,p8,p9]) rfl ⟨by rw [HG0.out,HX0.out,HY0.out],(qe0 (qe0 (qe0 HB.out om _ _ _) om _ _ _) om _ _ _).drew⟩
    ·obtain ⟨k,rfl⟩:∃ k,gk=k+1:=⟨gk - 1,by omega⟩
     have hj2:((k+1:Nat):Int) - 1=(k:Int):=by omega
     rw [hj2]
     clear hj2 h0
     have hki:k<i:=hji
     have hkz:(pr a b k).2≠0:=HNZ.out k hki
     have hNk:∀ j,j<k→(pr a b j).2≠0:=fun j hj=>HNZ.out j om
     have hNk1:∀ j,j<k+1→(pr a b j).2≠0:=fun j hj=>HNZ.out j om
     obtain ⟨Q,HQQ⟩:∃ Q,Hid ((pr a b k).1 / (pr a b k).2=Q):=⟨_,lh_ rfl⟩
     obtain ⟨u,HU⟩:∃ u,Hid (Q*Y=u):=⟨_,lh_ rfl⟩
     obtain ⟨z,HZ⟩:∃ z,Hid (X - u=z):=⟨_,lh_ rfl⟩
     have hst:=xm3 a b k hkz
     rw [HGD.out,HXX.out,HYY.out,HQQ.out,HU.out,HZ.out] at hst
     have HST:=lh_ hst
     have hwq:=(xt1 a b k hNk HA.out HBB.out).2.2
     have hwe:=xI4 a b (k+1) hNk1 HA.out HBB.out
     rw [HQQ.out] at hwq
     rw [HXX.out,HYY.out] at hwe
     have hwu:wl u.natAbs≤3000000000:=by rw [← HU.out];have:=qd7 Q Y;omega
     obtain ⟨g,c',hv,_⟩:=HQR.out.sl.2 om
     injection hv with hv1 _ hv3
     subst hv1 hv3
     have hcell:∀ w',Gr wr w'→∀ m,m<i*3→w'.cell? ⟨g,m,none⟩=(qrow a b i)[m]?:=fun w' hw=>by
      obtain ⟨g',c',hv',hc'⟩:=(HQR.out.gr hw).sl.2 om
      injection hv' with e1 _ _
      injection e1 with e1
      injection e1 with e1
      subst e1
      exact hc'
     have hq:=fun m hm=>qH9 a b k m hm i hki
     rw [HQQ.out] at hq
     have HC0:Hid (∀ w',Gr wr w'→w'.cell? ⟨g,k*3,none⟩=some (.int .u64 ((lo Q.natAbs:Nat):Int))):=lh_ (fun w' hw=>(hcell w' hw (k*3) om).trans (hq 0 (by decide)))
     have HC1:Hid (∀ w',Gr wr w'→w'.cell? ⟨g,k*3+1,none⟩=some (.string (bg Q.natAbs))):=lh_ (fun w' hw=>(hcell w' hw (k*3+1) om).trans (hq 1 (by decide)))
     have HC2:Hid (∀ w',Gr wr w'→w'.cell? ⟨g,k*3+2,none⟩=some (.bool (decide (Q<0)))):=lh_ (fun w' hw=>(hcell w' hw (k*3+2) om).trans (hq 2 (by decide)))
     clear hcell hq hst hkz hNk hNk1
     go_wp2_with fail
     refine qa1 9 [] [] (fun _=>0) (fun _=>.cells #[] 0) [(true,0),(true,1),(true,2),(true,3),(true,4),(true,5),(true,6),(true,7),(true,8)] (by kernel_rfl) (by kernel_rfl) (fun i hi=>by cases hi) (fun i hi=>by cases hi) (fun _ _ _ _ _ h=>h) (fun T J=>?_)
     have lx3:=BX3.out.cells
     have lx4:=BX4.out.cells
     have lc0:=HC0.out
     have lc1:=HC1.out
     have lc2:=HC2.out
     iterate 7
      refine qg3 (v:=?_) rfl (by rfl) (fun w' hw=>?_) ?_
      rotate_left
      ·go_simp
       with_reducible rfl
      simp only [Act.put,List.setIfInBounds_toArray,List.set_cons_zero,List.set_cons_succ]
     refine qc7 rfl (by rfl) Tryz.call39 (fun w' hw=>ql_ Q Y u _ HU.out om om) (by rfl) ?_
     simp only [Act.put,List.setIfInBounds_toArray,List.set_cons_zero,List.set_cons_succ]
     refine qc7 rfl (by rfl) Tryz.call98 (fun w' hw=>qB1 X u z _ HZ.out om om) (by rfl) ?_
     simp only [Act.put,List.setIfInBounds_toArray,List.set_cons_zero,List.set_cons_succ]
     refine qa0 (J.out _ _ ?_);clear J T
     intro G2 vw2 hg2 hf2
     simp only [puts,Act.put,List.setIfInBounds_toArray,List.set_cons_zero,List.set_cons_succ,List.drop_succ_cons,List.drop_zero,↓reduceIte,Nat.reduceEqDiff]
     have HG2:=lh_ hg2
     clear hg2 hf2 lx3 lx4 lc0 lc1 lc2 HC0 HC1 HC2
     have BX2':=lh_ (BX2.out.gr HG2.out)
     have BX3':=lh_ (BX3.out.gr HG2.out)
     have BX4':=lh_ (BX4.out.gr HG2.out)
     have HQ2:=lh_ (HQR.out.gr HG2.out)
     have HB2:=lh_ (HB.out.trans (HG2.out.mono HB.out.size))
     clear BX2 BX3 BX4 HQR HB
     have p4:=BX3'.out.k0 (Gr.refl _)
     have p5:=BX3'.out.k1 (Gr.refl _)
     have p6:=BX3'.out.k2 (Gr.refl _)
     have p7:=BX4'.out.k0 (Gr.refl _)
     have p8:=BX4'.out.k1 (Gr.refl _)
     have p9:=BX4'.out.k2 (Gr.refl _)
     have f2:=BX3'.out.free _ (Gr.refl _)
     have f3:=BX4'.out.free _ (Gr.refl _)
     go_wp2_with fail
     go_roundg k
     case measure=>omega
     case rel =>
      refine ⟨rfl,by omega,lh_ (by rw [HST.out]),lh_ ((HQ2.out.keep3 om _ _ _).keep3 om _ _ _),lh_ ((BX2'.out.keep3 om _ _ _).keep3 om _ _ _),lh_ ?_,lh_ ?_,lh_ (qe0 (qe0 HB2.out om _ _ _) om _ _ _)⟩
      ·rw [HST.out];exact (BX3'.out.set3 _ _ _).keep3 om _ _ _
      ·rw [HST.out];exact (BX4'.out.keep3 om _ _ _).set3 _ _ _
  ·have hd:decide (y=0)=false:=decide_eq_false hk0
   have HYN:=lh_ hk0
   clear hk0
   go_wp2_with fail
   refine (qi5 y.natAbs wr).mono ?_
   rintro e w1 ⟨rfl,hb1⟩
   have HG1:Hid (Gr wr w1):=lh_ hb1
   clear hb1 q1 q2
   have p1:=BX0.out.k0 HG1.out
   have p2:=BX0.out.k1 HG1.out
   have p3:=BX0.out.k2 HG1.out
   have p4:=BX1.out.k0 HG1.out
   have p5:=BX1.out.k1 HG1.out
   have p6:=BX1.out.k2 HG1.out
   have hown:=HQ.out.own
   have hlt:=HG1.out.size
   obtain ⟨q,HQQ⟩:∃ q,Hid (x / y=q):=⟨_,lh_ rfl⟩
   obtain ⟨r,HRR⟩:∃ r,Hid (x % y=r):=⟨_,lh_ rfl⟩
   have hwl:=xt1 a b i HNZ.out HA.out HBB.out
   rw [HX.out,HY.out] at hwl
   go_wp2_with fail
   refine (qx_ x y q r w1 HQQ.out HRR.out HYN.out om om).mono ?_
   rintro e w2 ⟨rfl,hb2⟩
   have HG2:Hid (Gr wr w2):=lh_ (Gr.trans HG1.out hb2)
   clear hb2 HG1 p1 p2 p3 p4 p5 p6 hlt hwl hd
   have hIB:i≤64000000002:=by have h1:=qH5 a b i HNZ.out;have h2:=qD0 b.natAbs;have:=HBB.out;omega
   have hsz2:w.heap.size+1+1+1+1<w2.heap.size:=(BX4.out.gr HG2.out).lt
   go_wp2_with (first
    | (at_builtin;refine wpList_append_own _ rfl (.tmp 23) (.tmp 25) 172 rfl (w.heap.size+1+1+1+1+1) 34 i0 (.agg #[.int .u64 0,.string ⟨#[]⟩,.bool false]) 3 32 Tryz.underlying172 hi hz0 hz1 hz2 rfl (by decide) u7 i (qrow a b i) (by simp [Act.eval,Act.put]) ((((HQ.out.gr HG2.out).gr (Gr.alloc _ _)).gr (Gr.alloc _ _)).gr (Gr.alloc _ _)) ⟨w2.heap.size+1+1,0,none⟩ 1 1 [.int .u64 (lo q.natAbs),.string (bg q.natAbs),.bool (q<0)] (by simp [Act.eval,Act.put]) rfl ?c1 ?c2 ?c3 ?c4 ?c5 ?_)
    | fail)
   case c1 =>
    intro j u hj
    match j,hj with
    | 0,hj=>simp at hj;subst hj;simp [Addr.add,go_sem]
    | 1,hj=>simp at hj;subst hj;simp [Addr.add,go_sem]
    | 2,hj=>simp at hj;subst hj;simp [Addr.add,go_sem]
   case c2=>intro u hu;simp at hu;rcases hu with rfl|rfl|rfl <;> rfl
   case c3=>unfold maxLen;omega
   case c4=>omega
   case c5=>simp;omega
   intro v' w3 hown' hgrow _
   have BX0':=BX0.out.gr HG2.out
   have BX1':=BX1.out.gr HG2.out
   have BX2':=BX2.out.gr HG2.out
   have BX3':=BX3.out.gr HG2.out
   have BX4':=BX4.out.gr HG2.out
   have HQ':=((HQ.out.gr HG2.out).gr (Gr.alloc _ (.cells #[.int .u64 (lo q.natAbs),.string (bg q.natAbs),.bool (q<0)] 34))).gr (Gr.alloc _ (.cells #[.int .u64 (lo r.natAbs),.string (bg r.natAbs),.bool (r<0)] 34))
   have HX3:=lh_ (Bx.grown ((BX0'.alloc _).alloc _) om HQ' hgrow)
   have HX4:=lh_ (Bx.grown ((BX1'.alloc _).alloc _) om HQ' hgrow)
   have HX5:=lh_ (Bx.grown ((BX2'.alloc _).alloc _) om HQ' hgrow)
   have HX6:=lh_ (Bx.grown ((BX3'.alloc _).alloc _) om HQ' hgrow)
   have HX7:=lh_ (Bx.grown ((BX4'.alloc _).alloc _) om HQ' hgrow)
   have HX8:Hid (Bx w3 (w2.heap.size+1) 34 #[.int .u64 (lo r.natAbs),.string (bg r.natAbs),.bool (r<0)]):=lh_ (Bx.grown' (Bx.at (by simp)) (fun j hj=>by have h1:=(hown j hj).2;have h2:=HG2.out.size;omega) hgrow)
   have HB3:Hid (Below w.heap.size w w3):=lh_ (Qr.below (((HB.out.trans (HG2.out.mono HB.out.size)).alloc om _).alloc (by simp;omega) _) HQ' om hgrow)
   have HQ3:Hid (Qr w3 (w.heap.size+1+1+1+1+1) v' (i+1) (qrow a b (i+1))):=lh_ (by unfold Qr qrow;rw [HX.out,HY.out,HQQ.out];exact hown')
   clear hown' hgrow HQ' BX0' BX1' BX2' BX3' BX4' BX0 BX1 BX2 BX3 BX4 HQ HB hown
   have p1:=HX4.out.k0 (Gr.refl _)
   have p2:=HX4.out.k1 (Gr.refl _)
   have p3:=HX4.out.k2 (Gr.refl _)
   have p4:=HX8.out.k0 (Gr.refl _)
   have p5:=HX8.out.k1 (Gr.refl _)
   have p6:=HX8.out.k2 (Gr.refl _)
   have p7:=HX3.out.k0 (Gr.refl _)
   have p8:=HX3.out.k1 (Gr.refl _)
   have p9:=HX3.out.k2 (Gr.refl _)
   have f1:=HX3.out.free _ (Gr.refl _)
   have f2:=HX4.out.free _ (Gr.refl _)
   have hne:w2.heap.size+1≠w.heap.size:=by omega
   have hne2:w2.heap.size+1≠w.heap.size+1:=by omega
   go_wp2_with fail
   go_region
   go_wp2_with fail
   go_roundg r.natAbs
   case measure=>rw [← HRR.out,← HK.out];exact (qg5 x HYN.out).1
   case rel =>
    have hp1:(pr a b (i+1)).1=y:=by rw [qk2];exact HY.out
    have hp2:(pr a b (i+1)).2=r:=by rw [qk2,HX.out,HY.out];exact HRR.out
    refine ⟨i+1,lh_ (by rw [hp2]),lh_ ?_,lh_ (((HQ3.out.keep3 om _ _ _).keep3 om _ _ _).gr ((Below.refl _ _).drew)),lh_ ?_,lh_ ?_,lh_ (((HX5.out.keep3 om _ _ _).keep3 om _ _ _).gr ((Below.refl _ _).drew)),lh_ (((HX6.out.keep3 om _ _ _).keep3 om _ _ _).gr ((Below.refl _ _).drew)),lh_ (((HX7.out.keep3 om _ _ _).keep3 om _ _ _).gr ((Below.refl _ _).drew)),lh_ ((qe0 (qe0 HB3.out om _ _ _) om _ _ _).drew)⟩
    ·intro j hj
     by_cases e:j=i
     ·rw [e,HY.out];exact HYN.out
     ·exact HNZ.out j om
    ·rw [hp1];exact ((HX3.out.set3 _ _ _).keep3 om _ _ _).gr ((Below.refl _ _).drew)
    ·rw [hp2];exact ((HX4.out.keep3 om _ _ _).set3 _ _ _).gr ((Below.refl _ _).drew)
end
end Go.Proofs.YtobojnodohjiaaaGreatDoor
