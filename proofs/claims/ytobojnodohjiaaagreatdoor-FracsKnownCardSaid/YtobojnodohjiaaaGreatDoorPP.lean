/- A pack of texts: ParseP, Parse. No condition but those stated. -/
import Derived.Test.YtobojnodohjiaaaGreatDoorPF
import Derived.Test.YtobojnodohjiaaaGreatDoorPA
import Derived.Test.YtobojnodohjiaaaGreatDoorPR
import Derived.Test.YtobojnodohjiaaaGreatDoorPD
set_option maxRecDepth 100000
set_option maxHeartbeats 16000000
set_option linter.unusedVariables false
set_option linter.unusedSimpArgs false
namespace Go.Proofs.YtobojnodohjiaaaGreatDoor
section
open Go.RowKit
def byt (s:ByteArray) (i:Nat):Nat:=if h:i<s.size then (s[i]'h).toNat else 0
theorem qd_ {s:ByteArray} {i:Nat} (h:i<s.size):(s[i]'h).toNat=byt s i:=by unfold byt;rw [dif_pos h]
theorem xj8 (s:ByteArray) (i:Nat):byt s i<256:=by
 unfold byt
 split
 ·exact UInt8.toNat_lt _
 decide
def pvr (s:ByteArray) (a:Nat):Nat→Nat
 | 0=>0
 | k+1=>10*pvr s a k+(byt s (a+k) - 48)
def pv (s:ByteArray) (k:Nat):Nat:=pvr s 0 k
theorem xp7 (s:ByteArray) (a k j:Nat):pvr s a (k+j)=pvr s a k*10 ^ j+pvr s (a+k) j:=by
 induction j with
 | zero=>simp [pvr]
 | succ j ih =>
  show 10*pvr s a (k+j)+(byt s (a+(k+j)) - 48)=pvr s a k*10 ^ (j+1)+(10*pvr s (a+k) j+(byt s (a+k+j) - 48))
  have e:pvr s a k*10 ^ (j+1)=10*(pvr s a k*10 ^ j):=by rw [Nat.pow_succ,← Nat.mul_assoc,Nat.mul_comm]
  rw [ih,e,Nat.add_assoc a k j]
  omega
theorem xk4 (s:ByteArray) (a k:Nat):pv s (a+k)=pv s a*10 ^ k+pvr s a k:=by
 unfold pv
 rw [xp7,Nat.zero_add]
theorem xk5 (s:ByteArray) (a k:Nat) (h:∀ i,i<k→byt s (a+i)≤57):pvr s a k<10 ^ k:=by
 induction k with
 | zero=>simp [pvr]
 | succ k ih =>
  have h1:=ih (fun i hi=>h i (by omega))
  have h2:=h k (by omega)
  rw [Nat.pow_succ]
  show 10*pvr s a k+(byt s (a+k) - 48)<_
  omega
def qx5 (s:ByteArray):Prop:=0<s.size∧(byt s 0=48→s.size≤1)∧∀ i,i<s.size→48≤byt s i∧byt s i≤57
instance (s:ByteArray):Decidable (qx5 s):=inferInstanceAs (Decidable (_∧_∧∀ i,i<s.size→_))
def qb8 (s:ByteArray):Int:=if 4096<s.size then 3 else if qx5 s then 0 else 4
def pnum (s:ByteArray):Nat:=if s.size≤4096∧qx5 s then pv s s.size else 0
theorem qw2 (s:ByteArray):s.toList.isEmpty=decide (s.size=0):=by
 rw [ByteArray.toList_eq]
 cases s with|mk d=>cases d with|mk l=>cases l <;> simp [ByteArray.size]
def qP7 (s:ByteArray):Prop:=∀ i,i<s.size→48≤byt s i∧byt s i≤57
def ParsePost (s:ByteArray) (w:World) (e:Ending) (w':World):Prop :=
 ((e=.returned (.tuple #[(Value.agg #[.int .u64 (lo (0)),.string (bg (0))]),.int .i64 4])∧¬ qP7 s)∨(e=.returned (.tuple #[(Value.agg #[.int .u64 (lo (pv s s.size)),.string (bg (pv s s.size))]),.int .i64 0])∧qP7 s))∧Below w.heap.size w w'
def wvs (f:Nat→Nat) (n:Nat):List Value:=(List.range n).map fun i=>.int .u32 ((f i:Nat):Int)
theorem qq1 (f:Nat→Nat) (n:Nat):(wvs f n).length=n:=by simp [wvs]
theorem qG2 (f:Nat→Nat) {n i:Nat} (h:i<n):(wvs f n)[i]?=some (.int .u32 ((f i:Nat):Int)):=by simp [wvs,h]
theorem xa5 {f g:Nat→Nat} {n:Nat} (h:∀ i,i<n→f i=g i):wvs f n=wvs g n:=by
 apply List.map_congr_left
 intro i hi
 rw [h i (by simpa using hi)]
theorem xi7 (f:Nat→Nat) (n d:Nat):wvs f n ++ [.int .u32 ((d:Nat):Int)]=wvs (fun i=>if i=n then d else f i) (n+1):=by
 unfold wvs
 rw [List.range_succ,List.map_append]
 congr 1
 ·apply List.map_congr_left
  intro i hi
  have:i<n:=by simpa using hi
  simp [Nat.ne_of_lt this]
 simp
theorem xs8 (f:Nat→Nat) (n i d:Nat):(wvs f n).set i (.int .u32 ((d:Nat):Int))=wvs (fun j=>if j=i then d else f j) n:=by
 apply List.ext_getElem?
 intro j
 by_cases hj:j<n
 ·rw [qG2 _ hj,List.getElem?_set]
  by_cases e:i=j
  ·subst e;simp [qq1,hj]
  rw [if_neg e,qG2 _ hj,if_neg (Ne.symm e)]
 rw [List.getElem?_eq_none (by simp [qq1];omega),List.getElem?_eq_none (by simp [qq1];omega)]
def Wr (w:World) (B:Nat) (v:Value) (n:Nat) (f:Nat→Nat):Prop:=w.ownsRow B 22 1 v n (wvs f n)
section
variable {w w':World} {B n:Nat} {v:Value} {f g:Nat→Nat}
theorem Wr.cases (h:Wr w B v n f):(v=.slice none 0 0∧n=0)∨∃ b c,v=.slice (some ⟨b,0,none⟩) n c∧B≤b∧b<w.heap.size∧n≤c∧c≤9223372036854775807∧(∀ i,i<n→w.cell? ⟨b,i,none⟩=some (.int .u32 ((f i:Nat):Int)))∧(∀ i,w.frozen? ⟨b,i,none⟩=false):=by
 have h0:=h
 rcases h.2 with hn|⟨b,c,cur,rfl,hb,hg,hc,hm,hs,ht⟩
 ·exact .inl hn
 refine .inr ⟨b,c,rfl,hb,(Array.getElem?_eq_some_iff.1 hg).1,hc,hm,fun i hi=>?_,fun i=>h0.frozenAt i⟩
 rw [World.ownsRow.cellAt h0 i (by omega),qG2 f hi]
theorem Wr.slice (h:Wr w B v n f):∃ ao c,v=.slice ao n c∧n≤c∧c≤9223372036854775807:=by
 rcases h.cases with ⟨rfl,rfl⟩|⟨b,c,rfl,_,_,h1,h2,_⟩
 ·exact ⟨none,0,rfl,Nat.le_refl _,by decide⟩
 exact ⟨_,_,rfl,h1,h2⟩
theorem Wr.congr (h:Wr w B v n f) (e:∀ i,i<n→f i=g i):Wr w B v n g:=by unfold Wr at *; rw [← xa5 e];exact h
theorem Wr.gr (h:Wr w B v n f) (hg:Gr w w'):Wr w' B v n f:=by
 refine ⟨h.1,?_⟩
 rcases h.2 with hn|⟨b,c,cur,rfl,hb,hh,rest⟩
 ·exact .inl hn
 exact .inr ⟨b,c,cur,rfl,hb,hg.block hh,rest⟩
theorem Wr.alloc (h:Wr w B v n f) (o:Obj):Wr (w.alloc o) B v n f:=h.gr (Gr.alloc w o)
theorem Wr.nil (w:World) (B:Nat) (f:Nat→Nat):Wr w B (.slice none 0 0) 0 f:=World.ownsRow_nil _ _ _ _
theorem Wr.own (h:Wr w B v n f):∀ k,v.ownBlock=some k→B≤k∧k<w.heap.size:=World.ownsRow.lt h
theorem Wr.set {b c i d:Nat} (h:Wr w B (.slice (some ⟨b,0,none⟩) n c) n f):Wr (w.setCell ⟨b,i,none⟩ (.int .u32 ((d:Nat):Int))) B (.slice (some ⟨b,0,none⟩) n c) n (fun j=>if j=i then d else f j):=by
 unfold Wr
 rw [← xs8]
 exact (World.ownsRow.stored h i _).1
theorem Wr.push {w0 wr w1:World} {v v':Value} {k d:Nat} {f:Nat→Nat} {o:Obj} (hb:Below w0.heap.size w0 wr) (ho:Wr wr (w0.heap.size+1) v k f)
  (hown:w1.ownsRow (w0.heap.size+1) 22 1 v' (k+1) (wvs f k ++ [.int .u32 ((d:Nat):Int)])) (hg:(wr.alloc o).grownBy w1 v.ownBlock) :
  Below w0.heap.size w0 w1∧Wr w1 (w0.heap.size+1) v' (k+1) (fun i=>if i=k then d else f i) :=
 ⟨(hb.alloc hb.size o).grown hg (Nat.le_trans hb.size (by simp)) (fun j hj=>Nat.le_of_succ_le (ho.own j hj).1),by unfold Wr;rw [← xi7];exact hown⟩
end
theorem xb5 {w0 wr w1:World} {v:Value} {k:Nat} {f:Nat→Nat} {o:Obj} {T:TypeId} {cs:Array Value} (hx:Bx wr w0.heap.size T cs) (ho:Wr wr (w0.heap.size+1) v k f) (hg:(wr.alloc o).grownBy w1 v.ownBlock):Bx w1 w0.heap.size T cs :=
 (hg.block _ (Nat.lt_of_lt_of_le hx.lt (by simp)) (fun e=>by have:=(ho.own _ e.symm).1;omega)).trans (hx.alloc o)
theorem qO3 {f g:Nat→Nat} {i sc p q:Nat} (hfg:vl g i+q*bp i=vl f i*sc+p):vl (fun j=>if j=i then (q+f i*sc) % 4294967296 else g j) (i+1)+(q+f i*sc) / 4294967296*bp (i+1)=vl f (i+1)*sc+p:=by
 have e1:vl (fun j=>if j=i then (q+f i*sc) % 4294967296 else g j) i=vl g i:=qd0 fun j hj=>if_neg (by omega)
 rw [qb3,qb3,e1,if_pos rfl,qb7]
 have e2:=Nat.mod_add_div (q+f i*sc) 4294967296
 generalize (q+f i*sc) % 4294967296=r at *
 generalize (q+f i*sc) / 4294967296=t at *
 have e3:(r+4294967296*t)*bp i=(q+f i*sc)*bp i:=by rw [e2]
 rw [Nat.add_mul,Nat.add_mul] at e3
 have e4:t*(4294967296*bp i)=4294967296*t*bp i:=by rw [← Nat.mul_assoc,Nat.mul_comm t]
 have e5:f i*sc*bp i=f i*bp i*sc:=by rw [Nat.mul_assoc,Nat.mul_comm sc,← Nat.mul_assoc]
 rw [e4,Nat.add_mul]
 omega
end
section
open Go.RowKit
theorem xm_ (w:World):Calls Tryz.prog 202 #[.slice none 0 0] w fun e w'=>e=.returned (.slice none 0 0)∧w=w':=by
 go_enter Tryz.func202,Tryz.ntmps202
 go_wp2
 go_loop [0] (fun l=>l=.slice none 0 0) (fun l=>qM4 l)
 case atStart=>rfl
 case round =>
  obtain rfl:=hrel
  go_wp2
  go_ret
  exact ⟨rfl,rfl⟩
theorem xw1 (w:World):Calls Tryz.prog 122 #[.slice none 0 0] w fun e w'=>e=.returned (Value.agg #[.int .u64 (lo (0)),.string (bg (0))])∧Below w.heap.size w w':=by
 go_enter Tryz.func122,Tryz.ntmps122
 go_wp2_with fail
 refine (xm_ _).mono ?_
 rintro e w1 ⟨rfl,rfl⟩
 go_wp2_with fail
 obtain ⟨W1,HW1⟩:∃ W1,Hid (w.alloc (.cells #[.int .u64 0,.string ⟨#[]⟩] 30)=W1):=⟨_,Lib.hid rfl⟩
 have HR0:Hid (Bx W1 w.heap.size 30 #[.int .u64 0,.string ⟨#[]⟩]):=Lib.hid (by rw [← HW1.out];exact Bx.new _ _ _)
 have HB1:Hid (Below w.heap.size w W1):=Lib.hid (by rw [← HW1.out];exact (Below.refl _ _).alloc (Nat.le_refl _) _)
 rw [HW1.out]
 clear HW1
 go_loopg [3,16] 0 (fun k n i wr=>n=.int .u64 0∧i=.int .i64 0∧Hid (wr=W1))
 case atStart=>exact ⟨rfl,rfl,Lib.hid rfl⟩
 case round =>
  obtain ⟨rfl,rfl,HE⟩:=hrel
  have e:wr=W1:=HE.out
  subst e
  have r0:=HR0.out.c0 (Gr.refl _)
  have r1:=HR0.out.c1 (Gr.refl _)
  have f0:=HR0.out.free wr (Gr.refl _)
  go_wp2_with fail
  exact bodyPost_ret (v:=(Value.agg #[.int .u64 (lo (0)),.string (bg (0))])) (by simp [results,Tryz.results122,go_sem,qp3,qo7,r0,r1]) rfl ⟨rfl,qi0 HB1.out (Nat.le_refl _) _ _⟩
theorem qD8 (s:ByteArray) (w:World) (h:4096<s.size) (hs:s.size≤9223372036854775807) :
  Calls Tryz.prog 163 #[.string s] w fun e w'=>e=.returned (.tuple #[(Value.agg #[.int .u64 (lo (0)),.string (bg (0))]),.int .i64 3])∧Below w.heap.size w w':=by
 go_enter Tryz.func163,Tryz.ntmps163
 go_wp2_with fail
 exact bodyPost_ret (v:=.tuple #[(Value.agg #[.int .u64 (lo (0)),.string (bg (0))]),.int .i64 3]) (by simp [results,Tryz.results163,go_sem,qp3,qo7]) rfl ⟨rfl,(Below.refl _ _).alloc (Nat.le_refl _) _⟩
theorem qD7 (s:ByteArray) (w:World) (h:s.size=0) :
  Calls Tryz.prog 163 #[.string s] w fun e w'=>e=.returned (.tuple #[(Value.agg #[.int .u64 (lo (0)),.string (bg (0))]),.int .i64 4])∧Below w.heap.size w w':=by
 have he:s.toList.isEmpty=true:=by rw [qw2,decide_eq_true h]
 go_enter Tryz.func163,Tryz.ntmps163
 go_wp2_with fail
 exact bodyPost_ret (v:=.tuple #[(Value.agg #[.int .u64 (lo (0)),.string (bg (0))]),.int .i64 4]) (by simp [results,Tryz.results163,go_sem,qp3,qo7]) rfl ⟨rfl,(Below.refl _ _).alloc (Nat.le_refl _) _⟩
theorem qN2 (s:ByteArray) (w:World) (h:1<s.size) (hs:s.size≤4096) (h0:byt s 0=48) :
  Calls Tryz.prog 163 #[.string s] w fun e w'=>e=.returned (.tuple #[(Value.agg #[.int .u64 (lo (0)),.string (bg (0))]),.int .i64 4])∧Below w.heap.size w w':=by
 have he:s.toList.isEmpty=false:=by rw [qw2,decide_eq_false (by omega)]
 have hb:(s[0]'(by omega)).toNat=48:=by rw [qd_ (by omega),h0]
 have h00:0<s.size:=by omega
 go_enter Tryz.func163,Tryz.ntmps163
 go_wp2_with fail
 exact bodyPost_ret (v:=.tuple #[(Value.agg #[.int .u64 (lo (0)),.string (bg (0))]),.int .i64 4]) (by simp [results,Tryz.results163,go_sem,qp3,qo7]) rfl ⟨rfl,(Below.refl _ _).alloc (Nat.le_refl _) _⟩
theorem qN3 (s:ByteArray) (w:World) (hs0:0<s.size) (hs:s.size≤4096) (h0:byt s 0=48→s.size≤1) :
  Calls Tryz.prog 163 #[.string s] w (ParsePost s w):=by
 obtain ⟨i0,hi,hz0,hz1,hz2⟩:=info_parts qx0
 have he:s.toList.isEmpty=false:=by rw [qw2,decide_eq_false (by omega)]
 obtain ⟨y0,hy0⟩:∃ y0,(s[0]'hs0).toNat=y0:=⟨_,rfl⟩
 have h00:y0=48→s.size≤1:=by rw [← hy0,qd_ hs0];exact h0
 obtain ⟨len,hlen⟩:∃ len,s.size=len:=⟨_,rfl⟩
 have HL:=Lib.hid hlen
 obtain ⟨W0,HW⟩:∃ W0,Hid (w.alloc (.cells #[.int .u64 0,.string ⟨#[]⟩] 30)=W0):=⟨_,Lib.hid rfl⟩
 have HB0:Hid (Below w.heap.size w W0):=Lib.hid (by rw [← HW.out];exact (Below.refl _ _).alloc (Nat.le_refl _) _)
 have HR0:Hid (Bx W0 w.heap.size 30 #[.int .u64 0,.string ⟨#[]⟩]):=Lib.hid (by rw [← HW.out];exact Bx.new _ _ _)
 rw [hlen] at hs0 hs h00
 by_cases hlead:y0=48∧1<len
 ·omega
 have hq:(y0:Int)=48→¬ (1:Int)<(len:Int):=by omega
 clear hlead h00 h0
 go_enter Tryz.func163,Tryz.ntmps163
 go_wp2_with fail
 all_goals
  (first|rename ¬ (y0:Int)=48=>hyy|rename (y0:Int)=48=>hyy)
  rw [HW.out]
  clear hyy hq
  go_loopg [4,5] len (fun k l at_ wr=>∃ (a m:Nat) (f:Nat→Nat),at_=.int .i64 (a:Int)∧Hid (a+k=len)∧a≤len∧m≤a∧Hid (Wr wr (w.heap.size+1) l m f)∧Hid (∀ i,i<m→f i<4294967296)∧Hid (vl f m=pv s a)∧Hid (∀ i,i<a→48≤byt s i∧byt s i≤57)∧Hid (Bx wr w.heap.size 30 #[.int .u64 0,.string ⟨#[]⟩])∧Hid (Below w.heap.size w wr))
  case' atStart=>exact ⟨0,0,fun _=>0,rfl,Lib.hid (Nat.zero_add _),Nat.zero_le _,Nat.zero_le _,Lib.hid (Wr.nil _ _ _),Lib.hid (fun i h=>absurd h (Nat.not_lt_zero _)),Lib.hid rfl,Lib.hid (fun i h=>absurd h (Nat.not_lt_zero _)),HR0,HB0⟩
  case' round =>
   obtain ⟨a,m,f,rfl,HAK,ha,hma,HWR,HF,HV,HDG,HZR,HB⟩:=hrel
   by_cases hal:a<len
   ·obtain ⟨E,hE⟩:∃ E:Nat,(a:Int)+((len:Int) - (a:Int) - 1) % 9+1=(E:Int):=⟨a+((len - a - 1) % 9+1),by omega⟩
    have hE1:a<E∧E≤a+9∧E≤len:=by omega
    have HE:=Lib.hid hE
    clear hE
    go_wp2_with fail
    rw [HE.out]
    clear HE
    obtain ⟨wo,rfl⟩:∃ wo:World,wo=wr:=⟨_,rfl⟩
    obtain ⟨ko,rfl⟩:∃ ko:Nat,ko=gk:=⟨_,rfl⟩
    go_loopg [5,7,8] (E - a) (fun j at_ part sc w1=>∃ t p c:Nat,at_=.int .i64 (t:Int)∧part=.int .u64 (p:Int)∧sc=.int .u64 (c:Int)∧Hid (t+j=E)∧a≤t∧t≤E∧Hid (p=pvr s a (t - a))∧Hid (c=10 ^ (t - a))∧Hid (∀ i,i<t→48≤byt s i∧byt s i≤57)∧Hid (w1=wo))
    case' atStart=>exact ⟨a,0,1,rfl,rfl,rfl,Lib.hid (by omega),Nat.le_refl _,by omega,Lib.hid (by rw [Nat.sub_self];rfl),Lib.hid (by rw [Nat.sub_self]),HDG,Lib.hid rfl⟩
    case' round =>
     obtain ⟨t,p,c,rfl,rfl,rfl,HTE,hat,hte,HP,HC,HDG2,HWW⟩:=hrel
     have ew:wr=wo:=HWW.out
     subst ew
     have HPL:Hid (p<10 ^ (t - a)∧(t - a)≤9):=Lib.hid ⟨by rw [HP.out];exact xk5 s a (t - a) (fun i hi=>(HDG2.out (a+i) (by omega)).2),by omega⟩
     by_cases htE:t<E
     ·have hlt:t<s.size:=by omega
      obtain ⟨y,hy⟩:∃ y,(s[t]'hlt).toNat=y:=⟨_,rfl⟩
      have hyb:byt s t=y:=by rw [← hy,qd_ hlt]
      have hy2:y<256:=by rw [← hyb];exact xj8 s t
      have HYB:=Lib.hid hyb
      have hpw:10 ^ (t - a)≤10 ^ 8:=Nat.pow_le_pow_right (by decide) (by omega)
      have hp9:p<100000000:=Nat.lt_of_lt_of_le HPL.out.1 hpw
      have hc9:c≤100000000:=by rw [HC.out];exact hpw
      clear hyb hpw
      by_cases hbad:y<48∨(¬ y<48∧57<y)
      ·have HBAD:=Lib.hid hbad
       have r0:=HZR.out.c0 (Gr.refl _)
       have r1:=HZR.out.c1 (Gr.refl _)
       have fr:=HZR.out.free wr (Gr.refl _)
       have hbad:(y:Int)<48∨(¬ (y:Int)<48∧(57:Int)<y):=by omega
       rcases hbad with hbad|⟨hbad,hbad2⟩
       all_goals
        go_wp2_with fail
        exact bodyPost_ret (v:=.tuple #[(Value.agg #[.int .u64 (lo (0)),.string (bg (0))]),.int .i64 4]) (by simp [results,Tryz.results163,go_sem,qp3,qo7,r0,r1]) rfl ⟨.inl ⟨rfl,fun h=>by have:=h t hlt;rw [HYB.out] at this;have:=HBAD.out;omega⟩,qi0 HB.out (Nat.le_refl _) _ _⟩
      have hg1:¬ (y:Int)<48:=by omega
      have hg2:¬ (57:Int)<y:=by omega
      clear hbad
      obtain ⟨p',hp'⟩:∃ p',10*p+(y - 48)=p':=⟨_,rfl⟩
      have hp2:(10:Int)*(p:Int)+((y:Int) - 48)=(p':Int):=by omega
      go_wp2_with fail
      go_roundg (E - (t+1))
      case' measure=>have:=HTE.out;omega
      case' rel=>exact ⟨t+1,p',10*c,rfl,rfl,rfl,Lib.hid (by omega),by omega,by omega,
       Lib.hid (by rw [show t+1 - a=(t - a)+1 by omega];show p'=10*pvr s a (t - a)+(byt s (a+(t - a)) - 48);rw [← HP.out,show a+(t - a)=t by omega,HYB.out,← hp']),
       Lib.hid (by rw [show t+1 - a=(t - a)+1 by omega,Nat.pow_succ,← HC.out,Nat.mul_comm]),
       Lib.hid (fun i hi=>by
        rcases Nat.lt_or_ge i t with h|h
        ·exact HDG2.out i h
        rw [show i=t by omega,HYB.out];omega),Lib.hid rfl⟩
     obtain rfl:t=E:=by omega
     have HPW:Hid (pv s t=pv s a*c+p):=Lib.hid (by
      rw [HP.out,HC.out,← xk4,show a+(t - a)=t by omega])
     have hp9:p<1000000000:=Nat.lt_of_lt_of_le HPL.out.1 (Nat.pow_le_pow_right (by decide) HPL.out.2:10 ^ (t - a)≤10 ^ 9)
     have hc9:c≤1000000000:=by rw [HC.out];exact (Nat.pow_le_pow_right (by decide) HPL.out.2:10 ^ (t - a)≤10 ^ 9)
     clear HP HC HDG HWW
     obtain ⟨ao,cap,hu4,hcap,hcap2⟩:=HWR.out.slice
     rw [hu4] at HWR ⊢
     clear hu4
     have hm:m≤4096:=by omega
     have HWA:Hid (Wr wr (w.heap.size+1) (.slice ao m cap) m f):=HWR
     go_wp2_with fail
     obtain ⟨wq,rfl⟩:∃ wq:World,wq=wr:=⟨_,rfl⟩
     go_loopg [7,70] m (fun j part ix w2=>∃ (i q:Nat) (g:Nat→Nat),part=.int .u64 (q:Int)∧ix=.int .i64 (i:Int)∧Hid (i+j=m)∧i≤m∧q<1000000000∧Hid (Wr w2 (w.heap.size+1) (.slice ao m cap) m g)∧Hid (∀ t,i≤t→g t=f t)∧Hid (∀ t,t<m→g t<4294967296)∧Hid (vl g i+q*bp i=vl f i*c+p)∧Hid (Bx w2 w.heap.size 30 #[.int .u64 0,.string ⟨#[]⟩])∧Hid (Below w.heap.size w w2))
     case' atStart=>exact ⟨0,p,f,rfl,rfl,Lib.hid (Nat.zero_add _),Nat.zero_le _,hp9,HWA,Lib.hid (fun _ _=>rfl),HF,Lib.hid (by simp [vl,qi7]),HZR,HB⟩
     case' round =>
      obtain ⟨i,q,g,rfl,rfl,HIJ,him,hq9,HWR2,HGF,HG2,HVV,HZR2,HB2⟩:=hrel
      clear HWA HWR HZR HB
      by_cases hil:i<m
      ·rcases HWR2.out.cases with ⟨_,h⟩|⟨b,c2,hv,hb1,hb2,hb3,hb4,hcell,hfz⟩
       ·omega
       injection hv with hv1 _ hv3
       subst hv1 hv3
       obtain ⟨d,hd⟩:∃ d,g i=d:=⟨_,rfl⟩
       have hd2:d<4294967296:=by rw [← hd];exact HG2.out i hil
       have hx:=hcell i hil
       rw [hd] at hx
       have hfi:=hfz i
       have hfd:f i=d:=by rw [← hd];exact (HGF.out i (Nat.le_refl _)).symm
       obtain ⟨pr,hpr⟩:∃ pr:Nat,(d:Int)*(c:Int)=(pr:Int):=⟨d*c,(Int.natCast_mul _ _).symm⟩
       have hprn:d*c=pr:=by
        have:((d*c:Nat):Int)=(pr:Int):=by rw [← hpr];exact Int.natCast_mul _ _
        omega
       have hpr2:pr≤4294967295*1000000000:=by rw [← hprn];exact Nat.mul_le_mul (by omega) hc9
       obtain ⟨S,hS⟩:∃ S:Nat,(q:Int)+(pr:Int)=(S:Int):=⟨q+pr,by omega⟩
       have hSb:S<4294967296*1000000000:=by omega
       have HST:Hid (vl (fun j=>if j=i then S % 4294967296 else g j) (i+1)+S / 4294967296*bp (i+1)=vl f (i+1)*c+p):=Lib.hid (by
        have h:=qO3 (f:=f) (g:=g) (i:=i) (sc:=c) (p:=p) (q:=q) HVV.out
        rw [hfd,hprn,show q+pr=S by omega] at h
        exact h)
       obtain ⟨r,hr⟩:∃ r:Nat,(S:Int) % 4294967296=(r:Int):=⟨S % 4294967296,by omega⟩
       obtain ⟨q',hq'⟩:∃ q':Nat,(S:Int) / 4294967296=(q':Int):=⟨S / 4294967296,by omega⟩
       have hq9':q'<1000000000:=by omega
       rw [show S % 4294967296=r by omega,show S / 4294967296=q' by omega] at HST
       have hr2:r<4294967296:=by omega
       have HR2:=Lib.hid hr2
       have hil2:(i:Int)<(m:Int):=by omega
       have HB1:=Lib.hid hb1
       clear hcell hfz hprn hfd hd hb1
       go_wp2_with fail
       go_roundg (m - (i+1))
       case' measure=>have:=HIJ.out;omega
       case' rel =>
        have hb1:=HB1.out
        refine ⟨i+1,q',fun j=>if j=i then r else g j,rfl,rfl,Lib.hid (by omega),by omega,hq9',Lib.hid (HWR2.out.set),Lib.hid (fun t ht=>(if_neg (by omega)).trans (HGF.out t (by omega))),Lib.hid (fun t ht=>by dsimp only;split;exact HR2.out;exact HG2.out t ht),HST,Lib.hid (HZR2.out.setOther (by show w.heap.size≠b;omega) _),Lib.hid (HB2.out.setCell (by show w.heap.size≤b;omega) _)⟩
      obtain rfl:i=m:=by omega
      have HVT:Hid (vl g i+q*bp i=pv s t):=Lib.hid (by rw [HPW.out,← HV.out];exact HVV.out)
      have hii:¬ (i:Int)<(i:Int):=by omega
      clear HVV
      by_cases hq0:q=0
      ·subst hq0
       go_wp2_with fail
       go_roundg (len - t)
       case' measure=>have:=HAK.out;omega
       case' rel=>exact ⟨t,i,g,rfl,Lib.hid (by omega),by omega,by omega,HWR2,HG2,Lib.hid (by have:=HVT.out;omega),HDG2,HZR2,HB2⟩
      have hq1:(0:Int)<(q:Int):=by omega
      go_wp2_with (first|(at_builtin;refine wpList_append_own _ rfl (.tmp 92) (.tmp 95) 79 rfl (w.heap.size+1) 22 i0 (.int .u32 0) 1 4 (by kernel_rfl) hi hz0 hz1 hz2 rfl (by decide) _ _ _ (by simp [Act.eval,Act.put]) (HWR2.out.alloc _) ⟨wr.heap.size,0,none⟩ 1 1 [.int .u32 ((q:Nat):Int)] (by simp [Act.eval,Act.put]) rfl (qg6 _ _ _) (ql6 _ _) (by unfold maxLen;omega) (by omega) (by have:=HZR2.out.lt;simp;omega) ?_)|fail)
      intro v' w5 hown' hgrow _
      have R:=Wr.push HB2.out HWR2.out hown' hgrow
      have HZ5:=Lib.hid (xb5 HZR2.out HWR2.out hgrow)
      have H1:=Lib.hid R.1
      have H2:=Lib.hid R.2
      clear R hown' hgrow
      go_wp2_with fail
      go_roundg (len - t)
      case' measure=>have:=HAK.out;omega
      case' rel=>exact ⟨t,i+1,fun j=>if j=i then q else g j,rfl,Lib.hid (by omega),by omega,by omega,H2,Lib.hid (fun t ht=>by
        dsimp only
        split
        ·omega
        exact HG2.out t (by omega)),Lib.hid (by rw [qb3,if_pos rfl,qd0 (g:=g) (fun j hj=>if_neg (by omega))];exact HVT.out),HDG2,HZ5,H1⟩
   obtain rfl:a=len:=by omega
   have hne:¬ (a:Int)<(a:Int):=by omega
   have HPV:Hid (vl f m=pv s s.size):=Lib.hid (by rw [hlen];exact HV.out)
   have HAD:Hid (qP7 s):=Lib.hid (fun i hi=>HDG.out i (by omega))
   have hm2:m≤4096:=by omega
   have HOF:Hid (Calls Tryz.prog 122 #[u4] wr fun e w'=>e=.returned (Value.agg #[.int .u64 (lo (pv s s.size)),.string (bg (pv s s.size))])∧Below wr.heap.size wr w'):=Lib.hid (by
    rw [← HPV.out]
    rcases HWR.out.cases with ⟨rfl,rfl⟩|⟨b,c2,rfl,hb1,hb2,hb3,hb4,hcell,hfz⟩
    ·exact xw1 wr
    exact qq6 b m c2 f wr hb3 hb4 (by omega) hcell hb2 HF.out)
   go_wp2_with fail
   refine HOF.out.mono ?_
   rintro e w3 ⟨rfl,hb3⟩
   have HG3:=Lib.hid (show Gr wr w3 from hb3)
   clear hb3
   have r0:=HZR.out.c0 HG3.out
   have r1:=HZR.out.c1 HG3.out
   have fr:=HZR.out.free w3 HG3.out
   go_wp2_with fail
   exact bodyPost_ret (v:=.tuple #[(Value.agg #[.int .u64 (lo (pv s a)),.string (bg (pv s a))]),.int .i64 0]) (by simp [results,Tryz.results163,go_sem,r0,r1,hlen]) rfl ⟨.inr ⟨by rw [hlen],HAD.out⟩,qi0 (HB.out.trans (HG3.out.mono HB.out.size)) (Nat.le_refl _) _ _⟩
theorem qV_ (s:ByteArray) (w:World) (hs:s.size≤9223372036854775807) :
  Calls Tryz.prog 163 #[.string s] w fun e w'=>e=.returned (.tuple #[(Value.agg #[.int .u64 (lo (pnum s)),.string (bg (pnum s))]),.int .i64 (qb8 s)])∧Below w.heap.size w w':=by
 by_cases h1:4096<s.size
 ·unfold pnum qb8
  rw [if_pos h1,if_neg (by omega)]
  exact qD8 s w h1 hs
 by_cases h2:s.size=0
 ·unfold pnum qb8
  rw [if_neg h1,if_neg (fun h=>by have:=h.2.1;omega),if_neg (fun h=>by have:=h.1;omega)]
  exact qD7 s w h2
 by_cases h3:byt s 0=48∧1<s.size
 ·unfold pnum qb8
  rw [if_neg h1,if_neg (fun h=>by have:=h.2.2.1 h3.1;omega),if_neg (fun h=>by have:=h.2.1 h3.1;omega)]
  exact qN2 s w h3.2 (by omega) h3.1
 refine (qN3 s w (by omega) (by omega) (fun h=>by omega)).mono ?_
 rintro e w' ⟨⟨rfl,h⟩|⟨rfl,h⟩,hb⟩
 ·unfold pnum qb8
  rw [if_neg h1,if_neg (fun h'=>h h'.2.2.2),if_neg (fun h'=>h h'.2.2)]
  exact ⟨rfl,hb⟩
 unfold pnum qb8
 have hg:qx5 s:=⟨by omega,fun h=>by omega,h⟩
 rw [if_neg h1,if_pos ⟨by omega,hg⟩,if_pos hg]
 exact ⟨rfl,hb⟩
end
end Go.Proofs.YtobojnodohjiaaaGreatDoor
