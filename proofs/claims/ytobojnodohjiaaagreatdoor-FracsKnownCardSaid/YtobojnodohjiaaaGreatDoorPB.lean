/- A pack of texts: Short, Knuth, Long, Div, Gcd. No condition but those stated. -/
import Derived.Test.YtobojnodohjiaaaGreatDoorPM
import Derived.Deep.LoopGhost
import Derived.BigGuardPart
import Derived.Deep.CutBlock
import Derived.Deep.RegionHeld3
set_option maxRecDepth 100000
set_option maxHeartbeats 16000000
set_option linter.unusedVariables false
set_option linter.unusedSimpArgs false
namespace Go.Proofs.YtobojnodohjiaaaGreatDoor
section
open Go.RowKit
theorem qE6 (n y i:Nat) (hy:0<y):((n / bp (i+1)) % y*4294967296+dg n i) / y=dg (n / y) i∧((n / bp (i+1)) % y*4294967296+dg n i) % y=(n / bp i) % y:=by
 have h1:n / bp i=n / bp (i+1)*4294967296+dg n i:=by
  rw [dg,qb7,Nat.mul_comm 4294967296,← Nat.div_div_eq_div_mul]
  omega
 have h2:n / y / bp i=n / bp i / y:=by rw [Nat.div_div_eq_div_mul,Nat.div_div_eq_div_mul,Nat.mul_comm]
 obtain ⟨a,ha⟩:∃ a,n / bp (i+1)=a:=⟨_,rfl⟩
 obtain ⟨d,hd⟩:∃ d,dg n i=d:=⟨_,rfl⟩
 have hdl:d<4294967296:=by rw [← hd];exact qd1 _ _
 rw [ha,hd] at h1
 have h3:a*4294967296+d=y*(a / y*4294967296)+(a % y*4294967296+d):=by
  have:=Nat.div_add_mod a y
  have e:a*4294967296=(y*(a / y)+a % y)*4294967296:=by rw [this]
  rw [e];grind
 have h4:(a % y*4294967296+d) / y<4294967296:=by
  refine Nat.div_lt_of_lt_mul ?_
  have:(a % y+1)*4294967296≤y*4294967296:=Nat.mul_le_mul_right _ (Nat.mod_lt _ hy)
  omega
 rw [ha,hd,dg,h2,h1,h3]
 constructor
 ·rw [Nat.mul_add_div hy]
  generalize (a % y*4294967296+d) / y=r at *
  omega
 rw [Nat.mul_add_mod]
theorem qv6 (u i:Nat):dg (u / 2) i=dg u i / 2+dg u (i+1) % 2*2147483648:=by
 have h1:u / 2 / bp i=u / bp i / 2:=by rw [Nat.div_div_eq_div_mul,Nat.div_div_eq_div_mul,Nat.mul_comm]
 have h2:u / bp (i+1)=u / bp i / 4294967296:=by rw [qb7,Nat.mul_comm,Nat.div_div_eq_div_mul]
 unfold dg
 rw [h1,h2]
 omega
theorem qO4 {A X c P d M:Nat} (h:A+c*P=X*M):A+(d*M % 4294967296+c)*P+d*M / 4294967296*(4294967296*P)=(X+d*P)*M:=by
 have h1:d*M % 4294967296*P+d*M / 4294967296*(4294967296*P)=d*M*P:=by
  rw [← Nat.mul_assoc,← Nat.add_mul]
  congr 1
  omega
 have h2:(X+d*P)*M=X*M+d*M*P:=by grind
 rw [Nat.add_mul]
 omega
theorem qu4 {d n c:Nat} (hn:n<32) (hc:c<2 ^ n):d*2 ^ n % 4294967296+c<4294967296∧(d*2 ^ n % 4294967296) ||| c=d*2 ^ n % 4294967296+c:=by
 have e:(4294967296:Nat)=2 ^ (32 - n)*2 ^ n:=by rw [← Nat.pow_add,show 32 - n+n=32 by omega]
 have h:d*2 ^ n % 4294967296=2 ^ n*(d % 2 ^ (32 - n)):=by
  rw [e,Nat.mul_mod_mul_right,Nat.mul_comm]
 have hl:d % 2 ^ (32 - n)<2 ^ (32 - n):=Nat.mod_lt _ (Nat.pow_pos (by decide))
 rw [h]
 constructor
 ·rw [e]
  have:(d % 2 ^ (32 - n)+1)*2 ^ n≤2 ^ (32 - n)*2 ^ n:=Nat.mul_le_mul_right _ hl
  have h2:(d % 2 ^ (32 - n)+1)*2 ^ n=2 ^ n*(d % 2 ^ (32 - n))+2 ^ n:=by grind
  omega
 exact (Nat.two_pow_add_eq_or_of_lt hc _).symm
theorem qE5 {d n:Nat} (hd:d<4294967296):d*2 ^ n / 4294967296<2 ^ n:=by
 refine Nat.div_lt_of_lt_mul ?_
 exact Nat.mul_lt_mul_of_pos_right hd (Nat.pow_pos (by decide))
def ShortPost (n k y:Nat) (w:World) (e:Ending) (w':World):Prop :=
 ∃ g:Nat,e=.returned (.tuple #[.slice (some ⟨g,0,none⟩) k k,.int .u32 ((n % y:Nat):Int)])∧w.heap.size≤g∧Ws w' g k (dg (n / y))∧Below w.heap.size w w'
theorem qB2 (n y b c k:Nat) (w:World) (hk:k≤1099511627776) (hcell:∀ i,i<k→w.cell? ⟨b,i,none⟩=some (.int .u32 ((dg n i:Nat):Int))) (hb:b<w.heap.size)
  (hn:n<bp k) (hy:0<y) (hy2:y<4294967296) :
  Calls Tryz.prog 121 #[.slice (some ⟨b,0,none⟩) k c,.int .u32 y] w (ShortPost n k y w):=by
 have HC:=Lib.hid hcell
 clear hcell
 have hmk:=qp4 (k:Int) k rfl (by omega)
 have HW0:Hid (Ws (w.alloc (.cells (madeCells #[.int .u32 0] k) 22)) w.heap.size k fun _=>0):=Ws.made w k
 have HB0:Hid (Below w.heap.size w (w.alloc (.cells (madeCells #[.int .u32 0] k) 22))):=(Below.refl _ _).alloc (Nat.le_refl _) _
 have hr0:Hid (n / bp k % y=0):=by
  show n / bp k % y=0
  rw [Nat.div_eq_of_lt hn,Nat.zero_mod]
 have HN:=Lib.hid hn
 clear hn
 go_enter Tryz.func121,Tryz.ntmps121
 go_wp2_with fail
 have HMK:=Lib.hid hmk
 clear hmk
 go_loopw [5,6] (fun r i wr=>∃ j:Nat,j≤k∧i=.int .i64 ((j:Int) - 1)∧r=.int .u32 ((n / bp j % y:Nat):Int)∧Ws wr w.heap.size k (fun t=>if j≤t then dg (n / y) t else 0)∧Below w.heap.size w wr) (fun _ i _=>(intOf i+1).toNat)
 case atStart =>
  refine ⟨k,Nat.le_refl _,rfl,by rw [hr0.out];rfl,HW0.out.congr fun i hi=>?_,HB0.out⟩
  rw [if_neg (by omega)]
 case round =>
  obtain ⟨j,hj,rfl,rfl,hws,hbel⟩:=hrel
  clear HW0 HB0
  rcases j with _|j
  ·have H1:=Lib.hid (hws.congr (g:=dg (n / y)) fun i _=>by rw [if_pos (Nat.zero_le _)])
   have H2:=Lib.hid hbel
   clear hws hbel
   rw [show (((0:Nat):Int) - 1) = -1 from rfl,show n / bp 0 % y=n % y from by rw [qi7,Nat.div_one]]
   go_wp2
   go_ret2
   exact ⟨w.heap.size,rfl,Nat.le_refl _,H1.out,H2.out⟩
  rw [show (((j+1:Nat):Int) - 1)=(j:Int) from by omega]
  obtain ⟨d1,d2⟩:=qE6 n y j hy
  have hcell:wr.cell? ⟨b,j,none⟩=some (.int .u32 ((dg n j:Nat):Int)):=by
   rw [hbel.cell (p:=⟨b,j,none⟩) hb]
   exact HC.out j (by omega)
  have hrl:n / bp (j+1) % y<y:=Nat.mod_lt _ hy
  obtain ⟨r,HR⟩:∃ r,Hid (n / bp (j+1) % y=r):=⟨_,Lib.hid rfl⟩
  rw [HR.out] at d1 d2 hrl
  rw [HR.out]
  have hdl:=qd1 n j
  have hc2:=hws.cell (show j<k by omega)
  have hfr:=hws.frozen j
  have H1:=Lib.hid hws
  have H2:=Lib.hid hbel
  have D1:=Lib.hid d1
  have D2:=Lib.hid d2
  clear hws hbel d1 d2
  go_wp2_with (go_at_call 203;refine (qR4 _ _ _ _ (by omega) (by omega) (by omega)).mono ?_;rintro e w' ⟨rfl,q,rfl⟩)
  go_roundw
  case rel =>
   have e1:((r:Int)*4294967296+(dg n j:Int)) / (y:Int)=((dg (n / y) j:Nat):Int):=by rw [← D1.out];simp
   have e2:((r:Int)*4294967296+(dg n j:Int)) % (y:Int)=((n / bp j % y:Nat):Int):=by rw [← D2.out];simp
   rw [e1,e2]
   refine ⟨j,by omega,rfl,rfl,?_,(qa0 H2.out _).setCell (Nat.le_refl _) _⟩
   refine ((H1.out.drewN q).set j _).congr fun t ht=>?_
   by_cases e:t=j
   ·simp [e]
   have e2:(j+1≤t) ↔ (j≤t):=by omega
   simp [e,e2]
  case measure=>simp [intOf]
theorem qT8 (d s:Nat):(d:Int)*2 ^ s=((d*2 ^ s:Nat):Int):=by simp
theorem xD9 {d s c:Nat} (hs:s<32) (hc:c<2 ^ s):bits .or .u32 ((d:Int)*2 ^ s % 4294967296) (c:Int)=((d*2 ^ s % 4294967296+c:Nat):Int):=by
 have hp:(2:Nat) ^ s≤2 ^ 31:=Nat.pow_le_pow_right (by decide) (by omega)
 obtain ⟨_,h2⟩:=qu4 (d:=d) hs hc
 have e:(d:Int)*2 ^ s % 4294967296=((d*2 ^ s % 4294967296:Nat):Int):=by rw [qT8];omega
 rw [e,u32_or_nat _ _ (Nat.mod_lt _ (by decide)) (by omega),h2]
theorem xh6 {d s:Nat} (hs:s<32) (hd:d<4294967296):IntKind.u64.wrap ((d:Int)*2 ^ s) / 4294967296 % 4294967296=((d*2 ^ s / 4294967296:Nat):Int):=by
 have hp:(2:Nat) ^ s≤2 ^ 31:=Nat.pow_le_pow_right (by decide) (by omega)
 have h1:d*2 ^ s≤4294967295*2 ^ 31:=Nat.mul_le_mul (by omega) hp
 rw [IntKind.wrap_u64,qT8]
 generalize d*2 ^ s=z at *
 omega
def ShiftedPost (n k s:Nat) (w:World) (e:Ending) (w':World):Prop :=
 ∃ g:Nat,e=.returned (.slice (some ⟨g,0,none⟩) (k+1) (k+1))∧w.heap.size≤g∧Ws w' g (k+1) (dg (n*2 ^ s))∧Below w.heap.size w w'
def ShiftRow (n k s i c g:Nat) (wr:World):Prop :=
 ∃ F:Nat→Nat,Ws wr g (k+1) F∧(∀ t,t<k+1→F t<4294967296)∧c<2 ^ s∧vl F i+c*bp i=vl (dg n) i*2 ^ s
theorem ShiftRow.step {n k s i c g:Nat} {wr:World} (h:ShiftRow n k s i c g wr) (hs:s<32) :
  ShiftRow n k s (i+1) (dg n i*2 ^ s / 4294967296) g (wr.setCell ⟨g,i,none⟩ (.int .u32 ((dg n i*2 ^ s % 4294967296+c:Nat):Int))):=by
 obtain ⟨F,h1,h2,h3,h4⟩:=h
 refine ⟨_,h1.set i _,fun t ht=>?_,qE5 (qd1 _ _),?_⟩
 ·by_cases e:t=i
  ·simp only [e,if_true];exact (qu4 hs h3).1
  simp only [e,if_false];exact h2 t ht
 rw [qb3,qb3,qb7,if_pos rfl,qd0 (g:=F) (fun t ht=>by simp [show ¬ t=i by omega])]
 exact qO4 h4
theorem ShiftRow.done {n k s c g:Nat} {wr:World} (h:ShiftRow n k s k c g wr) (hs:s<32) (hn:n<bp k) :
  Ws (wr.setCell ⟨g,k,none⟩ (.int .u32 ((c:Nat):Int))) g (k+1) (dg (n*2 ^ s)):=by
 obtain ⟨F,h1,h2,h3,h4⟩:=h
 have hp:(2:Nat) ^ s≤2 ^ 31:=Nat.pow_le_pow_right (by decide) (by omega)
 have hc:c<4294967296:=by omega
 have hF:∀ t,t<k+1→(if t=k then c else F t)<4294967296:=fun t ht=>by
  split
  ·exact hc
  exact h2 t ht
 have hv:vl (fun t=>if t=k then c else F t) (k+1)=n*2 ^ s:=by
  rw [qb3,if_pos rfl,qd0 (g:=F) (fun i hi=>by simp [show ¬ i=k by omega]),h4,qa1 hn]
 refine (h1.set k c).congr fun i hi=>?_
 rw [← hv]
 exact (xn0 (f:=fun t=>if t=k then c else F t) hF hi).symm
theorem qu5 (n b c k s:Nat) (w:World) (hk:k≤1099511627776) (hcell:∀ i,i<k→w.cell? ⟨b,i,none⟩=some (.int .u32 ((dg n i:Nat):Int))) (hb:b<w.heap.size)
  (hn:n<bp k) (hs:s<32) :
  Calls Tryz.prog 205 #[.slice (some ⟨b,0,none⟩) k c,.int .i64 s] w (ShiftedPost n k s w):=by
 have HC:=Lib.hid hcell
 clear hcell
 have hmk:=qp4 ((k:Int)+1) (k+1) (by omega) (by omega)
 have HW0:Hid (ShiftRow n k s 0 0 w.heap.size (w.alloc (.cells (madeCells #[.int .u32 0] (k+1)) 22))):=⟨_,Ws.made w (k+1),fun _ _=>(by decide:0<4294967296),Nat.pow_pos (by decide),by simp [vl]⟩
 have HB0:Hid (Below w.heap.size w (w.alloc (.cells (madeCells #[.int .u32 0] (k+1)) 22))):=(Below.refl _ _).alloc (Nat.le_refl _) _
 have HN:=Lib.hid hn
 have hs1:(s:Int)≤31:=by omega
 have hs0:(0:Int)≤(s:Int):=by omega
 clear hn
 go_enter Tryz.func205,Tryz.ntmps205
 go_wp2_with fail
 have HMK:=Lib.hid hmk
 clear hmk
 go_loopw [6,15] (fun c i wr=>∃ i' c':Nat,i'≤k∧i=.int .i64 i'∧c=.int .u32 c'∧ShiftRow n k s i' c' w.heap.size wr∧Below w.heap.size w wr) (fun _ i _=>k - (intOf i).toNat)
 case atStart=>exact ⟨0,0,by omega,rfl,rfl,HW0.out,HB0.out⟩
 case round =>
  obtain ⟨i,c',hi,rfl,rfl,hrow,hbel⟩:=hrel
  clear HW0 HB0
  by_cases hik:i<k
  ·have hcell:wr.cell? ⟨b,i,none⟩=some (.int .u32 ((dg n i:Nat):Int)):=by
    rw [hbel.cell (p:=⟨b,i,none⟩) hb]
    exact HC.out i hik
   have HST:=Lib.hid (hrow.step hs)
   have H2:=Lib.hid hbel
   obtain ⟨F,hF,_,hc,_⟩:=hrow
   have hc2:=hF.cell (show i<k+1 by omega)
   have hfr:=hF.frozen i
   have hdl:=qd1 n i
   have HCC:=Lib.hid hc
   clear hbel hF hc
   go_wp2_with fail
   go_roundw
   case rel =>
    rw [xD9 hs HCC.out,xh6 hs hdl]
    exact ⟨i+1,_,by omega,by go_num,rfl,HST.out,H2.out.setCell (Nat.le_refl _) _⟩
   case measure=>simp [intOf];omega
  obtain rfl:i=k:=by omega
  have HST:=Lib.hid (hrow.done hs HN.out)
  have H2:=Lib.hid hbel
  obtain ⟨F,hF,_,_,_⟩:=hrow
  have hc2:=hF.cell (show i<i+1 by omega)
  have hfr:=hF.frozen i
  clear hbel hF
  go_wp2
  go_ret
  exact ⟨w.heap.size,rfl,Nat.le_refl _,HST.out,H2.out.setCell (Nat.le_refl _) _⟩
theorem qn0 (w:World) (row:Option Nat):w.grownBy w row:=World.grownBy.refl w row
theorem qV8 {a w:World} {row:Option Nat} (h:a.grownBy w row):a.grownBy w.drew row:=⟨h.os,h.tape,h.output,h.size,h.block⟩
theorem qe0 {a w:World} {g:Nat} (h:a.grownBy w (some g)) (i:Nat) (u:Value):a.grownBy (w.setCell ⟨g,i,none⟩ u) (some g) :=
 ⟨h.os,h.tape,h.output,by simpa [World.setCell] using h.size,fun k hk hne=>(Below.heap_setCell _ _ _ _ (by
  intro e
  exact hne (by rw [e]))).trans (h.block k hk hne)⟩
theorem qN1 {a b c:World} {row:Option Nat} (h:a.grownBy b row) (k:b.grownBy c row):a.grownBy c row :=
 ⟨k.os.trans h.os,k.tape.trans h.tape,k.output.trans h.output,Nat.le_trans h.size k.size,fun i hi hne=>(k.block i (Nat.lt_of_lt_of_le hi h.size) hne).trans (h.block i hi hne)⟩
theorem Ws.only {w w':World} {b n g:Nat} {f:Nat→Nat} (h:Ws w b n f) (hg:w.grownBy w' (some g)) (hne:b≠g):Ws w' b n f :=
 World.rowIs.of_block h (hg.block b h.lt (fun e=>hne (by injection e)))
theorem xo1 {a b:Nat} (ha:a<4294967296):bits .or .u32 ((a:Int) / 2) ((b:Int)*2147483648 % 4294967296)=((a / 2+b % 2*2147483648:Nat):Int):=by
 have e1:(a:Int) / 2=((a / 2:Nat):Int):=by omega
 have e2:(b:Int)*2147483648 % 4294967296=((b % 2*2147483648:Nat):Int):=by omega
 rw [e1,e2,u32_or_nat _ _ (by omega) (by omega)]
 congr 1
 have:=Nat.two_pow_add_eq_or_of_lt (i:=31) (b:=a / 2) (by omega) (b % 2)
 rw [Nat.or_comm,Nat.mul_comm,← this]
 omega
def HalfPost (n b k:Nat) (w:World) (e:Ending) (w':World):Prop:=e=.returned (.tuple #[])∧Ws w' b k (dg (n / 2))∧w.grownBy w' (some b)
theorem xe0 (n b c k:Nat) (w:World) (hk:k≤1099511627776) (hws:Ws w b k (dg n)) (hn:n<bp k) :
  Calls Tryz.prog 207 #[.slice (some ⟨b,0,none⟩) k c] w (HalfPost n b k w):=by
 have HW:=Lib.hid hws
 have HN:=Lib.hid hn
 clear hws hn
 go_enter Tryz.func207,Tryz.ntmps207
 go_wp2_with fail
 go_loopw [5] (fun i wr=>∃ i':Nat,i'≤k∧i=.int .i64 i'∧Ws wr b k (fun t=>if t<i' then dg (n / 2) t else dg n t)∧w.grownBy wr (some b)) (fun i _=>k - (intOf i).toNat)
 case atStart=>exact ⟨0,by omega,rfl,HW.out,qn0 _ _⟩
 case round =>
  obtain ⟨i,hi,rfl,hws,hon⟩:=hrel
  by_cases hik:i<k
  ·have hcell:=hws.cell hik
   simp only [Nat.lt_irrefl,if_false] at hcell
   have hfr:=hws.frozen i
   have ha:=qd1 n i
   have HH:=Lib.hid (qv6 n i)
   have H1:=Lib.hid hws
   have H2:=Lib.hid hon
   by_cases hl:i+1<k
   ·have hcell2:=hws.cell hl
    simp only [show ¬ i+1<i by omega,if_false] at hcell2
    have hb:=qd1 n (i+1)
    have hor:=xo1 (b:=dg n (i+1)) ha
    rw [← qv6] at hor
    have HOR:=Lib.hid hor
    have hl0:(0:Int)≤(i:Int)+1:=by omega
    have hl1:(i:Int)+1<(k:Int):=by omega
    clear hws hon hor
    go_wp2_with fail
    go_region
    all_goals
     go_wp2
     go_roundw
     case rel =>
      rw [HOR.out,show ((dg n i:Nat):Int) / 2=((dg n i / 2:Nat):Int) from by omega]
      refine ⟨i+1,by omega,by go_num,?_,qV8 (qe0 (qe0 H2.out i _) i _)⟩
      refine (((H1.out.set i _).set i _).drew).congr fun t ht=>?_
      by_cases e:t=i
      ·simp [e]
      have e2:(t<i) ↔ (t<i+1):=by omega
      simp [e,e2]
     case measure=>simp [intOf];omega
   clear hws hon
   go_wp2_with fail
   go_roundw
   case rel =>
    have hz:dg n (i+1)=0:=qt2 HN.out (by omega)
    have hh:=HH.out
    rw [hz] at hh
    rw [show ((dg n i:Nat):Int) / 2=((dg (n / 2) i:Nat):Int) from by omega]
    refine ⟨i+1,by omega,by go_num,?_,qe0 H2.out i _⟩
    refine (H1.out.set i _).congr fun t ht=>?_
    by_cases e:t=i
    ·simp [e]
    have e2:(t<i) ↔ (t<i+1):=by omega
    simp [e,e2]
   case measure=>simp [intOf];omega
  obtain rfl:i=k:=by omega
  have H1:=Lib.hid (hws.congr (g:=dg (n / 2)) fun t ht=>by rw [if_pos ht])
  have H2:=Lib.hid hon
  clear hws hon
  go_wp2
  go_end0
  exact ⟨rfl,H1.out,H2.out⟩
def LessPost (F:Nat→Nat) (o m N b V D:Nat) (w:World) (e:Ending) (w':World):Prop :=
 ∃ (G:Nat→Nat) (ln:Nat),e=.returned (.bool (decide (0<ln)))∧ln≤1∧Ws w' b N G∧(∀ t,t<N→G t<4294967296)∧(∀ t,t<o∨o+m<t→G t=F t) ∧
  vl (fun t=>G (o+t)) (m+1)+D*V=vl (fun t=>F (o+t)) (m+1)+ln*bp (m+1)∧w.grownBy w' (some b)
theorem qz9 {A X Y c l P u d D:Nat} {t s l':Nat} (ht:t=c+D*d) (hs:s+t % 4294967296+l=u+4294967296*l') (h:A+D*Y=X+(l+c)*P) :
  A+s*P+D*(Y+d*P)=X+u*P+(l'+t / 4294967296)*(4294967296*P):=by
 have h1:(s+t % 4294967296+l)*P=(u+4294967296*l')*P:=by rw [hs]
 have h2:t*P=t % 4294967296*P+t / 4294967296*(4294967296*P):=by
  rw [← Nat.mul_assoc,← Nat.add_mul]
  congr 1
  omega
 have h3:t*P=c*P+D*(d*P):=by rw [ht];grind
 have h4:D*(Y+d*P)=D*Y+D*(d*P):=by grind
 have h5:(s+t % 4294967296+l)*P=s*P+t % 4294967296*P+l*P:=by grind
 have h6:(u+4294967296*l')*P=u*P+l'*(4294967296*P):=by grind
 have h7:(l+c)*P=l*P+c*P:=by grind
 have h8:(l'+t / 4294967296)*(4294967296*P)=l'*(4294967296*P)+t / 4294967296*(4294967296*P):=by grind
 omega
def LessRow (F:Nat→Nat) (o m N b v D i c l:Nat) (wr:World) (G:Nat→Nat):Prop :=
 Ws wr b N G∧(∀ t,t<N→G t<4294967296)∧(∀ t,t<o∨o+i≤t→G t=F t)∧l≤1∧c<4294967296∧o+m<N ∧
  vl (fun t=>G (o+t)) i+D*vl (dg v) i=vl (fun t=>F (o+t)) i+(l+c)*bp i
theorem LessRow.step {F:Nat→Nat} {o m N b v D i c l:Nat} {wr:World} {G:Nat→Nat} (h:LessRow F o m N b v D i c l wr G) (hi:i<m) (hD:D<4294967296) :
  LessRow F o m N b v D (i+1) ((c+D*dg v i) / 4294967296) (bor (F (o+i)) ((c+D*dg v i) % 4294967296) l)
   (wr.setCell ⟨b,o+i,none⟩ (.int .u32 ((sb (F (o+i)) ((c+D*dg v i) % 4294967296) l:Nat):Int)))
   (fun t=>if t=o+i then sb (F (o+i)) ((c+D*dg v i) % 4294967296) l else G t):=by
 obtain ⟨h1,h2,h3,h4,h5,h6,h7⟩:=h
 have hG:G (o+i)=F (o+i):=h3 _ (.inr (Nat.le_refl _))
 have hF:F (o+i)<4294967296:=by rw [← hG];exact h2 _ (by omega)
 have hd:=qd1 v i
 have hp:D*dg v i≤4294967295*4294967295:=Nat.mul_le_mul (by omega) (by omega)
 refine ⟨h1.set _ _,fun t ht=>?_,fun t ht=>?_,qH2 _ _ _,by omega,h6,?_⟩
 ·dsimp only
  split
  ·exact xq6 _ _ _
  exact h2 t ht
 ·dsimp only
  rw [if_neg (by omega)];exact h3 t (by omega)
 have e:vl (fun t=>(fun t=>if t=o+i then sb (F (o+i)) ((c+D*dg v i) % 4294967296) l else G t) (o+t)) i=vl (fun t=>G (o+t)) i :=
  qd0 fun t ht=>by simp only [show ¬ o+t=o+i by omega,if_false]
 rw [qb3,qb3,qb3,qb7,e]
 simp only [if_true]
 exact qz9 rfl (qX9 hF (Nat.mod_lt _ (by decide)) h4) h7
theorem LessRow.last {F:Nat→Nat} {o m N b v D c l:Nat} {wr:World} {G:Nat→Nat} (h:LessRow F o m N b v D m c l wr G) (hv:v<bp m) :
  Ws (wr.setCell ⟨b,o+m,none⟩ (.int .u32 ((sb (F (o+m)) c l:Nat):Int))) b N (fun t=>if t=o+m then sb (F (o+m)) c l else G t) ∧
  (∀ t,t<N→(if t=o+m then sb (F (o+m)) c l else G t)<4294967296)∧(∀ t,t<o∨o+m<t→(if t=o+m then sb (F (o+m)) c l else G t)=F t) ∧
  vl (fun t=>if o+t=o+m then sb (F (o+m)) c l else G (o+t)) (m+1)+D*v=vl (fun t=>F (o+t)) (m+1)+bor (F (o+m)) c l*bp (m+1):=by
 obtain ⟨h1,h2,h3,h4,h5,h6,h7⟩:=h
 have hG:G (o+m)=F (o+m):=h3 _ (.inr (Nat.le_refl _))
 have hF:F (o+m)<4294967296:=by rw [← hG];exact h2 _ (by omega)
 refine ⟨h1.set _ _,fun t ht=>?_,fun t ht=>?_,?_⟩
 ·split
  ·exact xq6 _ _ _
  exact h2 t ht
 ·rw [if_neg (by omega)];exact h3 t (by omega)
 have e:vl (fun t=>if o+t=o+m then sb (F (o+m)) c l else G (o+t)) m=vl (fun t=>G (o+t)) m :=
  qd0 fun t ht=>by simp only [show ¬ o+t=o+m by omega,if_false]
 rw [qb3,qb3,qb7,e]
 simp only [if_true]
 rw [qa1 hv] at h7
 have h8:=qz9 (d:=0) (t:=c) (D:=D) (u:=F (o+m)) (s:=sb (F (o+m)) c l) (l':=bor (F (o+m)) c l) (by simp) (by rw [Nat.mod_eq_of_lt h5];exact qX9 hF h5 h4) h7
 rw [Nat.zero_mul,Nat.add_zero,Nat.div_eq_of_lt h5,Nat.add_zero] at h8
 exact h8
theorem xe_ (F:Nat→Nat) (o m N b bv cu cv v D:Nat) (w:World) (hm:m≤1099511627776) (hN:N≤1099511627776) (ho:o+m<N) (hu:Ws w b N F) (hF:∀ t,t<N→F t<4294967296)
  (hv:∀ i,i<m→w.cell? ⟨bv,i,none⟩=some (.int .u32 ((dg v i:Nat):Int))) (hbv:bv<w.heap.size) (hne:bv≠b) (hvm:v<bp m) (hD:D<4294967296) :
  Calls Tryz.prog 206 #[.slice (some ⟨b,o,none⟩) (m+1) cu,.slice (some ⟨bv,0,none⟩) m cv,.int .u64 D] w (LessPost F o m N b v D w):=by
 have HV:=Lib.hid hv
 have HU:Hid (LessRow F o m N b v D 0 0 0 w F):=⟨hu,hF,fun _ _=>rfl,by omega,by omega,ho,rfl⟩
 have HF:=Lib.hid hF
 have HVM:=Lib.hid hvm
 clear hv hu hF hvm
 go_enter Tryz.func206,Tryz.ntmps206
 go_wp2_with fail
 go_loopw [7,8,14] (fun c l i wr=>∃ (i' c' l':Nat) (G:Nat→Nat),i'≤m∧i=.int .i64 i'∧c=.int .u64 c'∧l=.int .u32 l'∧LessRow F o m N b v D i' c' l' wr G∧w.grownBy wr (some b)) (fun _ _ i _=>m - (intOf i).toNat)
 case atStart=>exact ⟨0,0,0,F,by omega,rfl,rfl,rfl,HU.out,qn0 _ _⟩
 case round =>
  obtain ⟨i,c,l,G,hi,rfl,rfl,rfl,hrow,hon⟩:=hrel
  have hc:=hrow.2.2.2.2.1
  have hl:=hrow.2.2.2.1
  by_cases him:i<m
  ·have hcv:w.grownBy wr (some b)→wr.cell? ⟨bv,i,none⟩=some (.int .u32 ((dg v i:Nat):Int)):=fun h=>by
    rw [World.cell?_of_block (w:=w) (h.block bv hbv (fun e=>hne (by injection e)))]
    exact HV.out i him
   have hcell2:=hcv hon
   have hcell:=hrow.1.cell (show o+i<N by omega)
   rw [hrow.2.2.1 _ (.inr (Nat.le_refl _))] at hcell
   have hfr:=hrow.1.frozen (o+i)
   have HST:=Lib.hid (hrow.step him hD)
   have hd:=qd1 v i
   have hFi:=HF.out (o+i) (by omega)
   obtain ⟨P,hP,HP⟩:∃ P:Nat,((D:Nat):Int)*((dg v i:Nat):Int)=(P:Int)∧Hid (D*dg v i=P):=⟨D*dg v i,(Int.natCast_mul _ _).symm,Lib.hid rfl⟩
   have hPb:P≤18446744065119617025:=by
    rw [← HP.out]
    exact Nat.mul_le_mul (show D≤4294967295 by omega) (show dg v i≤4294967295 by omega)
   rw [HP.out] at HST
   have hm1:((c:Int)+(P:Int)) % 4294967296=(((c+P) % 4294967296:Nat):Int):=by omega
   have hm2:((c:Int)+(P:Int)) / 4294967296=(((c+P) / 4294967296:Nat):Int):=by omega
   obtain ⟨q,hq⟩:∃ q,(c+P) % 4294967296=q:=⟨_,rfl⟩
   have hql:q<4294967296:=by omega
   rw [hq] at hm1 HST
   have HM1:=Lib.hid hm1
   have HM2:=Lib.hid hm2
   have HON:=Lib.hid hon
   have hm3:=hm1
   clear hrow hon hcv hq hm1 hm2
   go_wp2_with (go_at_call 238;refine (qn7 _ _ _ _ (by omega) (by omega) (by omega)).mono ?_;rintro e w' ⟨rfl,rfl⟩)
   go_roundw
   case rel =>
    rw [HM2.out]
    exact ⟨i+1,_,_,_,by omega,by go_num,rfl,rfl,HST.out,qe0 HON.out _ _⟩
   case measure=>simp [intOf];omega
  obtain rfl:i=m:=by omega
  have hcell:=hrow.1.cell (show o+i<N by omega)
  rw [hrow.2.2.1 _ (.inr (Nat.le_refl _))] at hcell
  have hfr:=hrow.1.frozen (o+i)
  have HST:=Lib.hid (hrow.last HVM.out)
  have hFi:=HF.out (o+i) (by omega)
  have HON:=Lib.hid hon
  clear hrow hon
  go_wp2_with (go_at_call 238;refine (qn7 _ _ _ _ (by omega) (by omega) (by omega)).mono ?_;rintro e w' ⟨rfl,rfl⟩)
  go_ret
  obtain ⟨s1,s2,s3,s4⟩:=HST.out
  exact ⟨_,bor (F (o+i)) c l,rfl,qH2 _ _ _,s1,s2,s3,s4,qe0 HON.out _ _⟩
end
section
open Go.RowKit
theorem qr9 (r k t:Nat):dg r (k+t)=dg (r / bp k) t:=by
 unfold dg;rw [qq3,Nat.div_div_eq_div_mul]
theorem xl9 {r v k n:Nat} (hr:r<v*bp (k+1)) (hv:v<bp n):r / bp k<v*4294967296∧r / bp k<bp (n+1)∧vl (fun t=>dg r (k+t)) (n+1)=r / bp k:=by
 have h1:r / bp k<v*4294967296:=by
  refine Nat.div_lt_of_lt_mul ?_
  rw [qb7] at hr
  have:bp k*(v*4294967296)=v*(4294967296*bp k):=by grind
  omega
 have h2:r / bp k<bp (n+1):=by
  rw [qb7]
  omega
 refine ⟨h1,h2,?_⟩
 rw [qd0 (g:=dg (r / bp k)) (fun t _=>qr9 r k t)]
 exact qa1 h2
theorem top3 {w p:Nat} (h:w<bp (p+3)):w / bp p=(dg w (p+2)*4294967296+dg w (p+1))*4294967296+dg w p:=by
 have e1:w / bp (p+1)=w / bp p / 4294967296:=by rw [qb7,Nat.mul_comm,Nat.div_div_eq_div_mul]
 have e2:w / bp (p+2)=w / bp (p+1) / 4294967296:=by rw [qb7 (p+1),Nat.mul_comm,Nat.div_div_eq_div_mul]
 have h3:w / bp (p+2)<4294967296:=Nat.div_lt_of_lt_mul (by rw [Nat.mul_comm,← qb7];exact h)
 unfold dg
 generalize w / bp (p+2)=c at *
 generalize w / bp (p+1)=b at *
 generalize w / bp p=a at *
 omega
theorem top2 {v p:Nat} (h:v<bp (p+2)):v / bp p=dg v (p+1)*4294967296+dg v p:=by
 have e1:v / bp (p+1)=v / bp p / 4294967296:=by rw [qb7,Nat.mul_comm,Nat.div_div_eq_div_mul]
 have h3:v / bp (p+1)<4294967296:=Nat.div_lt_of_lt_mul (by rw [Nat.mul_comm,← qb7];exact h)
 unfold dg
 generalize v / bp (p+1)=b at *
 generalize v / bp p=a at *
 omega
theorem qv5 {w v P d:Nat} (hP:0<P) (h:w / P<d*(v / P)):w / v<d:=by
 refine Nat.div_lt_of_lt_mul ?_
 have h1:w<(w / P+1)*P:=by
  have:=Nat.div_add_mod w P
  have:=Nat.mod_lt w hP
  have e:(w / P+1)*P=P*(w / P)+P:=by grind
  omega
 have h2:(w / P+1)*P≤d*(v / P)*P:=Nat.mul_le_mul_right _ h
 have h3:v / P*P≤v:=Nat.div_mul_le_self v P
 have h4:d*(v / P)*P≤v*d:=by
  rw [Nat.mul_assoc,Nat.mul_comm v d]
  exact Nat.mul_le_mul_left _ h3
 omega
theorem qT5 {w v P d:Nat} (hP:0<P) (hd:d≤4294967295) (hv:4294967296*P≤v) (h:d*(v / P)≤w / P):d≤w / v+1:=by
 rcases Nat.lt_or_ge (w / v+1) d with hlt|hge
 ·exfalso
  have hv0:0<v:=by omega
  have h1:w<v*(w / v+1):=by
   have:=Nat.div_add_mod w v
   have:=Nat.mod_lt w hv0
   have e:v*(w / v+1)=v*(w / v)+v:=by grind
   omega
  have h2:d*v≤w+d*(v % P):=by
   have h3:d*(v / P)*P≤w / P*P:=Nat.mul_le_mul_right _ h
   have h4:w / P*P≤w:=Nat.div_mul_le_self w P
   have h5:v=v / P*P+v % P:=by rw [Nat.mul_comm];exact (Nat.div_add_mod v P).symm
   have h6:d*v=d*(v / P)*P+d*(v % P):=by
    have:d*v=d*(v / P*P+v % P):=by rw [← h5]
    rw [this];grind
   omega
  have h7:d*(v % P)≤4294967295*P:=Nat.mul_le_mul hd (Nat.le_of_lt (Nat.mod_lt _ hP))
  have h8:(w / v+2)*v≤d*v:=Nat.mul_le_mul_right _ hlt
  have h9:(w / v+2)*v=v*(w / v+1)+v:=by grind
  omega
 exact hge
theorem qI6 {r v k:Nat}:r % (v*bp k)=r / bp k % v*bp k+r % bp k:=by
 rw [Nat.mul_comm v,Nat.mod_mul,Nat.mul_comm (bp k)]
 omega
theorem qM7 {u v k:Nat}:u % (v*bp (k+1)) / bp k / v=dg (u / v) k:=by
 unfold dg
 have e1:v*bp (k+1)=bp k*v*4294967296:=by rw [qb7];grind
 rw [Nat.div_div_eq_div_mul,e1,Nat.mod_mul_right_div_self,Nat.div_div_eq_div_mul,Nat.mul_comm v]
theorem qA0 {u v k:Nat}:u % (v*bp (k+1)) % (v*bp k)=u % (v*bp k):=by
 refine Nat.mod_mod_of_dvd _ ?_
 rw [qb7]
 exact ⟨4294967296,by grind⟩
theorem qA5 {G:Nat→Nat} {r k n N:Nat} (hN:k+n+1≤N) (hG:∀ t,t<N→G t<4294967296) (hout:∀ t,t<k∨k+n<t→G t=dg r t) (hr:r<bp (k+n+1)) :
  ∀ t,t<N→G t=dg (vl (fun t=>G (k+t)) (n+1)*bp k+r % bp k) t:=by
 have h1:vl G N=vl (fun t=>G (k+t)) (n+1)*bp k+r % bp k:=by
  have e:N=k+(N - k):=by omega
  rw [e,qo2,qd0 (g:=dg r) (fun i hi=>hout i (.inl hi)),xy9,Nat.mul_comm (bp k),Nat.add_comm]
  congr 2
  refine qZ9 (by omega) fun i h2 h3=>?_
  rw [hout _ (.inr (by omega))]
  exact qt2 hr (by omega)
 intro t ht
 rw [← h1]
 exact (xn0 hG ht).symm
theorem qU6 {X d v w P:Nat} (hv:0<v) (h:X+d*v=w+0*P) (hd:w / v≤d):d=w / v∧X=w % v:=by
 have h1:=Nat.div_add_mod w v
 have h2:d≤w / v:=(Nat.le_div_iff_mul_le hv).2 (by omega)
 obtain rfl:d=w / v:=by omega
 rw [Nat.mul_comm] at h1
 refine ⟨rfl,?_⟩
 omega
theorem xf0 {X d v w P:Nat} (h:X+d*v=w+1*P) (hX:X<P) (hd:d≤w / v+1):d=w / v+1∧X+v=P+w % v:=by
 have h1:=Nat.div_add_mod w v
 have h2:w / v<d:=Nat.div_lt_of_lt_mul (by rw [Nat.mul_comm];omega)
 obtain rfl:d=w / v+1:=by omega
 refine ⟨rfl,?_⟩
 rw [Nat.add_mul,Nat.mul_comm (w / v)] at h
 omega
def BackRow (G:Nat→Nat) (k v i c N b:Nat) (wr:World) (A:Nat→Nat):Prop :=
 Ws wr b N A∧(∀ t,t<N→A t<4294967296)∧(∀ t,t<k∨k+i≤t→A t=G t)∧c≤1∧vl (fun t=>A (k+t)) i+c*bp i=vl (fun t=>G (k+t)) i+vl (dg v) i
theorem BackRow.step {G:Nat→Nat} {k v i c N b:Nat} {wr:World} {A:Nat→Nat} (h:BackRow G k v i c N b wr A) (hi:k+i<N) :
  BackRow G k v (i+1) ((G (k+i)+dg v i+c) / 4294967296) N b (wr.setCell ⟨b,k+i,none⟩ (.int .u32 (((G (k+i)+dg v i+c) % 4294967296:Nat):Int)))
   (fun t=>if t=k+i then (G (k+i)+dg v i+c) % 4294967296 else A t):=by
 obtain ⟨h1,h2,h3,h4,h5⟩:=h
 have hG:G (k+i)<4294967296:=by rw [← h3 _ (.inr (Nat.le_refl _))];exact h2 _ hi
 have hd:=qd1 v i
 refine ⟨h1.set _ _,fun t ht=>?_,fun t ht=>?_,by omega,?_⟩
 ·dsimp only
  split
  ·exact Nat.mod_lt _ (by decide)
  exact h2 t ht
 ·dsimp only
  rw [if_neg (by omega)];exact h3 t (by omega)
 have e:vl (fun t=>(fun t=>if t=k+i then (G (k+i)+dg v i+c) % 4294967296 else A t) (k+t)) i=vl (fun t=>A (k+t)) i :=
  qd0 fun t ht=>by simp only [show ¬ k+t=k+i by omega,if_false]
 rw [qb3,qb3,qb3,qb7,e]
 simp only [if_true]
 exact qH1 h5
theorem BackRow.last {G:Nat→Nat} {k v n c N b y:Nat} {wr:World} {A:Nat→Nat} (h:BackRow G k v n c N b wr A) (hn:k+n<N) (hv:v<bp n)
  (hX:vl (fun t=>G (k+t)) (n+1)+v=bp (n+1)+y) :
  Ws (wr.setCell ⟨b,k+n,none⟩ (.int .u32 (((G (k+n)+c) % 4294967296:Nat):Int))) b N (fun t=>if t=k+n then (G (k+n)+c) % 4294967296 else A t) ∧
  (∀ t,t<N→(if t=k+n then (G (k+n)+c) % 4294967296 else A t)<4294967296)∧(∀ t,t<k∨k+n<t→(if t=k+n then (G (k+n)+c) % 4294967296 else A t)=G t) ∧
  vl (fun t=>if k+t=k+n then (G (k+n)+c) % 4294967296 else A (k+t)) (n+1)=y:=by
 obtain ⟨h1,h2,h3,h4,h5⟩:=h
 have hb:∀ t,t<N→(if t=k+n then (G (k+n)+c) % 4294967296 else A t)<4294967296:=fun t ht=>by
  split
  ·exact Nat.mod_lt _ (by decide)
  exact h2 t ht
 have hG:G (k+n)<4294967296:=by rw [← h3 _ (.inr (Nat.le_refl _))];exact h2 _ hn
 refine ⟨h1.set _ _,hb,fun t ht=>?_,?_⟩
 ·rw [if_neg (by omega)];exact h3 t (by omega)
 have e:vl (fun t=>if k+t=k+n then (G (k+n)+c) % 4294967296 else A (k+t)) n=vl (fun t=>A (k+t)) n :=
  qd0 fun t ht=>by simp only [show ¬ k+t=k+n by omega,if_false]
 have hlt:vl (fun t=>if k+t=k+n then (G (k+n)+c) % 4294967296 else A (k+t)) (n+1)<bp (n+1):=vl_lt fun t ht=>hb (k+t) (by omega)
 rw [qb3,e] at hlt ⊢
 rw [qb3,qb7] at hX
 rw [qb7] at hlt
 simp only [if_true] at hlt ⊢
 rw [qa1 hv] at h5
 have hs:(G (k+n)+c) % 4294967296*bp n+(G (k+n)+c) / 4294967296*(4294967296*bp n)=G (k+n)*bp n+c*bp n:=by
  rw [← Nat.mul_assoc,← Nat.add_mul,← Nat.add_mul]
  congr 1
  omega
 have hq:(G (k+n)+c) / 4294967296=0∨(G (k+n)+c) / 4294967296=1:=by omega
 rcases hq with hq|hq <;> rw [hq] at hs <;> simp only [Nat.zero_mul,Nat.one_mul] at hs <;> omega
theorem qq2:∀ (f x:Nat),x<2 ^ f→x<2 ^ Lib.bitLenAux f x
 | 0,x,h=>by simpa [Lib.bitLenAux] using h
 | f+1,x,h=>by
  unfold Lib.bitLenAux
  split
  ·next e=>subst e;decide
  have:=qq2 f (x / 2) (by omega)
  rw [Nat.pow_add,Nat.pow_one]
  omega
theorem qQ1 {x:Nat} (h:x<4294967296):x<2 ^ Lib.bitLen x:=qq2 64 x (by omega)
theorem qK4 {x:Nat} (h:x≠0):1≤Lib.bitLen x:=by
 unfold Lib.bitLen Lib.bitLenAux
 rw [if_neg h]
 omega
theorem qM8 {b:Nat} (hb:0<b):∃ s:Nat,s<32∧(32:Int) - (Lib.bitLen (dg b (wl b - 1)):Int)=(s:Int)∧b*2 ^ s<bp (wl b):=by
 have ht:=xu2 hb
 have hd:=qd1 b (wl b - 1)
 have hp:=qo5 hb
 have h1:=qQ1 hd
 have h2:=qK4 ht
 have h3:=Lib.bitLen_le (dg b (wl b - 1)) 32 (by decide) (by omega)
 refine ⟨32 - Lib.bitLen (dg b (wl b - 1)),by omega,by omega,?_⟩
 obtain ⟨n,hn⟩:∃ n,wl b=n+1:=⟨wl b - 1,by omega⟩
 rw [hn,Nat.add_sub_cancel] at h1 h3 ht ⊢
 have hv:vl (dg b) (n+1)=b:=qa1 (by rw [← hn];exact qa6 b)
 rw [qb3] at hv
 have h4:vl (dg b) n<bp n:=vl_lt fun i _=>qd1 b i
 have h5:(dg b n+1)*bp n≤2 ^ Lib.bitLen (dg b n)*bp n:=Nat.mul_le_mul_right _ h1
 have h6:b<2 ^ Lib.bitLen (dg b n)*bp n:=by rw [Nat.add_mul] at h5;omega
 have h7:2 ^ Lib.bitLen (dg b n)*bp n*2 ^ (32 - Lib.bitLen (dg b n))=bp (n+1):=by
  rw [Nat.mul_right_comm,← Nat.pow_add,show Lib.bitLen (dg b n)+(32 - Lib.bitLen (dg b n))=32 by omega,qb7]
 rw [← h7]
 exact Nat.mul_lt_mul_of_pos_right h6 (Nat.pow_pos (by decide))
theorem xk2 {h l:Nat} (hh:h<4294967296) (hl:l<4294967296):bits .or .u64 ((h:Int)*4294967296) (l:Int)=((h*4294967296+l:Nat):Int):=by
 have e:(h:Int)*4294967296=((h*4294967296:Nat):Int):=by omega
 rw [e,u64_or_nat _ _ (by omega) (by omega)]
 congr 1
 have:=Nat.two_pow_add_eq_or_of_lt (i:=32) (b:=l) (by simpa using hl) h
 rw [Nat.mul_comm h]
 exact this.symm
structure Est (w v u0 u1 u2 v1 v2 q:Nat):Prop where
 high:∀ d r,d*v1+r=u0*4294967296+u1→r*4294967296+u2<d*v2→q<d
 low:∀ d r,d*v1+r=u0*4294967296+u1→d≤4294967295→d*v2≤r*4294967296+u2→d≤q+1
 start:q≤(u0*4294967296+u1) / v1
 out:∀ d r,d*v1+r=u0*4294967296+u1→4294967296≤r→d≤4294967295∧d*v2≤r*4294967296+u2
 q_le:q≤4294967295
 v1_pos:0<v1
 u0_lt:u0<4294967296
 u1_lt:u1<4294967296
 u2_lt:u2<4294967296
 v1_lt:v1<4294967296
 v2_lt:v2<4294967296
theorem est {w v p:Nat} (hw:w<v*4294967296) (hv:v<bp (p+2)) (hlo:bp (p+1)≤v) :
  Est w v (dg w (p+2)) (dg w (p+1)) (dg w p) (dg v (p+1)) (dg v p) (w / v):=by
 have hP:=qm4 p
 have hw3:w<bp (p+3):=by rw [qb7 (p+2)];omega
 have t3:=top3 hw3
 have t2:=top2 hv
 have a0:=qd1 w (p+2)
 have a1:=qd1 w (p+1)
 have a2:=qd1 w p
 have b1:=qd1 v (p+1)
 have b2:=qd1 v p
 have hv0:0<v:=by have:=qm4 (p+1);omega
 have hq:w / v≤4294967295:=by
  have:=Nat.div_lt_of_lt_mul hw
  omega
 have hvp:0<dg v (p+1):=by
  rcases Nat.eq_zero_or_pos (dg v (p+1)) with e|e
  ·rw [e] at t2
   have:v / bp p<4294967296:=by omega
   have h1:=(Nat.div_lt_iff_lt_mul hP).1 this
   rw [qb7] at hlo
   omega
  exact e
 generalize dg w (p+2)=u0 at *
 generalize dg w (p+1)=u1 at *
 generalize dg w p=u2 at *
 generalize dg v (p+1)=v1 at *
 generalize dg v p=v2 at *
 have hlo':4294967296*bp p≤v:=by rw [qb7] at hlo;exact hlo
 have key:∀ d r,d*v1+r=u0*4294967296+u1→(d*(v / bp p)+(r*4294967296+u2)=w / bp p+d*v2):=by
  intro d r h
  rw [t2,t3,← h]
  grind
 have hu0:u0≤v1:=by
  have h1:w / bp p<v / bp p*4294967296+4294967296:=by
   apply (Nat.div_lt_iff_lt_mul hP).2
   have h2:v<(v / bp p+1)*bp p:=by
    have:=Nat.div_add_mod v (bp p)
    have:=Nat.mod_lt v hP
    have e:(v / bp p+1)*bp p=bp p*(v / bp p)+bp p:=by grind
    omega
   have e:(v / bp p*4294967296+4294967296)*bp p=(v / bp p+1)*bp p*4294967296:=by grind
   rw [e]
   have h3:v*4294967296≤(v / bp p+1)*bp p*4294967296:=Nat.mul_le_mul_right _ (Nat.le_of_lt h2)
   exact Nat.lt_of_lt_of_le hw h3
  rw [t2,t3] at h1
  omega
 refine ⟨fun d r h1 h2=>?_,fun d r h1 h2 h3=>?_,?_,fun d r h1 h2=>?_,hq,hvp,a0,a1,a2,b1,b2⟩
 ·have:=key d r h1
  exact qv5 hP (by omega)
 ·have:=key d r h1
  exact qT5 hP h2 hlo' (by omega)
 ·rcases Nat.lt_or_ge ((u0*4294967296+u1) / v1) (w / v) with hlt|hge
  ·exfalso
   have h1:=Nat.div_add_mod (u0*4294967296+u1) v1
   have h2:=Nat.mod_lt (u0*4294967296+u1) hvp
   generalize (u0*4294967296+u1) / v1=d at *
   generalize (u0*4294967296+u1) % v1=r at *
   have h3:(d+1)*v1=v1*d+v1:=by grind
   have h4:w / bp p<(d+1)*(v / bp p):=by
    rw [t2,t3]
    have e:(d+1)*(v1*4294967296+v2)=(d+1)*v1*4294967296+(d+1)*v2:=by grind
    rw [e,h3]
    omega
   have:=qv5 hP h4
   omega
  exact hge
 have h3:d*v1<v1*4294967296:=by
  have:u0*4294967296≤v1*4294967296:=Nat.mul_le_mul_right _ hu0
  omega
 rw [Nat.mul_comm d] at h3
 have h4:=Nat.lt_of_mul_lt_mul_left h3
 refine ⟨by omega,?_⟩
 have:d*v2≤4294967295*4294967295:=Nat.mul_le_mul (by omega) (by omega)
 omega
theorem xn2 {r v k n:Nat} (hn:2≤n) (hr:r<v*bp (k+1)) (hv:v<bp n) (hlo:bp (n - 1)≤v) :
  Est (r / bp k) v (dg r (k+n)) (dg r (k+n - 1)) (dg r (k+n - 2)) (dg v (n - 1)) (dg v (n - 2)) (r / bp k / v):=by
 obtain ⟨p,rfl⟩:∃ p,n=p+2:=⟨n - 2,by omega⟩
 have h:=est (xl9 hr hv).1 hv hlo
 rw [← qr9,← qr9,← qr9] at h
 exact h
end
section
open Go.RowKit
attribute [local go_sem ↓] Go.wp_at_zero Go.wp_at_succ
def LongPost (a b n m:Nat) (w:World) (e:Ending) (w':World):Prop :=
 ∃ gq gu:Nat,e=.returned (.tuple #[.slice (some ⟨gq,0,none⟩) (m+1) (m+1),.slice (some ⟨gu,0,none⟩) (n+m+1) (n+m+1)]) ∧
  Ws w' gq (m+1) (dg (a / b))∧Ws w' gu (n+m+1) (dg (a % b))∧Below w.heap.size w w'
theorem xf2 (a b n m bx cx by' cy:Nat) (w:World) (hN:wl b=n) (hA:wl a=n+m) (ha:n+m<1099511627776) (hb2:2≤n)
  (hx:∀ i,i<n+m→w.cell? ⟨bx,i,none⟩=some (.int .u32 ((dg a i:Nat):Int))) (hbx:bx<w.heap.size)
  (hy:∀ i,i<n→w.cell? ⟨by',i,none⟩=some (.int .u32 ((dg b i:Nat):Int))) (hby:by'<w.heap.size) :
  Calls Tryz.prog 123 #[.slice (some ⟨bx,0,none⟩) (n+m) cx,.slice (some ⟨by',0,none⟩) n cy] w (LongPost a b n m w):=by
 have hb0:0<b:=by
  rcases Nat.eq_zero_or_pos b with e|e
  ·subst e;simp [xs6] at hN;omega
  exact e
 obtain ⟨s,hs,hs32,hV⟩:=qM8 hb0
 have htop:=hy (n - 1) (by omega)
 have HX:=Lib.hid hx
 have HY:=Lib.hid hy
 have HN:=Lib.hid hN
 have HA:=Lib.hid hA
 rw [hN] at hs32 hV
 have HVV:=Lib.hid hV
 have hd:=qd1 b (n - 1)
 clear hx hy hV hN hA
 have hn1:(1:Int)≤(n:Int):=by omega
 have hn0:(0:Int)≤(n:Int):=by omega
 have hnn:(n:Int)≤(n:Int)+1:=by omega
 go_enter Tryz.func123,Tryz.ntmps123
 go_wp2_with (go_at_call 204;refine (xf3 _ _ (by omega) (by omega)).mono ?_;rintro e w' ⟨rfl,rfl⟩)
 go_region_held3 (fun w'=>Below w.heap.size w w') (first|exact (Below.refl _ _).drew|assumption|exact grow (by assumption) (by assumption))
  (first
   | (go_at_call_of 205 (Value.slice (some ⟨bx,0,none⟩) (n+m) cx);refine (qu5 a bx cx (n+m) s _ (Nat.le_of_lt ha) (fun i hi=>?_) ?_ (by rw [← HA.out];exact qa6 a) hs).mono ?_;exact (HX.out i hi);exact hbx;rintro e w1 ⟨bu,rfl,hbu,hwu,hblu⟩; have hu:=hblu.size)
   | (go_at_call_of 205 (Value.slice (some ⟨by',0,none⟩) n cy);refine (qu5 b by' cy n s _ (by omega) (fun i hi=>?_) ?_ (by rw [← HN.out];exact qa6 b) hs).mono ?_;exact ((hblu.cell (p:=⟨by',i,none⟩) hby).trans (HY.out i hi));exact Nat.lt_of_lt_of_le hby hu;rintro e w2 ⟨bv,rfl,hbv,hwv,hblv⟩))
 have HB2:Hid (Below w.heap.size w w2):=by assumption
 obtain ⟨U,HU⟩:∃ U,Hid (a*2 ^ s=U):=⟨_,Lib.hid rfl⟩
 obtain ⟨V,HV⟩:∃ V,Hid (b*2 ^ s=V):=⟨_,Lib.hid rfl⟩
 rw [HU.out] at hwu
 rw [HV.out] at hwv HVV
 have hbu':w.heap.size≤bu:=hbu
 have hbv':w1.heap.size≤bv:=hbv
 have hu':w.heap.size≤w1.heap.size:=hu
 have hltu:=hwu.lt
 have hltv:=hwv.lt
 have hne:bv≠bu:=by omega
 have H1:=Lib.hid (hwu.below hblv hltu)
 have H2:=Lib.hid hwv
 have hltu2:=H1.out.lt
 have hpow:0<2 ^ s:=Nat.pow_pos (by decide)
 have hV0:0<V:=by rw [← HV.out];exact Nat.mul_pos hb0 hpow
 have hVlo:Hid (bp (n - 1)≤V):=by
  show bp (n - 1)≤V
  rw [← HV.out]
  have h1:bp (n - 1)≤b:=qx2.1 (by rw [HN.out];omega)
  exact Nat.le_trans h1 (Nat.le_mul_of_pos_right _ hpow)
 have hUlt:Hid (U<V*bp (m+1)):=by
  show U<V*bp (m+1)
  rw [← HV.out,← HU.out,Nat.mul_right_comm]
  refine Nat.mul_lt_mul_of_pos_right ?_ hpow
  have h1:bp (n - 1)≤b:=qx2.1 (by rw [HN.out];omega)
  have h2:a<bp (n+m):=by rw [← HA.out];exact qa6 a
  have h3:bp (n - 1)*bp (m+1)≤b*bp (m+1):=Nat.mul_le_mul_right _ h1
  rw [← qq3,show n - 1+(m+1)=n+m by omega] at h3
  omega
 clear hwu hwv hbu hbv hblu hblv hu htop hd
 have hmk:=qp4 ((n:Int)+(m:Int)+1 - (n:Int)) (m+1) (by omega) (by omega)
 have hmk2:=qp4 ((m:Int)+1) (m+1) (by omega) (by omega)
 go_wp2_with fail
 have HM1:=Lib.hid hmk
 have HM2:=Lib.hid hmk2
 clear hmk hmk2
 have HQ0:Hid (Ws (w2.alloc (.cells (madeCells #[.int .u32 0] (m+1)) 22)) w2.heap.size (m+1) fun _=>0):=Ws.made w2 _
 have HU0:Hid (Ws (w2.alloc (.cells (madeCells #[.int .u32 0] (m+1)) 22)) bu (n+m+1) (dg (U % (V*bp (m+1))))):=by
  show Ws _ _ _ _
  rw [Nat.mod_eq_of_lt hUlt.out]
  exact H1.out.alloc _
 have HV0:Hid (Ws (w2.alloc (.cells (madeCells #[.int .u32 0] (m+1)) 22)) bv (n+1) (dg V)):=H2.out.alloc _
 have HB0:Hid (Below w.heap.size w (w2.alloc (.cells (madeCells #[.int .u32 0] (m+1)) 22))):=HB2.out.alloc HB2.out.size _
 obtain ⟨bq,hbq⟩:∃ bq,w2.heap.size=bq:=⟨_,rfl⟩
 have hsz2:=HB2.out.size
 have hq1:w.heap.size≤bq:=by omega
 have hq2:bv≠bq:=by omega
 have hq3:bu≠bq:=by omega
 rw [hbq] at HQ0 ⊢
 have HBQ:=Lib.hid hbq
 clear H1 H2 HB2 hltu2 hltv hltu hbq hsz2 hu' hbv'
 go_loopw [10] (fun i wr=>∃ j:Nat,j≤m+1∧i=.int .i64 ((j:Int) - 1)∧Ws wr bu (n+m+1) (dg (U % (V*bp j)))∧Ws wr bq (m+1) (fun t=>if j≤t then dg (U / V) t else 0)∧Ws wr bv (n+1) (dg V)∧Below w.heap.size w wr) (fun i _=>(intOf i+1).toNat)
 case atStart =>
  refine ⟨m+1,Nat.le_refl _,?_,HU0.out,HQ0.out.congr fun t ht=>by rw [if_neg (by omega)],HV0.out,HB0.out⟩
  go_num
 case round =>
  obtain ⟨j,hj,rfl,hwu,hwq,hwv,hbel⟩:=hrel
  clear HQ0 HU0 HV0 HB0
  rcases j with _|k
  ·have L1:=Lib.hid hwu
   have L2:=Lib.hid (hwq.congr (g:=dg (U / V)) fun t _=>by rw [if_pos (Nat.zero_le _)])
   have L3:=Lib.hid hbel
   clear hwu hwq hwv hbel
   rw [show (((0:Nat):Int) - 1) = -1 from rfl]
   go_wp2
   have hUV:U % V<bp (n+m+1):=by
    have h1:=Nat.mod_lt U hV0
    have h2:bp (n+(m+1))=bp n*bp (m+1):=qq3 _ _
    have h3:=HVV.out
    have h4:bp n*1≤bp n*bp (m+1):=Nat.mul_le_mul_left _ (qm4 _)
    rw [show n+m+1=n+(m+1) by omega]
    omega
   have HUV:=Lib.hid hUV
   clear hUV
   go_loopw [168] (fun i wx=>∃ t:Nat,t≤s∧i=.int .i64 t∧Ws wx bu (n+m+1) (dg (U % V / 2 ^ t))∧wr.grownBy wx (some bu)) (fun i _=>s - (intOf i).toNat)
   case atStart =>
    refine ⟨0,by omega,rfl,?_,qn0 _ _⟩
    have:=L1.out
    rw [qi7,Nat.mul_one] at this
    rw [Nat.pow_zero,Nat.div_one]
    exact this
   case round =>
    obtain ⟨t,ht,rfl,hrow,hon⟩:=hrel
    by_cases hts:t<s
    ·have M1:=Lib.hid hrow
     have M2:=Lib.hid hon
     clear hrow hon
     go_wp2_with (go_at_call 207;refine (xe0 _ bu _ (n+m+1) _ (by omega) M1.out (Nat.lt_of_le_of_lt (Nat.div_le_self _ _) HUV.out)).mono ?_;rintro e w' ⟨rfl,k1,k2⟩; have K1:=Lib.hid k1;have K2:=Lib.hid k2;clear k1 k2)
     go_roundw
     case rel =>
      refine ⟨t+1,by omega,by go_num,?_,qN1 M2.out K2.out⟩
      rw [Nat.pow_succ,← Nat.div_div_eq_div_mul]
      exact K1.out
     case measure=>simp [intOf];omega
    obtain rfl:t=s:=by omega
    have M1:=Lib.hid hrow
    have M2:=Lib.hid hon
    clear hrow hon
    go_wp2
    go_ret2
    have hdiv:U / V=a / b:=by rw [← HU.out,← HV.out,Nat.mul_div_mul_right _ _ hpow]
    have hmod:U % V / 2 ^ t=a % b:=by rw [← HU.out,← HV.out,Nat.mul_mod_mul_right,Nat.mul_div_cancel _ hpow]
    refine ⟨bq,bu,rfl,?_,?_,L3.out.grown M2.out L3.out.size (fun g hg=>by injection hg with hg;omega)⟩
    ·rw [← hdiv]
     exact L2.out.only M2.out (Ne.symm hq3)
    rw [← hmod]
    exact M1.out
  rw [show (((k+1:Nat):Int) - 1)=(k:Int) from by omega]
  have H1:=Lib.hid hwu
  have H2:=Lib.hid hwq
  have H3:=Lib.hid hwv
  have H4:=Lib.hid hbel
  clear hwu hwq hwv hbel
  have hR:U % (V*bp (k+1))<V*bp (k+1):=Nat.mod_lt _ (Nat.mul_pos hV0 (qm4 _))
  have hE:=xn2 hb2 hR HVV.out hVlo.out
  have hW:=xl9 hR HVV.out
  obtain ⟨R,HR⟩:∃ R,Hid (U % (V*bp (k+1))=R):=⟨_,Lib.hid rfl⟩
  rw [HR.out] at H1 hE hW hR
  have hc1:=H1.out.cell (show k+n<n+m+1 by omega)
  have hc2:=H1.out.cell (show k+n - 1<n+m+1 by omega)
  have hc3:=H1.out.cell (show k+n - 2<n+m+1 by omega)
  have hc4:=H3.out.cell (show n - 1<n+1 by omega)
  have hc5:=H3.out.cell (show n - 2<n+1 by omega)
  obtain ⟨u0,HU0⟩:∃ u0,Hid (dg R (k+n)=u0):=⟨_,Lib.hid rfl⟩
  obtain ⟨u1,HU1⟩:∃ u1,Hid (dg R (k+n - 1)=u1):=⟨_,Lib.hid rfl⟩
  obtain ⟨u2,HU2⟩:∃ u2,Hid (dg R (k+n - 2)=u2):=⟨_,Lib.hid rfl⟩
  obtain ⟨v1,HV1⟩:∃ v1,Hid (dg V (n - 1)=v1):=⟨_,Lib.hid rfl⟩
  obtain ⟨v2,HV2⟩:∃ v2,Hid (dg V (n - 2)=v2):=⟨_,Lib.hid rfl⟩
  obtain ⟨q,HQ⟩:∃ q,Hid (R / bp k / V=q):=⟨_,Lib.hid rfl⟩
  rw [HU0.out] at hE hc1
  rw [HU1.out] at hE hc2
  rw [HU2.out] at hE hc3
  rw [HV1.out] at hE hc4
  rw [HV2.out] at hE hc5
  rw [HQ.out] at hE
  have hu0:=hE.u0_lt
  have hu1:=hE.u1_lt
  have hu2:=hE.u2_lt
  have hv1:=hE.v1_lt
  have hv2:=hE.v2_lt
  have hv0:=hE.v1_pos
  have hq:=hE.q_le
  have HE:=Lib.hid hE
  have HW:=Lib.hid hW
  have HRR:=Lib.hid hR
  clear hE hW hR
  have hor:=xk2 hu0 hu1
  obtain ⟨T,HT⟩:∃ T,Hid (u0*4294967296+u1=T):=⟨_,Lib.hid rfl⟩
  have hTlt:T<18446744073709551616:=by rw [← HT.out];omega
  rw [HT.out] at hor
  obtain ⟨D0,HD0⟩:∃ D0,Hid (T / v1=D0):=⟨_,Lib.hid rfl⟩
  obtain ⟨R0,HR0⟩:∃ R0,Hid (T % v1=R0):=⟨_,Lib.hid rfl⟩
  have hd0:(T:Int) / (v1:Int)=(D0:Int):=by rw [← HD0.out];simp
  have hr0:(T:Int) % (v1:Int)=(R0:Int):=by rw [← HR0.out];simp
  have hD0:D0<18446744073709551616:=by rw [← HD0.out];exact Nat.lt_of_le_of_lt (Nat.div_le_self _ _) hTlt
  have hR0:R0<v1:=by rw [← HR0.out];exact Nat.mod_lt _ hv0
  have hv1i:(1:Int)≤(v1:Int):=by omega
  have hv1z:(((v1:Nat):Int) == 0)=false:=beq_eq_false_iff_ne.2 (by omega)
  have hi1:(0:Int)≤(k:Int)+(n:Int):=by omega
  have hi2:(k:Int)+(n:Int)<(n:Int)+(m:Int)+1:=by omega
  have hi3:(0:Int)≤(k:Int)+(n:Int) - 1:=by omega
  have hi4:(k:Int)+(n:Int) - 1<(n:Int)+(m:Int)+1:=by omega
  have hi5:((k:Int)+(n:Int) - 1).toNat=k+n - 1:=by omega
  have hi6:(0:Int)≤(n:Int) - 1:=by omega
  have hi7:(n:Int) - 1<(n:Int):=by omega
  have hi8:((n:Int) - 1).toNat=n - 1:=by omega
  go_wp2_with fail
  go_step3
  go_wp2_with fail
  go_quiet (fail)
  go_wp2_with fail
  go_quiet (fail)
  go_wp2_with fail
  go_step3
  go_upto_block 2 with fail
  rw [hr0]
  have hHT:Hid (D0*v1+R0=u0*4294967296+u1):=by
   show D0*v1+R0=u0*4294967296+u1
   rw [HT.out,← HD0.out,← HR0.out,Nat.mul_comm]
   exact Nat.div_add_mod T v1
  have hq0:Hid (q≤D0):=by
   show q≤D0
   rw [← HD0.out,← HT.out]
   exact HE.out.start
  clear hor hd0 hr0
  go_cut [12] (fun s12 wx=>∃ d z:Nat,s12=.int .u64 d∧q≤d∧d≤q+1∧d≤4294967295∧wx=wr.drewN z)
  case first =>
   go_wp2_with fail
   go_loopw [12,13] (fun x y wx=>∃ d r z:Nat,x=.int .u64 d∧y=.int .u64 r∧q≤d∧d≤D0∧r<8589934592∧Hid (d*v1+r=u0*4294967296+u1)∧wx=wr.drewN z) (fun x _ _=>(intOf x).toNat)
   case atStart =>
    exact ⟨D0,R0,_,rfl,rfl,hq0.out,Nat.le_refl _,by omega,hHT,World.drewN_drewN _ _ _⟩
   case round =>
    obtain ⟨d,r,z,rfl,rfl,hqd,hdD,hr,HDR,rfl⟩:=hrel
    by_cases hr1:r≤4294967295
    ·obtain ⟨P,hP,HP⟩:∃ P:Nat,((d:Nat):Int)*((v2:Nat):Int)=(P:Int)∧Hid (d*v2=P):=⟨d*v2,(Int.natCast_mul _ _).symm,Lib.hid rfl⟩
     have hj1:(0:Int)≤(k:Int)+(n:Int) - 2:=by omega
     have hj2:(k:Int)+(n:Int) - 2<(n:Int)+(m:Int)+1:=by omega
     have hj3:((k:Int)+(n:Int) - 2).toNat=k+n - 2:=by omega
     have hj4:(0:Int)≤(n:Int) - 2:=by omega
     have hj5:(n:Int) - 2<(n:Int):=by omega
     have hj6:((n:Int) - 2).toNat=n - 2:=by omega
     have hor2:=xk2 (show r<4294967296 by omega) hu2
     obtain ⟨S,HSS⟩:∃ S,Hid (r*4294967296+u2=S):=⟨_,Lib.hid rfl⟩
     rw [HSS.out] at hor2
     by_cases hd1:d≤4294967295
     ·have hPb:P≤18446744065119617025:=by
       rw [← HP.out]
       exact Nat.mul_le_mul hd1 (show v2≤4294967295 by omega)
      have hg:decide ((d:Int)≤4294967295)=true:=decide_eq_true (by omega)
      by_cases hPS:P≤S
      ·have hPS2:decide ((P:Int)≤(S:Int))=true:=decide_eq_true (by omega)
       go_wp2_with fail
       go_quiet (fail)
       go_wp2_with fail
       go_meet
       exact ⟨d,_,rfl,hqd,HE.out.low d r HDR.out hd1 (by rw [HP.out,HSS.out];exact hPS),hd1,World.drewN_drewN _ _ _⟩
      have hPS2:decide ((P:Int)≤(S:Int))=false:=decide_eq_false (by omega)
      have hqlt:q<d:=HE.out.high d r HDR.out (by rw [HP.out,HSS.out];omega)
      go_wp2_with fail
      go_quiet (fail)
      go_wp2_with fail
      go_roundw
      case rel =>
       refine ⟨d - 1,r+v1,_,congrArg (Value.int IntKind.u64) (by omega),congrArg (Value.int IntKind.u64) (by omega),by omega,by omega,by omega,?_,rfl⟩
       show (d - 1)*v1+(r+v1)=_
       rw [← HDR.out]
       obtain ⟨e,rfl⟩:∃ e,d=e+1:=⟨d - 1,by omega⟩
       rw [Nat.add_sub_cancel,Nat.add_mul]
       omega
      case measure=>simp [intOf];omega
     have hg:decide ((d:Int)≤4294967295)=false:=decide_eq_false (by omega)
     have hqlt:q<d:=by omega
     go_wp2_with fail
     go_quiet (fail)
     go_wp2_with fail
     go_roundw
     case rel =>
      refine ⟨d - 1,r+v1,_,congrArg (Value.int IntKind.u64) (by omega),congrArg (Value.int IntKind.u64) (by omega),by omega,by omega,by omega,?_,rfl⟩
      show (d - 1)*v1+(r+v1)=_
      rw [← HDR.out]
      obtain ⟨e,rfl⟩:∃ e,d=e+1:=⟨d - 1,by omega⟩
      rw [Nat.add_sub_cancel,Nat.add_mul]
      omega
     case measure=>simp [intOf];omega
    obtain ⟨o1,o2⟩:=HE.out.out d r HDR.out (by omega)
    have hlow:=HE.out.low d r HDR.out o1 o2
    go_wp2_with fail
    go_meet
    exact ⟨d,_,rfl,hqd,hlow,o1,rfl⟩
  case rest =>
   obtain ⟨d,z,rfl,hqd,hd1,hd2,rfl⟩:=hcut
   clear hi1 hi2 hi3 hi4 hi5 hi6 hi7 hi8 hc1 hc2 hc3 hc4 hc5 hu0 hu1 hu2 hv1 hv2 hv0 hv1i hv1z hTlt hD0 hR0
   have hk1:(k:Int)≤(n:Int)+(m:Int)+1:=by omega
   go_wp2_with fail
   rw [show k+n+1 - k=n+1 from by omega]
   refine (xe_ (dg R) k n (n+m+1) bu bv _ _ V d _ (by omega) (by omega) (by omega) (H1.out.drewN z) (fun t _=>qd1 R t) (fun i hi=>(H3.out.drewN z).cell (by omega)) H3.out.lt hne HVV.out (by omega)).mono ?_
   rintro e w3 ⟨G,ln,rfl,hln,hG,hGl,hGo,hGv,hon⟩
   rw [HW.out.2.2] at hGv
   have K1:=Lib.hid hG
   have K2:=Lib.hid hGl
   have K3:=Lib.hid hGo
   have K4:=Lib.hid hGv
   have K5:=Lib.hid hon
   have K6:Hid (Ws w3 bv (n+1) (dg V)):=(H3.out.drewN z).only hon hne
   have K7:Hid (Ws w3 bq (m+1) fun t=>if k+1≤t then dg (U / V) t else 0):=(H2.out.drewN z).only hon (Ne.symm hq3)
   have K8:Hid (Below w.heap.size w w3):=(qa0 H4.out z).grown hon H4.out.size (fun g hg=>by injection hg with hg;omega)
   have hRb:R<bp (k+n+1):=by
    have h1:=HRR.out
    have h2:V*bp (k+1)≤bp n*bp (k+1):=Nat.mul_le_mul_right _ (Nat.le_of_lt HVV.out)
    rw [← qq3,show n+(k+1)=k+n+1 by omega] at h2
    omega
   have HRB:=Lib.hid hRb
   clear hG hGl hGo hGv hon hRb
   go_upto_if 125 with fail
   go_cut [12] (fun s12 wx=>s12=.int .u64 q∧Ws wx bu (n+m+1) (dg (U % (V*bp k)))∧Ws wx bq (m+1) (fun t=>if k+1≤t then dg (U / V) t else 0)∧Ws wx bv (n+1) (dg V)∧Below w.heap.size w wx)
   case first =>
    rcases (show ln=0∨ln=1 by omega) with rfl|rfl
    ·have hz:=qU6 hV0 K4.out (by rw [HQ.out];exact hqd)
     have HZ:=Lib.hid hz
     clear hz
     go_wp2_with fail
     go_meet
     refine ⟨by rw [HZ.out.1,HQ.out],?_,K7.out,K6.out,K8.out⟩
     refine K1.out.congr fun t ht=>?_
     rw [qA5 (by omega) K2.out K3.out HRB.out t ht,HZ.out.2,← qI6,← HR.out,qA0]
    have hX:vl (fun t=>G (k+t)) (n+1)<bp (n+1):=vl_lt fun t ht=>K2.out (k+t) (by omega)
    obtain ⟨z1,z2⟩:=xf0 K4.out hX (by rw [HQ.out];exact hd1)
    rw [HQ.out] at z1
    have HZ:=Lib.hid z2
    have HZ1:=Lib.hid z1
    have hd0:1≤d:=by omega
    clear hX z1 z2
    have HBK:Hid (BackRow G k V 0 0 (n+m+1) bu w3 G):=⟨K1.out,K2.out,fun _ _=>rfl,by omega,by simp [vl]⟩
    go_wp2_with fail
    rw [show ((d:Int) - 1)=(q:Int) from by have:=HZ1.out;omega]
    rw [show decide ((0:Nat)<1)=true from rfl]
    clear hqd hd1 hd2 hd0
    go_loopw [14,130] (fun c i wx=>∃ (i' c':Nat) (A:Nat→Nat),i'≤n∧i=.int .i64 i'∧c=.int .u32 c'∧BackRow G k V i' c' (n+m+1) bu wx A∧w3.grownBy wx (some bu)) (fun _ i _=>n - (intOf i).toNat)
    case atStart=>exact ⟨0,0,G,by omega,rfl,rfl,HBK.out,qn0 _ _⟩
    case round =>
     obtain ⟨i,c,A,hi,rfl,rfl,hrow,hon⟩:=hrel
     have hc:=hrow.2.2.2.1
     by_cases hin:i<n
     ·have hcell:=hrow.1.cell (show k+i<n+m+1 by omega)
      rw [hrow.2.2.1 _ (.inr (Nat.le_refl _))] at hcell
      have hcell2:=(K6.out.only hon hne).cell (show i<n+1 by omega)
      have hfr:=hrow.1.frozen (k+i)
      have HST:=Lib.hid (hrow.step (show k+i<n+m+1 by omega))
      have hd:=qd1 V i
      have hGi:=K2.out (k+i) (by omega)
      have e1:((G (k+i):Int)+(dg V i:Int)+(c:Int)) % 4294967296=(((G (k+i)+dg V i+c) % 4294967296:Nat):Int):=by omega
      have e2:((G (k+i):Int)+(dg V i:Int)+(c:Int)) / 4294967296=(((G (k+i)+dg V i+c) / 4294967296:Nat):Int):=by omega
      have E1:=Lib.hid e1
      have E2:=Lib.hid e2
      have HON:=Lib.hid hon
      have hj1:(0:Int)≤(k:Int)+(i:Int):=by omega
      have hj2:(k:Int)+(i:Int)<(n:Int)+(m:Int)+1:=by omega
      clear hrow hon e1 e2
      go_wp2_with (go_at_call 199;refine (qt1 _ _ _ _ (by omega) (by omega) (by omega) (by omega) (by omega) (by omega)).mono ?_;rintro e w' ⟨rfl,rfl⟩)
      go_roundw
      case rel =>
       refine ⟨i+1,(G (k+i)+dg V i+c) / 4294967296,fun t=>if t=k+i then (G (k+i)+dg V i+c) % 4294967296 else A t,by omega,by go_num,by rw [E2.out],?_,qe0 HON.out _ _⟩
       rw [E1.out]
       exact HST.out
      case measure=>simp [intOf];omega
     obtain rfl:i=n:=by omega
     have hcell:=hrow.1.cell (show k+i<i+m+1 by omega)
     rw [hrow.2.2.1 _ (.inr (Nat.le_refl _))] at hcell
     have hfr:=hrow.1.frozen (k+i)
     have HST:=Lib.hid (hrow.last (by omega) HVV.out HZ.out)
     have hGi:=K2.out (k+i) (by omega)
     have e1:((G (k+i):Int)+(c:Int)) % 4294967296=(((G (k+i)+c) % 4294967296:Nat):Int):=by omega
     have E1:=Lib.hid e1
     have HON:=Lib.hid hon
     have hj1:(0:Int)≤(k:Int)+(i:Int):=by omega
     have hj2:(k:Int)+(i:Int)<(i:Int)+(m:Int)+1:=by omega
     clear hrow hon e1
     go_wp2_with fail
     go_meet
     rw [E1.out]
     obtain ⟨s1,s2,s3,s4⟩:=HST.out
     have hon2:=qe0 HON.out (k+i) (.int .u32 (((G (k+i)+c) % 4294967296:Nat):Int))
     refine ⟨rfl,?_,K7.out.only hon2 (Ne.symm hq3),K6.out.only hon2 hne,K8.out.grown hon2 K8.out.size (fun g hg=>by injection hg with hg;omega)⟩
     refine s1.congr fun t ht=>?_
     rw [qA5 (G:=fun t=>if t=k+i then (G (k+i)+c) % 4294967296 else A t) (by omega) s2 (fun t ht=>(s3 t ht).trans (K3.out t ht)) HRB.out t ht,s4,← qI6,← HR.out,qA0]
   case rest =>
    obtain ⟨rfl,J1,J2,J3,J4⟩:=hcut
    have hck:=J2.cell (show k<m+1 by omega)
    have hfk:=J2.frozen k
    have L1:=Lib.hid J1
    have L2:=Lib.hid J2
    have L3:=Lib.hid J3
    have L4:=Lib.hid J4
    have hqd:Hid (dg (U / V) k=q):=by
     show dg (U / V) k=q
     rw [← HQ.out,← HR.out,qM7]
    clear J1 J2 J3 J4
    go_wp2_with fail
    rw [Exit.noGoto_normal]
    go_wp2_with fail
    go_roundw
    case rel =>
     refine ⟨k,by omega,(by go_num),L1.out.setOther hq3 _,?_,L3.out.setOther hq2 _,L4.out.setCell hq1 _⟩
     refine (L2.out.set k q).congr fun t ht=>?_
     by_cases e:t=k
     ·simp [e,hqd.out]
     have e2:(k+1≤t) ↔ (k≤t):=by omega
     simp [e,e2]
    case measure=>simp [intOf]
end
section
open Go.RowKit
attribute [local go_sem ↓] Go.wp_at_zero Go.wp_at_succ
def DivPost (a b:Nat) (w:World) (e:Ending) (w':World):Prop :=
 (if b=0 then e=.returned (.tuple #[(Value.agg #[.int .u64 (lo (0)),.string (bg (0))]),(Value.agg #[.int .u64 (lo (0)),.string (bg (0))]),.bool false]) else e=.returned (.tuple #[(Value.agg #[.int .u64 (lo (a / b)),.string (bg (a / b))]),(Value.agg #[.int .u64 (lo (a % b)),.string (bg (a % b))]),.bool true]))∧Below w.heap.size w w'
theorem qC8 (a b:Nat) (w:World) (ha:wl a≤549755813888) (hb:wl b≤549755813888) :
  Calls Tryz.prog 43 #[(Value.agg #[.int .u64 (lo a),.string (bg a)]),(Value.agg #[.int .u64 (lo b),.string (bg b)])] w (DivPost a b w):=by
 obtain ⟨W0,HW⟩:∃ W0,Hid ((((w.alloc (.cells #[.int .u64 ((lo a:Nat):Int),.string (bg a)] 30)).alloc (.cells #[.int .u64 ((lo b:Nat):Int),.string (bg b)] 30)).alloc (.cells #[.int .u64 0,.string ⟨#[]⟩] 30)).alloc (.cells #[.int .u64 0,.string ⟨#[]⟩] 30)=W0):=⟨_,Lib.hid rfl⟩
 have HS:=Lib.hid (show w.heap.size+4=W0.heap.size by rw [← HW.out];simp)
 have hza:w.heap.size<W0.heap.size:=by rw [← HS.out];omega
 have hzb:w.heap.size+1<W0.heap.size:=by rw [← HS.out];omega
 have hzc:w.heap.size+1+1<W0.heap.size:=by rw [← HS.out];omega
 have hzd:w.heap.size+1+1+1<W0.heap.size:=by rw [← HS.out];omega
 have hka:W0.cell? ⟨w.heap.size,0,none⟩=some (.int .u64 ((lo a:Nat):Int)):=by rw [← HW.out];simp [go_sem]
 have hkb:W0.cell? ⟨w.heap.size,1,none⟩=some (.string (bg a)):=by rw [← HW.out];simp [go_sem]
 have hkc:W0.cell? ⟨w.heap.size+1,0,none⟩=some (.int .u64 ((lo b:Nat):Int)):=by rw [← HW.out];simp [go_sem]
 have hkd:W0.cell? ⟨w.heap.size+1,1,none⟩=some (.string (bg b)):=by rw [← HW.out];simp [go_sem]
 have hke:W0.cell? ⟨w.heap.size+1+1,0,none⟩=some (.int .u64 0):=by rw [← HW.out];simp [go_sem]
 have hkf:W0.cell? ⟨w.heap.size+1+1,1,none⟩=some (.string ⟨#[]⟩):=by rw [← HW.out];simp [go_sem]
 have hkg:W0.frozen? ⟨w.heap.size+1+1,0,none⟩=false:=by rw [← HW.out];simp [go_sem]
 have hkh:W0.frozen? ⟨w.heap.size+1+1,1,none⟩=false:=by rw [← HW.out];simp [go_sem]
 have hki:W0.cell? ⟨w.heap.size+1+1+1,0,none⟩=some (.int .u64 0):=by rw [← HW.out];simp [go_sem]
 have hkj:W0.cell? ⟨w.heap.size+1+1+1,1,none⟩=some (.string ⟨#[]⟩):=by rw [← HW.out];simp [go_sem]
 have hkk:W0.frozen? ⟨w.heap.size+1+1+1,0,none⟩=false:=by rw [← HW.out];simp [go_sem]
 have hkl:W0.frozen? ⟨w.heap.size+1+1+1,1,none⟩=false:=by rw [← HW.out];simp [go_sem]
 have h0:=Lib.hid (show Below w.heap.size w W0 by rw [← HW.out];exact ((((Below.refl _ _).alloc (Nat.le_refl _) _).alloc (by simp) _).alloc (by simp;omega) _).alloc (by simp;omega) _)
 by_cases hb0:b=0
 ·have hd:decide (b=0)=true:=decide_eq_true hb0
  have HB0:=Lib.hid hb0
  clear hb0
  go_enter Tryz.func43,Tryz.ntmps43
  go_wp2_with fail
  rw [HW.out]
  refine (qk_ b W0).mono ?_
  rintro e w1 ⟨rfl,hb⟩
  have hl1:=held W0 w1 hb
  have hl2:=qb_ W0 w1 hb
  have HB:=Lib.hid hb
  clear hb
  have hr0:=(hl1 _ 0 hzc).trans hke
  have hr1:=(hl1 _ 1 hzc).trans hkf
  have hr2:=(hl1 _ 0 hzd).trans hki
  have hr3:=(hl1 _ 1 hzd).trans hkj
  have hf0:=(hl2 _ 0 hzc).trans hkg
  have hf1:=(hl2 _ 1 hzc).trans hkh
  have hf2:=(hl2 _ 0 hzd).trans hkk
  have hf3:=(hl2 _ 1 hzd).trans hkl
  go_wp2_with fail
  exact bodyPost_ret (v:=.tuple #[(Value.agg #[.int .u64 (lo (0)),.string (bg (0))]),(Value.agg #[.int .u64 (lo (0)),.string (bg (0))]),.bool false]) (by simp [results,Tryz.results43,go_sem,hr0,hr1,hr2,hr3,qb0,qc_]) rfl
   ⟨by rw [if_pos HB0.out],((((grow h0.out HB.out).setCell (by show w.heap.size≤w.heap.size+1+1;omega) _).setCell (by show w.heap.size≤w.heap.size+1+1;omega) _).setCell (by show w.heap.size≤w.heap.size+1+1+1;omega) _).setCell (by show w.heap.size≤w.heap.size+1+1+1;omega) _⟩
 have hd:decide (b=0)=false:=decide_eq_false hb0
 have HB0:=Lib.hid hb0
 clear hb0
 by_cases hab:a<b
 ·have hcm:decide (cmpI (a:Int) (b:Int)<0)=true:=decide_eq_true (by unfold cmpI;split <;> omega)
  have HAB:=Lib.hid hab
  clear hab
  go_enter Tryz.func43,Tryz.ntmps43
  go_wp2_with fail
  rw [HW.out]
  refine (qk_ b W0).mono ?_
  rintro e w1 ⟨rfl,hb⟩
  have HB1:=Lib.hid hb
  have hk1:=held W0 w1 hb
  have q1:=(hk1 _ 0 hza).trans hka
  have q2:=(hk1 _ 1 hza).trans hkb
  have q3:=(hk1 _ 0 hzb).trans hkc
  have q4:=(hk1 _ 1 hzb).trans hkd
  clear hb hk1
  go_wp2_with fail
  refine (qo_ a b w1 (by omega) (by omega)).mono ?_
  rintro e w2 ⟨rfl,hb⟩
  have HB:=Lib.hid (grow HB1.out hb)
  have hl1:=held W0 w2 HB.out
  have hl2:=qb_ W0 w2 HB.out
  clear hb
  have hr0:=(hl1 _ 0 hzc).trans hke
  have hr1:=(hl1 _ 1 hzc).trans hkf
  have hr2:=(hl1 _ 0 hzd).trans hki
  have hr3:=(hl1 _ 1 hzd).trans hkj
  have hf0:=(hl2 _ 0 hzc).trans hkg
  have hf1:=(hl2 _ 1 hzc).trans hkh
  have hf2:=(hl2 _ 0 hzd).trans hkk
  have hf3:=(hl2 _ 1 hzd).trans hkl
  have hq0:=(hl1 _ 0 hza).trans hka
  have hq1:=(hl1 _ 1 hza).trans hkb
  go_wp2_with fail
  go_region
  go_wp2
  exact bodyPost_ret (v:=.tuple #[(Value.agg #[.int .u64 (lo (0)),.string (bg (0))]),(Value.agg #[.int .u64 (lo a),.string (bg a)]),.bool true]) (by simp [results,Tryz.results43,go_sem,hr0,hr1,hr2,hr3,qb0,qc_]) rfl
   ⟨by rw [if_neg HB0.out,Nat.div_eq_of_lt HAB.out,Nat.mod_eq_of_lt HAB.out],(((((grow h0.out HB.out).setCell (by show w.heap.size≤w.heap.size+1+1;omega) _).setCell (by show w.heap.size≤w.heap.size+1+1;omega) _).setCell (by show w.heap.size≤w.heap.size+1+1+1;omega) _).setCell (by show w.heap.size≤w.heap.size+1+1+1;omega) _).drew⟩
 have hcm:decide (cmpI (a:Int) (b:Int)<0)=false:=decide_eq_false (by unfold cmpI;split <;> omega)
 have HAB:=Lib.hid hab
 by_cases hs:a<18446744073709551616
 ·have p1:(bg a).toList.isEmpty=true:=by rw [qb9,decide_eq_true hs]
  have hbs:b<18446744073709551616:=by omega
  have hz:(((lo b:Nat):Int) == 0)=false:=beq_eq_false_iff_ne.2 (by rw [qb0 hbs];have:=HB0.out;omega)
  have hz2:(lo b:Int)≠0:=by rw [qb0 hbs];have:=HB0.out;omega
  have hbp:(0:Int)<((lo b:Nat):Int):=by rw [qb0 hbs];have:=HB0.out;omega
  have e1:((lo a:Nat):Int) / ((lo b:Nat):Int)=((a / b:Nat):Int):=by rw [qb0 hbs,qb0 hs];simp
  have e2:((lo a:Nat):Int) % ((lo b:Nat):Int)=((a % b:Nat):Int):=by rw [qb0 hbs,qb0 hs];simp
  have hdl:Hid (a / b<18446744073709551616):=Nat.lt_of_le_of_lt (Nat.div_le_self _ _) hs
  have e1w:IntKind.u64.wrap (((lo a:Nat):Int) / ((lo b:Nat):Int))=((a / b:Nat):Int):=by rw [e1,IntKind.wrap_u64];have:=hdl.out;generalize a / b=z at *; omega
  have E1:=Lib.hid e1w
  have E2:=Lib.hid e2
  have HSA:=Lib.hid hs
  have hml:Hid (a % b<18446744073709551616):=Nat.lt_of_le_of_lt (Nat.mod_le _ _) hs
  clear hs hbs hab e1 e2 e1w
  go_enter Tryz.func43,Tryz.ntmps43
  go_wp2_with fail
  rw [HW.out]
  refine (qk_ b W0).mono ?_
  rintro e w1 ⟨rfl,hb⟩
  have HB1:=Lib.hid hb
  have hk1:=held W0 w1 hb
  have q1:=(hk1 _ 0 hza).trans hka
  have q2:=(hk1 _ 1 hza).trans hkb
  have q3:=(hk1 _ 0 hzb).trans hkc
  have q4:=(hk1 _ 1 hzb).trans hkd
  clear hb hk1
  go_wp2_with fail
  refine (qo_ a b w1 (by omega) (by omega)).mono ?_
  rintro e w2 ⟨rfl,hb⟩
  have HB:=Lib.hid (grow HB1.out hb)
  have hl1:=held W0 w2 HB.out
  have hl2:=qb_ W0 w2 HB.out
  clear hb q1 q2 q3 q4
  have hr0:=(hl1 _ 0 hzc).trans hke
  have hr1:=(hl1 _ 1 hzc).trans hkf
  have hr2:=(hl1 _ 0 hzd).trans hki
  have hr3:=(hl1 _ 1 hzd).trans hkj
  have hf0:=(hl2 _ 0 hzc).trans hkg
  have hf1:=(hl2 _ 1 hzc).trans hkh
  have hf2:=(hl2 _ 0 hzd).trans hkk
  have hf3:=(hl2 _ 1 hzd).trans hkl
  have q1:=(hl1 _ 0 hza).trans hka
  have q2:=(hl1 _ 1 hza).trans hkb
  have q3:=(hl1 _ 0 hzb).trans hkc
  have q4:=(hl1 _ 1 hzb).trans hkd
  go_wp2_with fail
  go_region
  rw [E1.out,E2.out]
  go_wp2
  exact bodyPost_ret (v:=.tuple #[(Value.agg #[.int .u64 (lo (a / b)),.string (bg (a / b))]),(Value.agg #[.int .u64 (lo (a % b)),.string (bg (a % b))]),.bool true]) (by simp [results,Tryz.results43,go_sem,hr0,hr1,hr2,hr3,qb0 hdl.out,qc_ hdl.out,qb0 hml.out,qc_ hml.out]) rfl
   ⟨by rw [if_neg HB0.out],(((((grow h0.out HB.out).setCell (by show w.heap.size≤w.heap.size+1+1;omega) _).setCell (by show w.heap.size≤w.heap.size+1+1;omega) _).setCell (by show w.heap.size≤w.heap.size+1+1+1;omega) _).setCell (by show w.heap.size≤w.heap.size+1+1+1;omega) _).drew⟩
 have p1:(bg a).toList.isEmpty=false:=by rw [qb9,decide_eq_false hs]
 have HSA:=Lib.hid hs
 clear hs hab
 go_enter Tryz.func43,Tryz.ntmps43
 go_wp2_with fail
 rw [HW.out]
 refine (qk_ b W0).mono ?_
 rintro e w1 ⟨rfl,hb⟩
 have HB1:=Lib.hid hb
 have hk1:=held W0 w1 hb
 have q1:=(hk1 _ 0 hza).trans hka
 have q2:=(hk1 _ 1 hza).trans hkb
 have q3:=(hk1 _ 0 hzb).trans hkc
 have q4:=(hk1 _ 1 hzb).trans hkd
 clear hb hk1
 go_wp2_with fail
 refine (qo_ a b w1 (by omega) (by omega)).mono ?_
 rintro e w2 ⟨rfl,hb⟩
 have HB:=Lib.hid (grow HB1.out hb)
 have hl1:=held W0 w2 HB.out
 clear hb q1 q2 q3 q4
 have q1:=(hl1 _ 0 hza).trans hka
 have q2:=(hl1 _ 1 hza).trans hkb
 have q3:=(hl1 _ 0 hzb).trans hkc
 have q4:=(hl1 _ 1 hzb).trans hkd
 go_wp2_with fail
 refine (qd6 b w2 (by omega)).mono ?_
 rintro e w3 ⟨gy,cy,rfl,gy1,gy2,gy3,gy4,gy5⟩
 have HY1:=Lib.hid gy4
 have HY2:=Lib.hid gy5
 have hltw:=gy4.lt
 have hw2w:=gy5.size
 have HB3:=Lib.hid (grow HB.out gy5)
 clear hl1 q1 q2 q3 q4 gy3 gy4 gy5
 have hl1:=held W0 w3 HB3.out
 have q1:=(hl1 _ 0 hza).trans hka
 have q2:=(hl1 _ 1 hza).trans hkb
 have hca:=gy1
 have haw:wl a≤1099511627776:=by omega
 have hla:=qa6 a
 have HLA:=Lib.hid hla
 clear hla hl1
 by_cases hb1:wl b=1
 ·have hw1:(((wl b:Nat):Int) == 1)=true:=by rw [hb1];rfl
  have hl0:0<wl b:=by omega
  have hyb:Hid (dg b 0=b):=by
   show dg b 0=b
   have h1:=qa6 b
   rw [hb1,qv2] at h1
   unfold dg
   rw [qi7,Nat.div_one]
   exact Nat.mod_eq_of_lt h1
  clear hb1
  have hlaw:=held w3
  have hza3:w.heap.size<w3.heap.size:=Nat.lt_of_lt_of_le hza HB3.out.size
  have q3:=HY1.out.cell (show 0<cy by omega)
  have hdb:=qd1 b 0
  have hdb0:0<dg b 0:=by rw [hyb.out];have:=HB0.out;omega
  go_wp2_with fail
  go_region_held3 (fun w'=>Below w3.heap.size w3 w') (first|exact (Below.refl _ _).drew|assumption|exact grow (by assumption) (by assumption))
   (first
    | (go_at_call_of 120 (Value.agg #[.int .u64 (lo a),.string (bg a)]);refine (qd6 a _ haw).mono ?_;rintro e w4 ⟨gx,cx,rfl,gx1,gx2,gx3,gx4,gx5⟩; have HX1:=Lib.hid gx4;have hltx:=gx4.lt;clear gx3 gx4)
    | (go_at_call_of 121 (Value.slice (some ⟨gx,0,none⟩) (wl a) cx);refine (qB2 a (dg b 0) gx cx (wl a) _ haw (fun i hi=>HX1.out.cell (by omega)) hltx HLA.out hdb0 hdb).mono ?_;rintro e w5 ⟨gq,rfl,gq1,gq2,gq3⟩; have HQ1:=Lib.hid gq2;have hltq:=gq2.lt;clear gq2))
  have HB5:Hid (Below w3.heap.size w3 w5):=by assumption
  have hrem:((a:Nat):Int) % ((dg b 0:Nat):Int)=((a % b:Nat):Int):=by rw [hyb.out];simp
  rw [hrem]
  rw [hyb.out] at HQ1
  have HRE:=Lib.hid hrem
  have hqv:Hid (vl (dg (a / b)) (wl a)=a / b):=qa1 (Nat.lt_of_le_of_lt (Nat.div_le_self _ _) HLA.out)
  have hrl:a % b<4294967296:=by
   have:=Nat.mod_lt a (show 0<b by have:=HB0.out;omega)
   rw [hyb.out] at hdb
   omega
  obtain ⟨r,HR⟩:∃ r,Hid (a % b=r):=⟨_,Lib.hid rfl⟩
  rw [HR.out] at hrl
  rw [HR.out]
  clear hrem hlaw hza3 q1 q2 q3
  have hrle:(r:Int)<18446744073709551616:=by omega
  have HB6:=Lib.hid (grow HB3.out HB5.out)
  go_wp2_with fail
  refine (qq6 gq (wl a) (wl a) (dg (a / b)) w5 (Nat.le_refl _) (by omega) haw (fun i hi=>HQ1.out.cell hi) hltq (fun i _=>qd1 _ i)).mono ?_
  rintro e w6 ⟨rfl,hb6⟩
  rw [hqv.out]
  have HB9:=Lib.hid (grow HB6.out hb6)
  clear hb6
  have hlw:=held W0 w6 HB9.out
  have hlf:=qb_ W0 w6 HB9.out
  have hr0:=(hlw _ 0 hzc).trans hke
  have hr1:=(hlw _ 1 hzc).trans hkf
  have hr2:=(hlw _ 0 hzd).trans hki
  have hr3:=(hlw _ 1 hzd).trans hkj
  have hf0:=(hlf _ 0 hzc).trans hkg
  have hf1:=(hlf _ 1 hzc).trans hkh
  have hf2:=(hlf _ 0 hzd).trans hkk
  have hf3:=(hlf _ 1 hzd).trans hkl
  go_wp2_with fail
  exact bodyPost_ret (v:=.tuple #[(Value.agg #[.int .u64 (lo (a / b)),.string (bg (a / b))]),(Value.agg #[.int .u64 (lo r),.string (bg r)]),.bool true]) (by simp [results,Tryz.results43,go_sem,hr0,hr1,hr2,hr3,qb0 (show r<18446744073709551616 by omega),qc_ (show r<18446744073709551616 by omega)]) rfl
   ⟨by rw [if_neg HB0.out,HR.out],((((grow h0.out HB9.out).setCell (by show w.heap.size≤w.heap.size+1+1;omega) _).setCell (by show w.heap.size≤w.heap.size+1+1;omega) _).setCell (by show w.heap.size≤w.heap.size+1+1+1;omega) _).setCell (by show w.heap.size≤w.heap.size+1+1+1;omega) _⟩
 have hw1:(((wl b:Nat):Int) == 1)=false:=beq_eq_false_iff_ne.2 (by omega)
 have hb2:2≤wl b:=by
  have:=qo5 (show 0<b by have:=HB0.out;omega)
  omega
 obtain ⟨m,hm⟩:∃ m,wl a=wl b+m:=⟨wl a - wl b,by have:=qb6 (show b≤a by have:=HAB.out;omega);omega⟩
 clear hb1
 go_wp2_with fail
 refine (qd6 a w3 haw).mono ?_
 rintro e w4 ⟨gx,cx,rfl,gx1,gx2,gx3,gx4,gx5⟩
 have HX1:=Lib.hid gx4
 have HY3:=Lib.hid (HY1.out.below gx5 hltw)
 have hlt4:=gx5.size
 have HB4:=Lib.hid (grow HB3.out gx5)
 have hltx:=gx4.lt
 clear gx3 gx4 gx5 q1 q2
 go_wp2_with fail
 have hlong:=xf2 a b (wl b) m gx cx gy cy w4 rfl hm (by omega) hb2 (fun i hi=>HX1.out.cell (by omega)) hltx (fun i hi=>HY3.out.cell (by omega)) (by omega)
 refine hlong.mono ?_
 rintro e w5 ⟨gq,gu,rfl,k1,k2,k3⟩
 have K1:=Lib.hid k1
 have K2:=Lib.hid k2
 have hltq:=k1.lt
 have hltu:=k2.lt
 have HB5:=Lib.hid (grow HB4.out k3)
 have hab1:a / b<bp (m+1):=by
  refine Nat.div_lt_of_lt_mul ?_
  have h1:bp (wl b - 1)≤b:=qx2.1 (by omega)
  have h2:=HLA.out
  have h3:bp (wl b - 1)*bp (m+1)≤b*bp (m+1):=Nat.mul_le_mul_right _ h1
  rw [← qq3,show wl b - 1+(m+1)=wl b+m by omega,← hm] at h3
  omega
 have hab2:a % b<bp (wl b+m+1):=by
  have h1:=Nat.mod_lt a (show 0<b by have:=HB0.out;omega)
  have h2:=qa6 b
  have h3:bp (wl b)≤bp (wl b+m+1):=qC6 (by omega)
  omega
 have V1:=Lib.hid (qa1 hab1)
 have V2:=Lib.hid (qa1 hab2)
 clear k1 k2 k3 hlong hab1 hab2
 go_wp2_with fail
 refine (qq6 gq (m+1) (m+1) (dg (a / b)) w5 (Nat.le_refl _) (by omega) (by omega) (fun i hi=>K1.out.cell hi) hltq (fun i _=>qd1 _ i)).mono ?_
 rintro e w6 ⟨rfl,hb6⟩
 rw [V1.out]
 have K3:=Lib.hid (K2.out.below hb6 hltu)
 have hlt6:=hb6.size
 have HB6:=Lib.hid (grow HB5.out hb6)
 clear hb6
 go_wp2_with fail
 refine (qq6 gu (wl b+m+1) (wl b+m+1) (dg (a % b)) w6 (Nat.le_refl _) (by omega) (by omega) (fun i hi=>K3.out.cell hi) (by omega) (fun i _=>qd1 _ i)).mono ?_
 rintro e w7 ⟨rfl,hb7⟩
 rw [V2.out]
 have HB9:=Lib.hid (grow HB6.out hb7)
 clear hb7
 have hlw:=held W0 w7 HB9.out
 have hlf:=qb_ W0 w7 HB9.out
 have hr0:=(hlw _ 0 hzc).trans hke
 have hr1:=(hlw _ 1 hzc).trans hkf
 have hr2:=(hlw _ 0 hzd).trans hki
 have hr3:=(hlw _ 1 hzd).trans hkj
 have hf0:=(hlf _ 0 hzc).trans hkg
 have hf1:=(hlf _ 1 hzc).trans hkh
 have hf2:=(hlf _ 0 hzd).trans hkk
 have hf3:=(hlf _ 1 hzd).trans hkl
 go_wp2_with fail
 exact bodyPost_ret (v:=.tuple #[(Value.agg #[.int .u64 (lo (a / b)),.string (bg (a / b))]),(Value.agg #[.int .u64 (lo (a % b)),.string (bg (a % b))]),.bool true]) (by simp [results,Tryz.results43,go_sem,hr0,hr1,hr2,hr3]) rfl
  ⟨by rw [if_neg HB0.out],((((grow h0.out HB9.out).setCell (by show w.heap.size≤w.heap.size+1+1;omega) _).setCell (by show w.heap.size≤w.heap.size+1+1;omega) _).setCell (by show w.heap.size≤w.heap.size+1+1+1;omega) _).setCell (by show w.heap.size≤w.heap.size+1+1+1;omega) _⟩
end
section
open Go.RowKit
structure GcdRow (s x y:Nat) (wr:World):Prop where
 x0:wr.cell? ⟨s,0,none⟩=some (.int .u64 ((lo x:Nat):Int))
 x1:wr.cell? ⟨s,1,none⟩=some (.string (bg x))
 y0:wr.cell? ⟨s+1,0,none⟩=some (.int .u64 ((lo y:Nat):Int))
 y1:wr.cell? ⟨s+1,1,none⟩=some (.string (bg y))
 r0:wr.cell? ⟨s+1+1,0,none⟩=some (.int .u64 0)
 r1:wr.cell? ⟨s+1+1,1,none⟩=some (.string ⟨#[]⟩)
 fx0:wr.frozen? ⟨s,0,none⟩=false
 fx1:wr.frozen? ⟨s,1,none⟩=false
 fy0:wr.frozen? ⟨s+1,0,none⟩=false
 fy1:wr.frozen? ⟨s+1,1,none⟩=false
 fr0:wr.frozen? ⟨s+1+1,0,none⟩=false
 fr1:wr.frozen? ⟨s+1+1,1,none⟩=false
 size:s+1+1<wr.heap.size
theorem GcdRow.grow {s x y:Nat} {wr w':World} (h:GcdRow s x y wr) (hb:Below wr.heap.size wr w'):GcdRow s x y w':=by
 have h1:=held wr w' hb
 have h2:=qb_ wr w' hb
 have hs:=h.size
 have hs2:=hb.size
 exact ⟨(h1 _ _ (by omega)).trans h.x0,(h1 _ _ (by omega)).trans h.x1,(h1 _ _ (by omega)).trans h.y0,(h1 _ _ (by omega)).trans h.y1,(h1 _ _ (by omega)).trans h.r0,(h1 _ _ (by omega)).trans h.r1,
  (h2 _ _ (by omega)).trans h.fx0,(h2 _ _ (by omega)).trans h.fx1,(h2 _ _ (by omega)).trans h.fy0,(h2 _ _ (by omega)).trans h.fy1,(h2 _ _ (by omega)).trans h.fr0,(h2 _ _ (by omega)).trans h.fr1,by omega⟩
theorem GcdRow.set {s x y z:Nat} {W:World} (h:GcdRow s x y W):GcdRow s y z ((((W.setCell ⟨s,0,none⟩ (.int .u64 ((lo y:Nat):Int))).setCell ⟨s,1,none⟩ (.string (bg y))).setCell ⟨s+1,0,none⟩ (.int .u64 ((lo z:Nat):Int))).setCell ⟨s+1,1,none⟩ (.string (bg z))).drew:=by
 obtain ⟨x0,x1,y0,y1,r0,r1,fx0,fx1,fy0,fy1,fr0,fr1,hs⟩:=h
 constructor <;> simp [go_sem,x0,x1,y0,y1,r0,r1,fx0,fx1,fy0,fy1,fr0,fr1,hs]
theorem qT2 (a b:Nat) (w:World) (ha:wl a≤549755813888) (hb:wl b≤549755813888) :
  Calls Tryz.prog 111 #[(Value.agg #[.int .u64 (lo a),.string (bg a)]),(Value.agg #[.int .u64 (lo b),.string (bg b)])] w fun e w'=>e=.returned (Value.agg #[.int .u64 (lo (Nat.gcd a b)),.string (bg (Nat.gcd a b))])∧Below w.heap.size w w':=by
 obtain ⟨W0,HW⟩:∃ W0,Hid (((w.alloc (.cells #[.int .u64 ((lo a:Nat):Int),.string (bg a)] 30)).alloc (.cells #[.int .u64 ((lo b:Nat):Int),.string (bg b)] 30)).alloc (.cells #[.int .u64 0,.string ⟨#[]⟩] 30)=W0):=⟨_,Lib.hid rfl⟩
 have HR0:GcdRow w.heap.size a b W0:=by
  rw [← HW.out]
  constructor <;> simp [go_sem]
 have h0:=Lib.hid (show Below w.heap.size w W0 by rw [← HW.out];exact (((Below.refl _ _).alloc (Nat.le_refl _) _).alloc (by simp) _).alloc (by simp;omega) _)
 go_enter Tryz.func111,Tryz.ntmps111
 go_wp2_with fail
 rw [HW.out]
 go_loopg [] b (fun k wr=>∃ x,Nat.gcd x k=Nat.gcd a b∧wl x≤549755813888∧wl k≤549755813888∧GcdRow w.heap.size x k wr∧Below w.heap.size w wr)
 case atStart=>exact ⟨a,rfl,ha,hb,HR0,h0.out⟩
 case round =>
  obtain ⟨x,hg,hx,hk,hrow,hbel⟩:=hrel
  have HG:=Lib.hid hg
  have HB:=Lib.hid hbel
  have q1:=hrow.y0
  have q2:=hrow.y1
  clear hg hbel HR0 h0 HW
  by_cases hk0:gk=0
  ·subst hk0
   have hd:decide ((0:Nat)=0)=true:=rfl
   go_wp2_with fail
   refine (qk_ 0 wr).mono ?_
   rintro e w1 ⟨rfl,hb1⟩
   obtain ⟨x0,x1,y0,y1,r0,r1,fx0,fx1,fy0,fy1,fr0,fr1,hsz⟩:=hrow.grow hb1
   have HB1:=Lib.hid (hb1.mono (show w.heap.size≤wr.heap.size by have:=hrow.size;omega))
   clear hrow hb1 q1 q2
   go_wp2_with fail
   have hgx:x=Nat.gcd a b:=by rw [← HG.out];exact (Nat.gcd_zero_right x).symm
   exact bodyPost_ret (v:=(Value.agg #[.int .u64 (lo x),.string (bg x)])) (by simp [results,Tryz.results111,go_sem,r0,r1]) rfl
    ⟨by rw [hgx],((HB.out.trans HB1.out).setCell (by show w.heap.size≤w.heap.size+1+1;omega) _).setCell (by show w.heap.size≤w.heap.size+1+1;omega) _⟩
  have hd:decide (gk=0)=false:=decide_eq_false hk0
  have hsz:=hrow.size
  go_wp2_with fail
  refine (qk_ gk wr).mono ?_
  rintro e w1 ⟨rfl,hb1⟩
  have hrow1:=hrow.grow hb1
  have HB1:=Lib.hid hb1
  have p1:=hrow1.x0
  have p2:=hrow1.x1
  have p3:=hrow1.y0
  have p4:=hrow1.y1
  clear hb1 q1 q2
  go_wp2_with fail
  refine (qC8 x gk w1 hx hk).mono ?_
  rintro e w2 ⟨he,hb2⟩
  rw [if_neg hk0] at he
  subst he
  have hrow2:=hrow1.grow hb2
  have HB2:=Lib.hid (grow HB1.out hb2)
  clear hb2 p1 p2 p3 p4
  go_wp2_with fail
  obtain ⟨W3,HW3⟩:∃ W3,Hid ((w2.alloc (.cells #[.int .u64 (lo (x / gk)),.string (bg (x / gk))] 30)).alloc (.cells #[.int .u64 (lo (x % gk)),.string (bg (x % gk))] 30)=W3):=⟨_,Lib.hid rfl⟩
  have hB3:Below w2.heap.size w2 W3:=by rw [← HW3.out];exact ((Below.refl _ _).alloc (Nat.le_refl _) _).alloc (by simp) _
  have m0:W3.cell? ⟨w2.heap.size+1,0,none⟩=some (.int .u64 (lo (x % gk))):=by rw [← HW3.out];simp [go_sem]
  have m1:W3.cell? ⟨w2.heap.size+1,1,none⟩=some (.string (bg (x % gk))):=by rw [← HW3.out];simp [go_sem]
  rw [HW3.out]
  have hne:w2.heap.size+1≠w.heap.size:=by have:=hrow2.size;omega
  have hne2:w2.heap.size≠w.heap.size:=by have:=hrow2.size;omega
  obtain ⟨x0,x1,y0,y1,r0,r1,fx0,fx1,fy0,fy1,fr0,fr1,hsz3⟩:=hrow2.grow hB3
  have HB3:=Lib.hid (grow HB2.out hB3)
  have HROW:=Lib.hid (GcdRow.set (z:=x % gk) (hrow2.grow hB3))
  clear hrow hrow1 hrow2 hB3 HW3
  go_region
  all_goals
   go_wp2_with fail
   go_roundg (x % gk)
   case measure=>exact Nat.mod_lt _ (by omega)
   case rel =>
    have hmx:wl (x % gk)≤549755813888:=Nat.le_trans (qb6 (Nat.le_of_lt (Nat.mod_lt x (show 0<gk by omega)))) hk
    refine ⟨gk,?_,hk,hmx,HROW.out,?_⟩
    ·rw [Nat.gcd_comm,← Nat.gcd_rec,Nat.gcd_comm]
     exact HG.out
    exact (((((HB.out.trans (HB3.out.mono (by omega))).setCell (Nat.le_refl _) _).setCell (Nat.le_refl _) _).setCell (by show w.heap.size≤w.heap.size+1;omega) _).setCell (by show w.heap.size≤w.heap.size+1;omega) _).drew
end
end Go.Proofs.YtobojnodohjiaaaGreatDoor
