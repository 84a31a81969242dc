/- A pack of texts: Num, Nat, Mem, Cut, Words, Of, Cmp. No condition but those stated. -/
import Derived.Laws.Strings
import Derived.Test.YtobojnodohjiaaaGreatDoorRows
import Derived.WalkKit
import Derived.Deep.OwnRows
import Derived.Deep.Draws
import Derived.Lib.Hide
import Derived.Laws.CopyOwn
import Derived.BigQuiet
import Derived.BigRegion
import Derived.Maps.AppendAt
import Derived.Deep.RegionHeld3
import Derived.Deep.DeepCutAuto
import Derived.Deep.DrawnRows
set_option maxRecDepth 100000
set_option maxHeartbeats 16000000
set_option linter.unusedVariables false
set_option linter.unusedSimpArgs false
namespace Go.Proofs.YtobojnodohjiaaaGreatDoor
section
def bp (n:Nat):Nat:=4294967296 ^ n
theorem qi7:bp 0=1:=rfl
theorem qb7 (n:Nat):bp (n+1)=4294967296*bp n:=by unfold bp;rw [Nat.pow_succ,Nat.mul_comm]
theorem qq3 (m n:Nat):bp (m+n)=bp m*bp n:=by unfold bp;rw [Nat.pow_add]
theorem qm4 (n:Nat):0<bp n:=by unfold bp;exact Nat.pow_pos (by decide)
theorem qC6 {m n:Nat} (h:m≤n):bp m≤bp n:=by unfold bp;exact Nat.pow_le_pow_right (by decide) h
theorem qv2:bp 1=4294967296:=rfl
theorem qH3:bp 2=18446744073709551616:=by decide
theorem qK7 (n:Nat):bp n=2 ^ (32*n):=by unfold bp;rw [show (4294967296:Nat)=2 ^ 32 from rfl,← Nat.pow_mul]
def vl (f:Nat→Nat):Nat→Nat
 | 0=>0
 | n+1=>vl f n+f n*bp n
theorem qZ_ (f:Nat→Nat):vl f 0=0:=rfl
theorem qb3 (f:Nat→Nat) (n:Nat):vl f (n+1)=vl f n+f n*bp n:=rfl
theorem qd0 {f g:Nat→Nat} {n:Nat} (h:∀ i,i<n→f i=g i):vl f n=vl g n:=by
 induction n with
 | zero=>rfl
 | succ n ih=>rw [qb3,qb3,ih (fun i hi=>h i (by omega)),h n (by omega)]
theorem vl_lt {f:Nat→Nat} {n:Nat} (h:∀ i,i<n→f i<4294967296):vl f n<bp n:=by
 induction n with
 | zero=>simp [vl,bp]
 | succ n ih =>
  have h1:=ih (fun i hi=>h i (by omega))
  have h2:=h n (by omega)
  have h3:f n*bp n≤4294967295*bp n:=Nat.mul_le_mul_right _ (by omega)
  rw [qb3,qb7]
  omega
theorem qo2 (f:Nat→Nat) (m n:Nat):vl f (m+n)=vl f m+bp m*vl (fun i=>f (m+i)) n:=by
 induction n with
 | zero=>simp [vl]
 | succ n ih =>
  rw [← Nat.add_assoc,qb3,ih,qb3,Nat.mul_add,qq3,Nat.add_assoc]
  congr 2
  rw [← Nat.mul_assoc,← Nat.mul_assoc,Nat.mul_comm (f (m+n))]
theorem qZ7 (f:Nat→Nat) (n:Nat):vl f (n+1)=f 0+4294967296*vl (fun i=>f (i+1)) n:=by
 rw [Nat.add_comm n 1,qo2]
 simp [vl,qv2,qi7,Nat.add_comm]
theorem qZ9 {f:Nat→Nat} {m n:Nat} (hmn:m≤n) (h:∀ i,m≤i→i<n→f i=0):vl f n=vl f m:=by
 induction n with
 | zero =>
      obtain rfl:m=0:=by omega
      rfl
 | succ n ih =>
  by_cases hm:m=n+1
  ·rw [hm]
  rw [qb3,ih (by omega) (fun i h1 h2=>h i h1 (by omega)),h n (by omega) (by omega)];simp
theorem xy_ {f:Nat→Nat} {n:Nat} (h:f n≠0):bp n≤vl f (n+1):=by
 rw [qb3]
 have:1*bp n≤f n*bp n:=Nat.mul_le_mul_right _ (by omega)
 omega
theorem qZ8 {f g:Nat→Nat} {n i:Nat} (hi:i<n) (hf:∀ j,j<n→f j<4294967296) (he:∀ j,i<j→j<n→f j=g j) (hl:f i<g i):vl f n<vl g n:=by
 have h1:vl f n=vl f (i+1)+bp (i+1)*vl (fun j=>f (i+1+j)) (n - (i+1)):=by
  rw [← qo2];congr 1;omega
 have h2:vl g n=vl g (i+1)+bp (i+1)*vl (fun j=>g (i+1+j)) (n - (i+1)):=by
  rw [← qo2];congr 1;omega
 have h3:vl (fun j=>f (i+1+j)) (n - (i+1))=vl (fun j=>g (i+1+j)) (n - (i+1)):=qd0 (fun j hj=>he _ (by omega) (by omega))
 have h4:vl f (i+1)<vl g (i+1):=by
  rw [qb3,qb3]
  have h5:=vl_lt (f:=f) (n:=i) (fun j hj=>hf j (by omega))
  have h6:(f i+1)*bp i≤g i*bp i:=Nat.mul_le_mul_right _ (by omega)
  rw [Nat.add_mul] at h6
  omega
 rw [h1,h2,h3];omega
def dg (n i:Nat):Nat:=n / bp i % 4294967296
theorem qd1 (n i:Nat):dg n i<4294967296:=Nat.mod_lt _ (by decide)
theorem xy9 (n k:Nat):vl (dg n) k=n % bp k:=by
 induction k with
 | zero=>simp [vl,bp,Nat.mod_one]
 | succ k ih =>
  rw [qb3,ih,dg,qb7,Nat.mul_comm 4294967296,Nat.mod_mul,Nat.mul_comm (bp k)]
theorem qa1 {n k:Nat} (h:n<bp k):vl (dg n) k=n:=by rw [xy9,Nat.mod_eq_of_lt h]
theorem xn0 {f:Nat→Nat} {n:Nat} (hf:∀ j,j<n→f j<4294967296) {i:Nat} (hi:i<n):dg (vl f n) i=f i:=by
 have h1:vl f n=vl f i+bp i*vl (fun j=>f (i+j)) (n - i):=by
  rw [← qo2];congr 1;omega
 have h2:vl f i<bp i:=vl_lt (fun j hj=>hf j (by omega))
 rw [dg,h1,Nat.add_mul_div_left _ _ (qm4 i),Nat.div_eq_of_lt h2,Nat.zero_add,show n - i=(n - i - 1)+1 by omega,qZ7]
 rw [Nat.add_mul_mod_self_left]
 exact Nat.mod_eq_of_lt (hf _ hi)
def wl (n:Nat):Nat:=if n=0 then 0 else Nat.log2 n / 32+1
theorem wl_le {n k:Nat}:wl n≤k ↔ n<bp k:=by
 unfold wl
 split
 ·next h=>subst h;simp [qm4]
 ·next h =>
  rw [qK7,← Nat.log2_lt h]
  omega
theorem qx2 {n k:Nat}:k<wl n ↔ bp k≤n:=by
 have:=@wl_le n k
 omega
theorem qa6 (n:Nat):n<bp (wl n):=wl_le.1 (Nat.le_refl _)
theorem xs6:wl 0=0:=rfl
theorem qo5 {n:Nat} (h:0<n):0<wl n:=qx2.2 (by rw [qi7];exact h)
theorem qP0 {n:Nat}:wl n=0 ↔ n=0:=by
 have:=@wl_le n 0
 rw [qi7] at this
 omega
theorem qb6 {m n:Nat} (h:m≤n):wl m≤wl n:=wl_le.2 (Nat.lt_of_le_of_lt h (qa6 n))
theorem xE3 {n k:Nat} (h1:bp k≤n) (h2:n<bp (k+1)):wl n=k+1:=by
 have a:=wl_le.2 h2
 have b:=qx2.2 h1
 omega
theorem wl_add (a b:Nat):wl (a+b)≤max (wl a) (wl b)+1:=by
 apply wl_le.2
 rw [qb7]
 have h1:=Nat.lt_of_lt_of_le (qa6 a) (qC6 (Nat.le_max_left (wl a) (wl b)))
 have h2:=Nat.lt_of_lt_of_le (qa6 b) (qC6 (Nat.le_max_right (wl a) (wl b)))
 omega
theorem qi5 (a b:Nat):wl (a*b)≤wl a+wl b:=by
 apply wl_le.2
 rw [qq3]
 exact Nat.mul_lt_mul_of_lt_of_le (qa6 a) (Nat.le_of_lt (qa6 b)) (qm4 _)
theorem qo3 (a b:Nat):wl (a / b)≤wl a:=qb6 (Nat.div_le_self _ _)
theorem qr4 (a b:Nat):wl (a % b)≤wl a:=qb6 (Nat.mod_le _ _)
theorem qF7 (a b:Nat) (h:0<a):wl (Nat.gcd a b)≤wl a:=qb6 (Nat.le_of_dvd h (Nat.gcd_dvd_left _ _))
theorem qB5 (a b:Nat):wl (Nat.gcd a b)≤max (wl a) (wl b):=by
 by_cases h:a=0
 ·subst h;rw [Nat.gcd_zero_left];omega
 have:=qF7 a b (by omega);omega
theorem wl_small {n:Nat} (h:n<4294967296):wl n≤1:=wl_le.2 (by rw [qv2];exact h)
theorem qo4 {n:Nat}:wl n≤2 ↔ n<18446744073709551616:=by rw [wl_le,qH3]
theorem xE4 {f:Nat→Nat} {n:Nat} (hf:∀ j,j<n→f j<4294967296) (ht:0<n→f (n - 1)≠0):wl (vl f n)=n:=by
 cases n with
 | zero=>rfl
 | succ n=>exact xE3 (xy_ (ht (by omega))) (vl_lt hf)
theorem xu2 {n:Nat} (h:0<n):dg n (wl n - 1)≠0:=by
 have hp:=qo5 h
 have h1:bp (wl n - 1)≤n:=qx2.1 (by omega)
 have h2:=qa6 n
 rw [show wl n=(wl n - 1)+1 by omega,qb7,Nat.mul_comm] at h2
 have h3:n / bp (wl n - 1)<4294967296:=Nat.div_lt_of_lt_mul (by simpa using h2)
 have h4:0<n / bp (wl n - 1):=Nat.div_pos h1 (qm4 _)
 rw [dg,Nat.mod_eq_of_lt h3]
 omega
theorem qt2 {n k i:Nat} (h:n<bp k) (hi:k≤i):dg n i=0:=by
 rw [dg,Nat.div_eq_of_lt (Nat.lt_of_lt_of_le h (qC6 hi))]
end
section
def lo (n:Nat):Nat:=if n<18446744073709551616 then n else 0
def by4 (d:Nat):List UInt8:=[UInt8.ofNat d,UInt8.ofNat (d / 256),UInt8.ofNat (d / 65536),UInt8.ofNat (d / 16777216)]
def bys (f:Nat→Nat):Nat→List UInt8
 | 0=>[]
 | k+1=>bys f k ++ by4 (f k)
def bg (n:Nat):ByteArray:=if n<18446744073709551616 then ⟨#[]⟩ else ⟨(bys (dg n) (wl n)).toArray⟩
theorem qb0 {n:Nat} (h:n<18446744073709551616):lo n=n:=if_pos h
theorem xk0 {n:Nat} (h:¬ n<18446744073709551616):lo n=0:=if_neg h
theorem qc_ {n:Nat} (h:n<18446744073709551616):bg n=⟨#[]⟩:=if_pos h
theorem qQ0 {n:Nat} (h:¬ n<18446744073709551616):bg n=⟨(bys (dg n) (wl n)).toArray⟩:=if_neg h
theorem qe5 (f:Nat→Nat) (k:Nat):(bys f k).length=4*k:=by
 induction k with
 | zero=>rfl
 | succ k ih=>rw [bys,List.length_append,ih];rfl
theorem qQ5 {f g:Nat→Nat} {k:Nat} (h:∀ i,i<k→f i=g i):bys f k=bys g k:=by
 induction k with
 | zero=>rfl
 | succ k ih=>rw [bys,bys,ih (fun i hi=>h i (by omega)),h k (by omega)]
theorem qQ4 (f:Nat→Nat) {k i j:Nat} (hi:i<k) (hj:j<4):(bys f k)[4*i+j]?=(by4 (f i))[j]?:=by
 induction k with
 | zero=>omega
 | succ k ih =>
  rw [bys]
  by_cases h:i<k
  ·rw [List.getElem?_append_left (by rw [qe5];omega)]
   exact ih h
  obtain rfl:i=k:=by omega
  rw [List.getElem?_append_right (by rw [qe5];omega),qe5]
  congr 1
  omega
theorem qQ3 (d:Nat) {j:Nat} (hj:j<4):((by4 d)[j]?).map UInt8.toNat=some (d / 256 ^ j % 256):=by
 match j,hj with
 | 0,_=>simp [by4]
 | 1,_=>simp [by4]
 | 2,_=>simp [by4]
 | 3,_=>simp [by4]
theorem xj7 {n:Nat} (h:¬ n<18446744073709551616):3≤wl n:=by
 have:=@qo4 n
 omega
theorem xh9 {n:Nat} (h:n<18446744073709551616):wl n≤2:=qo4.2 h
theorem qE7 {n:Nat} (h:¬ n<18446744073709551616):(bg n).size=4*wl n:=by
 rw [qQ0 h]
 show ((bys (dg n) (wl n)).toArray).size=_
 rw [List.size_toArray,qe5]
theorem qh6 {n:Nat} (h:n<18446744073709551616):(bg n).toList = []:=by rw [qc_ h,ByteArray.toList_eq]
theorem qg8 {n:Nat} (h:¬ n<18446744073709551616):(bg n).toList=bys (dg n) (wl n):=by rw [qQ0 h,ByteArray.toList_mk]
theorem qe7 {n:Nat} (h:¬ n<18446744073709551616):(bg n).toList ≠ []:=by
 rw [qg8 h]
 intro e
 have:=qe5 (dg n) (wl n)
 rw [e] at this
 have:=xj7 h
 simp at *
 omega
theorem xB9 {n i j:Nat} (h:¬ n<18446744073709551616) (hi:i<wl n) (hj:j<4) (hb:4*i+j<(bg n).size):((bg n)[4*i+j]'hb).toNat=dg n i / 256 ^ j % 256:=by
 have h1:=qQ4 (dg n) hi hj
 have h2:=qQ3 (dg n i) hj
 have h3:(bys (dg n) (wl n))[4*i+j]?=some ((bg n)[4*i+j]'hb):=by
  have e:(bg n).data.toList=bys (dg n) (wl n):=by rw [← ByteArray.toList_eq,qg8 h]
  rw [← e]
  have hb':4*i+j<(bg n).data.toList.length:=by simpa using hb
  rw [List.getElem?_eq_getElem hb']
  rfl
 rw [h3] at h1
 rw [← h1] at h2
 simpa using h2
theorem xm2 {f g:Nat→Nat} {k:Nat} (hf:∀ i,i<k→f i<4294967296) (hg:∀ i,i<k→g i<4294967296) (h:bys f k=bys g k):∀ i,i<k→f i=g i:=by
 intro i hi
 have e:∀ j,j<4→f i / 256 ^ j % 256=g i / 256 ^ j % 256:=fun j hj=>by
  have h1:=qQ3 (f i) hj
  have h2:=qQ3 (g i) hj
  rw [← qQ4 f hi hj,h,qQ4 g hi hj,h2] at h1
  simpa using h1.symm
 have e0:=e 0 (by decide)
 have e1:=e 1 (by decide)
 have e2:=e 2 (by decide)
 have e3:=e 3 (by decide)
 have:=hf i hi
 have:=hg i hi
 simp at e0 e1 e2 e3
 omega
theorem qL4 {m n:Nat} (h1:lo m=lo n) (h2:(bg m).toList=(bg n).toList):m=n:=by
 by_cases hm:m<18446744073709551616 <;> by_cases hn:n<18446744073709551616
 ·rwa [qb0 hm,qb0 hn] at h1
 ·rw [qh6 hm] at h2
  exact absurd h2.symm (qe7 hn)
 ·rw [qh6 hn] at h2
  exact absurd h2 (qe7 hm)
 rw [qg8 hm,qg8 hn] at h2
 have hl:=congrArg List.length h2
 rw [qe5,qe5] at hl
 have hk:wl m=wl n:=by omega
 rw [hk] at h2
 have:=xm2 (fun i _=>qd1 m i) (fun i _=>qd1 n i) h2
 rw [← qa1 (qa6 m),← qa1 (qa6 n),hk]
 exact qd0 this
theorem qL3 (m n:Nat):(((lo m:Nat):Int) == ((lo n:Nat):Int) && (bg m).toList == (bg n).toList)=decide (m=n):=by
 by_cases h:m=n
 ·subst h;simp
 rw [decide_eq_false h]
 by_cases h1:lo m=lo n
 ·have:¬ (bg m).toList=(bg n).toList:=fun h2=>h (qL4 h1 h2)
  simp [this]
 have:((lo m:Nat):Int)≠((lo n:Nat):Int):=by omega
 simp [this]
end
section
open Go.RowKit
def qM4:Value→Nat | .slice _ l _=>l|_=>0
def Ws (w:World) (b n:Nat) (f:Nat→Nat):Prop:=w.rowIs b 22 n (fun i=>.int .u32 ((f i:Nat):Int))
section
variable {w w':World} {b n:Nat} {f g:Nat→Nat}
theorem Ws.cell (h:Ws w b n f) {i:Nat} (hi:i<n):w.cell? ⟨b,i,none⟩=some (.int .u32 ((f i:Nat):Int)):=World.rowIs.cell h hi
theorem Ws.frozen (h:Ws w b n f) (i:Nat):w.frozen? ⟨b,i,none⟩=false:=World.rowIs.frozen h i
theorem Ws.lt (h:Ws w b n f):b<w.heap.size:=World.rowIs.lt h
theorem Ws.congr (h:Ws w b n f) (e:∀ i,i<n→f i=g i):Ws w b n g:=World.rowIs.congr h (fun i hi=>by rw [e i hi])
theorem Ws.below {B:Nat} (h:Ws w b n f) (hb:Below B w w') (hlt:b<B):Ws w' b n f:=World.rowIs.of_block h (hb.block b hlt)
theorem Ws.set (h:Ws w b n f) (i v:Nat):Ws (w.setCell ⟨b,i,none⟩ (.int .u32 ((v:Nat):Int))) b n (fun j=>if j=i then v else f j) :=
 World.rowIs.congr (World.rowIs.set h i _) (fun j _=>by by_cases e:j=i <;> simp [e])
theorem Ws.setOther (h:Ws w b n f) {a:Addr} (ha:b≠a.block) (v:Value):Ws (w.setCell a v) b n f:=World.rowIs.setOther h ha v
theorem Ws.alloc (h:Ws w b n f) (o:Obj):Ws (w.alloc o) b n f:=World.rowIs.alloc h o
theorem Ws.drew (h:Ws w b n f):Ws w.drew b n f:=World.rowIs.drew h
theorem Ws.drewN (h:Ws w b n f) (k:Nat):Ws (w.drewN k) b n f:=h
theorem Ws.made (w:World) (n:Nat):Ws (w.alloc (.cells (madeCells #[.int .u32 0] n) 22)) w.heap.size n (fun _=>0):=World.rowIs_made w _ n _
end
theorem qa0 {B:Nat} {a w:World} (h:Below B a w) (n:Nat):Below B a (w.drewN n):=⟨h.os,h.tape,h.output,h.size,h.block⟩
theorem held (W0:World):∀ w':World,Below W0.heap.size W0 w'→∀ b o,b<W0.heap.size→w'.cell? ⟨b,o,none⟩=W0.cell? ⟨b,o,none⟩:=fun _ h b o hb=>h.cell (p:=⟨b,o,none⟩) hb
theorem grow {W0 w1 w2:World} (h:Below W0.heap.size W0 w1) (k:Below w1.heap.size w1 w2):Below W0.heap.size W0 w2:=h.trans (k.mono h.size)
theorem qx0:(Tryz.prog.info? 22).map (fun i=>(i.zero,i.size,i.bytes))=some (some (.int .u32 0),1,4):=by kernel_rfl
theorem xh8:(Tryz.prog.info? 22).map (·.size)=some 1:=by kernel_rfl
theorem qp4 (k:Int) (n:Nat) (hk:k=(n:Int)) (h:n≤4398046511104) (W:World):(Instr.makeSlice 79 (.int .i64 k) (.int .i64 k)).run Tryz.prog W=.ok (.slice (some ⟨W.heap.size,0,none⟩) n n) (W.alloc (.cells (madeCells #[.int .u32 0] n) 22)):=by
 subst hk
 exact run_make_row' (P:=Tryz.prog) 79 22 (.int .u32 0) 4 Tryz.underlying79 qx0 rfl .i64 .i64 n (by omega) (by omega) W
theorem xm8 {w:World} {ops:Array Oper} {rest:List Oper} {o:Oper} {a:Act} {Q:Exit→Act→World→Prop} (hgd:o.guard=none) (d s:Operand)
  (ho:o.op=.call { callee:=.builtin .copy,args:=#[d,s],argTypes:=#[79,79] }) (g N dCap b n sCap:Nat)
  (hd:a.eval d=.slice (some ⟨g,0,none⟩) N dCap) (hs:a.eval s=.slice (some ⟨b,0,none⟩) n sCap) (hnN:n≤N) (F f:Nat→Nat) (hg:Ws w g N F)
  (hc:∀ i,i<n→w.cell? ⟨b,i,none⟩=some (.int .u32 ((f i:Nat):Int))) (B:Nat) (w0:World) (hb:Below B w0 w) (hBg:B≤g)
  (h:∀ w',Ws w' g N (fun i=>if i<n then f i else F i)→Below B w0 w'→w'.heap.size=w.heap.size→wpList Tryz.prog ops Q rest (a.put o.dst (.int .i64 ((n:Nat):Int))) w') :
  wpList Tryz.prog ops Q (o :: rest) a w:=by
 obtain ⟨c,hh,hsz,hcc⟩:=hg
 have hcs:(((List.range n).map fun i=>Value.int .u32 ((f i:Nat):Int))).length=n:=by simp
 refine wpList_copy_own hgd d s 79 79 ho 22 Tryz.underlying79 xh8 g 0 N dCap ⟨b,0,none⟩ n sCap hd hs c 22 hh ((List.range n).map fun i=>Value.int .u32 ((f i:Nat):Int)) ?_ ?_ ?_ ?_ ?_
 ·rw [hcs];exact (Nat.min_eq_left hnN).symm
 ·intro j v hj
  have hjn:j<n:=by
   have:=(List.getElem?_eq_some_iff.1 hj).1
   simpa using this
  have e:(⟨b,0,none⟩:Addr).add j=⟨b,j,none⟩:=by unfold Addr.add;split <;> simp_all
  rw [e,hc j hjn]
  simp [hjn] at hj
  rw [hj]
 ·rw [hcs,hsz];omega
 ·intro v hv
  simp at hv
  obtain ⟨i,_,rfl⟩:=hv
  rfl
 rw [hcs]
 refine h _ ⟨_,setRow_heap w g _ _ 22 _ hh,?_,?_⟩ (below_setRow hb hBg _) (by simp [World.setRow])
 ·simp [hsz];omega
 intro i hi
 by_cases e:i<n
 ·simp only [List.take_zero,List.nil_append,Nat.zero_add,List.getElem?_toArray,e,if_true]
  rw [List.getElem?_append_left (by simpa using e)]
  simp [e]
 have e2:n+(i - n)=i:=by omega
 have:=hcc i hi
 simp only [List.take_zero,List.nil_append,Nat.zero_add,List.getElem?_toArray,e,if_false]
 rw [List.getElem?_append_right (by simpa using e),hcs,List.getElem?_drop,e2,Array.getElem?_toList]
 exact this
end
section
open Go.RowKit
def tl (f:Nat→Nat):Nat→Nat
 | 0=>0
 | n+1=>if f n=0 then tl f n else n+1
theorem qY_ {f:Nat→Nat} {n:Nat} (h:f n=0):tl f (n+1)=tl f n:=by simp [tl,h]
theorem qY9 {f:Nat→Nat} {n:Nat} (h:f n≠0):tl f (n+1)=n+1:=by simp [tl,h]
theorem qO7 (f:Nat→Nat) (n:Nat):tl f n≤n:=by
 induction n with
 | zero=>exact Nat.le_refl _
 | succ n ih=>unfold tl;split <;> omega
theorem xl3 {f:Nat→Nat} {n:Nat} (h:0<tl f n):f (tl f n - 1)≠0:=by
 induction n with
 | zero=>simp [tl] at h
 | succ n ih =>
  unfold tl at h ⊢
  split
  ·next e=>rw [if_pos e] at h;exact ih h
  ·next e=>simpa using e
theorem xr_ (f:Nat→Nat) (n:Nat):vl f (tl f n)=vl f n:=by
 induction n with
 | zero=>rfl
 | succ n ih =>
  unfold tl
  split
  ·next e=>rw [ih,qb3,e];simp
  rfl
theorem xr3 {f:Nat→Nat} {n:Nat} (hf:∀ i,i<n→f i<4294967296):tl f n=wl (vl f n):=by
 rw [← xr_]
 have:=qO7 f n
 exact (xE4 (fun j hj=>hf j (by omega)) xl3).symm
theorem qw6 (b c:Nat) (f:Nat→Nat) (w:World) (n:Nat) (hn:n≤c) (hc:c≤9223372036854775807)
  (hcell:∀ i,i<n→w.cell? ⟨b,i,none⟩=some (.int .u32 ((f i:Nat):Int))) :
  Calls Tryz.prog 202 #[.slice (some ⟨b,0,none⟩) n c] w fun e w'=>e=.returned (.slice (some ⟨b,0,none⟩) (tl f n) c)∧w=w':=by
 go_enter Tryz.func202,Tryz.ntmps202
 go_wp2
 go_loop [0] (fun l=>∃ m:Nat,m≤n∧l=.slice (some ⟨b,0,none⟩) m c∧Hid (tl f m=tl f n)) (fun l=>qM4 l)
 case atStart=>exact ⟨n,Nat.le_refl _,rfl,Lib.hid rfl⟩
 case round =>
  obtain ⟨m,hm,rfl,HT⟩:=hrel
  rcases m with _|m
  ·go_wp2
   go_ret
   exact ⟨by rw [← HT.out];rfl,rfl⟩
  have h1:=hcell m (by omega)
  clear hcell
  by_cases h0:f m=0
  ·have h2:(((f m:Nat):Int) == 0)=true:=by simp [h0]
   have H0:=Lib.hid h0
   clear h0
   go_wp2
   go_round
   case rel=>exact ⟨m,by omega,rfl,Lib.hid (by rw [← HT.out,qY_ H0.out])⟩
   case measure=>simp [qM4]
  have h2:(((f m:Nat):Int) == 0)=false:=by simpa using h0
  have H0:=Lib.hid h0
  clear h0
  go_wp2
  go_ret
  exact ⟨by rw [← HT.out,qY9 H0.out];rfl,rfl⟩
theorem qx4 (n:Int) (w:World) (h0:0≤n) (h1:n<18446744073709551616) :
  Calls Tryz.prog 24 #[.int .u64 n] w fun e w'=>e=.returned (Value.agg #[.int .u64 (lo (n.toNat)),.string (bg (n.toNat))])∧Below w.heap.size w w':=by
 obtain ⟨m,rfl⟩:=Int.eq_ofNat_of_zero_le h0
 have hm:m<18446744073709551616:=by omega
 rw [Int.toNat_natCast,qb0 hm,qc_ hm]
 clear h0 h1
 go_enter Tryz.func24,Tryz.ntmps24
 go_wp2
 exact bodyPost_ret (v:=.agg #[.int .u64 ((m:Nat):Int),.string ⟨#[]⟩]) (by simp [results,Tryz.results24,go_sem]) rfl ⟨rfl,(Below.refl _ _).alloc (Nat.le_refl _) _⟩
theorem xh7 (n:Int) (w:World) (h0:-9223372036854775808≤n) (h1:n≤9223372036854775807) :
  Calls Tryz.prog 249 #[.int .i64 n] w fun e w'=>e=.returned (.int .i64 (max (-1) (min 1 n)))∧w=w':=by
 go_enter Tryz.func249,Tryz.ntmps249
 go_wp2
 all_goals go_ret
 all_goals exact ⟨congrArg (fun x:Int=>Ending.returned (.int .i64 x)) (by omega),rfl⟩
theorem eq_nat (d m n:Nat) (w:World):(Op.equalIn (d+2) 30 (Value.agg #[.int .u64 (lo m),.string (bg m)]) (Value.agg #[.int .u64 (lo n),.string (bg n)])).run Tryz.prog w=.ok (decide (m=n)) w:=by
 rw [← qL3]
 simp [go_sem]
 by_cases h1:((lo m:Nat):Int)=((lo n:Nat):Int) <;> by_cases h2:(bg m).toList=(bg n).toList <;> simp [h1,h2]
theorem eq_nat_zero (d m:Nat) (w:World):(Op.equalIn (d+2) 30 (Value.agg #[.int .u64 (lo m),.string (bg m)]) (Value.agg #[.int .u64 0,.string ⟨#[]⟩])).run Tryz.prog w=.ok (decide (m=0)) w:=eq_nat d m 0 w
attribute [local go_sem ↓] eq_nat eq_nat_zero
theorem qk_ (n:Nat) (w:World) :
  Calls Tryz.prog 118 #[(Value.agg #[.int .u64 (lo n),.string (bg n)])] w fun e w'=>e=.returned (.bool (decide (n=0)))∧Below w.heap.size w w':=by
 go_enter Tryz.func118,Tryz.ntmps118
 go_wp2
 go_ret
 exact ⟨rfl,(Below.refl _ _).alloc (Nat.le_refl _) _⟩
end
section
open Go.RowKit
def WordsPost (n:Nat) (w:World) (e:Ending) (w':World):Prop :=
 ∃ b c:Nat,e=.returned (.slice (some ⟨b,0,none⟩) (wl n) c)∧w.heap.size≤b∧wl n≤c∧c≤max 2 (wl n)∧Ws w' b c (dg n)∧Below w.heap.size w w'
theorem xm0 (W:World) (n:Nat) (h:n<18446744073709551616):Ws (W.alloc (.cells #[.int .u32 ((n:Int) % 4294967296),.int .u32 ((n:Int) / 4294967296)] 22)) W.heap.size 2 (dg n):=by
 refine World.rowIs_alloc W _ _ _ fun i hi=>?_
 match i,hi with
 | 0,_=>simp [dg,qi7]
 | 1,_ =>
  have:n / 4294967296<4294967296:=by omega
  simp [dg,qv2,Nat.mod_eq_of_lt this]
theorem qF8 (n:Nat) (w:World) (h:n<18446744073709551616) :
  Calls Tryz.prog 120 #[(Value.agg #[.int .u64 (lo n),.string (bg n)])] w (WordsPost n w):=by
 have hvl:Hid (vl (dg n) 2=n):=qa1 (by rw [qH3];exact h)
 have hw2:=xh9 h
 rw [qb0 h,qc_ h]
 go_enter Tryz.func120,Tryz.ntmps120
 go_wp2_with fail
 have hw:=xm0 (w.alloc (.cells #[.int .u64 ↑n,.string ⟨#[]⟩] 30)) n h
 refine (qw6 _ _ (dg n) _ 2 (by omega) (by omega) (fun i hi=>?_)).mono ?_
 ·have:=hw.cell hi
  simpa using this
 rintro e w1 ⟨rfl,rfl⟩
 rw [xr3 (fun i _=>qd1 n i),hvl.out]
 clear hw
 go_wp2
 go_ret
 refine ⟨_,2,rfl,Nat.le_succ _,hw2,by omega,?_,?_⟩
 ·have:=xm0 (w.alloc (.cells #[.int .u64 ↑n,.string ⟨#[]⟩] 30)) n h
  simpa using this
 exact ((Below.refl _ _).alloc (Nat.le_refl _) _).alloc (by simp) _
theorem xp2 (x y t:Nat) (hx:x<256 ^ t) (hy:y<256) (ht:t<4) :
  bits .or .u32 (x:Int) ((y:Int) % 4294967296*2 ^ (8*t) % 4294967296)=((x+y*256 ^ t:Nat):Int):=by
 have e:(256:Nat) ^ t=2 ^ (8*t):=by rw [Nat.pow_mul]
 have hp:(256:Nat) ^ t≤16777216:=by
  have:(256:Nat) ^ t≤256 ^ 3:=Nat.pow_le_pow_right (by decide) (by omega)
  simpa using this
 have hy2:y*256 ^ t≤255*16777216:=Nat.mul_le_mul (by omega) hp
 have h1:(y:Int) % 4294967296*2 ^ (8*t) % 4294967296=((y*256 ^ t:Nat):Int):=by
  have h2:(y:Int) % 4294967296=(y:Int):=by omega
  rw [h2,e]
  have h3:((2:Int) ^ (8*t))=((2 ^ (8*t):Nat):Int):=by simp
  rw [h3,← Int.natCast_mul,← e]
  omega
 rw [h1,u32_or_nat x (y*256 ^ t) (by omega) (by omega)]
 congr 1
 rw [e] at hx ⊢
 have:=Nat.two_pow_add_eq_or_of_lt hx y
 rw [Nat.or_comm,Nat.mul_comm y,← this,Nat.add_comm]
theorem qV6 (d t:Nat):d % 256 ^ t+d / 256 ^ t % 256*256 ^ t=d % 256 ^ (t+1):=by
 rw [Nat.pow_succ,Nat.mod_mul,Nat.mul_comm (256 ^ t)]
theorem xa3 (n:Nat) (w:World) (h:¬ n<18446744073709551616) (hl:wl n≤1099511627776) :
  Calls Tryz.prog 120 #[(Value.agg #[.int .u64 (lo n),.string (bg n)])] w (WordsPost n w):=by
 have hs:Hid ((bg n).size=4*wl n):=qE7 h
 have hne:(bg n).toList.isEmpty=false:=by simpa using qe7 h
 rw [xk0 h,show ((0:Nat):Int)=0 from rfl]
 obtain ⟨s,HS⟩:∃ s,Hid (bg n=s):=⟨_,Lib.hid rfl⟩
 obtain ⟨k,HK⟩:∃ k,Hid (wl n=k):=⟨_,Lib.hid rfl⟩
 rw [HS.out,HK.out] at hs
 rw [HS.out] at hne
 rw [HS.out]
 rw [HK.out] at hl
 have hsz:s.size≤4398046511104:=by have:=hs.out;omega
 have hq:(s.size:Int) / 4=(k:Int):=by have:=hs.out;omega
 have hmk:=fun W=>run_make_row' (P:=Tryz.prog) 79 22 (.int .u32 0) 4 Tryz.underlying79 qx0 rfl .i64 .i64 k (by omega) (by omega) W
 go_enter Tryz.func120,Tryz.ntmps120
 go_wp2_with fail
 go_loopw [25] (fun i wr=>∃ j:Nat,j≤k∧i=.int .i64 j∧Ws wr (w.heap.size+1) k (fun m=>if m<j then dg n m else 0)∧wr.cell? ⟨w.heap.size,1,none⟩=some (.string s)∧Below w.heap.size w wr) (fun i _=>k - (intOf i).toNat)
 case atStart =>
  refine ⟨0,Nat.zero_le _,rfl,?_,?_,?_⟩
  ·have:=Ws.made (w.alloc (.cells #[.int .u64 0,.string s] 30)) k
   simpa using this
  ·simp [go_sem]
  exact ((Below.refl _ _).alloc (Nat.le_refl _) _).alloc (by simp) _
 case round =>
  obtain ⟨j,hj,rfl,hws,hc,hb⟩:=hrel
  by_cases hjk:j<k
  ·have H1:=Lib.hid hws
   have H2:=Lib.hid hb
   clear hws hb
   have hd4:decide ((0:Int)<4)=true:=rfl
   go_wp2_with fail
   obtain ⟨wo,rfl⟩:∃ wo:World,wo=wr:=⟨_,rfl⟩
   have HC:=Lib.hid hc
   clear hc
   go_loopw [28] (fun i wr=>∃ t:Nat,t≤4∧i=.int .i64 t∧Ws wr (w.heap.size+1) k (fun m=>if m=j then dg n j % 256 ^ t else if m<j then dg n m else 0)∧wr.cell? ⟨w.heap.size,1,none⟩=some (.string s)∧Below w.heap.size w wr) (fun i _=>4 - (intOf i).toNat)
   case atStart =>
    refine ⟨0,Nat.zero_le _,rfl,?_,HC.out,H2.out⟩
    refine H1.out.congr fun m hm=>?_
    by_cases e:m=j
    ·simp [e,Nat.mod_one]
    simp [e]
   case round =>
    obtain ⟨t,ht,rfl,hws,hc,hb⟩:=hrel
    by_cases ht4:t<4
    ·have hlt:4*j+t<s.size:=by have:=hs.out;omega
     have hi0:(0:Int)≤4*(j:Int)+(t:Int):=by omega
     have hi1:4*(j:Int)+(t:Int)<(s.size:Int):=by omega
     have hi2:(4*(j:Int)+(t:Int)).toNat=4*j+t:=by omega
     have hcell:=hws.cell hjk
     have hfr:=hws.frozen j
     simp only [if_true] at hcell
     obtain ⟨x,HX⟩:∃ x,Hid (dg n j % 256 ^ t=x):=⟨_,Lib.hid rfl⟩
     rw [HX.out] at hcell
     have hx1:Hid (x<256 ^ t):=by rw [← HX.out];exact Nat.mod_lt _ (Nat.pow_pos (by decide))
     obtain ⟨y,hy⟩:∃ y,(s[4*j+t]'hlt).toNat=y:=⟨_,rfl⟩
     have HY:Hid (y=dg n j / 256 ^ t % 256):=by
      rw [← hy]
      have:=xB9 (j:=t) h (show j<wl n by rw [HK.out];exact hjk) ht4 (by rw [HS.out];exact hlt)
      rw [← this]
      congr 2
      exact HS.out.symm
     have hor:Hid (bits .or .u32 (x:Int) ((y:Int) % 4294967296*2 ^ (8*t) % 4294967296)=((x+y*256 ^ t:Nat):Int)) :=
      xp2 x y t hx1.out (by rw [HY.out];exact Nat.mod_lt _ (by decide)) ht4
     have hxy:=Lib.hid (show x+y*256 ^ t=dg n j % 256 ^ (t+1) from by rw [HY.out,← HX.out,qV6])
     obtain ⟨z,HZ⟩:∃ z,Hid (x+y*256 ^ t=z):=⟨_,Lib.hid rfl⟩
     rw [HZ.out] at hor hxy
     have hor:=hor.out
     have hx:x<4294967296:=by rw [← HX.out];exact Nat.lt_of_le_of_lt (Nat.mod_le _ _) (qd1 _ _)
     have H3:=Lib.hid hws
     have H4:=Lib.hid hb
     clear hws hb
     go_wp2_with fail
     go_region
     go_wp2
     go_roundw
     case rel =>
      refine ⟨t+1,by omega,by go_num,?_,?_,?_⟩
      ·refine ((H3.out.set j z).drew).congr fun m hm=>?_
       by_cases e:m=j
       ·simp [e,hxy.out]
       simp [e]
      ·simp [go_sem,hc]
      exact (H4.out.setCell (by simp) _).drew
     case measure=>simp [intOf];omega
    obtain rfl:t=4:=by omega
    have H3:=Lib.hid hws
    have H4:=Lib.hid hb
    clear hws hb
    go_wp2
    go_roundw
    case rel =>
     refine ⟨j+1,by omega,by go_num,?_,hc,H4.out⟩
     refine H3.out.congr fun m hm=>?_
     by_cases e:m=j
     ·have:=qd1 n j
      simp [e,Nat.mod_eq_of_lt this]
     have e2:(m<j) ↔ (m<j+1):=by omega
     simp [e,e2]
    case measure=>simp [intOf];omega
  obtain rfl:j=k:=by omega
  have H1:=Lib.hid hws
  have H2:=Lib.hid hb
  clear hws hb
  go_wp2
  go_ret
  refine ⟨_,j,by rw [HK.out];rfl,Nat.le_succ _,by rw [HK.out];exact Nat.le_refl _,by rw [HK.out];omega,H1.out.congr fun i hi=>by rw [if_pos hi],H2.out⟩
end
section
open Go.RowKit
theorem or64 (x y j:Nat) (hx:x<bp j) (hy:y<4294967296) (hj:j<2) :
  bits .or .u64 (x:Int) (IntKind.u64.wrap (IntKind.u64.wrap (y:Int)*2 ^ (32*j)))=((x+y*bp j:Nat):Int):=by
 rw [IntKind.wrap_u64,IntKind.wrap_u64]
 have e:bp j=2 ^ (32*j):=qK7 j
 have hp:bp j≤4294967296:=by
  have:=qC6 (show j≤1 by omega)
  rwa [qv2] at this
 have hy2:y*bp j≤4294967295*4294967296:=Nat.mul_le_mul (by omega) hp
 have h1:(y:Int) % 18446744073709551616*2 ^ (32*j) % 18446744073709551616=((y*bp j:Nat):Int):=by
  have h2:(y:Int) % 18446744073709551616=(y:Int):=by omega
  rw [h2,e]
  have h3:((2:Int) ^ (32*j))=((2 ^ (32*j):Nat):Int):=by simp
  rw [h3,← Int.natCast_mul,← e]
  omega
 rw [h1,u64_or_nat x (y*bp j) (by omega) (by omega)]
 congr 1
 rw [e] at hx ⊢
 have:=Nat.two_pow_add_eq_or_of_lt hx y
 rw [Nat.or_comm,Nat.mul_comm y,← this,Nat.add_comm]
theorem xw3 (b n c:Nat) (f:Nat→Nat) (w:World) (hn:n≤c) (hc:c≤9223372036854775807)
  (hcell:∀ i,i<n→w.cell? ⟨b,i,none⟩=some (.int .u32 ((f i:Nat):Int))) (hb:b<w.heap.size) (hf:∀ i,i<n→f i<4294967296) (hm:tl f n≤2) :
  Calls Tryz.prog 122 #[.slice (some ⟨b,0,none⟩) n c] w fun e w'=>e=.returned (Value.agg #[.int .u64 (lo (vl f n)),.string (bg (vl f n))])∧Below w.heap.size w w':=by
 have hval:Hid (vl f (tl f n)=vl f n):=Lib.hid (xr_ f n)
 have htn:=qO7 f n
 go_enter Tryz.func122,Tryz.ntmps122
 have HC:=Lib.hid hcell
 clear hcell
 go_wp2_with fail
 refine (qw6 b c f _ n hn hc (fun i hi=>?_)).mono ?_
 ·rw [World.cell?_alloc_lt _ _ _ hb]
  exact HC.out i hi
 rintro e w1 ⟨rfl,rfl⟩
 obtain ⟨m,HM⟩:∃ m,Hid (tl f n=m):=⟨_,Lib.hid rfl⟩
 rw [HM.out] at hm hval htn
 rw [HM.out]
 go_wp2_with fail
 go_loop [3,16] (fun x i=>∃ j:Nat,j≤m∧i=.int .i64 j∧x=.int .u64 ((vl f j:Nat):Int)) (fun _ i=>m - (intOf i).toNat)
 case atStart=>exact ⟨0,Nat.zero_le _,rfl,rfl⟩
 case round =>
  obtain ⟨j,hj,rfl,rfl⟩:=hrel
  by_cases hjm:j<m
  ·have h1:=HC.out j (by omega)
   have h2:=or64 (vl f j) (f j) j (vl_lt fun i hi=>hf i (by omega)) (hf j (by omega)) (by omega)
   rw [← qb3] at h2
   go_wp2
   go_round
   case rel=>exact ⟨j+1,by omega,by go_num,rfl⟩
   case measure=>simp [intOf];omega
  obtain rfl:j=m:=by omega
  go_wp2
  have hs:vl f n<18446744073709551616:=by
   have:=vl_lt (f:=f) (n:=j) (fun i hi=>hf i (by omega))
   have:=qC6 hm
   rw [qH3] at this
   rw [← hval.out]
   omega
  rw [qb0 hs,qc_ hs]
  exact bodyPost_ret (v:=.agg #[.int .u64 ((vl f j:Nat):Int),.string ⟨#[]⟩]) (by simp [results,Tryz.results122,go_sem]) rfl ⟨by rw [hval.out],(Below.refl _ _).alloc (Nat.le_refl _) _⟩
theorem xo6:(Tryz.prog.info? 5).map (fun i=>(i.zero,i.size,i.bytes))=some (some (.int .u8 0),1,1):=by kernel_rfl
theorem xf4 {P:Program} (t e:TypeId) (i:TypeInfo) (z:Value) (ht:P.underlying t=some (.slice e)) (hi:P.info? e=some i) (hz:i.zero=some z) (h1:i.size=1) (hzc:z.cells = #[z])
  (kl kc:IntKind) (c:Int) (n:Nat) (hc:c=(n:Int)) (hbytes:i.bytes*n≤281474976710656) (h63:n≤9223372036854775807) (w:World) :
  (Instr.makeSlice t (.int kl 0) (.int kc c)).run P w=.ok (.slice (some ⟨w.heap.size,0,none⟩) 0 n) (w.alloc (.cells (madeCells #[z] n) e)):=by
 subst hc
 have hb:(i.bytes:Int)*(n:Int)≤281474976710656:=by
  have h:((i.bytes*n:Nat):Int)≤281474976710656:=by omega
  rwa [Int.natCast_mul] at h
 have hr:=run_make (P:=P) w t e i z ht hi hz kl kc 0 n (by omega) (by omega) hb (by omega)
 simp only [Int.toNat_natCast,Int.toNat_zero,h1,Nat.mul_one,hzc] at hr
 exact hr
def qh9 (l:List UInt8):List Value:=l.map fun x=>.int .u8 ((x.toNat:Nat):Int)
theorem qK8 (d:Nat) (h:d<4294967296):qh9 (by4 d) = [.int .u8 ((d:Int) % 256),.int .u8 ((d:Int) / 256 % 256),.int .u8 ((d:Int) / 65536 % 256),.int .u8 ((d:Int) / 16777216)]:=by
 have:d / 16777216<256:=by omega
 simp [qh9,by4]
 omega
theorem qw4 (l m:List UInt8):qh9 (l ++ m)=qh9 l ++ qh9 m:=by simp [qh9]
theorem qQ6 {l:List UInt8} {j:Nat} {u:Value} (h:(qh9 l)[j]?=some u):∃ hj:j<l.length,u=.int .u8 ((l[j].toNat:Nat):Int):=by
 have hj:j<l.length:=by
  have:=(List.getElem?_eq_some_iff.1 h).1
  simpa [qh9] using this
 refine ⟨hj,?_⟩
 simp [qh9,List.getElem?_eq_getElem hj] at h
 exact h.symm
theorem xw0 (b n c:Nat) (f:Nat→Nat) (w:World) (hn:n≤c) (hc:c≤9223372036854775807) (hn40:n≤1099511627776)
  (hcell:∀ i,i<n→w.cell? ⟨b,i,none⟩=some (.int .u32 ((f i:Nat):Int))) (hb:b<w.heap.size) (hf:∀ i,i<n→f i<4294967296) (hm:2<tl f n) :
  Calls Tryz.prog 122 #[.slice (some ⟨b,0,none⟩) n c] w fun e w'=>e=.returned (Value.agg #[.int .u64 (lo (vl f n)),.string (bg (vl f n))])∧Below w.heap.size w w':=by
 have hval:Hid (vl f (tl f n)=vl f n):=Lib.hid (xr_ f n)
 have hwl:Hid (tl f n=wl (vl f n)):=Lib.hid (xr3 hf)
 have htn:=qO7 f n
 obtain ⟨i0,hi,hz0,hz1,hz2⟩:=info_parts xo6
 go_enter Tryz.func122,Tryz.ntmps122
 have HC:=Lib.hid hcell
 clear hcell
 go_wp2_with fail
 refine (qw6 b c f _ n hn hc (fun i hi=>?_)).mono ?_
 ·rw [World.cell?_alloc_lt _ _ _ hb]
  exact HC.out i hi
 rintro e w1 ⟨rfl,rfl⟩
 obtain ⟨m,HM⟩:∃ m,Hid (tl f n=m):=⟨_,Lib.hid rfl⟩
 rw [HM.out] at hm hval htn hwl
 rw [HM.out]
 have hmk:=fun W=>xf4 (P:=Tryz.prog) 250 5 i0 _ Tryz.underlying250 hi hz0 hz1 rfl .i64 .i64 (4*(m:Int)) (4*m) (by omega) (by rw [hz2];omega) (by omega) W
 go_wp2_with fail
 have HM2:=Lib.hid hmk
 clear hmk
 obtain ⟨W0,HW⟩:∃ W0,Hid (w.alloc (.cells #[.int .u64 0,.string ⟨#[]⟩] 30)=W0):=⟨_,Lib.hid rfl⟩
 rw [HW.out]
 go_loopw [6,37] (fun v i wr=>∃ j:Nat,j≤m∧i=.int .i64 j∧v=.slice (some ⟨w.heap.size+1,0,none⟩) (4*j) (4*m)∧wr.ownsRow (w.heap.size+1) 5 1 (.slice (some ⟨w.heap.size+1,0,none⟩) (4*j) (4*m)) (4*j) (qh9 (bys f j))∧Below (w.heap.size+1) W0 wr) (fun _ i _=>m - (intOf i).toNat)
 case atStart =>
  refine ⟨0,Nat.zero_le _,rfl,rfl,?_,?_⟩
  ·have:=World.ownsRow_made (base:=w.heap.size+1) (e:=5) (size:=1) W0 (madeCells #[.int .u8 0] (4*m)) (4*m) (by rw [← HW.out];simp) (by unfold maxLen;omega) (by simp [size_madeCells])
   rw [show W0.heap.size=w.heap.size+1 from by rw [← HW.out];simp] at this
   exact this
  exact (Below.refl _ _).alloc (by rw [← HW.out];simp) _
 case round =>
  obtain ⟨j,hj,rfl,rfl,hown,hbel⟩:=hrel
  by_cases hjm:j<m
  ·have hcell:wr.cell? ⟨b,j,none⟩=some (.int .u32 ((f j:Nat):Int)):=by
    rw [hbel.cell (p:=⟨b,j,none⟩) (by simp;omega),← HW.out,World.cell?_alloc_lt _ _ _ hb]
    exact HC.out j (by omega)
   have hfj:=hf j (by omega)
   have H1:=Lib.hid hown
   have H2:=Lib.hid hbel
   clear hown hbel
   have hnews:∀ k u,(qh9 (by4 (f j)))[k]?=some u→(wr.alloc (.cells #[.int .u8 ((f j:Nat) % 256:Int),.int .u8 ((f j:Nat) / 256 % 256:Int),.int .u8 ((f j:Nat) / 65536 % 256:Int),.int .u8 ((f j:Nat) / 16777216:Int)] 5)).cell? ((⟨wr.heap.size,0,none⟩:Addr).add k)=some u:=by
    intro k u hk
    rw [qK8 _ hfj] at hk
    match k,hk with
    | 0,hk=>simpa [Addr.add] using hk
    | 1,hk=>simpa [Addr.add] using hk
    | 2,hk=>simpa [Addr.add] using hk
    | 3,hk=>simpa [Addr.add] using hk
   have HN:=Lib.hid hnews
   clear hnews
   go_wp2_with (at_builtin;refine wpList_append_fits _ rfl (.tmp 41) (.tmp 53) _ rfl (w.heap.size+1) 5 i0 1 Tryz.underlying250 hi hz1 (w.heap.size+1) (4*j) (4*m) (qh9 (bys f j)) rfl (H1.out.alloc _) ⟨wr.heap.size,0,none⟩ 4 4 (qh9 (by4 (f j))) rfl rfl HN.out (fun u hu=>by obtain ⟨k,hk⟩:=List.getElem?_of_mem hu;obtain ⟨_,rfl⟩:=qQ6 hk;rfl) (by omega) ?_;intro w1 hown1 hg1)
   have H3:=Lib.hid hown1
   have H4:=Lib.hid hg1
   clear hown1 hg1
   go_roundw
   case rel =>
    refine ⟨j+1,by omega,by go_num,rfl,?_,?_⟩
    ·rw [bys,qw4]
     exact H3.out
    exact (H2.out.alloc (by have:=H2.out.size;rw [← HW.out] at this;simpa using this) _).grown H4.out (by have:=H2.out.size;rw [← HW.out] at this;simp at this ⊢; omega) (fun k hk=>by simp at hk;omega)
   case measure=>simp [intOf];omega
  obtain rfl:j=m:=by omega
  have hr0:wr.cell? ⟨w.heap.size,0,none⟩=some (.int .u64 0):=by
   rw [hbel.cell (p:=⟨w.heap.size,0,none⟩) (by simp),← HW.out]
   simp [go_sem]
  have hr1:wr.cell? ⟨w.heap.size,1,none⟩=some (.string ⟨#[]⟩):=by
   rw [hbel.cell (p:=⟨w.heap.size,1,none⟩) (by simp),← HW.out]
   simp [go_sem]
  have hf0:wr.frozen? ⟨w.heap.size,0,none⟩=false:=by
   rw [hbel.frozen (p:=⟨w.heap.size,0,none⟩) (by simp),← HW.out]
   simp [go_sem]
  have hf1:wr.frozen? ⟨w.heap.size,1,none⟩=false:=by
   rw [hbel.frozen (p:=⟨w.heap.size,1,none⟩) (by simp),← HW.out]
   simp [go_sem]
  have hcv:=run_convert_bytes_back (P:=Tryz.prog) wr 250 9 5 ⟨w.heap.size+1,0,none⟩ (4*j) (bys f j) Tryz.underlying250 Tryz.underlying5 Tryz.underlying9 (fun k hk=>by
   have:=hown.cells (g:=w.heap.size+1) rfl k
   refine this _ ?_
   simp [qh9,List.getElem?_eq_getElem hk])
  rw [qe5] at hcv
  have H1:=Lib.hid hown
  have H2:=Lib.hid hbel
  clear hown hbel
  go_wp2
  have hs:¬ vl f n<18446744073709551616:=by
   have:=@qo4 (vl f n)
   have:=hwl.out
   omega
  have he:bys (dg (vl f n)) (wl (vl f n))=bys f j:=by
   rw [← hwl.out]
   refine qQ5 fun i hi=>?_
   exact xn0 hf (by omega)
  rw [xk0 hs,qQ0 hs,he]
  exact bodyPost_ret (v:=.agg #[.int .u64 0,.string ⟨(bys f j).toArray⟩]) (by simp [results,Tryz.results122,go_sem,hr0,hr1]) rfl
   ⟨rfl,by
    have h0:Below w.heap.size w W0:=by rw [← HW.out];exact (Below.refl _ _).alloc (Nat.le_refl _) _
    exact ((h0.trans (H2.out.mono (Nat.le_succ _))).setCell (by simp) _).setCell (by simp) _⟩
theorem qq6 (b n c:Nat) (f:Nat→Nat) (w:World) (hn:n≤c) (hc:c≤9223372036854775807) (hn40:n≤1099511627776)
  (hcell:∀ i,i<n→w.cell? ⟨b,i,none⟩=some (.int .u32 ((f i:Nat):Int))) (hb:b<w.heap.size) (hf:∀ i,i<n→f i<4294967296) :
  Calls Tryz.prog 122 #[.slice (some ⟨b,0,none⟩) n c] w fun e w'=>e=.returned (Value.agg #[.int .u64 (lo (vl f n)),.string (bg (vl f n))])∧Below w.heap.size w w':=by
 by_cases hm:tl f n≤2
 ·exact xw3 b n c f w hn hc hcell hb hf hm
 exact xw0 b n c f w hn hc hn40 hcell hb hf (by omega)
theorem qd6 (n:Nat) (w:World) (hl:wl n≤1099511627776):Calls Tryz.prog 120 #[(Value.agg #[.int .u64 (lo n),.string (bg n)])] w (WordsPost n w):=by
 by_cases h:n<18446744073709551616
 ·exact qF8 n w h
 exact xa3 n w h hl
end
section
open Go.RowKit
attribute [local go_sem ↓] Go.wp_at_zero Go.wp_at_succ
def cmpI (x y:Int):Int:=if x<y then -1 else if y<x then 1 else 0
theorem ql3 {x y:Int} (h:x<y):cmpI x y = -1:=if_pos h
theorem qo9 {x y:Int} (h:y<x):cmpI x y=1:=by unfold cmpI;rw [if_neg (by omega),if_pos h]
theorem qw5 {x y:Int} (h:x=y):cmpI x y=0:=by unfold cmpI;rw [if_neg (by omega),if_neg (by omega)]
def CmpPost (x y:Nat) (w:World) (e:Ending) (w':World):Prop:=e=.returned (.int .i64 (cmpI x y))∧Below w.heap.size w w'
theorem qQ9 (x y b c b' c':Nat) (w:World) (hx:wl x≤1099511627776) (hy:wl y≤1099511627776)
  (hcx:∀ i,i<wl x→w.cell? ⟨b,i,none⟩=some (.int .u32 ((dg x i:Nat):Int)))
  (hcy:∀ i,i<wl y→w.cell? ⟨b',i,none⟩=some (.int .u32 ((dg y i:Nat):Int))) :
  Calls Tryz.prog 201 #[.slice (some ⟨b,0,none⟩) (wl x) c,.slice (some ⟨b',0,none⟩) (wl y) c'] w (CmpPost x y w):=by
 obtain ⟨n,HN⟩:∃ n,Hid (wl x=n):=⟨_,Lib.hid rfl⟩
 obtain ⟨m,HM⟩:∃ m,Hid (wl y=m):=⟨_,Lib.hid rfl⟩
 rw [HN.out] at hx hcx ⊢
 rw [HM.out] at hy hcy ⊢
 have HX:=Lib.hid hcx
 have HY:=Lib.hid hcy
 clear hcx hcy
 by_cases hnm:n=m
 ·subst hnm
  have hne:(((n:Nat):Int) != ((n:Nat):Int))=false:=by simp
  go_enter Tryz.func201,Tryz.ntmps201
  go_wp2_with fail
  go_loopw [5] (fun i wr=>∃ j:Nat,j≤n∧i=.int .i64 ((j:Int) - 1)∧(∀ t,j≤t→t<n→dg x t=dg y t)∧∃ q,wr=w.drewN q) (fun i _=>(intOf i+1).toNat)
  case atStart=>exact ⟨n,Nat.le_refl _,rfl,fun t h1 h2=>by omega,0,rfl⟩
  case round =>
   obtain ⟨j,hj,rfl,heq,q,rfl⟩:=hrel
   rcases j with _|j
   ·have hxy:x=y:=by
     rw [← qa1 (qa6 x),← qa1 (qa6 y),HN.out,HM.out]
     exact qd0 fun t ht=>heq t (Nat.zero_le _) ht
    have HE:=Lib.hid hxy
    clear heq hxy
    rw [show (((0:Nat):Int) - 1) = -1 from rfl]
    go_wp2
    go_ret
    exact ⟨by rw [HE.out,qw5 rfl];rfl,qa0 (Below.refl _ _) _⟩
   rw [show (((j+1:Nat):Int) - 1)=(j:Int) from by omega]
   have h1:=HX.out j (by omega)
   have h2:=HY.out j (by omega)
   have HQ:=Lib.hid heq
   clear heq
   have hi0:(0:Int)≤(j:Int):=by omega
   have hi1:(j:Int)<(n:Int):=by omega
   by_cases e:dg x j=dg y j
   ·have e1:(((dg x j:Nat):Int) != ((dg y j:Nat):Int))=false:=by simp [e]
    have HE:=Lib.hid e
    clear e
    go_wp2_with fail
    go_quiet (fail)
    go_wp2
    go_roundw
    case rel=>exact ⟨j,by omega,rfl,fun t h1 h2=>by
     rcases Nat.eq_or_lt_of_le h1 with h|h
     ·exact h ▸ HE.out
     exact HQ.out t h h2,_,rfl⟩
    case measure=>simp [intOf]
   have e1:(((dg x j:Nat):Int) != ((dg y j:Nat):Int))=true:=by rw [bne_iff_ne];omega
   have HE:=Lib.hid e
   clear e
   by_cases l:dg x j<dg y j
   ·have hres:x<y:=by
     rw [← qa1 (qa6 x),← qa1 (qa6 y),HN.out,HM.out]
     exact qZ8 (i:=j) (by omega) (fun _ _=>qd1 _ _) (fun t h1 h2=>HQ.out t h1 h2) l
    have HR:=Lib.hid (show cmpI x y = -1 from ql3 (by omega))
    have l1:decide (((dg x j:Nat):Int)<((dg y j:Nat):Int))=true:=decide_eq_true (by omega)
    clear hres
    go_wp2_with fail
    go_quiet (fail)
    go_wp2_with fail
    go_quiet (fail)
    go_wp2
    go_ret
    exact ⟨by rw [HR.out];rfl,qa0 (qa0 (qa0 (Below.refl _ _) _) _) _⟩
   have hres:y<x:=by
    rw [← qa1 (qa6 x),← qa1 (qa6 y),HN.out,HM.out]
    exact qZ8 (i:=j) (by omega) (fun _ _=>qd1 _ _) (fun t h1 h2=>(HQ.out t h1 h2).symm) (by have:=HE.out;omega)
   have HR:=Lib.hid (show cmpI x y=1 from qo9 (by omega))
   have l1:decide (((dg x j:Nat):Int)<((dg y j:Nat):Int))=false:=decide_eq_false (by omega)
   clear hres
   go_wp2_with fail
   go_quiet (fail)
   go_wp2_with fail
   go_quiet (fail)
   go_wp2
   go_ret
   exact ⟨by rw [HR.out];rfl,qa0 (qa0 (qa0 (Below.refl _ _) _) _) _⟩
 have hne:(((n:Nat):Int) != ((m:Nat):Int))=true:=by rw [bne_iff_ne];omega
 have hres:cmpI x y=max (-1) (min 1 ((n:Int) - (m:Int))):=by
  have h1:=@wl_le x m
  have h2:=qa6 y
  have h3:=@wl_le y n
  have h4:=qa6 x
  rcases Nat.lt_or_ge n m with h|h
  ·have:x<y:=by
    have a:=@qx2 y n
    have b:=@wl_le x n
    have:=HN.out
    have:=HM.out
    omega
   rw [ql3 (by omega)];omega
  have:y<x:=by
   have a:=@qx2 x m
   have b:=@wl_le y m
   have:=HN.out
   have:=HM.out
   omega
  rw [qo9 (by omega)];omega
 have HR:=Lib.hid hres
 clear hres hnm
 go_enter Tryz.func201,Tryz.ntmps201
 go_wp2_with (go_at_call 249;refine (xh7 _ _ (by omega) (by omega)).mono ?_;rintro e w' ⟨rfl,rfl⟩)
 go_ret
 exact ⟨by rw [HR.out];rfl,Below.refl _ _⟩
theorem qQ8 (x y:Nat) (w:World) (hx:x<18446744073709551616) (hy:y<18446744073709551616) :
  Calls Tryz.prog 119 #[(Value.agg #[.int .u64 (lo x),.string (bg x)]),(Value.agg #[.int .u64 (lo y),.string (bg y)])] w (CmpPost x y w):=by
 rw [qb0 hx,qc_ hx,qb0 hy,qc_ hy]
 rcases Nat.lt_trichotomy x y with h|h|h
 ·have HR:=Lib.hid (show cmpI x y = -1 from ql3 (by omega))
  go_enter Tryz.func119,Tryz.ntmps119
  go_wp2
  go_ret
  exact ⟨by rw [HR.out];rfl,((Below.refl _ _).alloc (Nat.le_refl _) _).alloc (by simp) _⟩
 ·have HR:=Lib.hid (show cmpI x y=0 from qw5 (by omega))
  subst h
  go_enter Tryz.func119,Tryz.ntmps119
  go_wp2
  go_ret
  exact ⟨by rw [HR.out];rfl,((Below.refl _ _).alloc (Nat.le_refl _) _).alloc (by simp) _⟩
 have HR:=Lib.hid (show cmpI x y=1 from qo9 (by omega))
 go_enter Tryz.func119,Tryz.ntmps119
 go_wp2
 go_ret
 exact ⟨by rw [HR.out];rfl,((Below.refl _ _).alloc (Nat.le_refl _) _).alloc (by simp) _⟩
theorem xm7 (x y:Nat) (w:World) (hx:wl x≤1099511627776) (hy:wl y≤1099511627776) (h:¬ (x<18446744073709551616∧y<18446744073709551616)) :
  Calls Tryz.prog 119 #[(Value.agg #[.int .u64 (lo x),.string (bg x)]),(Value.agg #[.int .u64 (lo y),.string (bg y)])] w (CmpPost x y w):=by
 obtain ⟨px,hpx⟩:∃ p,(bg x).toList.isEmpty=p:=⟨_,rfl⟩
 obtain ⟨py,hpy⟩:∃ p,(bg y).toList.isEmpty=p:=⟨_,rfl⟩
 have hp:(px && py)=false:=by
  rw [← hpx,← hpy]
  by_cases h1:x<18446744073709551616
  ·by_cases h2:y<18446744073709551616
   ·exact absurd ⟨h1,h2⟩ h
   have:=qe7 h2
   simp [this]
  have:=qe7 h1
  simp [this]
 obtain ⟨W0,HW⟩:∃ W0,Hid ((w.alloc (.cells #[.int .u64 ((lo x:Nat):Int),.string (bg x)] 30)).alloc (.cells #[.int .u64 ((lo y:Nat):Int),.string (bg y)] 30)=W0):=⟨_,Lib.hid rfl⟩
 have hsz:w.heap.size+2=W0.heap.size:=by rw [← HW.out];simp
 have HS:=Lib.hid hsz
 have hza:w.heap.size<W0.heap.size:=by omega
 have hzb:w.heap.size+1<W0.heap.size:=by omega
 have hka:W0.cell? ⟨w.heap.size,0,none⟩=some (.int .u64 ((lo x:Nat):Int)):=by rw [← HW.out];simp [go_sem]
 have hkb:W0.cell? ⟨w.heap.size,1,none⟩=some (.string (bg x)):=by rw [← HW.out];simp [go_sem]
 have hkc:W0.cell? ⟨w.heap.size+1,0,none⟩=some (.int .u64 ((lo y:Nat):Int)):=by rw [← HW.out];simp [go_sem]
 have hkd:W0.cell? ⟨w.heap.size+1,1,none⟩=some (.string (bg y)):=by rw [← HW.out];simp [go_sem]
 have hlaw:=held W0
 clear hsz
 cases px
 all_goals
  go_enter Tryz.func119,Tryz.ntmps119
  go_wp2_with fail
  rw [HW.out]
  go_region_held3 (fun w'=>Below W0.heap.size W0 w') (first|exact (Below.refl _ _).drew|assumption|exact grow (by assumption) (by assumption))
   (first
    | (go_at_call_of 120 (Value.agg #[.int .u64 (lo x),.string (bg x)]);refine (qd6 x _ hx).mono ?_;rintro e w1 ⟨b1,c1,rfl,hb1,hc1,hd1,hws1,hbl1⟩)
    | (go_at_call_of 120 (Value.agg #[.int .u64 (lo y),.string (bg y)]);refine (qd6 y _ hy).mono ?_;rintro e w2 ⟨b2,c2,rfl,hb2,hc2,hd2,hws2,hbl2⟩)
    | (go_at_call 201;refine (qQ9 x y b1 c1 b2 c2 _ hx hy (fun i hi=>(hbl2.cell (p:=⟨b1,i,none⟩) hws1.lt).trans (hws1.cell (Nat.lt_of_lt_of_le hi hc1))) (fun i hi=>hws2.cell (Nat.lt_of_lt_of_le hi hc2))).mono ?_;rintro e w3 ⟨rfl,hbl3⟩))
  go_wp2
  go_ret
  refine ⟨rfl,?_⟩
  have h0:Below w.heap.size w W0:=by rw [← HW.out];exact ((Below.refl _ _).alloc (Nat.le_refl _) _).alloc (by simp) _
  exact grow h0 (by assumption)
theorem qo_ (x y:Nat) (w:World) (hx:wl x≤1099511627776) (hy:wl y≤1099511627776) :
  Calls Tryz.prog 119 #[(Value.agg #[.int .u64 (lo x),.string (bg x)]),(Value.agg #[.int .u64 (lo y),.string (bg y)])] w (CmpPost x y w):=by
 by_cases h:x<18446744073709551616∧y<18446744073709551616
 ·exact qQ8 x y w h.1 h.2
 exact xm7 x y w hx hy h
end
end Go.Proofs.YtobojnodohjiaaaGreatDoor
