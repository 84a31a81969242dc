/- A pack of texts: Bits, Add, Sub, Mul. No condition but those stated. -/
import Derived.Test.YtobojnodohjiaaaGreatDoorPA
import Derived.BigQuiet
import Derived.Lib.Mul64
import Derived.Lib.BitFns
import Derived.Lib.Walk
import Derived.Lib.Small
import Derived.Laws.Bits64b
import Derived.Laws.Externs
set_option maxRecDepth 100000
set_option maxHeartbeats 16000000
set_option linter.unusedVariables false
set_option linter.unusedSimpArgs false
namespace Go.Proofs.YtobojnodohjiaaaGreatDoor
section
open Go.RowKit
theorem qt1 (a b c:Int) (w:World) (ha0:0≤a) (ha:a<4294967296) (hb0:0≤b) (hb:b<4294967296) (hc0:0≤c) (hc:c≤1) :
  Calls Tryz.prog 199 #[.int .u32 a,.int .u32 b,.int .u32 c] w fun e w'=>e=.returned (.tuple #[.int .u32 ((a+b+c) % 4294967296),.int .u32 ((a+b+c) / 4294967296)])∧w=w':=by
 go_enter Tryz.func199,Tryz.ntmps199
 go_wp2
 go_ret2
 have h1:(a+b+c) / 4294967296 % 4294967296=(a+b+c) / 4294967296:=by omega
 first
  | exact ⟨rfl,rfl⟩
  | (rw [h1];exact ⟨rfl,rfl⟩)
theorem xr5 (t:Nat) (h:t<4294967296):t / 2147483648=(t.testBit 31).toNat:=by
 rw [Nat.testBit_eq_decide_div_mod_eq]
 have:(2:Nat)^31=2147483648:=by decide
 rw [this]
 by_cases e:t / 2147483648 % 2=1
 ·rw [decide_eq_true e];simp;omega
 rw [decide_eq_false e];simp;omega
def bor (a b c:Nat):Nat:=if a<b+c then 1 else 0
def sb (a b c:Nat):Nat:=(a+4294967296 - b - c) % 4294967296
theorem tb (t:Nat) (h:t<4294967296):t.testBit 31=decide (2147483648≤t):=by
 rw [Nat.testBit_eq_decide_div_mod_eq]
 have:(2:Nat)^31=2147483648:=by decide
 rw [this]
 rw [decide_eq_decide]
 omega
theorem qK6 (a b c:Nat) (ha:a<4294967296) (hb:b<4294967296) (hc:c≤1) :
  (((4294967295 ^^^ a) &&& b) ||| ((4294967295 ^^^ (a ^^^ b)) &&& sb a b c)) / 2147483648=bor a b c:=by
 have hd:sb a b c<4294967296:=Nat.mod_lt _ (by decide)
 have p:(4294967296:Nat)=2 ^ 32:=by decide
 have h1:4294967295 ^^^ a<4294967296:=by rw [p];exact Nat.xor_lt_two_pow (by decide) (by omega)
 have h2:a ^^^ b<4294967296:=by rw [p];exact Nat.xor_lt_two_pow (by omega) (by omega)
 have h3:4294967295 ^^^ (a ^^^ b)<4294967296:=by rw [p];exact Nat.xor_lt_two_pow (by decide) (by omega)
 have h4:(4294967295 ^^^ a) &&& b<4294967296:=Nat.lt_of_le_of_lt Nat.and_le_right hb
 have h5:(4294967295 ^^^ (a ^^^ b)) &&& sb a b c<4294967296:=Nat.lt_of_le_of_lt Nat.and_le_right hd
 have h6:(((4294967295 ^^^ a) &&& b) ||| ((4294967295 ^^^ (a ^^^ b)) &&& sb a b c))<4294967296:=by rw [p];exact Nat.or_lt_two_pow (by omega) (by omega)
 rw [xr5 _ h6]
 have hm:(4294967295:Nat).testBit 31=true:=by decide
 simp only [Nat.testBit_or,Nat.testBit_and,Nat.testBit_xor,hm,tb a ha,tb b hb,tb _ hd]
 unfold bor
 have e:sb a b c=(a+4294967296 - b - c) % 4294967296:=rfl
 by_cases x:2147483648≤a <;> by_cases y:2147483648≤b <;> by_cases z:2147483648≤sb a b c <;> simp [x,y,z] <;> omega
theorem qK5 (a b c:Nat) (ha:a<4294967296) (hb:b<4294967296) (hc:c≤1) :
  bits .or .u32 (bits .and .u32 (bits .xor .u32 IntKind.u32.max (a:Int)) (b:Int)) (bits .and .u32 (bits .xor .u32 IntKind.u32.max (bits .xor .u32 (a:Int) (b:Int))) (((a:Int) - (b:Int) - (c:Int)) % 4294967296)) / 2147483648=((bor a b c:Nat):Int):=by
 have hd:sb a b c<4294967296:=Nat.mod_lt _ (by decide)
 have p:(4294967296:Nat)=2 ^ 32:=by decide
 have h1:4294967295 ^^^ a<4294967296:=by rw [p];exact Nat.xor_lt_two_pow (by decide) (by omega)
 have h2:a ^^^ b<4294967296:=by rw [p];exact Nat.xor_lt_two_pow (by omega) (by omega)
 have h3:4294967295 ^^^ (a ^^^ b)<4294967296:=by rw [p];exact Nat.xor_lt_two_pow (by decide) (by omega)
 have h4:(4294967295 ^^^ a) &&& b<4294967296:=Nat.lt_of_le_of_lt Nat.and_le_right hb
 have h5:(4294967295 ^^^ (a ^^^ b)) &&& sb a b c<4294967296:=Nat.lt_of_le_of_lt Nat.and_le_right hd
 have e:((a:Int) - (b:Int) - (c:Int)) % 4294967296=((sb a b c:Nat):Int):=by unfold sb;omega
 have m:IntKind.u32.max=((4294967295:Nat):Int):=rfl
 rw [e,m,u32_xor_nat 4294967295 a (by decide) ha,u32_and_nat _ b h1 hb,u32_xor_nat a b ha hb,u32_xor_nat 4294967295 _ (by decide) h2,u32_and_nat _ _ h3 hd,u32_or_nat _ _ h4 h5]
 rw [← qK6 a b c ha hb hc]
 omega
theorem qn7 (a b c:Nat) (w:World) (ha:a<4294967296) (hb:b<4294967296) (hc:c≤1) :
  Calls Tryz.prog 238 #[.int .u32 a,.int .u32 b,.int .u32 c] w fun e w'=>e=.returned (.tuple #[.int .u32 ((sb a b c:Nat):Int),.int .u32 ((bor a b c:Nat):Int)])∧w=w':=by
 have HB:=Lib.hid (qK5 a b c ha hb hc)
 have e:((a:Int) - (b:Int) - (c:Int)) % 4294967296=((sb a b c:Nat):Int):=by unfold sb;omega
 have HE:=Lib.hid e
 clear e
 go_enter Tryz.func238,Tryz.ntmps238
 go_wp2
 go_ret2
 refine ⟨?_,rfl⟩
 rw [← HB.out,← HE.out]
 rfl
theorem qR4 (h l y:Nat) (w:World) (hh:h<y) (hl:l<4294967296) (hy:y<4294967296) :
  Calls Tryz.prog 203 #[.int .u32 h,.int .u32 l,.int .u32 y] w fun e w'=>e=.returned (.tuple #[.int .u32 (((h*4294967296+l) / y:Nat):Int),.int .u32 (((h*4294967296+l) % y:Nat):Int)])∧∃ n,w'=w.drewN n:=by
 have h1:(((y:Nat):Int) != 0)=true:=by rw [bne_iff_ne];omega
 have h2:decide (((y:Nat):Int)≤((h:Nat):Int))=false:=decide_eq_false (by omega)
 have h3:(((y:Nat):Int) == 0)=false:=beq_eq_false_iff_ne.2 (by omega)
 have hor:bits .or .u64 ((h:Int)*4294967296) (l:Int)=((h*4294967296+l:Nat):Int):=by
  have e:(h:Int)*4294967296=((h*4294967296:Nat):Int):=by omega
  rw [e,u64_or_nat _ _ (by omega) (by omega)]
  congr 1
  have:=Nat.two_pow_add_eq_or_of_lt (i:=32) (b:=l) (by simpa using hl) h
  rw [Nat.mul_comm h]
  exact this.symm
 obtain ⟨t,HT⟩:∃ t,Hid (h*4294967296+l=t):=⟨_,Lib.hid rfl⟩
 have ht:t<18446744073709551616:=by rw [← HT.out];omega
 have hq:t / y<4294967296:=by
  rw [← HT.out]
  refine Nat.div_lt_of_lt_mul ?_
  have:(h+1)*4294967296≤y*4294967296:=Nat.mul_le_mul_right _ hh
  omega
 have hr:t % y<4294967296:=Nat.lt_trans (Nat.mod_lt _ (by omega)) hy
 have hy1:(1:Int)≤(y:Int):=by omega
 rw [HT.out] at hor ⊢
 have hq1:(t:Int) / (y:Int) % 4294967296=((t / y:Nat):Int):=by
  rw [← Int.natCast_ediv];generalize t / y=q at *; omega
 have hr1:(t:Int) % (y:Int) % 4294967296=((t % y:Nat):Int):=by
  rw [← Int.natCast_emod];generalize t % y=q at *; omega
 have HQ:=Lib.hid hq1
 have HR:=Lib.hid hr1
 have H4:=Lib.hid hq
 have H5:=Lib.hid hr
 clear hq1 hr1 hq hr
 go_enter Tryz.func203,Tryz.ntmps203
 go_wp2_with fail
 go_quiet (fail)
 go_wp2
 go_ret2
 refine ⟨?_,nq,rfl⟩
 have e1:IntKind.u64.wrap ((t:Int) / (y:Int)) % 4294967296=((t / y:Nat):Int):=by
  rw [IntKind.wrap_u64,← Int.natCast_ediv]
  have:=H4.out
  generalize t / y=q at *
  omega
 rw [← HR.out,← e1]
 rfl
theorem qz8 (x:Int) (w:World) (h0:0≤x) (h1:x≤4294967295) :
  Calls Tryz.prog 250 #[.int .u32 x] w fun e w'=>e=.returned (.int .i64 (Lib.bitLen x.toNat))∧w=w':=by
 have HP:∀ y:Int,0≤y→y≤255→Lib.bitLen y.toNat≤8∧Lib.len8 y=(Lib.bitLen y.toNat:Int):=fun y a b=>⟨Lib.bitLen_le8' y a b,Lib.len8_of y a b⟩
 rcases (show x≤255∨(256≤x∧x≤65535)∨(65536≤x∧x≤16777215)∨16777216≤x from by omega) with h|⟨h,h'⟩|⟨h,h'⟩|h
 ·obtain ⟨a,b⟩:=HP x h0 h
  obtain ⟨c,HC⟩:∃ c,Hid (Lib.bitLen x.toNat=c):=⟨_,Lib.hid rfl⟩
  rw [HC.out] at a b ⊢
  clear HP
  go_enter Tryz.func250,Tryz.ntmps250
  go_wp2
  go_ret
  exact ⟨congrArg (fun z:Int=>Ending.returned (.int .i64 z)) (by omega),rfl⟩
 ·have e:Lib.bitLen x.toNat=8+Lib.bitLen (x / 256).toNat:=by
   rw [Lib.bitLen_shift8 x.toNat (by omega) (by omega)]
   congr 2
   omega
  have k0:0≤x / 256:=by omega
  have k1:x / 256≤255:=by omega
  obtain ⟨a,b⟩:=HP (x / 256) k0 k1
  rw [e]
  obtain ⟨c,HC⟩:∃ c,Hid (Lib.bitLen (x / 256).toNat=c):=⟨_,Lib.hid rfl⟩
  rw [HC.out] at a b ⊢
  clear HP e
  go_enter Tryz.func250,Tryz.ntmps250
  go_wp2
  go_ret
  exact ⟨congrArg (fun z:Int=>Ending.returned (.int .i64 z)) (by omega),rfl⟩
 ·have e:Lib.bitLen x.toNat=16+Lib.bitLen (x / 65536).toNat:=by
   rw [Lib.bitLen_shift16 x.toNat (by omega) (by omega)]
   congr 2
   omega
  have k0:0≤x / 65536:=by omega
  have k1:x / 65536≤255:=by omega
  obtain ⟨a,b⟩:=HP (x / 65536) k0 k1
  rw [e]
  obtain ⟨c,HC⟩:∃ c,Hid (Lib.bitLen (x / 65536).toNat=c):=⟨_,Lib.hid rfl⟩
  rw [HC.out] at a b ⊢
  clear HP e
  go_enter Tryz.func250,Tryz.ntmps250
  go_wp2
  go_ret
  exact ⟨congrArg (fun z:Int=>Ending.returned (.int .i64 z)) (by omega),rfl⟩
 have e:Lib.bitLen x.toNat=24+Lib.bitLen (x / 16777216).toNat:=by
  rw [Lib.bitLen_shift24 x.toNat (by omega) (by omega)]
  congr 2
  omega
 have k0:0≤x / 16777216:=by omega
 have k1:x / 16777216≤255:=by omega
 obtain ⟨a,b⟩:=HP (x / 16777216) k0 k1
 have k2:x / 65536 / 256=x / 16777216:=by omega
 rw [e]
 obtain ⟨c,HC⟩:∃ c,Hid (Lib.bitLen (x / 16777216).toNat=c):=⟨_,Lib.hid rfl⟩
 rw [HC.out] at a b ⊢
 clear HP e
 go_enter Tryz.func250,Tryz.ntmps250
 go_wp2
 go_ret
 exact ⟨congrArg (fun z:Int=>Ending.returned (.int .i64 z)) (by omega),rfl⟩
theorem xf3 (x:Int) (w:World) (h0:0≤x) (h1:x≤4294967295) :
  Calls Tryz.prog 204 #[.int .u32 x] w fun e w'=>e=.returned (.int .i64 (32 - (Lib.bitLen x.toNat:Int)))∧w=w':=by
 have hl:Lib.bitLen x.toNat≤32:=Lib.bitLen_le _ 32 (by decide) (by omega)
 go_enter Tryz.func204,Tryz.ntmps204
 go_wp2_with (go_at_call 250;refine (qz8 x _ h0 h1).mono ?_;rintro e w' ⟨rfl,rfl⟩)
 go_ret
 exact ⟨rfl,rfl⟩
theorem qv1 (x y:Nat) (w:World) :
  (callFunc 198 #[.int .u64 (x:Int),.int .u64 (y:Int),.int .u64 0]).run Tryz.prog w =
   .ok (.value (.tuple #[.int .u64 (((x+y) % 18446744073709551616:Nat):Int),.int .u64 (((x+y) / 18446744073709551616:Nat):Int)])) w:=by
 rw [run_callFunc_extern Tryz.func198 (by kernel_rfl) (by kernel_rfl) (by kernel_rfl) (e:=add64Entry) (by kernel_rfl),run_add64 x y 0 (by omega) (by omega) (by omega) (by omega)]
 simp only [Result.andThen]
 congr 5 <;> omega
theorem xo8 (a:Nat) (ha:a<18446744073709551616):bits .and .u64 (a:Int) 4294967295=((a % 4294967296:Nat):Int):=by
 have h:=bits_and_u64_nat a 4294967295 ha (by omega)
 have e:a &&& 4294967295=a % 4294967296:=Nat.and_two_pow_sub_one_eq_mod a 32
 rw [e] at h
 exact h
theorem divN (a:Nat):(a:Int) / 4294967296=((a / 4294967296:Nat):Int):=by omega
theorem mulN (a b:Nat):(a:Int)*(b:Int)=((a*b:Nat):Int):=(Int.natCast_mul a b).symm
theorem addN (a b:Nat):(a:Int)+(b:Int)=((a+b:Nat):Int):=(Int.natCast_add a b).symm
theorem qB8 (a:Nat) (ha:a<18446744073709551616):IntKind.u64.wrap (a:Int)=(a:Int):=by rw [IntKind.wrap_u64];omega
theorem xE5 (a:Nat):IntKind.u64.wrap (a:Int)=((a % 18446744073709551616:Nat):Int):=by rw [IntKind.wrap_u64];omega
theorem qV0 (x y:Nat) (hx:x<18446744073709551616) (hy:y<18446744073709551616) (w:World) :
  Calls Tryz.prog 200 #[.int .u64 x,.int .u64 y] w fun e w'=>e=.returned (.tuple #[.int .u64 ((x*y / 18446744073709551616:Nat):Int),.int .u64 ((x*y % 18446744073709551616:Nat):Int)])∧w=w':=by
 obtain ⟨bd,bt,bw,hhi⟩:=Lib.mul64_hi x y hx hy
 have ba:=Lib.half_mul_le (a:=x / 4294967296) (b:=y / 4294967296) (by omega) (by omega)
 have bb:=Lib.half_mul_le (a:=x / 4294967296) (b:=y % 4294967296) (by omega) (by omega)
 have bc:=Lib.half_mul_le (a:=x % 4294967296) (b:=y / 4294967296) (by omega) (by omega)
 have ba':x / 4294967296*(y / 4294967296)<18446744073709551616:=by omega
 have bb':x / 4294967296*(y % 4294967296)<18446744073709551616:=by omega
 have bc':x % 4294967296*(y / 4294967296)<18446744073709551616:=by omega
 have bh1:x / 4294967296*(y / 4294967296)+(x / 4294967296*(y % 4294967296)+x % 4294967296*(y % 4294967296) / 4294967296) / 4294967296<18446744073709551616:=by omega
 have bh:x / 4294967296*(y / 4294967296)+(x / 4294967296*(y % 4294967296)+x % 4294967296*(y % 4294967296) / 4294967296) / 4294967296+((x / 4294967296*(y % 4294967296)+x % 4294967296*(y % 4294967296) / 4294967296) % 4294967296+x % 4294967296*(y / 4294967296)) / 4294967296<18446744073709551616:=by omega
 go_enter Tryz.func200,Tryz.ntmps200
 go_wp2
 simp only [xo8 x hx,xo8 y hy,divN,mulN,addN,qB8 _ bd,qB8 _ bb',qB8 _ bt,xo8 _ bt,qB8 _ bc',qB8 _ bw,qB8 _ ba',qB8 _ bh1,qB8 _ bh,xE5 (x*y)]
 rw [hhi]
 go_ret2
 exact ⟨rfl,rfl⟩
end
section
open Go.RowKit
attribute [local go_sem ↓] Go.wp_at_zero Go.wp_at_succ
theorem qH1 {A X Y c P d e:Nat} (h:A+c*P=X+Y):A+(d+e+c) % 4294967296*P+(d+e+c) / 4294967296*(4294967296*P)=X+d*P+(Y+e*P):=by
 have h1:(d+e+c) % 4294967296*P+(d+e+c) / 4294967296*(4294967296*P)=(d+e+c)*P:=by
  rw [← Nat.mul_assoc,← Nat.add_mul]
  congr 1
  omega
 have h2:(d+e+c)*P=d*P+e*P+c*P:=by rw [Nat.add_mul,Nat.add_mul]
 omega
def AddRow (p q j cr:Nat) (g:Nat) (wr:World):Prop :=
 ∃ F:Nat→Nat,Ws wr g (wl p+1) F∧(∀ t,t<wl p+1→F t<4294967296)∧(∀ t,j≤t→t<wl p+1→F t=dg p t)∧vl F j+cr*bp j=vl (dg p) j+vl (dg q) j
theorem AddRow.step {p q j cr g:Nat} {wr:World} (h:AddRow p q j cr g wr) :
  AddRow p q (j+1) ((dg p j+dg q j+cr) / 4294967296) g (wr.setCell ⟨g,j,none⟩ (.int .u32 (((dg p j+dg q j+cr) % 4294967296:Nat):Int))):=by
 obtain ⟨F,h1,h2,h3,h4⟩:=h
 refine ⟨_,h1.set j _,fun t ht=>?_,fun t h5 h6=>?_,?_⟩
 ·by_cases e:t=j
  ·simp only [e,if_true];exact Nat.mod_lt _ (by decide)
  simp only [e,if_false];exact h2 t ht
 ·simp only [show ¬ t=j by omega,if_false];exact h3 t (by omega) h6
 rw [qb3,qb3,qb3,qb7,if_pos rfl,qd0 (g:=F) (fun i hi=>by simp [show ¬ i=j by omega])]
 exact qH1 h4
theorem AddRow.done {p q cr g:Nat} {wr:World} (h:AddRow p q (wl p+1) cr g wr) (hq:wl q≤wl p):∃ F:Nat→Nat,Ws wr g (wl p+1) F∧(∀ t,t<wl p+1→F t<4294967296)∧vl F (wl p+1)=p+q:=by
 obtain ⟨F,h1,h2,_,h4⟩:=h
 refine ⟨F,h1,h2,?_⟩
 have a:=qa6 p
 have b:=Nat.lt_of_lt_of_le (qa6 q) (qC6 hq)
 have c:=qb7 (wl p)
 rw [qa1 (by omega),qa1 (by omega)] at h4
 rcases Nat.eq_zero_or_pos cr with e|e
 ·rw [e] at h4;omega
 have:1*bp (wl p+1)≤cr*bp (wl p+1):=Nat.mul_le_mul_right _ e
 omega
def AddCut (x y:Nat) (W0:World) (s7 s8:Value) (wx:World):Prop :=
 ∃ p q b1 c1 b2 c2:Nat,s7=.slice (some ⟨b1,0,none⟩) (wl p) c1∧s8=.slice (some ⟨b2,0,none⟩) (wl q) c2∧p+q=x+y∧wl q≤wl p∧wl p≤max (wl x) (wl y)∧wl p≤c1∧wl q≤c2 ∧
  Ws wx b1 c1 (dg p)∧Ws wx b2 c2 (dg q)∧Below W0.heap.size W0 wx
theorem qb9 (n:Nat):(bg n).toList.isEmpty=decide (n<18446744073709551616):=by
 by_cases h:n<18446744073709551616
 ·rw [qh6 h,decide_eq_true h];rfl
 have:=qe7 h
 rw [decide_eq_false h]
 simpa using this
theorem qP6 (x y:Nat) (w:World) (h:x+y<18446744073709551616) :
  Calls Tryz.prog 109 #[(Value.agg #[.int .u64 (lo x),.string (bg x)]),(Value.agg #[.int .u64 (lo y),.string (bg y)])] w fun e w'=>e=.returned (Value.agg #[.int .u64 (lo (x+y)),.string (bg (x+y))])∧Below w.heap.size w w':=by
 rw [qb0 (show x<18446744073709551616 by omega),qb0 (show y<18446744073709551616 by omega),qb0 h,qc_ (show x<18446744073709551616 by omega),qc_ (show y<18446744073709551616 by omega),qc_ h]
 have ha:=qv1 x y
 have e1:(x+y) / 18446744073709551616=0:=Nat.div_eq_of_lt h
 have e2:(x+y) % 18446744073709551616=x+y:=Nat.mod_eq_of_lt h
 rw [e1,e2] at ha
 clear e1 e2
 go_enter Tryz.func109,Tryz.ntmps109
 go_wp2
 exact bodyPost_ret (v:=.agg #[.int .u64 ((x+y:Nat):Int),.string ⟨#[]⟩]) (by simp [results,Tryz.results109,go_sem]) rfl ⟨rfl,(((Below.refl _ _).alloc (Nat.le_refl _) _).alloc (by simp) _).alloc (by simp;omega) _⟩
theorem xb2 (x y:Nat) (w:World) (hx:wl x≤549755813888) (hy:wl y≤549755813888) (h:¬ x+y<18446744073709551616) :
  Calls Tryz.prog 109 #[(Value.agg #[.int .u64 (lo x),.string (bg x)]),(Value.agg #[.int .u64 (lo y),.string (bg y)])] w fun e w'=>e=.returned (Value.agg #[.int .u64 (lo (x+y)),.string (bg (x+y))])∧Below w.heap.size w w':=by
 obtain ⟨W0,HW⟩:∃ W0,Hid (((w.alloc (.cells #[.int .u64 ((lo x:Nat):Int),.string (bg x)] 30)).alloc (.cells #[.int .u64 ((lo y:Nat):Int),.string (bg y)] 30)).alloc (.cells #[.int .u64 0,.string ⟨#[]⟩] 30)=W0):=⟨_,Lib.hid rfl⟩
 have HS:=Lib.hid (show w.heap.size+3=W0.heap.size by rw [← HW.out];simp)
 have hza:w.heap.size<W0.heap.size:=by rw [← HS.out];omega
 have hzb:w.heap.size+1<W0.heap.size:=by rw [← HS.out];omega
 have hzc:w.heap.size+2<W0.heap.size:=by rw [← HS.out];omega
 have hka:W0.cell? ⟨w.heap.size,0,none⟩=some (.int .u64 ((lo x:Nat):Int)):=by rw [← HW.out];simp [go_sem]
 have hkb:W0.cell? ⟨w.heap.size,1,none⟩=some (.string (bg x)):=by rw [← HW.out];simp [go_sem]
 have hkc:W0.cell? ⟨w.heap.size+1,0,none⟩=some (.int .u64 ((lo y:Nat):Int)):=by rw [← HW.out];simp [go_sem]
 have hkd:W0.cell? ⟨w.heap.size+1,1,none⟩=some (.string (bg y)):=by rw [← HW.out];simp [go_sem]
 have hke:W0.cell? ⟨w.heap.size+1+1,0,none⟩=some (.int .u64 0):=by rw [← HW.out];simp [go_sem]
 have hkf:W0.cell? ⟨w.heap.size+1+1,1,none⟩=some (.string ⟨#[]⟩):=by rw [← HW.out];simp [go_sem]
 have hkg:W0.frozen? ⟨w.heap.size+1+1,0,none⟩=false:=by rw [← HW.out];simp [go_sem]
 have hkh:W0.frozen? ⟨w.heap.size+1+1,1,none⟩=false:=by rw [← HW.out];simp [go_sem]
 have h0:=Lib.hid (show Below w.heap.size w W0 by rw [← HW.out];exact (((Below.refl _ _).alloc (Nat.le_refl _) _).alloc (by simp) _).alloc (by simp;omega) _)
 have hlaw:=held W0
 have ha:=qv1 (lo x) (lo y)
 rcases (show (x<18446744073709551616∧y<18446744073709551616)∨¬ x<18446744073709551616∨(x<18446744073709551616∧¬ y<18446744073709551616) by omega) with ⟨h1,h2⟩|h1|⟨h1,h2⟩
 case' inl =>
  have e1:(lo x+lo y) / 18446744073709551616=1:=by rw [qb0 h1,qb0 h2];omega
  have p1:(bg x).toList.isEmpty=true:=by rw [qb9,decide_eq_true h1]
  have p2:(bg y).toList.isEmpty=true:=by rw [qb9,decide_eq_true h2]
  rw [e1] at ha
  clear e1 h1 h2
  go_enter Tryz.func109,Tryz.ntmps109
  go_wp2_with fail
 case' inr.inl =>
  have p1:(bg x).toList.isEmpty=false:=by rw [qb9,decide_eq_false h1]
  clear h1 ha
  go_enter Tryz.func109,Tryz.ntmps109
  go_wp2_with fail
 case' inr.inr =>
  have p1:(bg x).toList.isEmpty=true:=by rw [qb9,decide_eq_true h1]
  have p2:(bg y).toList.isEmpty=false:=by rw [qb9,decide_eq_false h2]
  clear h1 h2 ha
  go_enter Tryz.func109,Tryz.ntmps109
  go_wp2_with fail
 all_goals
  rw [HW.out]
  go_region_held3 (fun w'=>Below W0.heap.size W0 w') (first|exact (Below.refl _ _).drew|assumption|exact grow (by assumption) (by assumption))
   (first
    | (go_at_call_of 120 (Value.agg #[.int .u64 (lo x),.string (bg x)]);refine (qd6 x _ (by omega)).mono ?_;rintro e w1 ⟨b1,c1,rfl,hb1,hc1,hd1,hws1,hbl1⟩)
    | (go_at_call_of 120 (Value.agg #[.int .u64 (lo y),.string (bg y)]);refine (qd6 y _ (by omega)).mono ?_;rintro e w2 ⟨b2,c2,rfl,hb2,hc2,hd2,hws2,hbl2⟩))
  have HB:Hid (Below W0.heap.size W0 w2):=by assumption
  have H1:=Lib.hid (hws1.below hbl2 hws1.lt)
  have H2:=Lib.hid hws2
  have H3:=Lib.hid hb1
  have H4:=Lib.hid hb2
  clear hws1 hws2 hbl1 hbl2 hb1 hb2 hlaw hd1 hd2
  go_upto_if 41 with fail
  go_cut [7,8] (fun s7 s8 wx=>AddCut x y W0 s7 s8 wx)
  case first =>
   by_cases hlt:wl x<wl y
   ·go_wp2_with fail
    go_meet
    exact ⟨y,x,b2,c2,b1,c1,rfl,rfl,Nat.add_comm _ _,Nat.le_of_lt hlt,Nat.le_max_right _ _,hc2,hc1,H2.out,H1.out,HB.out⟩
   go_wp2_with fail
   go_meet
   exact ⟨x,y,b1,c1,b2,c2,rfl,rfl,rfl,by omega,Nat.le_max_left _ _,hc1,hc2,H1.out,H2.out,HB.out⟩
  case rest =>
   clear hc1 hc2 H1 H2 H3 H4 HB
   obtain ⟨p,q,b1,c1,b2,c2,rfl,rfl,hpq,hqp,hpm,hc1,hc2,H1,H2,H3⟩:=hcut
   have HPQ:=Lib.hid hpq
   have hp40:wl p≤549755813888:=by omega
   clear hpq hpm
   have hmk:=qp4 ((wl p:Int)+1) (wl p+1) (by omega) (by omega)
   have HF:Hid (Ws (wc.alloc (.cells (madeCells #[.int .u32 0] (wl p+1)) 22)) wc.heap.size (wl p+1) fun _=>0):=Ws.made wc _
   have HB:Hid (Below wc.heap.size wc (wc.alloc (.cells (madeCells #[.int .u32 0] (wl p+1)) 22))):=(Below.refl _ _).alloc (Nat.le_refl _) _
   have HX:Hid (∀ i,i<wl p→(wc.alloc (.cells (madeCells #[.int .u32 0] (wl p+1)) 22)).cell? ⟨b1,i,none⟩=some (.int .u32 ((dg p i:Nat):Int))):=fun i hi=>(H1.alloc _).cell (by omega)
   have HY:=Lib.hid H2
   have HZ:=Lib.hid H3
   have hb2:=H2.lt
   clear H1 H2 H3
   go_wp2_with (with_reducible refine xm8 rfl (.tmp 48) (.tmp 49) rfl wc.heap.size (wl p+1) (wl p+1) b1 (wl p) c1 rfl rfl (Nat.le_succ _) (fun _=>0) (dg p) HF.out HX.out wc.heap.size wc HB.out (Nat.le_refl _) ?_;intro w3 H4 H5 hs3;have H4:=Lib.hid H4;have H5:=Lib.hid H5;have HS3:=Lib.hid hs3;clear hs3)
   have HR0:Hid (AddRow p q 0 0 wc.heap.size w3):=⟨_,H4.out,fun t ht=>by
    by_cases e:t<wl p
    ·simp only [e,if_true];exact qd1 _ _
    ·simp only [e,if_false];decide,fun t _ ht=>by
    by_cases e:t<wl p
    ·simp only [e,if_true]
    simp only [e,if_false];exact (qt2 (qa6 p) (by omega)).symm,rfl⟩
   clear H4 HF HB HX
   go_loopw [10,53] (fun c i wr=>∃ j cr:Nat,j≤wl p+1∧cr≤1∧i=.int .i64 j∧c=.int .u32 cr∧AddRow p q j cr wc.heap.size wr∧Below wc.heap.size wc wr) (fun _ i _=>wl p+1 - (intOf i).toNat)
   case atStart=>exact ⟨0,0,by omega,by omega,rfl,rfl,HR0.out,H5.out⟩
   case round =>
    obtain ⟨j,cr,hj,hcr,rfl,rfl,hrow,hbel⟩:=hrel
    clear HR0 H5 HS3
    by_cases hjp:j<wl p+1
    ·have HH:=Lib.hid hrow
     obtain ⟨F,hF,hF2,hF3,_⟩:=hrow
     have hcell:=hF.cell hjp
     rw [hF3 j (Nat.le_refl _) hjp] at hcell
     have hfr:=hF.frozen j
     have hdp:=qd1 p j
     have hdq:=qd1 q j
     have HBE:=Lib.hid hbel
     have hcy:j<wl q→wr.cell? ⟨b2,j,none⟩=some (.int .u32 ((dg q j:Nat):Int)):=fun h=>by
      rw [hbel.cell (p:=⟨b2,j,none⟩) hb2]
      exact HY.out.cell (by omega)
     have HCY:=Lib.hid hcy
     have e1:((dg p j:Int)+(dg q j:Int)+(cr:Int)) % 4294967296=(((dg p j+dg q j+cr) % 4294967296:Nat):Int):=by omega
     have e2:((dg p j:Int)+(dg q j:Int)+(cr:Int)) / 4294967296=(((dg p j+dg q j+cr) / 4294967296:Nat):Int):=by omega
     have E1:=Lib.hid e1
     have E2:=Lib.hid e2
     clear hcy hbel hF hF2 hF3 e1 e2
     by_cases hjq:j<wl q
     ·have hc2:=HCY.out hjq
      go_wp2_with (go_at_call 199;refine (qt1 _ _ _ _ (by omega) (by omega) (by omega) (by omega) (by omega) (by omega)).mono ?_;rintro e w' ⟨rfl,rfl⟩)
      go_roundw
      case rel =>
       refine ⟨j+1,(dg p j+dg q j+cr) / 4294967296,by omega,by omega,by go_num,by rw [E2.out],?_,?_⟩
       ·rw [E1.out]
        exact HH.out.step
       exact HBE.out.setCell (Nat.le_refl _) _
      case measure=>simp [intOf];omega
     have hz:dg q j=0:=qt2 (qa6 q) (by omega)
     have HZ2:=Lib.hid hz
     clear hz
     go_wp2_with (go_at_call 199;refine (qt1 _ _ _ _ (by omega) (by omega) (by omega) (by omega) (by omega) (by omega)).mono ?_;rintro e w' ⟨rfl,rfl⟩)
     go_roundw
     case rel =>
      have e4:((dg p j:Int)+(cr:Int)) / 4294967296=(((dg p j+dg q j+cr) / 4294967296:Nat):Int):=by rw [HZ2.out];omega
      have e5:((dg p j:Int)+(cr:Int)) % 4294967296=(((dg p j+dg q j+cr) % 4294967296:Nat):Int):=by rw [HZ2.out];omega
      refine ⟨j+1,(dg p j+dg q j+cr) / 4294967296,by omega,by omega,by go_num,by rw [e4],?_,?_⟩
      ·rw [e5]
       exact HH.out.step
      exact HBE.out.setCell (Nat.le_refl _) _
     case measure=>simp [intOf];omega
    obtain rfl:j=wl p+1:=by omega
    obtain ⟨F,hF,hF2,hF3⟩:=hrow.done hqp
    have HF:=Lib.hid hF
    have HF2:=Lib.hid hF2
    have HF3:=Lib.hid hF3
    have HBE:=Lib.hid hbel
    clear hF hF2 hF3 hrow hbel
    go_wp2_with fail
    refine (qq6 wc.heap.size (wl p+1) (wl p+1) F _ (Nat.le_refl _) (by omega) (by omega) (fun i hi=>HF.out.cell hi) HF.out.lt HF2.out).mono ?_
    rintro e w5 ⟨rfl,hb5⟩
    rw [HF3.out,HPQ.out]
    have hall:Below W0.heap.size W0 w5:=grow (grow HZ.out HBE.out) hb5
    have hr0:=(hall.cell (p:=⟨w.heap.size+1+1,0,none⟩) hzc).trans hke
    have hr1:=(hall.cell (p:=⟨w.heap.size+1+1,1,none⟩) hzc).trans hkf
    have hf0:=(hall.frozen (p:=⟨w.heap.size+1+1,0,none⟩) hzc).trans hkg
    have hf1:=(hall.frozen (p:=⟨w.heap.size+1+1,1,none⟩) hzc).trans hkh
    have HA:=Lib.hid hall
    clear hall hb5
    go_wp2
    exact bodyPost_ret (v:=(Value.agg #[.int .u64 (lo (x+y)),.string (bg (x+y))])) (by simp [results,Tryz.results109,go_sem,hr0,hr1]) rfl
     ⟨rfl,((grow h0.out HA.out).setCell (by show w.heap.size≤w.heap.size+1+1;omega) _).setCell (by show w.heap.size≤w.heap.size+1+1;omega) _⟩
theorem qC1 (x y:Nat) (w:World) (hx:wl x≤549755813888) (hy:wl y≤549755813888) :
  Calls Tryz.prog 109 #[(Value.agg #[.int .u64 (lo x),.string (bg x)]),(Value.agg #[.int .u64 (lo y),.string (bg y)])] w fun e w'=>e=.returned (Value.agg #[.int .u64 (lo (x+y)),.string (bg (x+y))])∧Below w.heap.size w w':=by
 by_cases h:x+y<18446744073709551616
 ·exact qP6 x y w h
 exact xb2 x y w hx hy h
end
section
open Go.RowKit
attribute [local go_sem ↓] Go.wp_at_zero Go.wp_at_succ
theorem qb_ (W0:World):∀ w':World,Below W0.heap.size W0 w'→∀ b o,b<W0.heap.size→w'.frozen? ⟨b,o,none⟩=W0.frozen? ⟨b,o,none⟩:=fun _ h b o hb=>h.frozen (p:=⟨b,o,none⟩) hb
theorem xq6 (d e c:Nat):sb d e c<4294967296:=Nat.mod_lt _ (by decide)
theorem qH2 (d e c:Nat):bor d e c≤1:=by unfold bor;split <;> omega
theorem qX9 {d e c:Nat} (hd:d<4294967296) (he:e<4294967296) (hc:c≤1):sb d e c+e+c=d+4294967296*bor d e c:=by
 unfold sb bor
 split <;> omega
theorem xh_ {A X Y c P d e:Nat} (hd:d<4294967296) (he:e<4294967296) (hc:c≤1) (h:A+Y=X+c*P) :
  A+sb d e c*P+(Y+e*P)=X+d*P+bor d e c*(4294967296*P):=by
 have h1:=qX9 hd he hc
 have h2:(sb d e c+e+c)*P=(d+4294967296*bor d e c)*P:=by rw [h1]
 rw [Nat.add_mul,Nat.add_mul,Nat.add_mul,Nat.mul_comm 4294967296,Nat.mul_assoc] at h2
 omega
def SubRow (x y j ln b c:Nat) (wr:World):Prop :=
 ∃ F:Nat→Nat,Ws wr b c F∧(∀ t,t<wl x→F t<4294967296)∧(∀ t,j≤t→t<wl x→F t=dg x t)∧vl F j+vl (dg y) j=vl (dg x) j+ln*bp j
theorem SubRow.step {x y j ln b c:Nat} {wr:World} (h:SubRow x y j ln b c wr) (hl:ln≤1) :
  SubRow x y (j+1) (bor (dg x j) (dg y j) ln) b c (wr.setCell ⟨b,j,none⟩ (.int .u32 ((sb (dg x j) (dg y j) ln:Nat):Int))):=by
 obtain ⟨F,h1,h2,h3,h4⟩:=h
 refine ⟨_,h1.set j _,fun t ht=>?_,fun t h5 h6=>?_,?_⟩
 ·by_cases e:t=j
  ·simp only [e,if_true];exact xq6 _ _ _
  simp only [e,if_false];exact h2 t ht
 ·simp only [show ¬ t=j by omega,if_false];exact h3 t (by omega) h6
 rw [qb3,qb3,qb3,qb7,if_pos rfl,qd0 (g:=F) (fun i hi=>by simp [show ¬ i=j by omega])]
 exact xh_ (qd1 _ _) (qd1 _ _) hl h4
theorem SubRow.done {x y ln b c:Nat} {wr:World} (h:SubRow x y (wl x) ln b c wr) (hxy:y≤x):∃ F:Nat→Nat,Ws wr b c F∧(∀ t,t<wl x→F t<4294967296)∧vl F (wl x)=x - y:=by
 obtain ⟨F,h1,h2,_,h4⟩:=h
 refine ⟨F,h1,h2,?_⟩
 have a:=qa6 x
 have d:=vl_lt h2
 rw [qa1 (by omega),qa1 (by omega)] at h4
 rcases Nat.eq_zero_or_pos ln with e|e
 ·rw [e] at h4;omega
 have:1*bp (wl x)≤ln*bp (wl x):=Nat.mul_le_mul_right _ e
 omega
theorem qO5 (a c:Nat) (w:World) (ha:a<4294967296) (hc:c≤1) :
  Calls Tryz.prog 238 #[.int .u32 a,.int .u32 0,.int .u32 c] w fun e w'=>e=.returned (.tuple #[.int .u32 ((sb a 0 c:Nat):Int),.int .u32 ((bor a 0 c:Nat):Int)])∧w=w':=qn7 a 0 c w ha (by decide) hc
theorem qy2 (x y:Nat) (w:World) (hx:wl x≤1099511627776) (hy:wl y≤1099511627776) :
  Calls Tryz.prog 165 #[(Value.agg #[.int .u64 (lo x),.string (bg x)]),(Value.agg #[.int .u64 (lo y),.string (bg y)])] w fun e w'=>e=.returned (.tuple #[(Value.agg #[.int .u64 (lo (x - y)),.string (bg (x - y))]),.bool (decide (y≤x))])∧Below w.heap.size w w':=by
 obtain ⟨W0,HW⟩:∃ W0,Hid (((w.alloc (.cells #[.int .u64 ((lo x:Nat):Int),.string (bg x)] 30)).alloc (.cells #[.int .u64 ((lo y:Nat):Int),.string (bg y)] 30)).alloc (.cells #[.int .u64 0,.string ⟨#[]⟩] 30)=W0):=⟨_,Lib.hid rfl⟩
 have HS:=Lib.hid (show w.heap.size+3=W0.heap.size by rw [← HW.out];simp)
 have hza:w.heap.size<W0.heap.size:=by rw [← HS.out];omega
 have hzb:w.heap.size+1<W0.heap.size:=by rw [← HS.out];omega
 have hzc:w.heap.size+1+1<W0.heap.size:=by rw [← HS.out];omega
 have hka:W0.cell? ⟨w.heap.size,0,none⟩=some (.int .u64 ((lo x:Nat):Int)):=by rw [← HW.out];simp [go_sem]
 have hkb:W0.cell? ⟨w.heap.size,1,none⟩=some (.string (bg x)):=by rw [← HW.out];simp [go_sem]
 have hkc:W0.cell? ⟨w.heap.size+1,0,none⟩=some (.int .u64 ((lo y:Nat):Int)):=by rw [← HW.out];simp [go_sem]
 have hkd:W0.cell? ⟨w.heap.size+1,1,none⟩=some (.string (bg y)):=by rw [← HW.out];simp [go_sem]
 have hke:W0.cell? ⟨w.heap.size+1+1,0,none⟩=some (.int .u64 0):=by rw [← HW.out];simp [go_sem]
 have hkf:W0.cell? ⟨w.heap.size+1+1,1,none⟩=some (.string ⟨#[]⟩):=by rw [← HW.out];simp [go_sem]
 have hkg:W0.frozen? ⟨w.heap.size+1+1,0,none⟩=false:=by rw [← HW.out];simp [go_sem]
 have hkh:W0.frozen? ⟨w.heap.size+1+1,1,none⟩=false:=by rw [← HW.out];simp [go_sem]
 have h0:=Lib.hid (show Below w.heap.size w W0 by rw [← HW.out];exact (((Below.refl _ _).alloc (Nat.le_refl _) _).alloc (by simp) _).alloc (by simp;omega) _)
 by_cases hxy:y≤x
 ·rw [decide_eq_true hxy]
  have hcm:decide (cmpI (x:Int) (y:Int)<0)=false:=decide_eq_false (by unfold cmpI;split <;> omega)
  have HXY:=Lib.hid hxy
  clear hxy
  by_cases hs:x<18446744073709551616
  ·have p1:(bg x).toList.isEmpty=true:=by rw [qb9,decide_eq_true hs]
   have e1:((lo x:Nat):Int) - ((lo y:Nat):Int)=((x - y:Nat):Int):=by rw [qb0 hs,qb0 (by have:=HXY.out;omega)];have:=HXY.out;omega
   have e2:((x - y:Nat):Int)<18446744073709551616:=by omega
   have HSM:=Lib.hid hs
   clear hs
   rw [qb0 (show x - y<18446744073709551616 by omega),qc_ (show x - y<18446744073709551616 by omega)]
   obtain ⟨z,hz⟩:∃ z,x - y=z:=⟨_,rfl⟩
   rw [hz] at e1 e2 ⊢
   clear hz
   have E2:IntKind.u64.wrap (z:Int)=(z:Int):=by rw [IntKind.wrap_u64];omega
   go_enter Tryz.func165,Tryz.ntmps165
   go_wp2_with fail
   rw [HW.out]
   refine (qo_ x y W0 hx hy).mono ?_
   rintro e w1 ⟨rfl,hb⟩
   have hl1:=held W0 w1 hb
   have hl2:=qb_ W0 w1 hb
   have HB:=Lib.hid hb
   clear hb
   have hr0:=(hl1 _ 0 hzc).trans hke
   have hr1:=(hl1 _ 1 hzc).trans hkf
   go_wp2
   exact bodyPost_ret (v:=.tuple #[.agg #[.int .u64 (z:Int),.string ⟨#[]⟩],.bool true]) (by simp [results,Tryz.results165,go_sem,hr0,hr1]) rfl
    ⟨rfl,((grow h0.out HB.out).setCell (by show w.heap.size≤w.heap.size+1+1;omega) _).setCell (by show w.heap.size≤w.heap.size+1+1;omega) _⟩
  have p1:(bg x).toList.isEmpty=false:=by rw [qb9,decide_eq_false hs]
  have hm2:max 2 (wl x)=wl x:=by have:=xj7 hs;omega
  have hyx:wl y≤wl x:=qb6 HXY.out
  have HM2:=Lib.hid hm2
  clear hm2 hs
  go_enter Tryz.func165,Tryz.ntmps165
  go_wp2_with fail
  rw [HW.out]
  refine (qo_ x y W0 hx hy).mono ?_
  rintro e w1 ⟨rfl,hb⟩
  have hl1:=held W0 w1 hb
  have HB:=Lib.hid hb
  have hk1:=(hl1 _ 0 hza).trans hka
  have hk2:=(hl1 _ 1 hza).trans hkb
  have hk3:=(hl1 _ 0 hzb).trans hkc
  have hk4:=(hl1 _ 1 hzb).trans hkd
  have hs1:=hb.size
  have hz1:w.heap.size<w1.heap.size:=by omega
  have hz2:w.heap.size+1<w1.heap.size:=by omega
  clear hb hl1
  go_wp2_with fail
  have hlaw:=held w1
  go_region_held3 (fun w'=>Below w1.heap.size w1 w') (first|exact (Below.refl _ _).drew|assumption|exact grow (by assumption) (by assumption))
   (first
    | (go_at_call_of 120 (Value.agg #[.int .u64 (lo x),.string (bg x)]);refine (qd6 x _ (by omega)).mono ?_;rintro e w2 ⟨b1,c1,rfl,hb1,hc1,hd1,hws1,hbl1⟩)
    | (go_at_call_of 120 (Value.agg #[.int .u64 (lo y),.string (bg y)]);refine (qd6 y _ (by omega)).mono ?_;rintro e w3 ⟨b2,c2,rfl,hb2,hc2,hd2,hws2,hbl2⟩))
  have HB3:Hid (Below w1.heap.size w1 w3):=by assumption
  rw [HM2.out] at hd1
  obtain rfl:c1=wl x:=by omega
  have H1:=Lib.hid (hws1.below hbl2 hws1.lt)
  have H2:=Lib.hid hws2
  have HR0:Hid (SubRow x y 0 0 b1 (wl x) w3):=⟨_,H1.out,fun t _=>qd1 _ _,fun _ _ _=>rfl,rfl⟩
  have hb1':w1.heap.size≤b1:=by simpa using hb1
  have hb2':w2.heap.size≤b2:=hb2
  have hlt1:=hws1.lt
  have hlt2:=hws2.lt
  have hbb:b2≠b1:=by omega
  clear hws1 hws2 hbl1 hbl2 hb1 hb2 hlaw hd1 hd2 H1
  go_wp2_with fail
  go_loopw [8,31] (fun c i wr=>∃ j ln:Nat,j≤wl x∧ln≤1∧i=.int .i64 j∧c=.int .u32 ln∧SubRow x y j ln b1 (wl x) wr∧Ws wr b2 c2 (dg y)∧Below w1.heap.size w1 wr) (fun _ i _=>wl x - (intOf i).toNat)
  case atStart=>exact ⟨0,0,by omega,by omega,rfl,rfl,HR0.out,H2.out,HB3.out⟩
  case round =>
   obtain ⟨j,ln,hj,hln,rfl,rfl,hrow,hwy,hbel⟩:=hrel
   clear HR0 H2 HB3
   by_cases hjx:j<wl x
   ·have HH:=Lib.hid hrow
    obtain ⟨F,hF,hF2,hF3,_⟩:=hrow
    have hcell:=hF.cell hjx
    rw [hF3 j (Nat.le_refl _) hjx] at hcell
    have hfr:=hF.frozen j
    have hdx:=qd1 x j
    have hdy:=qd1 y j
    have HBE:=Lib.hid hbel
    have HWY:=Lib.hid hwy
    clear hbel hwy hF hF2 hF3
    by_cases hjy:j<wl y
    ·have hc2':=HWY.out.cell (show j<c2 by omega)
     go_wp2_with (go_at_call 238;refine (qn7 _ _ _ _ (by omega) (by omega) (by omega)).mono ?_;rintro e w' ⟨rfl,rfl⟩)
     go_roundw
     case rel =>
      exact ⟨j+1,bor (dg x j) (dg y j) ln,by omega,qH2 _ _ _,by go_num,rfl,HH.out.step hln,HWY.out.setOther (by exact hbb) _,HBE.out.setCell (by exact hb1') _⟩
     case measure=>simp [intOf];omega
    have hz:dg y j=0:=qt2 (qa6 y) (by omega)
    have HZ2:=Lib.hid hz
    clear hz
    go_wp2_with (go_at_call 238;refine (qO5 _ _ _ (by omega) (by omega)).mono ?_;rintro e w' ⟨rfl,rfl⟩)
    go_roundw
    case rel =>
     have hst:=HH.out.step hln
     rw [HZ2.out] at hst
     exact ⟨j+1,bor (dg x j) 0 ln,by omega,qH2 _ _ _,by go_num,rfl,hst,HWY.out.setOther (by exact hbb) _,HBE.out.setCell (by exact hb1') _⟩
    case measure=>simp [intOf];omega
   obtain rfl:j=wl x:=by omega
   obtain ⟨F,hF,hF2,hF3⟩:=hrow.done HXY.out
   have HF:=Lib.hid hF
   have HF2:=Lib.hid hF2
   have HF3:=Lib.hid hF3
   have HBE:=Lib.hid hbel
   clear hF hF2 hF3 hrow hbel hwy
   go_wp2_with fail
   refine (qq6 b1 (wl x) (wl x) F _ (Nat.le_refl _) (by omega) (by omega) (fun i hi=>HF.out.cell hi) HF.out.lt HF2.out).mono ?_
   rintro e w5 ⟨rfl,hb5⟩
   rw [HF3.out]
   have hall:Below W0.heap.size W0 w5:=grow (grow HB.out HBE.out) hb5
   have hr0:=(hall.cell (p:=⟨w.heap.size+1+1,0,none⟩) hzc).trans hke
   have hr1:=(hall.cell (p:=⟨w.heap.size+1+1,1,none⟩) hzc).trans hkf
   have hf0:=(hall.frozen (p:=⟨w.heap.size+1+1,0,none⟩) hzc).trans hkg
   have hf1:=(hall.frozen (p:=⟨w.heap.size+1+1,1,none⟩) hzc).trans hkh
   have HA:=Lib.hid hall
   clear hall hb5
   go_wp2
   exact bodyPost_ret (v:=.tuple #[(Value.agg #[.int .u64 (lo (x - y)),.string (bg (x - y))]),.bool true]) (by simp [results,Tryz.results165,go_sem,hr0,hr1]) rfl
    ⟨rfl,((grow h0.out HA.out).setCell (by show w.heap.size≤w.heap.size+1+1;omega) _).setCell (by show w.heap.size≤w.heap.size+1+1;omega) _⟩
 rw [decide_eq_false hxy,show x - y=0 from by omega]
 have hcm:decide (cmpI (x:Int) (y:Int)<0)=true:=decide_eq_true (by rw [ql3 (by omega)];decide)
 have HXY:=Lib.hid hxy
 clear hxy
 rw [show lo 0=0 from rfl,show bg 0=⟨#[]⟩ from rfl]
 go_enter Tryz.func165,Tryz.ntmps165
 go_wp2_with fail
 rw [HW.out]
 refine (qo_ x y W0 hx hy).mono ?_
 rintro e w1 ⟨rfl,hb⟩
 have hl1:=held W0 w1 hb
 have hl2:=qb_ W0 w1 hb
 have HB:=Lib.hid hb
 clear hb
 have hr0:=(hl1 _ 0 hzc).trans hke
 have hr1:=(hl1 _ 1 hzc).trans hkf
 go_wp2
 exact bodyPost_ret (v:=.tuple #[.agg #[.int .u64 0,.string ⟨#[]⟩],.bool false]) (by simp [results,Tryz.results165,go_sem,hr0,hr1]) rfl
  ⟨rfl,((grow h0.out HB.out).setCell (by show w.heap.size≤w.heap.size+1+1;omega) _).setCell (by show w.heap.size≤w.heap.size+1+1;omega) _⟩
end
section
open Go.RowKit
attribute [local go_sem ↓] Go.wp_at_zero Go.wp_at_succ
theorem xl8 (F:Nat→Nat) {j N:Nat} (v:Nat) (hj:j<N):vl (fun t=>if t=j then v else F t) N+F j*bp j=vl F N+v*bp j:=by
 induction N with
 | zero=>omega
 | succ N ih =>
  rw [qb3,qb3]
  by_cases e:j=N
  ·subst e
   rw [if_pos rfl,qd0 (g:=F) (fun i hi=>by simp [show ¬ i=j by omega])]
   omega
  have:=ih (by omega)
  rw [if_neg (by omega)]
  omega
theorem xf6 {A A' V y d e f c Yk Pk Pi r q t Pj:Nat} (hPj:Pj=Pi*Pk) (ht:t=d*e+f+c) (hr:r+4294967296*q=t)
  (hA:A'+f*Pj=A+r*Pj) (h:A+c*Pj=V*y+d*Yk*Pi):A'+q*(4294967296*Pj)=V*y+d*(Yk+e*Pk)*Pi:=by
 have h1:r*Pj+q*(4294967296*Pj)=(d*e+f+c)*Pj:=by rw [← ht,← hr];grind
 have h2:(d*e+f+c)*Pj=d*e*Pj+f*Pj+c*Pj:=by grind
 have h3:d*(Yk+e*Pk)*Pi=d*Yk*Pi+d*e*Pj:=by rw [hPj];grind
 omega
def MulRow (x y i k c g:Nat) (wr:World) (F:Nat→Nat):Prop :=
 Ws wr g (wl x+wl y) F∧(∀ t,t<wl x+wl y→F t<4294967296)∧(∀ t,i+wl y≤t→t<wl x+wl y→F t=0)∧vl F (wl x+wl y)+c*bp (i+k)=vl (dg x) i*y+dg x i*vl (dg y) k*bp i
theorem MulRow.step {x y i k c g:Nat} {wr:World} {F:Nat→Nat} (h:MulRow x y i k c g wr F) (hi:i<wl x) (hk:k<wl y) :
  MulRow x y i (k+1) ((dg x i*dg y k+F (i+k)+c) / 4294967296) g (wr.setCell ⟨g,i+k,none⟩ (.int .u32 (((dg x i*dg y k+F (i+k)+c) % 4294967296:Nat):Int)))
   (fun t=>if t=i+k then (dg x i*dg y k+F (i+k)+c) % 4294967296 else F t):=by
 obtain ⟨h1,h2,h3,h4⟩:=h
 refine ⟨h1.set _ _,fun t ht=>?_,fun t h5 h6=>?_,?_⟩
 ·dsimp only
  split
  ·exact Nat.mod_lt _ (by decide)
  exact h2 t ht
 ·dsimp only
  rw [if_neg (by omega)];exact h3 t (by omega) h6
 rw [qb3,← Nat.add_assoc,qb7]
 exact xf6 (qq3 i k) rfl (Nat.mod_add_div _ _) (xl8 F _ (by omega)) h4
theorem MulRow.next {x y i c g:Nat} {wr:World} {F:Nat→Nat} (h:MulRow x y i (wl y) c g wr F) (hi:i<wl x) (hc:c<4294967296) :
  MulRow x y (i+1) 0 0 g (wr.setCell ⟨g,i+wl y,none⟩ (.int .u32 ((c:Nat):Int))) (fun t=>if t=i+wl y then c else F t):=by
 obtain ⟨h1,h2,h3,h4⟩:=h
 refine ⟨h1.set _ _,fun t ht=>?_,fun t h5 h6=>?_,?_⟩
 ·dsimp only
  split
  ·exact hc
  exact h2 t ht
 ·dsimp only
  rw [if_neg (by omega)];exact h3 t (by omega) h6
 have h5:=xl8 F c (j:=i+wl y) (N:=wl x+wl y) (by omega)
 rw [h3 _ (Nat.le_refl _) (by omega)] at h5
 rw [qa1 (qa6 y)] at h4
 rw [qb3,qZ_]
 have h6:(vl (dg x) i+dg x i*bp i)*y=vl (dg x) i*y+dg x i*y*bp i:=by grind
 rw [h6]
 simp only [Nat.zero_mul,Nat.mul_zero,Nat.add_zero] at h5 ⊢
 omega
theorem MulRow.done {x y g:Nat} {wr:World} {F:Nat→Nat} (h:MulRow x y (wl x) 0 0 g wr F):Ws wr g (wl x+wl y) F∧(∀ t,t<wl x+wl y→F t<4294967296)∧vl F (wl x+wl y)=x*y:=by
 obtain ⟨h1,h2,_,h4⟩:=h
 refine ⟨h1,h2,?_⟩
 rw [qa1 (qa6 x),qZ_] at h4
 simpa using h4
theorem MulRow.start {x y g:Nat} {wr:World} (h:Ws wr g (wl x+wl y) fun _=>0):MulRow x y 0 0 0 g wr (fun _=>0) :=
 ⟨h,fun _ _=>(by decide:0<4294967296),fun _ _ _=>rfl,by
  rw [qZ9 (m:=0) (Nat.zero_le _) (fun _ _ _=>rfl)];simp [vl]⟩
theorem xs7 (W:World) (z:Nat) (h:z<340282366920938463463374607431768211456) (c:Array Value)
  (hc:c = #[.int .u32 (((z % 18446744073709551616:Nat):Int) % 4294967296),.int .u32 (((z % 18446744073709551616:Nat):Int) / 4294967296),.int .u32 (((z / 18446744073709551616:Nat):Int) % 4294967296),.int .u32 (((z / 18446744073709551616:Nat):Int) / 4294967296)]) :
  Ws (W.alloc (.cells c 22)) W.heap.size 4 (dg z):=by
 subst hc
 refine World.rowIs_alloc W _ _ _ fun i hi=>?_
 have b2:bp 2=18446744073709551616:=qH3
 have b3:bp 3=79228162514264337593543950336:=by decide
 match i,hi with
 | 0,_=>simp [dg,qi7]
 | 1,_=>simp [dg,qv2];omega
 | 2,_=>simp [dg,b2]
 | 3,_=>simp [dg,b3];omega
theorem qV1 (x y:Nat) (w:World) (hx:x<18446744073709551616) (hy:y<18446744073709551616) :
  Calls Tryz.prog 110 #[(Value.agg #[.int .u64 (lo x),.string (bg x)]),(Value.agg #[.int .u64 (lo y),.string (bg y)])] w fun e w'=>e=.returned (Value.agg #[.int .u64 (lo (x*y)),.string (bg (x*y))])∧Below w.heap.size w w':=by
 obtain ⟨W0,HW⟩:∃ W0,Hid (((w.alloc (.cells #[.int .u64 ((lo x:Nat):Int),.string (bg x)] 30)).alloc (.cells #[.int .u64 ((lo y:Nat):Int),.string (bg y)] 30)).alloc (.cells #[.int .u64 0,.string ⟨#[]⟩] 30)=W0):=⟨_,Lib.hid rfl⟩
 have HS:=Lib.hid (show w.heap.size+3=W0.heap.size by rw [← HW.out];simp)
 have hza:w.heap.size<W0.heap.size:=by rw [← HS.out];omega
 have hzb:w.heap.size+1<W0.heap.size:=by rw [← HS.out];omega
 have hzc:w.heap.size+1+1<W0.heap.size:=by rw [← HS.out];omega
 have hka:W0.cell? ⟨w.heap.size,0,none⟩=some (.int .u64 ((lo x:Nat):Int)):=by rw [← HW.out];simp [go_sem]
 have hkb:W0.cell? ⟨w.heap.size,1,none⟩=some (.string (bg x)):=by rw [← HW.out];simp [go_sem]
 have hkc:W0.cell? ⟨w.heap.size+1,0,none⟩=some (.int .u64 ((lo y:Nat):Int)):=by rw [← HW.out];simp [go_sem]
 have hkd:W0.cell? ⟨w.heap.size+1,1,none⟩=some (.string (bg y)):=by rw [← HW.out];simp [go_sem]
 have hke:W0.cell? ⟨w.heap.size+1+1,0,none⟩=some (.int .u64 0):=by rw [← HW.out];simp [go_sem]
 have hkf:W0.cell? ⟨w.heap.size+1+1,1,none⟩=some (.string ⟨#[]⟩):=by rw [← HW.out];simp [go_sem]
 have hkg:W0.frozen? ⟨w.heap.size+1+1,0,none⟩=false:=by rw [← HW.out];simp [go_sem]
 have hkh:W0.frozen? ⟨w.heap.size+1+1,1,none⟩=false:=by rw [← HW.out];simp [go_sem]
 have h0:=Lib.hid (show Below w.heap.size w W0 by rw [← HW.out];exact (((Below.refl _ _).alloc (Nat.le_refl _) _).alloc (by simp) _).alloc (by simp;omega) _)
 rw [qb0 hx,qc_ hx,qb0 hy,qc_ hy] at *
 have hz:x*y<340282366920938463463374607431768211456:=by
  have:x*y<18446744073709551616*18446744073709551616:=Nat.mul_lt_mul_of_lt_of_le hx (Nat.le_of_lt hy) (by decide)
  simpa using this
 obtain ⟨z,HZ⟩:∃ z,Hid (x*y=z):=⟨_,Lib.hid rfl⟩
 rw [HZ.out] at hz
 have hv:Hid (vl (dg z) 4=z):=qa1 (by rw [show bp 4=340282366920938463463374607431768211456 from by decide];exact hz)
 obtain ⟨zl,HL⟩:∃ zl,Hid (z % 18446744073709551616=zl):=⟨_,Lib.hid rfl⟩
 obtain ⟨zh,HH⟩:∃ zh,Hid (z / 18446744073709551616=zh):=⟨_,Lib.hid rfl⟩
 have hl:zl<18446744073709551616:=by rw [← HL.out];omega
 have hh:zh<18446744073709551616:=by rw [← HH.out];omega
 have hzz:=Lib.hid hz
 clear hz
 go_enter Tryz.func110,Tryz.ntmps110
 go_wp2_with fail
 refine (qV0 x y hx hy _).mono ?_
 rintro e w1 ⟨rfl,rfl⟩
 rw [HZ.out,HL.out,HH.out]
 go_wp2_with fail
 rw [HW.out]
 have hw:=xs7 W0 z hzz.out #[.int .u32 ((zl:Int) % 4294967296),.int .u32 ((zl:Int) / 4294967296),.int .u32 ((zh:Int) % 4294967296),.int .u32 ((zh:Int) / 4294967296)] (by rw [HL.out,HH.out])
 rw [show W0.heap.size=w.heap.size+1+1+1 from HS.out.symm] at hw
 refine (qq6 (w.heap.size+1+1+1) 4 4 (dg z) _ (Nat.le_refl _) (by omega) (by omega) (fun i hi=>hw.cell hi) hw.lt (fun i _=>qd1 z i)).mono ?_
 rintro e w5 ⟨rfl,hb5⟩
 rw [hv.out,← HZ.out]
 have hall:Below W0.heap.size W0 w5:=grow ((Below.refl _ _).alloc (Nat.le_refl _) _) hb5
 have hr0:=(hall.cell (p:=⟨w.heap.size+1+1,0,none⟩) hzc).trans hke
 have hr1:=(hall.cell (p:=⟨w.heap.size+1+1,1,none⟩) hzc).trans hkf
 have hf0:=(hall.frozen (p:=⟨w.heap.size+1+1,0,none⟩) hzc).trans hkg
 have hf1:=(hall.frozen (p:=⟨w.heap.size+1+1,1,none⟩) hzc).trans hkh
 have HA:=Lib.hid hall
 clear hall hb5
 go_wp2
 exact bodyPost_ret (v:=(Value.agg #[.int .u64 (lo (x*y)),.string (bg (x*y))])) (by simp [results,Tryz.results110,go_sem,hr0,hr1]) rfl
  ⟨rfl,((grow h0.out HA.out).setCell (by show w.heap.size≤w.heap.size+1+1;omega) _).setCell (by show w.heap.size≤w.heap.size+1+1;omega) _⟩
theorem xf5 (x y:Nat) (w:World) (hx:wl x≤549755813888) (hy:wl y≤549755813888) (h:¬ (x<18446744073709551616∧y<18446744073709551616)) :
  Calls Tryz.prog 110 #[(Value.agg #[.int .u64 (lo x),.string (bg x)]),(Value.agg #[.int .u64 (lo y),.string (bg y)])] w fun e w'=>e=.returned (Value.agg #[.int .u64 (lo (x*y)),.string (bg (x*y))])∧Below w.heap.size w w':=by
 obtain ⟨W0,HW⟩:∃ W0,Hid (((w.alloc (.cells #[.int .u64 ((lo x:Nat):Int),.string (bg x)] 30)).alloc (.cells #[.int .u64 ((lo y:Nat):Int),.string (bg y)] 30)).alloc (.cells #[.int .u64 0,.string ⟨#[]⟩] 30)=W0):=⟨_,Lib.hid rfl⟩
 have HS:=Lib.hid (show w.heap.size+3=W0.heap.size by rw [← HW.out];simp)
 have hza:w.heap.size<W0.heap.size:=by rw [← HS.out];omega
 have hzb:w.heap.size+1<W0.heap.size:=by rw [← HS.out];omega
 have hzc:w.heap.size+1+1<W0.heap.size:=by rw [← HS.out];omega
 have hka:W0.cell? ⟨w.heap.size,0,none⟩=some (.int .u64 ((lo x:Nat):Int)):=by rw [← HW.out];simp [go_sem]
 have hkb:W0.cell? ⟨w.heap.size,1,none⟩=some (.string (bg x)):=by rw [← HW.out];simp [go_sem]
 have hkc:W0.cell? ⟨w.heap.size+1,0,none⟩=some (.int .u64 ((lo y:Nat):Int)):=by rw [← HW.out];simp [go_sem]
 have hkd:W0.cell? ⟨w.heap.size+1,1,none⟩=some (.string (bg y)):=by rw [← HW.out];simp [go_sem]
 have hke:W0.cell? ⟨w.heap.size+1+1,0,none⟩=some (.int .u64 0):=by rw [← HW.out];simp [go_sem]
 have hkf:W0.cell? ⟨w.heap.size+1+1,1,none⟩=some (.string ⟨#[]⟩):=by rw [← HW.out];simp [go_sem]
 have hkg:W0.frozen? ⟨w.heap.size+1+1,0,none⟩=false:=by rw [← HW.out];simp [go_sem]
 have hkh:W0.frozen? ⟨w.heap.size+1+1,1,none⟩=false:=by rw [← HW.out];simp [go_sem]
 have h0:=Lib.hid (show Below w.heap.size w W0 by rw [← HW.out];exact (((Below.refl _ _).alloc (Nat.le_refl _) _).alloc (by simp) _).alloc (by simp;omega) _)
 have hlaw:=held W0
 rcases (show ¬ x<18446744073709551616∨(x<18446744073709551616∧¬ y<18446744073709551616) by omega) with h1|⟨h1,h2⟩
 case' inl =>
  have p1:(bg x).toList.isEmpty=false:=by rw [qb9,decide_eq_false h1]
  clear h1 h
  go_enter Tryz.func110,Tryz.ntmps110
  go_wp2_with fail
 case' inr =>
  have p1:(bg x).toList.isEmpty=true:=by rw [qb9,decide_eq_true h1]
  have p2:(bg y).toList.isEmpty=false:=by rw [qb9,decide_eq_false h2]
  clear h1 h2 h
  go_enter Tryz.func110,Tryz.ntmps110
  go_wp2_with fail
 all_goals
  rw [HW.out]
  go_region_held3 (fun w'=>Below W0.heap.size W0 w') (first|exact (Below.refl _ _).drew|assumption|exact grow (by assumption) (by assumption))
   (first
    | (go_at_call_of 120 (Value.agg #[.int .u64 (lo x),.string (bg x)]);refine (qd6 x _ (by omega)).mono ?_;rintro e w1 ⟨b1,c1,rfl,hb1,hc1,hd1,hws1,hbl1⟩)
    | (go_at_call_of 120 (Value.agg #[.int .u64 (lo y),.string (bg y)]);refine (qd6 y _ (by omega)).mono ?_;rintro e w2 ⟨b2,c2,rfl,hb2,hc2,hd2,hws2,hbl2⟩))
  have HB:Hid (Below W0.heap.size W0 w2):=by assumption
  have H1:=Lib.hid (hws1.below hbl2 hws1.lt)
  have H2:=Lib.hid hws2
  have hlt1:=H1.out.lt
  have hlt2:=hws2.lt
  clear hws1 hws2 hbl1 hbl2 hb1 hb2 hlaw hd1 hd2
  have hmk:=qp4 ((wl x:Int)+(wl y:Int)) (wl x+wl y) (by omega) (by omega)
  go_wp2_with fail
  have HR0:Hid (MulRow x y 0 0 0 w2.heap.size (w2.alloc (.cells (madeCells #[.int .u32 0] (wl x+wl y)) 22)) fun _=>0):=MulRow.start (Ws.made w2 _)
  have HB0:Hid (Below w2.heap.size w2 (w2.alloc (.cells (madeCells #[.int .u32 0] (wl x+wl y)) 22))):=(Below.refl _ _).alloc (Nat.le_refl _) _
  have HMK:=Lib.hid hmk
  clear hmk
  go_loopw [55] (fun i wr=>∃ (i':Nat) (F:Nat→Nat),i'≤wl x∧i=.int .i64 i'∧MulRow x y i' 0 0 w2.heap.size wr F∧Below w2.heap.size w2 wr) (fun i _=>wl x - (intOf i).toNat)
  case atStart=>exact ⟨0,_,by omega,rfl,HR0.out,HB0.out⟩
  case round =>
   obtain ⟨i,F,hi,rfl,hrow,hbel⟩:=hrel
   clear HR0 HB0
   by_cases hix:i<wl x
   ·have hcx:wr.cell? ⟨b1,i,none⟩=some (.int .u32 ((dg x i:Nat):Int)):=by
     rw [hbel.cell (p:=⟨b1,i,none⟩) hlt1]
     exact H1.out.cell (by omega)
    have HH:=Lib.hid hrow
    have HBE:=Lib.hid hbel
    have hdx:=qd1 x i
    clear hrow hbel
    go_wp2_with fail
    obtain ⟨wo,rfl⟩:∃ wo:World,wo=wr:=⟨_,rfl⟩
    have HCX:=Lib.hid hcx
    clear hcx
    go_loopw [12,62] (fun c k wr=>∃ (k' c':Nat) (G:Nat→Nat),k'≤wl y∧c'<4294967296∧k=.int .i64 k'∧c=.int .u64 c'∧MulRow x y i k' c' w2.heap.size wr G∧Below w2.heap.size w2 wr) (fun _ k _=>wl y - (intOf k).toNat)
    case atStart=>exact ⟨0,0,F,by omega,by omega,rfl,rfl,HH.out,HBE.out⟩
    case round =>
     obtain ⟨k,c,G,hk,hc,rfl,rfl,hrow,hbel⟩:=hrel
     by_cases hky:k<wl y
     ·have hcy:wr.cell? ⟨b2,k,none⟩=some (.int .u32 ((dg y k:Nat):Int)):=by
       rw [hbel.cell (p:=⟨b2,k,none⟩) hlt2]
       exact H2.out.cell (by omega)
      have hcell:=hrow.1.cell (show i+k<wl x+wl y by omega)
      have hfr:=hrow.1.frozen (i+k)
      have hst:=Lib.hid (hrow.step hix hky)
      have hv:=hrow.2.1 (i+k) (by omega)
      have hdy:=qd1 y k
      obtain ⟨P,hP,HP⟩:∃ P:Nat,((dg x i:Nat):Int)*((dg y k:Nat):Int)=(P:Int)∧Hid (dg x i*dg y k=P):=⟨dg x i*dg y k,(Int.natCast_mul _ _).symm,Lib.hid rfl⟩
      have hPb:P≤18446744065119617025:=by
       rw [← HP.out]
       exact Nat.mul_le_mul (show dg x i≤4294967295 by omega) (show dg y k≤4294967295 by omega)
      obtain ⟨v,HV⟩:∃ v,Hid (G (i+k)=v):=⟨_,Lib.hid rfl⟩
      rw [HV.out] at hcell hst hv
      rw [HP.out] at hst
      have HBE2:=Lib.hid hbel
      clear hbel hrow
      go_wp2_with fail
      go_roundw
      case rel =>
       have e1:((c:Int)+((P:Int)+(v:Int))) / 4294967296=(((P+v+c) / 4294967296:Nat):Int):=by omega
       have e2:((c:Int)+((P:Int)+(v:Int))) % 4294967296=(((P+v+c) % 4294967296:Nat):Int):=by omega
       exact ⟨k+1,(P+v+c) / 4294967296,_,by omega,by omega,by go_num,by rw [e1],by rw [e2];exact hst.out,HBE2.out.setCell (Nat.le_refl _) _⟩
      case measure=>simp [intOf];omega
     obtain rfl:k=wl y:=by omega
     have hcell:=hrow.1.cell (show i+wl y<wl x+wl y by omega)
     have hfr:=hrow.1.frozen (i+wl y)
     have hst:=Lib.hid (hrow.next hix hc)
     have HBE2:=Lib.hid hbel
     clear hbel hrow
     go_wp2_with fail
     go_roundw
     case rel =>
      exact ⟨i+1,_,by omega,by go_num,hst.out,HBE2.out.setCell (Nat.le_refl _) _⟩
     case measure=>simp [intOf];omega
   obtain rfl:i=wl x:=by omega
   obtain ⟨hF,hF2,hF3⟩:=hrow.done
   have HF:=Lib.hid hF
   have HF2:=Lib.hid hF2
   have HF3:=Lib.hid hF3
   have HBE:=Lib.hid hbel
   clear hF hF2 hF3 hrow hbel
   go_wp2_with fail
   refine (qq6 w2.heap.size (wl x+wl y) (wl x+wl y) F _ (Nat.le_refl _) (by omega) (by omega) (fun i hi=>HF.out.cell hi) HF.out.lt HF2.out).mono ?_
   rintro e w5 ⟨rfl,hb5⟩
   rw [HF3.out]
   have hall:Below W0.heap.size W0 w5:=grow (grow HB.out HBE.out) hb5
   have hr0:=(hall.cell (p:=⟨w.heap.size+1+1,0,none⟩) hzc).trans hke
   have hr1:=(hall.cell (p:=⟨w.heap.size+1+1,1,none⟩) hzc).trans hkf
   have hf0:=(hall.frozen (p:=⟨w.heap.size+1+1,0,none⟩) hzc).trans hkg
   have hf1:=(hall.frozen (p:=⟨w.heap.size+1+1,1,none⟩) hzc).trans hkh
   have HA:=Lib.hid hall
   clear hall hb5
   go_wp2
   exact bodyPost_ret (v:=(Value.agg #[.int .u64 (lo (x*y)),.string (bg (x*y))])) (by simp [results,Tryz.results110,go_sem,hr0,hr1]) rfl
    ⟨rfl,((grow h0.out HA.out).setCell (by show w.heap.size≤w.heap.size+1+1;omega) _).setCell (by show w.heap.size≤w.heap.size+1+1;omega) _⟩
theorem qp5 (x y:Nat) (w:World) (hx:wl x≤549755813888) (hy:wl y≤549755813888) :
  Calls Tryz.prog 110 #[(Value.agg #[.int .u64 (lo x),.string (bg x)]),(Value.agg #[.int .u64 (lo y),.string (bg y)])] w fun e w'=>e=.returned (Value.agg #[.int .u64 (lo (x*y)),.string (bg (x*y))])∧Below w.heap.size w w':=by
 by_cases h:x<18446744073709551616∧y<18446744073709551616
 ·exact qV1 x y w h.1 h.2
 exact xf5 x y w hx hy h
end
end Go.Proofs.YtobojnodohjiaaaGreatDoor
