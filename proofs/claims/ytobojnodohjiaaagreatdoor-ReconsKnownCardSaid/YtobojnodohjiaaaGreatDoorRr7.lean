
/- gussetref07: mod, gcd, Fits, Far. -/
import Derived.Test.YtobojnodohjiaaaGreatDoorRecP
import Derived.Test.YtobojnodohjiaaaGreatDoorHp
import Derived.Deep.LoopGhost
set_option maxRecDepth 100000
set_option maxHeartbeats 16000000
set_option linter.unusedVariables false
set_option linter.unusedSimpArgs false
namespace Go.Proofs.YtobojnodohjiaaaGreatDoor
open Go.RowKit
attribute [local go_sem ↓] Go.wp_at_zero Go.wp_at_succ
theorem qI8 (a m:Int) (hm:0<m):Int.tmod (Int.tmod a m+m) m=a % m:=by
 have h1:=Int.emod_nonneg a (show m≠0 by omega)
 have h2:=Int.emod_lt_of_pos a hm
 rcases Int.le_total 0 a with h|h
 ·rw [Int.tmod_eq_emod_of_nonneg h,Int.tmod_eq_emod_of_nonneg om,Int.add_emod_right,Int.emod_emod_of_dvd _ (Int.dvd_refl m)]
 ·have e:Int.tmod a m = -((-a) % m):=by
   have:=Int.neg_tmod a m
   rw [show Int.tmod a m = -(Int.tmod (-a) m) by rw [Int.neg_tmod,Int.neg_neg],Int.tmod_eq_emod_of_nonneg om]
  have h3:=Int.emod_nonneg (-a) (show m≠0 by omega)
  have h4:=Int.emod_lt_of_pos (-a) hm
  rw [e,Int.tmod_eq_emod_of_nonneg om]
  have h5:=Int.mul_ediv_add_emod (-a) m
  have h6:-((-a) % m)+m=a+m*(1+(-a) / m):=by rw [Int.mul_add];omega
  rw [h6,Int.add_mul_emod_self_left]
theorem qI7 (a m:Int) (hm:0<m):-m<Int.tmod a m∧Int.tmod a m<m:=by
 have h:=Int.natAbs_tmod a m
 have:=Nat.mod_lt a.natAbs (show 0<m.natAbs by omega)
 omega
theorem xz5 (a m:Int) (w:World) (ha:-1000000000000≤a) (ha2:a≤1000000000000) (hm:0<m) (hm2:m≤1000000000000) :
  Calls Tryz.prog 108 #[.int .i64 a,.int .i64 m] w fun e w'=>e=.returned (.int .i64 (a % m))∧Below w.heap.size w w':=by
 have e1:=qI8 a m hm
 have e2:=qI7 a m hm
 have hm0:¬ m=0:=by omega
 have hw1:IntKind.i64.wrap (Int.tmod a m)=Int.tmod a m:=by rw [IntKind.wrap_i64];omega
 have hw2:IntKind.i64.wrap (Int.tmod a m+m)=Int.tmod a m+m:=by rw [IntKind.wrap_i64];omega
 have hw3:IntKind.i64.wrap (a % m)=a % m:=by have:=Int.emod_nonneg a hm0;have:=Int.emod_lt_of_pos a hm;rw [IntKind.wrap_i64];omega
 go_enter Tryz.func108,Tryz.ntmps108
 go_wp2
 exact bodyPost_ret (v:=.int .i64 (a % m)) (by simp [results,Tryz.results108,go_sem]) rfl ⟨rfl,Below.refl _ _⟩
theorem xw1 {a b:Nat} (hb:1≤b) (h:∀ e,1<e→¬ (e ∣ a∧e ∣ b)):Nat.gcd a b=1:=by
 have h1:=Nat.gcd_pos_of_pos_right a (show 0<b by omega)
 have h2:=h (Nat.gcd a b)
 rcases Nat.lt_or_ge 1 (Nat.gcd a b) with h3|h3
 ·exact absurd ⟨Nat.gcd_dvd_left a b,Nat.gcd_dvd_right a b⟩ (h2 h3)
 ·omega
theorem xm9 {a b d:Nat} (hb:1≤b) (h1:d ∣ a) (h2:d ∣ b) (h:∀ e,d<e→¬ (e ∣ a∧e ∣ b)):Nat.gcd a b=d:=by
 have h3:=Nat.le_of_dvd (Nat.gcd_pos_of_pos_right a (show 0<b by omega)) (Nat.dvd_gcd h1 h2)
 rcases Nat.lt_or_ge d (Nat.gcd a b) with h4|h4
 ·exact absurd ⟨Nat.gcd_dvd_left a b,Nat.gcd_dvd_right a b⟩ (h _ h4)
 ·omega
theorem qX1 (a d:Nat):Int.tmod (a:Int) (d:Int)=((a % d:Nat):Int):=rfl
theorem xz4 (a b c:Nat) (w:World) (hc:Nat.gcd a b=c) (ha:a≤1000000) (hb:b≤1000000) (hb1:1≤b) :
  Calls Tryz.prog 103 #[.int .i64 (a:Int),.int .i64 (b:Int)] w fun e w'=>e=.returned (.int .i64 (c:Int))∧Below w.heap.size w w':=by
 have HC:=lh_ hc
 clear hc
 obtain ⟨t,htn⟩:∃ t:Nat,t=max a b:=⟨_,rfl⟩
 go_enter Tryz.func103,Tryz.ntmps103
 go_wp2
 all_goals
  go_loopg [5] t (fun k dv wr=>dv=.int .i64 (k:Int)∧1≤k∧k≤t∧wr=w∧Hid (∀ e,k<e→¬ (e ∣ a∧e ∣ b)))
  case atStart=>exact ⟨by congr 1;omega,by omega,Nat.le_refl _,rfl,lh_ (fun e h1 h2=>by have:=Nat.le_of_dvd om h2.2;omega)⟩
  case round =>
   rename_i J_ K_ h1_ h0_
   obtain ⟨rfl,hk1,hkt,rfl,HE⟩:=hrel
   rcases Nat.lt_or_ge 1 gk with hlt|hge
   ·have hlt':(1:Int)<(gk:Int):=by omega
    have hg0:¬ (gk:Int)=0:=by omega
    have e1:=qX1 a gk
    have e2:=qX1 b gk
    have hm1:=Nat.mod_lt a (show 0<gk by omega)
    have hm2:=Nat.mod_lt b (show 0<gk by omega)
    have z1:(a:Int) % (gk:Int)=((a % gk:Nat):Int):=rfl
    have z2:(b:Int) % (gk:Int)=((b % gk:Nat):Int):=rfl
    have hw1:IntKind.i64.wrap ((a:Int) % (gk:Int))=((a:Int) % (gk:Int)):=by rw [IntKind.wrap_i64];omega
    have hw2:IntKind.i64.wrap ((b:Int) % (gk:Int))=((b:Int) % (gk:Int)):=by rw [IntKind.wrap_i64];omega
    have hw3:IntKind.i64.wrap ((gk:Int) - 1)=(gk:Int) - 1:=by rw [IntKind.wrap_i64];omega
    have hnext:Hid (¬ (gk ∣ a∧gk ∣ b)→∀ e,gk - 1<e→¬ (e ∣ a∧e ∣ b)):=lh_ (fun hn e he=>by
     rcases Nat.lt_or_ge gk e with h|h
     ·exact HE.out e h
     ·obtain rfl:e=gk:=by omega
      exact hn)
    by_cases c1:a % gk=0
    ·have q1:(((a:Int) % (gk:Int)) == 0)=true:=by rw [z1,c1];rfl
     by_cases c2:b % gk=0
     ·have q2:(((b:Int) % (gk:Int)) == 0)=true:=by rw [z2,c2];rfl
      obtain rfl:c=gk:=by rw [← HC.out];exact xm9 hb1 (Nat.dvd_of_mod_eq_zero c1) (Nat.dvd_of_mod_eq_zero c2) HE.out
      clear c1 c2 z1 z2 e1 e2
      go_wp2
      exact bodyPost_ret (v:=.int .i64 (c:Int)) (by simp [results,Tryz.results103,go_sem]) rfl ⟨rfl,Below.refl _ _⟩
     ·have q2:(((b:Int) % (gk:Int)) == 0)=false:=by simpa using (show ¬ ((b:Int) % (gk:Int))=0 by omega)
      have HN:=lh_ (hnext.out fun h=>c2 (Nat.mod_eq_zero_of_dvd h.2))
      clear c1 c2 z1 z2 e1 e2
      go_wp2
      go_roundg (gk - 1)
      case measure=>omega
      case rel=>exact ⟨by go_num,by omega,by omega,rfl,HN⟩
    ·have q1:(((a:Int) % (gk:Int)) == 0)=false:=by simpa using (show ¬ ((a:Int) % (gk:Int))=0 by omega)
     have HN:=lh_ (hnext.out fun h=>c1 (Nat.mod_eq_zero_of_dvd h.1))
     clear c1 z1 z2 e1 e2
     go_wp2
     go_roundg (gk - 1)
     case measure=>omega
     case rel=>exact ⟨by go_num,by omega,by omega,rfl,HN⟩
   ·obtain rfl:gk=1:=by omega
    obtain rfl:c=1:=by rw [← HC.out];exact xw1 hb1 HE.out
    go_wp2
    exact bodyPost_ret (v:=.int .i64 1) (by simp [results,Tryz.results103,go_sem]) rfl ⟨rfl,Below.refl _ _⟩
def fit7 (n:Int) (d:Nat) (a:Int) (m:Nat):Prop:=m≠0∧Nat.gcd d m=1∧(n - a*(d:Int)) % (m:Int)=0
instance (n:Int) (d:Nat) (a:Int) (m:Nat):Decidable (fit7 n d a m):=inferInstanceAs (Decidable (_∧_∧_))
theorem qq4 {a d:Int} (h1:-3000≤a) (h2:a≤3000) (d1:0≤d) (d2:d≤3000):-9000000≤a*d∧a*d≤9000000:=by
 have e1:=Int.mul_le_mul_of_nonneg_right h2 d1
 have e2:=Int.mul_le_mul_of_nonneg_right h1 d1
 omega
theorem qa7 {a:Int} (h1:-9000000000≤a) (h2:a≤9000000000):IntKind.i64.wrap a=a:=by rw [IntKind.wrap_i64];omega
theorem qV4 (n:Int) (d:Nat) (a:Int) (m:Nat) (b:Bool) (w:World) (hb:decide (fit7 n d a m)=b) (hn1:-3000≤n) (hn2:n≤3000) (ha1:-3000≤a) (ha2:a≤3000) (hd:d≤3000) (hm:m≤3000) :
  Calls Tryz.prog 48 #[.int .i64 n,.int .i64 (d:Int),.int .i64 a,.int .i64 (m:Int)] w fun e w'=>e=.returned (.bool b)∧Below w.heap.size w w':=by
 have HB:=lh_ hb
 clear hb
 obtain ⟨hx1,hx2⟩:=qq4 ha1 ha2 (show (0:Int)≤(d:Int) by omega) om
 have hw1:IntKind.i64.wrap (a*(d:Int))=a*(d:Int):=qa7 om om
 have hw2:IntKind.i64.wrap (n - a*(d:Int))=n - a*(d:Int):=qa7 om om
 obtain ⟨x,HX⟩:∃ x,Hid (n - a*(d:Int)=x):=⟨_,lh_ rfl⟩
 have hx3:-10000*1000≤x∧x≤10000*1000:=by have:=HX.out;omega
 go_enter Tryz.func48,Tryz.ntmps48
 by_cases h0:m=0
 ·obtain rfl:b=false:=by rw [← HB.out];exact decide_eq_false (fun h=>h.1 h0)
  have hm0:¬ (0:Int)<(m:Int):=by omega
  clear h0
  go_wp2
  exact bodyPost_ret (v:=.bool false) (by simp [results,Tryz.results48,go_sem]) rfl ⟨rfl,Below.refl _ _⟩
 ·have hm0:(0:Int)<(m:Int):=by omega
  have hm9:0<m:=by omega
  have HM0:=lh_ h0
  clear h0
  obtain ⟨c,HC⟩:∃ c,Hid (Nat.gcd d m=c):=⟨_,lh_ rfl⟩
  go_wp2_with fail
  refine (xz4 d m c _ HC.out om om om).mono ?_
  rintro e w1 ⟨rfl,hb1⟩
  have HB1:=lh_ hb1
  clear hb1
  by_cases h1:c=1
  ·subst h1
   have hw3:=HX.out
   go_wp2_with fail
   refine (xz5 x (m:Int) _ om om hm0 om).mono ?_
   rintro e w2 ⟨rfl,hb2⟩
   have HB2:=lh_ (HB1.out.trans (hb2.mono HB1.out.size))
   clear hb2
   by_cases h2:x % (m:Int)=0
   ·obtain rfl:b=true:=by rw [← HB.out];exact decide_eq_true ⟨HM0.out,HC.out,by rw [HX.out];exact h2⟩
    have hq:(x % (m:Int) == 0)=true:=by simp [h2]
    have hq2:x % (m:Int)=0:=h2
    go_wp2
    exact bodyPost_ret (v:=.bool true) (by simp [results,Tryz.results48,go_sem]) rfl ⟨rfl,HB2.out⟩
   ·obtain rfl:b=false:=by rw [← HB.out];exact decide_eq_false (fun h=>h2 (by rw [← HX.out];exact h.2.2))
    have hq:(x % (m:Int) == 0)=false:=by simpa using h2
    have H2:=lh_ h2
    clear h2
    go_wp2
    exact bodyPost_ret (v:=.bool false) (by simp [results,Tryz.results48,go_sem]) rfl ⟨rfl,HB2.out⟩
  ·obtain rfl:b=false:=by rw [← HB.out];exact decide_eq_false (fun h=>h1 (by rw [← HC.out];exact h.2.1))
   have hq:((c:Int) == 1)=false:=by simpa using (show ¬ (c:Int)=1 by omega)
   have hq2:¬ (c:Int)=1:=by omega
   have H1:=lh_ h1
   clear h1
   go_wp2
   exact bodyPost_ret (v:=.bool false) (by simp [results,Tryz.results48,go_sem]) rfl ⟨rfl,HB1.out⟩
theorem xH5 (n:Int) (d m:Nat) (b:Bool) (w:World) (hb:decide (2*n*n<(m:Int)∧2*(d:Int)*(d:Int)<(m:Int))=b) (hn1:-3000≤n) (hn2:n≤3000) (hd:d≤3000) (hm:m≤3000) :
  Calls Tryz.prog 49 #[.int .i64 n,.int .i64 (d:Int),.int .i64 (m:Int)] w fun e w'=>e=.returned (.bool b)∧Below w.heap.size w w':=by
 have HB:=lh_ hb
 clear hb
 have hx:-20000000≤2*n*n∧2*n*n≤20000000:=by
  rcases Int.le_total 0 n with h|h
  ·have:=qq4 (a:=n) (d:=n) hn1 hn2 h hn2;rw [Int.mul_assoc];omega
  ·have:=qq4 (a:=n) (d:=-n) hn1 hn2 om om;rw [Int.mul_neg] at this;rw [Int.mul_assoc];omega
 have hy:0≤2*(d:Int)*(d:Int)∧2*(d:Int)*(d:Int)≤20000000:=by
  have:=qq4 (a:=(d:Int)) (d:=(d:Int)) om om om om
  have h2:=Int.mul_nonneg (show (0:Int)≤(d:Int) by omega) (show (0:Int)≤(d:Int) by omega)
  rw [Int.mul_assoc];omega
 have hw1:IntKind.i64.wrap (2*n)=2*n:=qa7 om om
 have hw2:IntKind.i64.wrap (2*n*n)=2*n*n:=qa7 om om
 have hw3:IntKind.i64.wrap (2*(d:Int))=2*(d:Int):=qa7 om om
 have hw4:IntKind.i64.wrap (2*(d:Int)*(d:Int))=2*(d:Int)*(d:Int):=qa7 om om
 clear hx hy
 go_enter Tryz.func49,Tryz.ntmps49
 by_cases h1:2*n*n<(m:Int)
 ·by_cases h2:2*(d:Int)*(d:Int)<(m:Int)
  ·obtain rfl:b=true:=by rw [← HB.out];exact decide_eq_true ⟨h1,h2⟩
   go_wp2
   exact bodyPost_ret (v:=.bool true) (by simp [results,Tryz.results49,go_sem]) rfl ⟨rfl,Below.refl _ _⟩
  ·obtain rfl:b=false:=by rw [← HB.out];exact decide_eq_false (fun h=>h2 h.2)
   go_wp2
   exact bodyPost_ret (v:=.bool false) (by simp [results,Tryz.results49,go_sem]) rfl ⟨rfl,Below.refl _ _⟩
 ·obtain rfl:b=false:=by rw [← HB.out];exact decide_eq_false (fun h=>h1 h.1)
  go_wp2
  exact bodyPost_ret (v:=.bool false) (by simp [results,Tryz.results49,go_sem]) rfl ⟨rfl,Below.refl _ _⟩
end Go.Proofs.YtobojnodohjiaaaGreatDoor
