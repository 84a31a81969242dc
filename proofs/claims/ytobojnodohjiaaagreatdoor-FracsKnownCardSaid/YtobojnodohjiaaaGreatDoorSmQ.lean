
/- laws of gussetlaw03 for small arguments (of at most one word; texts of at most 300 bytes). No condition but those stated. -/
import Derived.Test.YtobojnodohjiaaaGreatDoorSumsQ
import Derived.Test.YtobojnodohjiaaaGreatDoorFieldQ
import Derived.Test.YtobojnodohjiaaaGreatDoorLowestQ
import Derived.Test.YtobojnodohjiaaaGreatDoorFloorsQ
import Derived.Test.YtobojnodohjiaaaGreatDoorTextsF
import Derived.Test.YtobojnodohjiaaaGreatDoorReadsQ
set_option linter.unusedVariables false
set_option linter.unusedSimpArgs false
namespace Go.Proofs.YtobojnodohjiaaaGreatDoor
open Go.RowKit
theorem sumq_sm (bbxn:Bool) (vxn:Value) (kxn:Nat) (fxn:Nat→Nat) (vxd:Value) (kxd:Nat) (fxd:Nat→Nat) (bbyn:Bool) (vyn:Value) (kyn:Nat) (fyn:Nat→Nat) (vyd:Value) (kyd:Nat) (fyd:Nat→Nat)  (w:World) (HWxn:Hid (Wa w vxn kxn fxn)) (HFxn:Hid (∀ i,i<kxn→fxn i<4294967296)) (HWxd:Hid (Wa w vxd kxd fxd)) (HFxd:Hid (∀ i,i<kxd→fxd i<4294967296)) (HWyn:Hid (Wa w vyn kyn fyn)) (HFyn:Hid (∀ i,i<kyn→fyn i<4294967296)) (HWyd:Hid (Wa w vyd kyd fyd)) (HFyd:Hid (∀ i,i<kyd→fyd i<4294967296))  (hq_kxd:kxd≤1) (hq_kxn:kxn≤1) (hq_kyd:kyd≤1) (hq_kyn:kyn≤1) (HT:Hid (Tab w)) :
  CB 53 #[.agg #[.bool bbxn,vxn,vxd],.agg #[.bool bbyn,vyn,vyd]] w (.bool true):=by
 obtain ⟨ixn,HAxn⟩:=ex_ ((if bbxn then -((vl fxn kxn:Nat):Int) else ((vl fxn kxn:Nat):Int)))
 obtain ⟨a,HQx⟩:=ex_ (mkRat ixn (vl fxd kxd+1))
 obtain ⟨iyn,HAyn⟩:=ex_ ((if bbyn then -((vl fyn kyn:Nat):Int) else ((vl fyn kyn:Nat):Int)))
 obtain ⟨b,HQy⟩:=ex_ (mkRat iyn (vl fyd kyd+1))
 by_cases hkxn:kxn≤8
 ·skip
  by_cases hkxd:kxd≤8
  ·skip
   by_cases hkyn:kyn≤8
   ·skip
    by_cases hkyd:kyd≤8
    ·skip
     by_cases hb:b=0
     ·subst hb
      by_cases ha:a=0
      ·subst ha
       exact sumq_zz bbxn vxn kxn fxn _ ixn vxd kxd fxd _ bbyn vyn kyn fyn _ iyn vyd kyd fyd _ w HWxn HFxn (lh_ rfl) HAxn HWxd HFxd (lh_ rfl) HQx HWyn HFyn (lh_ rfl) HAyn HWyd HFyd (lh_ rfl) HQy hkxn hkxd hkyn hkyd HT
      exact sumq_z bbxn vxn kxn fxn _ ixn vxd kxd fxd _ bbyn vyn kyn fyn _ iyn vyd kyd fyd _ a _ _ w HWxn HFxn (lh_ rfl) HAxn HWxd HFxd (lh_ rfl) HQx HWyn HFyn (lh_ rfl) HAyn HWyd HFyd (lh_ rfl) HQy hkxn hkxd hkyn hkyd ha (lh_ rfl) (lh_ rfl) (sgQ_dne ha) HT
     by_cases hab:a=b
     ·subst hab
      exact sumq_eq bbxn vxn kxn fxn _ ixn vxd kxd fxd _ bbyn vyn kyn fyn _ iyn vyd kyd fyd _ a _ w HWxn HFxn (lh_ rfl) HAxn HWxd HFxd (lh_ rfl) HQx HWyn HFyn (lh_ rfl) HAyn HWyd HFyd (lh_ rfl) HQy hkxn hkxd hkyn hkyd hb (lh_ rfl) (sgQ_ne hb) HT
     exact sumq_ne bbxn vxn kxn fxn _ ixn vxd kxd fxd _ bbyn vyn kyn fyn _ iyn vyd kyd fyd _ a b _ _ _ w HWxn HFxn (lh_ rfl) HAxn HWxd HFxd (lh_ rfl) HQx HWyn HFyn (lh_ rfl) HAyn HWyd HFyd (lh_ rfl) HQy hkxn hkxd hkyn hkyd hb hab (lh_ rfl) (lh_ rfl) (sgQ_ne hb) (lh_ rfl) (sgQ_dne hab) HT
    exfalso;omega
   exfalso;omega
  exfalso;omega
 exfalso;omega
theorem fieldq_sm (bbxn:Bool) (vxn:Value) (kxn:Nat) (fxn:Nat→Nat) (vxd:Value) (kxd:Nat) (fxd:Nat→Nat) (bbyn:Bool) (vyn:Value) (kyn:Nat) (fyn:Nat→Nat) (vyd:Value) (kyd:Nat) (fyd:Nat→Nat) (bbzn:Bool) (vzn:Value) (kzn:Nat) (fzn:Nat→Nat) (vzd:Value) (kzd:Nat) (fzd:Nat→Nat)  (w:World) (HWxn:Hid (Wa w vxn kxn fxn)) (HFxn:Hid (∀ i,i<kxn→fxn i<4294967296)) (HWxd:Hid (Wa w vxd kxd fxd)) (HFxd:Hid (∀ i,i<kxd→fxd i<4294967296)) (HWyn:Hid (Wa w vyn kyn fyn)) (HFyn:Hid (∀ i,i<kyn→fyn i<4294967296)) (HWyd:Hid (Wa w vyd kyd fyd)) (HFyd:Hid (∀ i,i<kyd→fyd i<4294967296)) (HWzn:Hid (Wa w vzn kzn fzn)) (HFzn:Hid (∀ i,i<kzn→fzn i<4294967296)) (HWzd:Hid (Wa w vzd kzd fzd)) (HFzd:Hid (∀ i,i<kzd→fzd i<4294967296))  (hq_kxd:kxd≤1) (hq_kxn:kxn≤1) (hq_kyd:kyd≤1) (hq_kyn:kyn≤1) (hq_kzd:kzd≤1) (hq_kzn:kzn≤1) (HT:Hid (Tab w)) :
  CB 54 #[.agg #[.bool bbxn,vxn,vxd],.agg #[.bool bbyn,vyn,vyd],.agg #[.bool bbzn,vzn,vzd]] w (.bool true):=by
 obtain ⟨ixn,HAxn⟩:=ex_ ((if bbxn then -((vl fxn kxn:Nat):Int) else ((vl fxn kxn:Nat):Int)))
 obtain ⟨a,HQx⟩:=ex_ (mkRat ixn (vl fxd kxd+1))
 obtain ⟨iyn,HAyn⟩:=ex_ ((if bbyn then -((vl fyn kyn:Nat):Int) else ((vl fyn kyn:Nat):Int)))
 obtain ⟨b,HQy⟩:=ex_ (mkRat iyn (vl fyd kyd+1))
 obtain ⟨izn,HAzn⟩:=ex_ ((if bbzn then -((vl fzn kzn:Nat):Int) else ((vl fzn kzn:Nat):Int)))
 obtain ⟨c,HQz⟩:=ex_ (mkRat izn (vl fzd kzd+1))
 by_cases hkxn:kxn≤5
 ·skip
  by_cases hkxd:kxd≤5
  ·skip
   by_cases hkyn:kyn≤5
   ·skip
    by_cases hkyd:kyd≤5
    ·skip
     by_cases hkzn:kzn≤5
     ·skip
      by_cases hkzd:kzd≤5
      ·skip
       by_cases hb:b=0
       ·subst hb
        exact fieldq_z bbxn vxn kxn fxn _ ixn vxd kxd fxd _ bbyn vyn kyn fyn _ iyn vyd kyd fyd _ bbzn vzn kzn fzn _ izn vzd kzd fzd _ a c _ _ _ _ w HWxn HFxn (lh_ rfl) HAxn HWxd HFxd (lh_ rfl) HQx HWyn HFyn (lh_ rfl) HAyn HWyd HFyd (lh_ rfl) HQy HWzn HFzn (lh_ rfl) HAzn HWzd HFzd (lh_ rfl) HQz hkxn hkxd hkyn hkyd hkzn hkzd (lh_ rfl) (lh_ rfl) (lh_ rfl) (lh_ (sgQ_flip _ _)) (lh_ rfl) (sgQ_pone _ _).1 (sgQ_pone _ _).2 (sgQ_one _).1 (sgQ_one _).2 HT
       exact fieldq_ne bbxn vxn kxn fxn _ ixn vxd kxd fxd _ bbyn vyn kyn fyn _ iyn vyd kyd fyd _ bbzn vzn kzn fzn _ izn vzd kzd fzd _ a b c _ _ _ _ _ w HWxn HFxn (lh_ rfl) HAxn HWxd HFxd (lh_ rfl) HQx HWyn HFyn (lh_ rfl) HAyn HWyd HFyd (lh_ rfl) HQy HWzn HFzn (lh_ rfl) HAzn HWzd HFzd (lh_ rfl) HQz hkxn hkxd hkyn hkyd hkzn hkzd hb (lh_ rfl) (lh_ rfl) (lh_ rfl) (lh_ (sgQ_flip _ _)) (lh_ rfl) (sgQ_pone _ _).1 (sgQ_pone _ _).2 (sgQ_one _).1 (sgQ_one _).2 (lh_ rfl) (sgQ_ne hb) HT
      exfalso;omega
     exfalso;omega
    exfalso;omega
   exfalso;omega
  exfalso;omega
 exfalso;omega
theorem lowq_sm (bbxn:Bool) (vxn:Value) (kxn:Nat) (fxn:Nat→Nat) (vxd:Value) (kxd:Nat) (fxd:Nat→Nat) (k:Int) (w:World) (HWxn:Hid (Wa w vxn kxn fxn)) (HFxn:Hid (∀ i,i<kxn→fxn i<4294967296)) (HWxd:Hid (Wa w vxd kxd fxd)) (HFxd:Hid (∀ i,i<kxd→fxd i<4294967296)) (h1:-9223372036854775808≤k) (h2:k≤9223372036854775807) (hq_kxd:kxd≤1) (hq_kxn:kxn≤1) (HT:Hid (Tab w)) :
  CB 55 #[.agg #[.bool bbxn,vxn,vxd],.int .i64 k] w (.bool true):=by
 obtain ⟨ixn,HAxn⟩:=ex_ ((if bbxn then -((vl fxn kxn:Nat):Int) else ((vl fxn kxn:Nat):Int)))
 obtain ⟨a,HQx⟩:=ex_ (mkRat ixn (vl fxd kxd+1))
 by_cases hkxn:kxn≤8
 ·skip
  by_cases hkxd:kxd≤8
  ·skip
   by_cases hk:k=0
   ·subst hk
    by_cases hw:a.den=1
    ·exact lowq_wz bbxn vxn kxn fxn _ ixn vxd kxd fxd _ a w HWxn HFxn (lh_ rfl) HAxn HWxd HFxd (lh_ rfl) HQx hkxn hkxd (lh_ hw) HT
    exact lowq_nz bbxn vxn kxn fxn _ ixn vxd kxd fxd _ a w HWxn HFxn (lh_ rfl) HAxn HWxd HFxd (lh_ rfl) HQx hkxn hkxd (lh_ hw) HT
   by_cases hw:a.den=1
   ·exact lowq_wk bbxn vxn kxn fxn _ ixn vxd kxd fxd _ a k w HWxn HFxn (lh_ rfl) HAxn HWxd HFxd (lh_ rfl) HQx hkxn hkxd h1 h2 hk (lh_ hw) HT
   exact lowq_nk bbxn vxn kxn fxn _ ixn vxd kxd fxd _ a k w HWxn HFxn (lh_ rfl) HAxn HWxd HFxd (lh_ rfl) HQx hkxn hkxd h1 h2 hk (lh_ hw) HT
  exfalso;omega
 exfalso;omega
theorem floorq_sm (bbxn:Bool) (vxn:Value) (kxn:Nat) (fxn:Nat→Nat) (vxd:Value) (kxd:Nat) (fxd:Nat→Nat)  (w:World) (HWxn:Hid (Wa w vxn kxn fxn)) (HFxn:Hid (∀ i,i<kxn→fxn i<4294967296)) (HWxd:Hid (Wa w vxd kxd fxd)) (HFxd:Hid (∀ i,i<kxd→fxd i<4294967296))  (hq_kxd:kxd≤1) (hq_kxn:kxn≤1) (HT:Hid (Tab w)) :
  CB 57 #[.agg #[.bool bbxn,vxn,vxd]] w (.bool true):=by
 obtain ⟨ixn,HAxn⟩:=ex_ ((if bbxn then -((vl fxn kxn:Nat):Int) else ((vl fxn kxn:Nat):Int)))
 obtain ⟨a,HQx⟩:=ex_ (mkRat ixn (vl fxd kxd+1))
 by_cases hkxn:kxn≤10
 ·skip
  by_cases hkxd:kxd≤10
  ·skip
   have hs:sz a≤11:=by
    rw [← HQx.out]
    have hm1:wl (vl fxn kxn)≤10:=by have:=wl_le.2 (vl_lt HFxn.out);omega
    exact sz_great (by rw [zsize HAxn.out];exact hm1) (by have:=wl_le.2 (vl_lt HFxd.out);omega)
   have hq2:sz a≤2:=by
    rw [← HQx.out]
    have hm1:wl (vl fxn kxn)≤1:=by have:=wl_le.2 (vl_lt HFxn.out);omega
    exact sz_great (by rw [zsize HAxn.out];exact hm1) (by have:=wl_le.2 (vl_lt HFxd.out);omega)
   have hq3:=nb_wl (Int.natAbs (a.num))
   have hq4:=nb_wl (a.den)
   have hq5:=sz_num a
   have hq6:=sz_den a
   by_cases hw:a.den=1
   ·obtain ⟨e1,e2⟩:=fl_whole a hw
    by_cases hb:64<max ((nb (Int.natAbs (a.num)):Nat):Int) ((nb (a.den):Nat):Int)
    ·exfalso;omega
    exact floorq_ws bbxn vxn kxn fxn _ ixn vxd kxd fxd _ a _ _ _ _ _ w HWxn HFxn (lh_ rfl) HAxn HWxd HFxd (lh_ rfl) HQx hkxn hkxd (lh_ rfl) (lh_ rfl) (lh_ e1) (lh_ e2) (lh_ rfl) (lh_ rfl) (lh_ rfl) (lh_ hw) hb HT
   obtain ⟨e1,e2,e3,e4,e5,e6⟩:=fl_facts a hw
   obtain ⟨z1,z2⟩:=sz_fl a hs
   by_cases hb:64<max ((nb (Int.natAbs (a.num)):Nat):Int) ((nb (a.den):Nat):Int)
   ·exfalso;omega
   exact floorq_ns bbxn vxn kxn fxn _ ixn vxd kxd fxd _ a _ _ _ _ _ _ _ w HWxn HFxn (lh_ rfl) HAxn HWxd HFxd (lh_ rfl) HQx hkxn hkxd (lh_ rfl) (lh_ rfl) (lh_ rfl) (lh_ rfl) (lh_ rfl) (lh_ rfl) (lh_ rfl) (lh_ hw) hb (lh_ e1) (lh_ e2) (lh_ e3) (lh_ e4) (lh_ e5) (lh_ e6) om om HT
  exfalso;omega
 exfalso;omega
theorem textq_sm (bbxn:Bool) (vxn:Value) (kxn:Nat) (fxn:Nat→Nat) (vxd:Value) (kxd:Nat) (fxd:Nat→Nat)  (w:World) (HWxn:Hid (Wa w vxn kxn fxn)) (HFxn:Hid (∀ i,i<kxn→fxn i<4294967296)) (HWxd:Hid (Wa w vxd kxd fxd)) (HFxd:Hid (∀ i,i<kxd→fxd i<4294967296))  (hq_kxd:kxd≤1) (hq_kxn:kxn≤1) (HT:Hid (Tab w)) :
  CB 58 #[.agg #[.bool bbxn,vxn,vxd]] w (.bool true):=by
 obtain ⟨ixn,HAxn⟩:=ex_ ((if bbxn then -((vl fxn kxn:Nat):Int) else ((vl fxn kxn:Nat):Int)))
 obtain ⟨a,HQx⟩:=ex_ (mkRat ixn (vl fxd kxd+1))
 by_cases hkxn:kxn≤10
 ·skip
  by_cases hkxd:kxd≤10
  ·skip
   have hm1:wl (vl fxn kxn)≤10:=by have:=wl_le.2 (vl_lt HFxn.out);omega
   have hm2:wl (vl fxd kxd)≤10:=by have:=wl_le.2 (vl_lt HFxd.out);omega
   have hi:wl ixn.natAbs≤10:=by rw [zsize HAxn.out];exact hm1
   have hs:sz a≤11:=by rw [← HQx.out];exact sz_great hi hm2
   have hd:wl (vl fxd kxd+1)≤11:=by have:=wl_add (vl fxd kxd) 1;have:wl 1≤1:=wl_small (by decide);omega
   have d1:=dg_small (Nat.le_trans (sz_num a) hs)
   have d2:=dg_small (Nat.le_trans (sz_den a) hs)
   have d3:=dg_small hi
   have d4:=dg_small hd
   obtain ⟨c1,n1⟩:=read_ftx a om om
   obtain ⟨c2,n2⟩:=read_ratio ixn (vl fxd kxd+1) om om
   rw [if_neg om] at c2
   obtain ⟨c3,n3⟩:=read_zero ixn om
   have z1:=ftx_sm hs
   have z2:=itx_sm hi
   have z3:(⟨(Lib.decDigits (vl fxd kxd+1)).toArray⟩:ByteArray).size≤400:=by rw [size_mk,Lib.decDigits_length];omega
   have o1:(⟨#[47]⟩:ByteArray).size=1:=rfl
   have o2:(⟨#[47,48]⟩:ByteArray).size=2:=rfl
   exact textq_main bbxn vxn kxn fxn _ ixn vxd kxd fxd _ a _ _ _ _ _ _ _ w HWxn HFxn (lh_ rfl) HAxn HWxd HFxd (lh_ rfl) HQx hkxn hkxd (lh_ rfl) (lh_ rfl) (lh_ n1) (lh_ c1) (lh_ rfl) (lh_ rfl) (lh_ rfl) (lh_ rfl) (lh_ rfl) (lh_ (n2.trans HQx.out)) (lh_ c2) (lh_ n3) (lh_ c3) om om om (by rw [cat_size];omega) (by rw [cat_size,cat_size];omega) (by rw [cat_size];omega) HT
  exfalso;omega
 exfalso;omega
theorem readq_sm (s:ByteArray) (w:World) (hs:s.size≤9223372036854775807) (hq_s:s.size≤300) (HT:Hid (Tab w)) :
  CB 61 #[.string s] w (.bool true):=by
 by_cases h1:8400<s.size
 ·exfalso;omega
 rcases fcode_cases s with ⟨hc,h2,h3⟩|⟨hc,hn⟩
 ·by_cases h4:300<s.size
  ·exfalso;omega
  exact readq_s0 s _ w om (lh_ rfl) (lh_ hc) om om HT
 by_cases h4:300<s.size
 ·exfalso;omega
 exact readq_sc s _ w om (lh_ hn) (lh_ rfl) hc HT
end Go.Proofs.YtobojnodohjiaaaGreatDoor
