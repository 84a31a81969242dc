
/- decimals.Parse and the reference's, digit by digit: plain. No condition but those stated. -/
import Derived.Test.YtobojnodohjiaaaGreatDoorRdR
import Derived.Test.YtobojnodohjiaaaGreatDoorDecR
import Derived.Test.YtobojnodohjiaaaGreatDoorRefParse2
set_option linter.unusedVariables false
set_option linter.unusedSimpArgs false
namespace Go.Proofs.YtobojnodohjiaaaGreatDoor
open Go.RowKit
theorem qr1 (s:ByteArray) (i:Nat):byt s i=((s.data.toList[i]?).map UInt8.toNat).getD 0:=by
 by_cases h:i<s.size
 ·rw [qh2 s i h,List.getElem?_eq_getElem (by simpa using h)];rfl
 have h2:s.data.toList.length≤i:=by rw [Array.length_toList];exact Nat.le_of_not_lt h
 rw [List.getElem?_eq_none h2]
 unfold byt;rw [dif_neg h];rfl
theorem qH_ (s:ByteArray) (a c i:Nat) (h:a+i<c) (hc:c≤s.size):byt (s.extract a c) i=byt s (a+i):=by
 rw [qr1,qr1,ByteArray.data_extract,Array.toList_extract]
 have e:(s.data.toList.extract a c)[i]?=s.data.toList[a+i]?:=by
  simp only [List.extract,List.getElem?_take,List.getElem?_drop]
  rw [if_pos om]
 rw [e]
theorem qA7 (s:ByteArray) (a c:Nat) (hc:c≤s.size):(s.extract a c).size=c - a:=by simp;omega
theorem qq2 {s t:ByteArray} {a c:Nat}:∀ k,(∀ i,i<k→byt s (a+i)=byt t (c+i))→pvr s a k=pvr t c k
 | 0,_=>rfl
 | k+1,h=>by
  have ih:=qq2 k (fun i hi=>h i om)
  show 10*pvr s a k+(byt s (a+k) - 48)=10*pvr t c k+(byt t (c+k) - 48)
  rw [ih,h k om]
theorem qN5 (s:ByteArray):ineg s=true ↔ 0<s.size∧byt s 0=45:=by
 have hl:s.data.toList.length=s.size:=by rw [Array.length_toList];rfl
 unfold ineg Lib.hasPrefix
 rcases h:s.data.toList with _|⟨c,l⟩
 ·rw [h] at hl
  constructor
  ·intro e;simp [List.isPrefixOf] at e
  rintro ⟨h1,_⟩; rw [← hl] at h1;simp at h1
 have hp:0<s.size:=by rw [← hl,h];simp
 have hb:byt s 0=c.toNat:=by rw [qr1,h];rfl
 rw [hb]
 constructor
 ·intro e
  simp [List.isPrefixOf] at e
  exact ⟨hp,by rw [← e];rfl⟩
 rintro ⟨_,e⟩
 have:c=45:=UInt8.toNat_inj.1 e
 simp [List.isPrefixOf,this]
theorem qv4 (s:ByteArray) (i:Nat) (h:i<s.size):s.data.toList[i]?=some 46 ↔ byt s i=46:=by
 rw [List.getElem?_eq_getElem (by simpa using h),qh2 s i h]
 constructor
 ·intro e
  injection e with e
  rw [e];rfl
 intro e
 congr 1
 exact UInt8.toNat_inj.1 e
theorem qY1 (t:ByteArray):∃ k,(dup t).size=k∧k≤t.size∧(∀ i,i<k→byt (dup t) i=byt t i)∧(∀ i,i<k→byt t i≠46) ∧
  ((k<t.size∧byt t k=46∧dtwo t=true∧(ddn t).size=t.size - (k+1)∧∀ i,i<t.size - (k+1)→byt (ddn t) i=byt t (k+1+i))∨(k=t.size∧dtwo t=false∧(ddn t).size=0)):=by
 rcases qA4 t with h|⟨j,h,hj⟩
 ·have e1:dup t=t:=by unfold dup;rw [if_neg om]
  have e2:ddn t=⟨#[]⟩:=by unfold ddn;rw [if_neg om]
  have e3:dtwo t=false:=decide_eq_false om
  refine ⟨t.size,by rw [e1],Nat.le_refl _,fun i hi=>by rw [e1],fun i hi e=>?_,.inr ⟨rfl,e3,by rw [e2];rfl⟩⟩
  exact Lib.indexByte_none h i ((qv4 t i hi).2 e)
 have e1:dup t=t.extract 0 j:=by unfold dup;rw [if_pos om,h];rfl
 have e2:ddn t=t.extract (j+1) t.size:=by unfold ddn;rw [if_pos om,h];rfl
 have e3:dtwo t=true:=decide_eq_true om
 obtain ⟨f1,f2⟩:=Lib.indexByte_some h
 refine ⟨j,by rw [e1,qA7 _ _ _ om];omega,by omega,fun i hi=>by rw [e1,qH_ _ _ _ _ om om,Nat.zero_add],fun i hi e=>?_,.inl ⟨hj,(qv4 t j hj).1 f1,e3,by rw [e2,qA7 _ _ _ (Nat.le_refl _)],fun i hi=>by rw [e2,qH_ _ _ _ _ om (Nat.le_refl _)]⟩⟩
 exact f2 i hi ((qv4 t i om).2 e)
theorem xc4 (B:ByteArray):byt ((⟨#[49]⟩:ByteArray) ++ B) 0=49∧∀ i,byt ((⟨#[49]⟩:ByteArray) ++ B) (1+i)=byt B i:=by
 have e:((⟨#[49]⟩:ByteArray) ++ B).data.toList=49 :: B.data.toList:=by simp
 constructor
 ·rw [qr1,e];rfl
 intro i
 rw [qr1,qr1,e,Nat.add_comm,List.getElem?_cons_succ]
theorem qA_ (s:ByteArray) (n:Nat):∀ d b,n - b=d→b≤n→∃ e,b≤e∧e≤n∧(∀ j,b≤j→j<e→48≤byt s j∧byt s j≤57)∧(e=n∨(e<n∧(byt s e<48∨57<byt s e)))
 | 0,b,h,hb=>⟨b,Nat.le_refl _,hb,fun j h1 h2=>by omega,.inl om⟩
 | d+1,b,h,hb=>by
  by_cases hd:byt s b<48∨57<byt s b
  ·exact ⟨b,Nat.le_refl _,hb,fun j h1 h2=>by omega,.inr ⟨by omega,hd⟩⟩
  obtain ⟨e,h1,h2,h3,h4⟩:=qA_ s n d (b+1) om om
  refine ⟨e,by omega,h2,fun j j1 j2=>?_,h4⟩
  rcases Nat.eq_or_lt_of_le j1 with e'|e'
  ·subst e'; omega
  exact h3 j om j2
theorem qr_ {x:ByteArray} (h:x.size≤4096):qi6 x≠0 ↔ ¬ qm2 x:=by
 unfold qi6
 rw [if_neg om]
 split
 ·rename_i g;exact ⟨fun e=>absurd rfl e,fun e=>absurd g e⟩
 rename_i g;exact ⟨fun _=>g,fun _=>by decide⟩
theorem xd0 {x:ByteArray} (h:x.size≤4096) (g:qm2 x):pnum x=pvr x 0 x.size:=by
 unfold pnum;rw [if_pos ⟨h,g⟩];rfl
theorem qR4 {s:ByteArray} (hs:s.size≤100) (h:¬ qm2 (dA s)∨¬ qm2 (dO s)∨dM s=true∨(ineg s=true∧dK s=0)):(0:Rat)=dnum s∧(4:Int)=qg0 s:=by
 have h1:=qj_ s
 have h2:=qp4 (idig s)
 have h3:=qp0 (idig s)
 have hA:(dA s).size≤4096:=by unfold dA;omega
 have hO:(dO s).size≤4096:=by unfold dO;rw [ql7];unfold dB;have:(⟨#[49]⟩:ByteArray).size=1:=rfl;omega
 have hc:qg0 s=4:=by
  unfold qg0
  rw [if_neg om]
  by_cases a:qm2 (dA s)
  ·rw [if_neg (fun e=>(qr_ hA).1 e a)]
   by_cases b:qm2 (dO s)
   ·rw [if_neg (fun e=>(qr_ hO).1 e b)]
    split
    ·rfl
    rename_i m
    rw [if_pos]
    rcases h with h|h|h|h
    ·exact absurd a h
    ·exact absurd b h
    ·exact absurd h m
    exact h
   rw [if_pos ((qr_ hO).2 b)]
  rw [if_pos ((qr_ hA).2 a)]
 exact ⟨by unfold dnum;rw [hc,if_neg (by decide)],hc.symm⟩
theorem xO6 {s:ByteArray} (hs:s.size≤100) (a:qm2 (dA s)) (b:qm2 (dO s)) (m:dM s=false) (hk:¬ (ineg s=true∧dK s=0)):mkRat (dZ s) (10 ^ (dB s).size)=dnum s∧(0:Int)=qg0 s:=by
 have h1:=qj_ s
 have h2:=qp4 (idig s)
 have h3:=qp0 (idig s)
 have hA:(dA s).size≤4096:=by unfold dA;omega
 have hO:(dO s).size≤4096:=by unfold dO;rw [ql7];unfold dB;have:(⟨#[49]⟩:ByteArray).size=1:=rfl;omega
 have hc:qg0 s=0:=by
  unfold qg0
  rw [if_neg om,if_neg (fun e=>(qr_ hA).1 e a),if_neg (fun e=>(qr_ hO).1 e b),if_neg (by rw [m];decide),if_neg hk]
 exact ⟨by unfold dnum;rw [hc,if_pos rfl],hc.symm⟩
theorem xf2 (m:Nat):(1 / 10:Rat) ^ m*(((10 ^ m:Nat):Int):Rat)=1:=by
 induction m with
 | zero=>decide +kernel
 | succ m ih =>
  rw [Rat.pow_succ,Nat.pow_succ,Int.natCast_mul,Rat.intCast_mul]
  have e:(((10:Nat):Int):Rat)=10:=rfl
  rw [e]
  have e2:(1 / 10:Rat)*10=1:=by decide +kernel
  generalize (1 / 10:Rat) ^ m=x at *
  generalize (((10 ^ m:Nat):Int):Rat)=y at *
  grind
theorem mk_u {p q m K:Nat} {u:Rat} (hu:(((p:Nat):Int):Rat)+(((q:Nat):Int):Rat)*(1 / 10:Rat) ^ m=u) (I:K=p*10 ^ m+q):mkRat ((K:Nat):Int) (10 ^ m)=u:=by
 have h1:=xf2 m
 have hp:(((10 ^ m:Nat):Int):Rat)≠0:=fun e=>by rw [e,Rat.mul_zero] at h1;exact absurd h1 (by decide +kernel)
 rw [Rat.mkRat_eq_div,← hu,I,Int.natCast_add,Int.natCast_mul,Rat.intCast_add,Rat.intCast_mul,Rat.div_def]
 have h2:((10 ^ m:Nat):Rat)⁻¹=(1 / 10:Rat) ^ m:=Rat.inv_eq_of_mul_eq_one (by rw [Rat.mul_comm];exact h1)
 rw [h2]
 generalize (1 / 10:Rat) ^ m=x at *
 generalize (((10 ^ m:Nat):Int):Rat)=y at *
 grind
def isA (s:ByteArray) (b e:Nat):Prop:=e=b∨(byt s b=48∧b+1<e)
theorem xI9 (s:ByteArray) (hs:s.size≤100) (b e f:Nat) (hb:(b=1∧ineg s=true)∨(b=0∧ineg s=false)) (hbe:b≤e) (hes:e≤s.size) (hdg:∀ j,b≤j→j<e→48≤byt s j∧byt s j≤57) (hend:e=s.size∨(e<s.size∧(byt s e<48∨57<byt s e)))
  (hef:e<s.size→e+1≤f∧f≤s.size) (hdf:∀ j,e+1≤j→j<f→48≤byt s j∧byt s j≤57) (hfd:f<s.size→byt s f<48∨57<byt s f) (u:Rat)
  (hu1:e=s.size→(((pvr s b (e - b):Nat):Int):Rat)=u) (hu2:e<s.size→f=s.size→(((pvr s b (e - b):Nat):Int):Rat)+(((pvr s (e+1) (s.size - (e+1)):Nat):Int):Rat)*(1 / 10:Rat) ^ (s.size - (e+1))=u) :
  (isA s b e→(0:Rat)=dnum s∧(4:Int)=qg0 s)∧(e<s.size→(byt s e≠46∨e+1=s.size)→(0:Rat)=dnum s∧(4:Int)=qg0 s)∧(e<s.size→f<s.size→(0:Rat)=dnum s∧(4:Int)=qg0 s) ∧
  (¬ isA s b e→(e<s.size→¬ (byt s e≠46∨e+1=s.size)∧¬ f<s.size)→(ineg s=true→u=0→(0:Rat)=dnum s∧(4:Int)=qg0 s)∧(¬ (ineg s=true∧u=0)→(if ineg s then -u else u)=dnum s∧(0:Int)=qg0 s)):=by
 have tsz:(idig s).size=s.size - b:=by
  rcases hb with ⟨h,hn⟩|⟨h,hn⟩
  ·rw [qN2 hn,qA7 _ _ _ (Nat.le_refl _),h]
  rw [qN3 hn,h];omega
 have tb:∀ i,i<s.size - b→byt (idig s) i=byt s (b+i):=fun i hi=>by
  rcases hb with ⟨h,hn⟩|⟨h,hn⟩
  ·rw [qN2 hn,qH_ _ _ _ _ om (Nat.le_refl _),h]
  rw [qN3 hn,h,Nat.zero_add]
 obtain ⟨k,k1,k2,k3,k4,k5⟩:=qY1 (idig s)
 have hA:dup (idig s)=dA s:=rfl
 have hB:ddn (idig s)=dB s:=rfl
 rw [hA] at k1 k3
 rw [hB] at k5
 rw [tsz] at k2 k5
 have hAb:∀ i,i<k→byt (dA s) i=byt s (b+i):=fun i hi=>by rw [k3 i hi,tb i om]
 have hne:∀ i,i<k→byt s (b+i)≠46:=fun i hi=>by rw [← tb i om];exact k4 i hi
 have hge:e - b≤k:=by
  rcases Nat.lt_or_ge k (e - b) with h|h
  ·exfalso
   rcases k5 with ⟨a1,a2,_⟩|⟨a1,_⟩
   ·rw [tb k om] at a2
    have:=hdg (b+k) om om
    omega
   omega
  exact h
 have nogood:e<s.size→¬ k=e - b→¬ qm2 (dA s):=fun hen hk g=>by
  have h1:=g.2.2 (e - b) (by rw [k1];omega)
  rw [hAb (e - b) om,show b+(e - b)=e by omega] at h1
  rcases hend with h|⟨_,h|h⟩ <;> omega
 have hO0:=(xc4 (dB s)).1
 have hO1:=(xc4 (dB s)).2
 have hOe:(⟨#[49]⟩:ByteArray) ++ dB s=dO s:=rfl
 rw [hOe] at hO0
 rw [hOe] at hO1
 have hOs:(dO s).size=1+(dB s).size:=by unfold dO;rw [ql7];rfl
 refine ⟨?_,?_,?_,?_⟩
 ·intro h
  refine qR4 hs (.inl fun g=>?_)
  rcases h with h|⟨h,h2⟩
  ·have g1:=g.1
   rw [k1] at g1
   have g2:=g.2.2 0 (by rw [k1];exact g1)
   rw [hAb 0 g1,Nat.add_zero] at g2
   rcases hend with h9|⟨_,h9|h9⟩
   ·omega
   ·rw [h] at h9;omega
   rw [h] at h9;omega
  have g1:=g.2.1 (by rw [hAb 0 om];exact h)
  rw [k1] at g1
  omega
 ·intro hen hC
  by_cases hk:k=e - b
  ·rcases k5 with ⟨a1,a2,a3,a4,a5⟩|⟨a1,_⟩
   ·rw [tb k om,hk,show b+(e - b)=e by omega] at a2
    refine qR4 hs (.inr (.inr (.inl ?_)))
    have hz:(dB s).size=0:=by rcases hC with h|h;exact absurd a2 h;omega
    unfold dM
    rw [a3,qi7,decide_eq_true hz];rfl
   omega
  exact qR4 hs (.inl (nogood hen hk))
 ·intro hen hf
  by_cases hk:k=e - b
  ·rcases k5 with ⟨a1,a2,a3,a4,a5⟩|⟨a1,_⟩
   ·have hef':=hef hen
    refine qR4 hs (.inr (.inl fun g=>?_))
    have g1:=g.2.2 (1+(f - (e+1))) (by rw [hOs,a4];omega)
    rw [hO1,a5 _ om,tb _ om,show b+(k+1+(f - (e+1)))=f by omega] at g1
    rcases hfd hf with h|h <;> omega
   omega
  exact qR4 hs (.inl (nogood hen hk))
 intro hnA hC
 have hk:k=e - b:=by
  rcases hend with h|⟨h,_⟩
  ·omega
  have h1:=(hC h).1
  have h2:byt s e=46:=by
   rcases Nat.decEq (byt s e) 46 with d|d
   ·exact absurd (.inl d) h1
   exact d
  rcases Nat.lt_or_ge (e - b) k with h3|h3
  ·have:=hne (e - b) h3
   rw [show b+(e - b)=e by omega] at this
   exact absurd h2 this
  omega
 have hbe1:b<e:=by
  rcases Nat.lt_or_ge b e with h|h
  ·exact h
  exact absurd (.inl om) hnA
 have gA:qm2 (dA s):=by
  refine ⟨by rw [k1];omega,fun h=>?_,fun i hi=>?_⟩
  ·rw [hAb 0 om,Nat.add_zero] at h
   rw [k1]
   rcases Nat.lt_or_ge (b+1) e with h2|h2
   ·exact absurd (.inr ⟨h,h2⟩) hnA
   omega
  rw [k1] at hi
  rw [hAb i hi]
  exact hdg _ om om
 have h1:=qj_ s
 have h2:=qp4 (idig s)
 have h3:=qp0 (idig s)
 have sA:(dA s).size≤4096:=by unfold dA;omega
 have sO:(dO s).size≤4096:=by rw [hOs];unfold dB;omega
 have pA:pnum (dA s)=pvr s b (e - b):=by
  rw [xd0 sA gA,k1,hk]
  exact qq2 _ (fun i hi=>by rw [Nat.zero_add];exact hAb i om)
 have key:qm2 (dO s)∧dM s=false∧(((pvr s b (e - b):Nat):Int):Rat)+(((pvr (dB s) 0 (dB s).size:Nat):Int):Rat)*(1 / 10:Rat) ^ (dB s).size=u:=by
  rcases k5 with ⟨a1,a2,a3,a4,a5⟩|⟨a1,a2,a3⟩
  ·have hen:e<s.size:=by omega
   obtain ⟨c1,c2⟩:=hC hen
   have hef':=hef hen
   have hm:(dB s).size=s.size - (e+1):=by rw [a4];omega
   have hBb:∀ i,i<(dB s).size→byt (dB s) i=byt s (e+1+i):=fun i hi=>by rw [a5 i om,tb _ om,show b+(k+1+i)=e+1+i by omega]
   refine ⟨⟨by rw [hOs];omega,fun h=>by rw [hO0] at h;exact absurd h (by decide),fun i hi=>?_⟩,?_,?_⟩
   ·rcases i with _|i
    ·rw [hO0];decide
    rw [hOs] at hi
    rw [Nat.add_comm i 1,hO1,hBb i om]
    exact hdf _ om om
   ·unfold dM
    have hz:¬ (dB s).size=0:=fun h=>c1 (.inr om)
    rw [a3,qi7,decide_eq_false hz];rfl
   rw [← hu2 hen om,hm]
   have:pvr (dB s) 0 (s.size - (e+1))=pvr s (e+1) (s.size - (e+1)):=qq2 _ (fun i hi=>by rw [Nat.zero_add];exact hBb i om)
   rw [this]
  have hen:e=s.size:=by omega
  refine ⟨⟨by rw [hOs];omega,fun h=>by rw [hO0] at h;exact absurd h (by decide),fun i hi=>?_⟩,?_,?_⟩
  ·rcases i with _|i
   ·rw [hO0];decide
   rw [hOs] at hi;omega
  ·unfold dM
   rw [a2,qi7,decide_eq_true a3];rfl
  rw [← hu1 hen,a3]
  show _+((0:Int):Rat)*(1 / 10:Rat) ^ 0=_
  rw [Rat.pow_zero,Rat.mul_one]
  exact Rat.add_zero _
 obtain ⟨gO,mO,hu⟩:=key
 have pO:pnum (dO s)=10 ^ (dB s).size+pvr (dB s) 0 (dB s).size:=by
  rw [xd0 sO gO,hOs,xd2]
  have e1:pvr (dO s) 0 1=1:=by show 10*0+(byt (dO s) (0+0) - 48)=1;rw [hO0]
  rw [e1,Nat.one_mul]
  congr 1
  exact qq2 _ (fun i hi=>by rw [Nat.zero_add,Nat.zero_add];exact hO1 i)
 have I:dK s=pvr s b (e - b)*10 ^ (dB s).size+pvr (dB s) 0 (dB s).size:=by unfold dK;rw [pA,pO];omega
 have hmk:=mk_u hu I
 have hu0:u=0 ↔ dK s=0:=by
  rw [← hmk,Rat.mkRat_eq_zero (Nat.pos_iff_ne_zero.1 (Nat.pow_pos (by decide)))]
  omega
 constructor
 ·intro hn h0
  exact qR4 hs (.inr (.inr (.inr ⟨hn,hu0.1 h0⟩)))
 intro hn
 obtain ⟨r1,r2⟩:=xO6 hs gA gO mO (fun h=>hn ⟨h.1,hu0.2 h.2⟩)
 refine ⟨?_,r2⟩
 rw [← r1]
 unfold dZ
 rw [← hmk]
 rcases hb with ⟨_,hi⟩|⟨_,hi⟩
 ·rw [hi,if_pos rfl,if_pos rfl,Rat.neg_mkRat]
 rw [hi,if_neg (by decide),if_neg (by decide)]
theorem xp0 (s:ByteArray) (z:Rat) (c:Int) (w:World) (hs:s.size≤100) (hz:dnum s=z) (hc:qg0 s=c) :
  Calls Tryz.prog 65 #[.string s] w fun e w'=>(∃ r1 r2:Value,e=.returned (.tuple #[(.agg #[.bool (decide (z.num<0)),r1,r2]),.int .i64 c])∧Rn w' r1 z.num.natAbs∧Rn w' r2 (z.den - 1))∧Gr w w':=by
 subst hz hc
 have main:∀ b,((b=1∧ineg s=true)∨(b=0∧ineg s=false))→b≤s.size→∃ e f,b≤e∧e≤s.size∧(∀ j,b≤j→j<e→48≤byt s j∧byt s j≤57)∧(e=s.size∨(e<s.size∧(byt s e<48∨57<byt s e)))∧(e<s.size→e+1≤f∧f≤s.size)∧(∀ j,e+1≤j→j<f→48≤byt s j∧byt s j≤57)∧(f<s.size→byt s f<48∨57<byt s f):=fun b _ hbn=>by
  obtain ⟨e,h1,h2,h3,h4⟩:=qA_ s s.size _ b rfl hbn
  rcases h4 with h4|⟨h4,h5⟩
  ·exact ⟨e,s.size,h1,h2,h3,.inl h4,fun h=>by omega,fun j j1 j2=>by omega,fun h=>by omega⟩
  obtain ⟨f,f1,f2,f3,f4⟩:=qA_ s s.size _ (e+1) rfl om
  exact ⟨e,f,h1,h2,h3,.inr ⟨h4,h5⟩,fun _=>⟨f1,f2⟩,f3,fun h=>by rcases f4 with f4|⟨_,f4⟩; omega;exact f4⟩
 have hNG:(ineg s=true∧0<s.size∧byt s 0=45)∨(ineg s=false∧s.size=0)∨(ineg s=false∧0<s.size∧byt s 0≠45):=by
  rcases hi:ineg s with _|_
  ·right
   rcases Nat.eq_zero_or_pos s.size with h|h
   ·exact .inl ⟨rfl,h⟩
   exact .inr ⟨rfl,h,fun e=>by have:=(qN5 s).2 ⟨h,e⟩; rw [hi] at this;cases this⟩
  obtain ⟨a,b⟩:=(qN5 s).1 hi
  exact .inl ⟨rfl,a,b⟩
 obtain ⟨b,hb,hbn,hb1⟩:∃ b,((b=1∧ineg s=true)∨(b=0∧ineg s=false))∧b≤s.size∧b≤1:=by
  rcases hNG with ⟨a,h,_⟩|⟨a,_⟩|⟨a,_⟩
  ·exact ⟨1,.inl ⟨rfl,a⟩,h,Nat.le_refl _⟩
  ·exact ⟨0,.inr ⟨rfl,a⟩,Nat.zero_le _,by decide⟩
  exact ⟨0,.inr ⟨rfl,a⟩,Nat.zero_le _,by decide⟩
 obtain ⟨e,f,a1,a2,a3,a4,a5,a6,a7⟩:=main b hb hbn
 obtain ⟨u,hu1,hu2⟩:∃ u:Rat,(e=s.size→(((pvr s b (e - b):Nat):Int):Rat)=u)∧(e<s.size→f=s.size→(((pvr s b (e - b):Nat):Int):Rat)+(((pvr s (e+1) (s.size - (e+1)):Nat):Int):Rat)*(1 / 10:Rat) ^ (s.size - (e+1))=u):=by
  by_cases h:e=s.size
  ·exact ⟨_,fun _=>rfl,fun h2=>by omega⟩
  exact ⟨_,fun h2=>absurd h2 h,fun _ _=>rfl⟩
 obtain ⟨b1,b2,b3,b4⟩:=xI9 s hs b e f hb a1 a2 a3 a4 a5 a6 a7 u hu1 hu2
 exact xp1 s (ineg s) b e f u _ _ w hs hb1 a1 a2 (hb.elim (fun h=>.inl ⟨h.2,h.1⟩) (fun h=>.inr ⟨h.2,h.1⟩)) (lh_ hNG) (lh_ a3) (lh_ a4) (lh_ a5) (lh_ a6) (lh_ a7) (lh_ b1) (lh_ b2) (lh_ b3) (lh_ hu1) (lh_ hu2) (lh_ (fun h1 h2 h3 h4=>(b4 h1 h2).1 h3 h4)) (lh_ (fun h1 h2 h3=>(b4 h1 h2).2 h3))
end Go.Proofs.YtobojnodohjiaaaGreatDoor
