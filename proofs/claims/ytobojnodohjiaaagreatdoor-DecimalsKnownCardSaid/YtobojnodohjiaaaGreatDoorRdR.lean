
/- gussetref04.Parse. -/
import Derived.Test.YtobojnodohjiaaaGreatDoorPT
import Derived.Test.YtobojnodohjiaaaGreatDoorPN
import Derived.Test.YtobojnodohjiaaaGreatDoorPP
import Derived.Test.YtobojnodohjiaaaGreatDoorFieldP
set_option maxRecDepth 100000
set_option maxHeartbeats 16000000
set_option linter.unusedVariables false
set_option linter.unusedSimpArgs false
namespace Go.Proofs.YtobojnodohjiaaaGreatDoor
open Go.RowKit
attribute [local go_sem ↓] Go.wp_at_zero Go.wp_at_succ
attribute [local go_sem ↓] eq_nat eq_nat_zero eq_int
theorem qQ0 (n:Int):IntKind.u8.wrap n=n % 256:=rfl
theorem xs9 {s:ByteArray} {a k:Nat} (hk:k≤100) (h:∀ j,j<k→byt s (a+j)≤57):rz (((pvr s a k:Nat):Int):Rat)≤40:=by
 have h1:=xd3 s a k h
 refine qo3 ?_ (Nat.le_trans (qc0.2 (by decide +kernel):tw 1≤1) (by decide))
 show tw (Int.natAbs ((pvr s a k:Nat):Int))≤40
 rw [Int.natAbs_natCast]
 exact Nat.le_trans (qc2 (Nat.le_of_lt (Nat.lt_of_lt_of_le h1 (Nat.pow_le_pow_right (by decide) hk)))) (qc0.2 (by decide +kernel))
theorem xp2 {k:Nat} (h:k≤100):rz ((1 / 10:Rat) ^ k)≤30:=by
 refine qo3 ?_ ?_
 ·rw [Rat.num_pow,show (1 / 10:Rat).num=1 from by decide +kernel,Int.one_pow];exact qc0.2 (by decide +kernel)
 rw [Rat.den_pow,show (1 / 10:Rat).den=10 from by decide +kernel]
 exact Nat.le_trans (qc2 (Nat.pow_le_pow_right (by decide) h)) (qc0.2 (by decide +kernel))
theorem xJ5 {q m sc:Rat} (h1:rz q≤40) (h2:rz m≤40) (h3:rz sc≤30):rz (q+m*sc)≤120:=by
 have e1:=qP4 q (m*sc)
 have e2:=qn4 m sc
 omega
theorem qF5 (s:ByteArray) {b i:Nat} (h:b≤i):(((pvr s b (i+1 - b):Nat):Int):Rat)=(((pvr s b (i - b):Nat):Int):Rat)*(10:Rat)+((((byt s i - 48:Nat):Int)):Rat):=by
 have e1:i+1 - b=(i - b)+1:=by omega
 have e2:b+(i - b)=i:=by omega
 rw [e1]
 show (((10*pvr s b (i - b)+(byt s (b+(i - b)) - 48):Nat):Int):Rat)=_
 rw [e2,Int.natCast_add,Rat.intCast_add,Int.natCast_mul,Rat.intCast_mul,Rat.mul_comm];rfl
theorem qV0 {i e:Nat} (h:e+1≤i):(1 / 10:Rat) ^ (i+1 - (e+1))=(1 / 10:Rat) ^ (i - (e+1)) / (10:Rat):=by
 have e1:i+1 - (e+1)=(i - (e+1))+1:=by omega
 rw [e1,Rat.pow_succ]
 generalize (1 / 10:Rat) ^ (i - (e+1))=x
 grind
theorem qZ0 (s:ByteArray) {i e:Nat} {q sc:Rat} (h:e+1≤i):q+(((pvr s (e+1) (i+1 - (e+1)):Nat):Int):Rat)*(sc / (10:Rat))=q+(((pvr s (e+1) (i - (e+1)):Nat):Int):Rat)*sc+sc / (10:Rat)*((((byt s i - 48:Nat):Int)):Rat):=by
 rw [qF5 s h]
 grind
theorem xp1 (s:ByteArray) (ng:Bool) (b e f:Nat) (u z:Rat) (c:Int) (w:World) (hn:s.size≤100) (hb1:b≤1) (hbe:b≤e) (hes:e≤s.size) (hbn:(ng=true∧b=1)∨(ng=false∧b=0)) (HNG:Hid ((ng=true∧0<s.size∧byt s 0=45)∨(ng=false∧s.size=0)∨(ng=false∧0<s.size∧byt s 0≠45))) (HDG:Hid (∀ j,b≤j→j<e→48≤byt s j∧byt s j≤57)) (HEND:Hid (e=s.size∨(e<s.size∧(byt s e<48∨57<byt s e)))) (HEF:Hid (e<s.size→e+1≤f∧f≤s.size)) (HDF:Hid (∀ j,e+1≤j→j<f→48≤byt s j∧byt s j≤57)) (HFD:Hid (f<s.size→byt s f<48∨57<byt s f)) (HB1:Hid ((e=b∨(byt s b=48∧b+1<e))→(0:Rat)=z∧(4:Int)=c)) (HB2:Hid (e<s.size→(byt s e≠46∨e+1=s.size)→(0:Rat)=z∧(4:Int)=c)) (HB3:Hid (e<s.size→f<s.size→(0:Rat)=z∧(4:Int)=c)) (HVN:Hid (e=s.size→(((pvr s b (e - b):Nat):Int):Rat)=u)) (HVP:Hid (e<s.size→f=s.size→(((pvr s b (e - b):Nat):Int):Rat)+(((pvr s (e+1) (s.size - (e+1)):Nat):Int):Rat)*(1 / 10:Rat) ^ (s.size - (e+1))=u)) (HB4:Hid (¬ (e=b∨(byt s b=48∧b+1<e))→(e<s.size→¬ (byt s e≠46∨e+1=s.size)∧¬ f<s.size)→ng=true→u=0→(0:Rat)=z∧(4:Int)=c)) (HOK:Hid (¬ (e=b∨(byt s b=48∧b+1<e))→(e<s.size→¬ (byt s e≠46∨e+1=s.size)∧¬ f<s.size)→¬ (ng=true∧u=0)→(if ng then -u else u)=z∧(0:Int)=c))  :
  Calls Tryz.prog 65 #[.string s] w fun e w'=>(∃ r1 r2:Value,e=.returned (.tuple #[(.agg #[.bool (decide (z.num<0)),r1,r2]),.int .i64 c])∧Rn w' r1 z.num.natAbs∧Rn w' r2 (z.den - 1))∧Gr w w':=by
 go_enter Tryz.func65,Tryz.ntmps65
 have I:=lh_ (hp0 w)
 refine kSl fun K O=>?_;go_wp2
 refine kF_ O (al1_ I) fun Wx0 J=>?_;clear O K
 clear I;have I:=J;clear J
 refine kSl fun K O=>?_;go_wp2
 refine kF_ O ((I.out).aL (Wx0.heap.size)) fun Wx1 J=>?_;clear O K
 clear I;have I:=J;clear J
 generalize Wx0.heap.size=gx1 at *
 refine wp_seq ?_
 have hk4:¬ (4096:Int)<(s.size:Int):=by omega
 refine ks3_ fun K O T Y=>?_
 refine tk3_ ?_
 refine nz Y I O ?_;clear Y T I O K;intro vw1 I
 clear hk4
 refine wp_cond_false (by rfl) ?_
 refine wp_skip ?_
 show Code.wp _ _ _ _ _
 refine kSl fun K O=>?_;go_wp2
 refine kF_ O (I.out) fun Wx4 J=>?_;clear O K
 clear I;have I:=J;clear J
 refine kS fun K O=>?_
 suffices HJ:Hid (∀ (g1 g7 g8 g9 g10 g11 g12 g13 g14 g15 g16 g17 g18 g19 g20 g21 g22 g23 g24 g25 g26 g27 g28 g29 g30 g31 g32 g33 g34 g35 g36 g37 g38 g39 g40 g41 g42 g43 g44 g45 g46 g47 g48 g49 g50 g51 g52 g53 g54 g55 g56 g57 g58 g59 g60 g61 g62 g63 g64 g65 g66 g67 g68 g69 g70 g71 g72 g73 g74 g75 g76 g77 g78 g79 g80 g81 g82 g83 g84 g85 g86 g87 g88 g89 g90 g91 g92 g93 g94 g95 g96 g97 g98 g99 g100 g101 g102 g103 g104 g105 g106 g107 g108 g109 g110 g111 g112 g113 g114 g115 g116 g117 g118 g119 g120 g121 g122 g123 g124 g125 g126 g127 g128:Value),K { tmps:=#[.string s,g1,.pointer (some ⟨w.heap.size,0,none⟩),.int .i64 0,.pointer (some ⟨gx1,0,none⟩),.int .i64 0,.bool ng,g7,g8,g9,g10,g11,g12,g13,g14,g15,g16,g17,g18,g19,g20,g21,g22,g23,g24,g25,g26,g27,g28,g29,g30,g31,g32,g33,g34,g35,g36,g37,g38,g39,g40,g41,g42,g43,g44,g45,g46,g47,g48,g49,g50,g51,g52,g53,g54,g55,g56,g57,g58,g59,g60,g61,g62,g63,g64,g65,g66,g67,g68,g69,g70,g71,g72,g73,g74,g75,g76,g77,g78,g79,g80,g81,g82,g83,g84,g85,g86,g87,g88,g89,g90,g91,g92,g93,g94,g95,g96,g97,g98,g99,g100,g101,g102,g103,g104,g105,g106,g107,g108,g109,g110,g111,g112,g113,g114,g115,g116,g117,g118,g119,g120,g121,g122,g123,g124,g125,g126,g127,g128],defers:=[] } Wx4) by
  rcases HNG.out with ⟨rfl,h0,hb0⟩|⟨rfl,h9⟩|⟨rfl,h9,hb0⟩
  ·have hk0:(0:Int)<(s.size:Int):=by omega
   have hk9:0<s.size:=h0
   have hk1:(s[0]'h0).toNat=45:=by rw [qe4 h0];exact hb0
   go_wp2
   exact HJ.out _ _ _ _ _ _ _ _ _ _ _ _ _ _ _ _ _ _ _ _ _ _ _ _ _ _ _ _ _ _ _ _ _ _ _ _ _ _ _ _ _ _ _ _ _ _ _ _ _ _ _ _ _ _ _ _ _ _ _ _ _ _ _ _ _ _ _ _ _ _ _ _ _ _ _ _ _ _ _ _ _ _ _ _ _ _ _ _ _ _ _ _ _ _ _ _ _ _ _ _ _ _ _ _ _ _ _ _ _ _ _ _ _ _ _ _ _ _ _ _ _ _ _
  ·have hk0:¬ (0:Int)<(s.size:Int):=by omega
   have hk9:¬ 0<s.size:=by omega
   go_wp2
   exact HJ.out _ _ _ _ _ _ _ _ _ _ _ _ _ _ _ _ _ _ _ _ _ _ _ _ _ _ _ _ _ _ _ _ _ _ _ _ _ _ _ _ _ _ _ _ _ _ _ _ _ _ _ _ _ _ _ _ _ _ _ _ _ _ _ _ _ _ _ _ _ _ _ _ _ _ _ _ _ _ _ _ _ _ _ _ _ _ _ _ _ _ _ _ _ _ _ _ _ _ _ _ _ _ _ _ _ _ _ _ _ _ _ _ _ _ _ _ _ _ _ _ _ _ _
  have hk0:(0:Int)<(s.size:Int):=by omega
  obtain ⟨y,hy⟩:∃ y,(s[0]'h9).toNat=y:=⟨_,rfl⟩
  have hyb:byt s 0=y:=by rw [← hy,qe4 h9]
  have hk1:¬ (y:Int)=45:=by omega
  have hk2:¬ y=45:=by omega
  have hkb:((y:Int) == 45)=false:=by rw [beq_eq_false_iff_ne];omega
  go_wp2
  exact HJ.out _ _ _ _ _ _ _ _ _ _ _ _ _ _ _ _ _ _ _ _ _ _ _ _ _ _ _ _ _ _ _ _ _ _ _ _ _ _ _ _ _ _ _ _ _ _ _ _ _ _ _ _ _ _ _ _ _ _ _ _ _ _ _ _ _ _ _ _ _ _ _ _ _ _ _ _ _ _ _ _ _ _ _ _ _ _ _ _ _ _ _ _ _ _ _ _ _ _ _ _ _ _ _ _ _ _ _ _ _ _ _ _ _ _ _ _ _ _ _ _ _ _ _
 refine lh_ ?_
 intro g1 g7 g8 g9 g10 g11 g12 g13 g14 g15 g16 g17 g18 g19 g20 g21 g22 g23 g24 g25 g26 g27 g28 g29 g30 g31 g32 g33 g34 g35 g36 g37 g38 g39 g40 g41 g42 g43 g44 g45 g46 g47 g48 g49 g50 g51 g52 g53 g54 g55 g56 g57 g58 g59 g60 g61 g62 g63 g64 g65 g66 g67 g68 g69 g70 g71 g72 g73 g74 g75 g76 g77 g78 g79 g80 g81 g82 g83 g84 g85 g86 g87 g88 g89 g90 g91 g92 g93 g94 g95 g96 g97 g98 g99 g100 g101 g102 g103 g104 g105 g106 g107 g108 g109 g110 g111 g112 g113 g114 g115 g116 g117 g118 g119 g120 g121 g122 g123 g124 g125 g126 g127 g128
 refine kO O ?_;clear O K
 refine wp_seq ?_
 refine ks1_ fun K O T Y=>?_
 refine tk ?_
 refine nz Y I O ?_;clear Y T I O K;intro vw2 I
 refine kL fun K O=>?_
 suffices HJ:Hid (∀ (g1 g7 g8 g9 g10 g11 g12 g13 g14 g15 g16 g17 g18 g19 g20 g21 g22 g23 g24 g25 g26 g27 g28 g29 g30 g31 g32 g33 g34 g35 g36 g37 g38 g39 g40 g41 g42 g43 g44 g45 g46 g47 g48 g49 g50 g51 g52 g53 g54 g55 g56 g57 g58 g59 g60 g61 g62 g63 g64 g65 g66 g67 g68 g69 g70 g71 g72 g73 g74 g75 g76 g77 g78 g79 g80 g81 g82 g83 g84 g85 g86 g87 g88 g89 g90 g91 g92 g93 g94 g95 g96 g97 g98 g99 g100 g101 g102 g103 g104 g105 g106 g107 g108 g109 g110 g111 g112 g113 g114 g115 g116 g117 g118 g119 g120 g121 g122 g123 g124 g125 g126 g127 g128:Value),K { tmps:=#[.string s,g1,.pointer (some ⟨w.heap.size,0,none⟩),.int .i64 0,.pointer (some ⟨gx1,0,none⟩),.int .i64 (b:Int),.bool ng,g7,g8,g9,g10,g11,g12,g13,g14,g15,g16,g17,g18,g19,g20,g21,g22,g23,g24,g25,g26,g27,g28,g29,g30,g31,g32,g33,g34,g35,g36,g37,g38,g39,g40,g41,g42,g43,g44,g45,g46,g47,g48,g49,g50,g51,g52,g53,g54,g55,g56,g57,g58,g59,g60,g61,g62,g63,g64,g65,g66,g67,g68,g69,g70,g71,g72,g73,g74,g75,g76,g77,g78,g79,g80,g81,g82,g83,g84,g85,g86,g87,g88,g89,g90,g91,g92,g93,g94,g95,g96,g97,g98,g99,g100,g101,g102,g103,g104,g105,g106,g107,g108,g109,g110,g111,g112,g113,g114,g115,g116,g117,g118,g119,g120,g121,g122,g123,g124,g125,g126,g127,g128],defers:=[] } vw2) by
  rcases hbn with ⟨rfl,rfl⟩|⟨rfl,rfl⟩
  ·refine wp_cond_true (by rfl) ?_
   go_wp2
   exact HJ.out _ _ _ _ _ _ _ _ _ _ _ _ _ _ _ _ _ _ _ _ _ _ _ _ _ _ _ _ _ _ _ _ _ _ _ _ _ _ _ _ _ _ _ _ _ _ _ _ _ _ _ _ _ _ _ _ _ _ _ _ _ _ _ _ _ _ _ _ _ _ _ _ _ _ _ _ _ _ _ _ _ _ _ _ _ _ _ _ _ _ _ _ _ _ _ _ _ _ _ _ _ _ _ _ _ _ _ _ _ _ _ _ _ _ _ _ _ _ _ _ _ _ _
  refine wp_cond_false (by rfl) ?_
  refine wp_skip ?_
  exact HJ.out _ _ _ _ _ _ _ _ _ _ _ _ _ _ _ _ _ _ _ _ _ _ _ _ _ _ _ _ _ _ _ _ _ _ _ _ _ _ _ _ _ _ _ _ _ _ _ _ _ _ _ _ _ _ _ _ _ _ _ _ _ _ _ _ _ _ _ _ _ _ _ _ _ _ _ _ _ _ _ _ _ _ _ _ _ _ _ _ _ _ _ _ _ _ _ _ _ _ _ _ _ _ _ _ _ _ _ _ _ _ _ _ _ _ _ _ _ _ _ _ _ _ _
 refine lh_ ?_
 intro g1 g7 g8 g9 g10 g11 g12 g13 g14 g15 g16 g17 g18 g19 g20 g21 g22 g23 g24 g25 g26 g27 g28 g29 g30 g31 g32 g33 g34 g35 g36 g37 g38 g39 g40 g41 g42 g43 g44 g45 g46 g47 g48 g49 g50 g51 g52 g53 g54 g55 g56 g57 g58 g59 g60 g61 g62 g63 g64 g65 g66 g67 g68 g69 g70 g71 g72 g73 g74 g75 g76 g77 g78 g79 g80 g81 g82 g83 g84 g85 g86 g87 g88 g89 g90 g91 g92 g93 g94 g95 g96 g97 g98 g99 g100 g101 g102 g103 g104 g105 g106 g107 g108 g109 g110 g111 g112 g113 g114 g115 g116 g117 g118 g119 g120 g121 g122 g123 g124 g125 g126 g127 g128
 refine kO O ?_;clear O K
 refine ks2_ fun K O T Y=>?_
 refine tk2_ ?_
 refine nz Y I O ?_;clear Y T I O K;intro vw3 I
 have HZ1:Hid (((0:Int):Rat)=(0:Rat)):=lh_ (by decide +kernel)
 have su1:rz ((0:Rat))≤5:=qo3 (qc0.2 (by decide +kernel)) (qc0.2 (by decide +kernel))
 refine kS fun K O=>?_
 have HG0:Hid (Gr vw3 vw3):=lh_ (Gr.refl _)
 refine qC7 fun T Y=>?_
 refine ce2 Tryz.call173 HG0 (fun w' hw=>qg3 (0) (0:Rat) _ HZ1.out om om) ?_;clear HG0;intro vv3 HG0 _ ao1 nn1 cc1 ao2 nn2 cc2 RN3 RN4
 refine qa0 (Y.out _ _ ?_)
 intro vw4 hg
 simp only [puts,Act.put,lA,lB,lC,lD,lE,↓reduceIte,Nat.reduceEqDiff]
 have J:=lh_ (((I.out.gr (HG0.out.trans hg)).ar (RN3.out.gr hg)).ar (RN4.out.gr hg))
 simp only [zq1_,zq2_,zq3_,zq4_,lF,lG] at J
 clear Y T I hg HG0 RN3 RN4
 go_wp2
 refine kF_ O ((J.out).aL (vw4.heap.size)) fun Wx9 I=>?_;clear O K
 clear J
 generalize vw4.heap.size=gx5 at *
 refine wp_seq ?_
 refine wp_block ?_
 replace I:=lh_ ((I.out.er 2).ar (I.out.rn 2 rfl))
 simp only [List.eraseIdx_cons_zero,List.eraseIdx_cons_succ,List.cons_append,List.nil_append] at I
 replace I:=lh_ ((I.out.er 2).ar (I.out.rn 2 rfl))
 simp only [List.eraseIdx_cons_zero,List.eraseIdx_cons_succ,List.cons_append,List.nil_append] at I
 go_loopg [5] (e - b) (fun kk iv wr=>∃ (i:Nat) (q:Rat) (vA1 vA2:Value),iv=.int .i64 (i:Int)∧i+kk=e∧b≤i∧Hid ((((pvr s b (i - b):Nat):Int):Rat)=q)∧Hid (HP w wr [Sum.inl (w.heap.size,47,#[.bool false,.slice none 0 0,.slice none 0 0]),Sum.inl (gx1,47,#[.bool false,.slice none 0 0,.slice none 0 0]),Sum.inl (gx5,47,#[.bool (decide (q.num<0)),vA1,vA2]),Sum.inr (vA1,Int.natAbs (q.num)),Sum.inr (vA2,q.den - 1)]))
 case atStart=>exact ⟨b,0,_,_,rfl,by omega,Nat.le_refl _,lh_ (by rw [Nat.sub_self];rfl),I⟩
 case round =>
  rename_i J_ K_ hj1_ hj0_
  clear I
  obtain ⟨i,q,vA1,vA2,rfl,hie,hbi,HQ,I⟩:=hrel
  obtain ⟨aoA1,nnA1,ccA1,rfl⟩:=Rn.sl (I.out.rn 3 rfl)
  obtain ⟨aoA2,nnA2,ccA2,rfl⟩:=Rn.sl (I.out.rn 4 rfl)
  have hsq:rz q≤40:=by rw [← HQ.out];exact xs9 om (fun j hj=>by have:=(HDG.out (b+j) om om).2;omega)
  rcases gk with _|kk
  ·obtain rfl:e=i:=by omega
   by_cases hA:e=b∨(byt s b=48∧b+1<e)
   ·have HA:=lh_ hA
    obtain ⟨rfl,rfl⟩:=HB1.out hA
    clear hA
    refine wp_seq ?_
    refine kS fun K O=>?_
    suffices HJ:Hid (∀ (b9:Bool) (g1 g9 g10 g11 g12 g13 g14 g15 g16 g17 g18 g19 g20 g21 g22 g23 g24 g25 g26 g27 g28 g29 g30 g31 g32 g33 g34 g35 g36 g37 g38 g39 g41 g42 g43 g44 g45 g46 g47 g48 g49 g50 g51 g52 g53 g54 g55 g56 g57 g58 g59 g60 g61 g62 g63 g64 g65 g66 g67 g68 g69 g70 g71 g72 g73 g74 g75 g76 g77 g78 g79 g80 g81 g82 g83 g84 g85 g86 g87 g88 g89 g90 g91 g92 g93 g94 g95 g96 g97 g98 g99 g100 g101 g102 g103 g104 g105 g106 g107 g108 g109 g110 g111 g112 g113 g114 g115 g116 g117 g118 g119 g120 g121 g122 g123 g124 g125 g126 g127 g128:Value),b9=false→K { tmps:=#[.string s,g1,.pointer (some ⟨w.heap.size,0,none⟩),.int .i64 0,.pointer (some ⟨gx1,0,none⟩),.int .i64 ((e:Int)),.bool ng,.int .i64 ((b:Int)),.pointer (some ⟨gx5,0,none⟩),g9,g10,g11,g12,g13,g14,g15,g16,g17,g18,g19,g20,g21,g22,g23,g24,g25,g26,g27,g28,g29,g30,g31,g32,g33,g34,g35,g36,g37,g38,g39,.bool b9,g41,g42,g43,g44,g45,g46,g47,g48,g49,g50,g51,g52,g53,g54,g55,g56,g57,g58,g59,g60,g61,g62,g63,g64,g65,g66,g67,g68,g69,g70,g71,g72,g73,g74,g75,g76,g77,g78,g79,g80,g81,g82,g83,g84,g85,g86,g87,g88,g89,g90,g91,g92,g93,g94,g95,g96,g97,g98,g99,g100,g101,g102,g103,g104,g105,g106,g107,g108,g109,g110,g111,g112,g113,g114,g115,g116,g117,g118,g119,g120,g121,g122,g123,g124,g125,g126,g127,g128],defers:=[] } wr) by
     rcases HEND.out with h9|⟨h8,h9|h9⟩
     ·have hk0:¬ (e:Int)<(s.size:Int):=by omega
      clear h9
      go_wp2
      exact HJ.out _ _ _ _ _ _ _ _ _ _ _ _ _ _ _ _ _ _ _ _ _ _ _ _ _ _ _ _ _ _ _ _ _ _ _ _ _ _ _ _ _ _ _ _ _ _ _ _ _ _ _ _ _ _ _ _ _ _ _ _ _ _ _ _ _ _ _ _ _ _ _ _ _ _ _ _ _ _ _ _ _ _ _ _ _ _ _ _ _ _ _ _ _ _ _ _ _ _ _ _ _ _ _ _ _ _ _ _ _ _ _ _ _ _ _ _ _ _ _ _ _ (by first|rfl|simp)
     ·have hk0:(e:Int)<(s.size:Int):=by omega
      obtain ⟨y,hy⟩:∃ y,(s[e]'h8).toNat=y:=⟨_,rfl⟩
      have hyb:byt s e=y:=by rw [← hy,qe4 h8]
      rw [hyb] at h9
      have hk1:¬ (48:Int)≤(y:Int):=by omega
      have hk2:¬ 48≤y:=by omega
      go_wp2
      exact HJ.out _ _ _ _ _ _ _ _ _ _ _ _ _ _ _ _ _ _ _ _ _ _ _ _ _ _ _ _ _ _ _ _ _ _ _ _ _ _ _ _ _ _ _ _ _ _ _ _ _ _ _ _ _ _ _ _ _ _ _ _ _ _ _ _ _ _ _ _ _ _ _ _ _ _ _ _ _ _ _ _ _ _ _ _ _ _ _ _ _ _ _ _ _ _ _ _ _ _ _ _ _ _ _ _ _ _ _ _ _ _ _ _ _ _ _ _ _ _ _ _ _ (by first|rfl|simp)
     have hk0:(e:Int)<(s.size:Int):=by omega
     obtain ⟨y,hy⟩:∃ y,(s[e]'h8).toNat=y:=⟨_,rfl⟩
     have hyb:byt s e=y:=by rw [← hy,qe4 h8]
     rw [hyb] at h9
     have hk1:(48:Int)≤(y:Int):=by omega
     have hk2:48≤y:=by omega
     have hk3:¬ (y:Int)≤57:=by omega
     have hk4:¬ y≤57:=by omega
     go_wp2
     exact HJ.out _ _ _ _ _ _ _ _ _ _ _ _ _ _ _ _ _ _ _ _ _ _ _ _ _ _ _ _ _ _ _ _ _ _ _ _ _ _ _ _ _ _ _ _ _ _ _ _ _ _ _ _ _ _ _ _ _ _ _ _ _ _ _ _ _ _ _ _ _ _ _ _ _ _ _ _ _ _ _ _ _ _ _ _ _ _ _ _ _ _ _ _ _ _ _ _ _ _ _ _ _ _ _ _ _ _ _ _ _ _ _ _ _ _ _ _ _ _ _ _ _ (by first|rfl|simp)
    refine lh_ ?_
    intro b9 g1 g9 g10 g11 g12 g13 g14 g15 g16 g17 g18 g19 g20 g21 g22 g23 g24 g25 g26 g27 g28 g29 g30 g31 g32 g33 g34 g35 g36 g37 g38 g39 g41 g42 g43 g44 g45 g46 g47 g48 g49 g50 g51 g52 g53 g54 g55 g56 g57 g58 g59 g60 g61 g62 g63 g64 g65 g66 g67 g68 g69 g70 g71 g72 g73 g74 g75 g76 g77 g78 g79 g80 g81 g82 g83 g84 g85 g86 g87 g88 g89 g90 g91 g92 g93 g94 g95 g96 g97 g98 g99 g100 g101 g102 g103 g104 g105 g106 g107 g108 g109 g110 g111 g112 g113 g114 g115 g116 g117 g118 g119 g120 g121 g122 g123 g124 g125 g126 g127 g128 hb9
    subst hb9
    refine kO O ?_;clear O K
    refine wp_cond_false (by rfl) ?_
    refine wp_exit ?_
    show Code.wp _ _ _ _ _
    refine wp_seq ?_
    refine kS fun K O=>?_
    suffices HJ:Hid (∀ (b9:Bool) (g1 g7 g9 g10 g11 g12 g13 g14 g15 g16 g17 g18 g19 g20 g21 g22 g23 g24 g25 g26 g27 g28 g29 g30 g31 g32 g33 g34 g35 g36 g37 g38 g39 g40 g41 g42 g43 g44 g45 g46 g47 g48 g49 g50 g51 g52 g53 g54 g55 g56 g57 g58 g59 g60 g61 g62 g63 g64 g65 g66 g68 g69 g70 g71 g72 g73 g74 g75 g76 g77 g78 g79 g80 g81 g82 g83 g84 g85 g86 g87 g88 g89 g90 g91 g92 g93 g94 g95 g96 g97 g98 g99 g100 g101 g102 g103 g104 g105 g106 g107 g108 g109 g110 g111 g112 g113 g114 g115 g116 g117 g118 g119 g120 g121 g122 g123 g124 g125 g126 g127 g128:Value),b9=true→K { tmps:=#[.string s,g1,.pointer (some ⟨w.heap.size,0,none⟩),.int .i64 0,.pointer (some ⟨gx1,0,none⟩),.int .i64 ((e:Int)),.bool ng,g7,.pointer (some ⟨gx5,0,none⟩),g9,g10,g11,g12,g13,g14,g15,g16,g17,g18,g19,g20,g21,g22,g23,g24,g25,g26,g27,g28,g29,g30,g31,g32,g33,g34,g35,g36,g37,g38,g39,g40,g41,g42,g43,g44,g45,g46,g47,g48,g49,g50,g51,g52,g53,g54,g55,g56,g57,g58,g59,g60,g61,g62,g63,g64,g65,g66,.bool b9,g68,g69,g70,g71,g72,g73,g74,g75,g76,g77,g78,g79,g80,g81,g82,g83,g84,g85,g86,g87,g88,g89,g90,g91,g92,g93,g94,g95,g96,g97,g98,g99,g100,g101,g102,g103,g104,g105,g106,g107,g108,g109,g110,g111,g112,g113,g114,g115,g116,g117,g118,g119,g120,g121,g122,g123,g124,g125,g126,g127,g128],defers:=[] } wr) by
     rcases HA.out with h9|⟨h8,h9⟩
     ·have hk0:(e:Int)=(b:Int):=by omega
      have hk5:((e:Int) == (b:Int))=true:=by simp [hk0]
      clear hk0 h9
      go_wp2
      exact HJ.out _ _ _ _ _ _ _ _ _ _ _ _ _ _ _ _ _ _ _ _ _ _ _ _ _ _ _ _ _ _ _ _ _ _ _ _ _ _ _ _ _ _ _ _ _ _ _ _ _ _ _ _ _ _ _ _ _ _ _ _ _ _ _ _ _ _ _ _ _ _ _ _ _ _ _ _ _ _ _ _ _ _ _ _ _ _ _ _ _ _ _ _ _ _ _ _ _ _ _ _ _ _ _ _ _ _ _ _ _ _ _ _ _ _ _ _ _ _ _ _ _ _ (by first|rfl|simp)
     have hlb:b<s.size:=by omega
     obtain ⟨y,hy⟩:∃ y,(s[b]'hlb).toNat=y:=⟨_,rfl⟩
     have hyb:byt s b=y:=by rw [← hy,qe4 hlb]
     obtain rfl:y=48:=by omega
     have hk0:¬ (e:Int)=(b:Int):=by omega
     have hk5:((e:Int) == (b:Int))=false:=by simpa using hk0
     have hk6:(b:Int)<(s.size:Int):=by omega
     have hk7:(b:Int)+1<(e:Int):=by omega
     have hw9:IntKind.i64.wrap ((b:Int)+1)=(b:Int)+1:=by rw [IntKind.wrap_i64];omega
     go_wp2
     exact HJ.out _ _ _ _ _ _ _ _ _ _ _ _ _ _ _ _ _ _ _ _ _ _ _ _ _ _ _ _ _ _ _ _ _ _ _ _ _ _ _ _ _ _ _ _ _ _ _ _ _ _ _ _ _ _ _ _ _ _ _ _ _ _ _ _ _ _ _ _ _ _ _ _ _ _ _ _ _ _ _ _ _ _ _ _ _ _ _ _ _ _ _ _ _ _ _ _ _ _ _ _ _ _ _ _ _ _ _ _ _ _ _ _ _ _ _ _ _ _ _ _ _ _ (by first|rfl|simp)
    refine lh_ ?_
    intro b9 g1 g7 g9 g10 g11 g12 g13 g14 g15 g16 g17 g18 g19 g20 g21 g22 g23 g24 g25 g26 g27 g28 g29 g30 g31 g32 g33 g34 g35 g36 g37 g38 g39 g40 g41 g42 g43 g44 g45 g46 g47 g48 g49 g50 g51 g52 g53 g54 g55 g56 g57 g58 g59 g60 g61 g62 g63 g64 g65 g66 g68 g69 g70 g71 g72 g73 g74 g75 g76 g77 g78 g79 g80 g81 g82 g83 g84 g85 g86 g87 g88 g89 g90 g91 g92 g93 g94 g95 g96 g97 g98 g99 g100 g101 g102 g103 g104 g105 g106 g107 g108 g109 g110 g111 g112 g113 g114 g115 g116 g117 g118 g119 g120 g121 g122 g123 g124 g125 g126 g127 g128 hb9
    subst hb9
    refine kO O ?_;clear O K
    refine wp_cond_true (by rfl) ?_
    have lx1:=kc1_ I
    refine ks1_ fun K O T Y=>?_
    refine tk ?_
    refine nlS Y I fun vw5 J=>?_
    clear Y T I lx1
    have lx0:=kc0_ J;have fx0:=kf0_ J
    have r0:=Gr.refl vw5
    go_wp2
    refine kO O ?_;clear O K
    clear r0 lx0 fx0
    refine fH (((J.out).put2 0 0 rfl).put 0 2 _ rfl) fun Wx14 I=>?_
    clear J
    refine wp_ret ?_
    try simp only [Exit.then,Exit.inBlock]
    have lx0:=kc0_ I
    have r0:=Gr.refl Wx14
    exact bR ⟨⟨.slice none 0 0,.slice none 0 0,rfl,xh3,xh4⟩,I.out.1⟩ qD6
   have HA:=lh_ hA
   clear hA
   refine wp_seq ?_
   refine kS fun K O=>?_
   suffices HJ:Hid (∀ (b9:Bool) (g1 g9 g10 g11 g12 g13 g14 g15 g16 g17 g18 g19 g20 g21 g22 g23 g24 g25 g26 g27 g28 g29 g30 g31 g32 g33 g34 g35 g36 g37 g38 g39 g41 g42 g43 g44 g45 g46 g47 g48 g49 g50 g51 g52 g53 g54 g55 g56 g57 g58 g59 g60 g61 g62 g63 g64 g65 g66 g67 g68 g69 g70 g71 g72 g73 g74 g75 g76 g77 g78 g79 g80 g81 g82 g83 g84 g85 g86 g87 g88 g89 g90 g91 g92 g93 g94 g95 g96 g97 g98 g99 g100 g101 g102 g103 g104 g105 g106 g107 g108 g109 g110 g111 g112 g113 g114 g115 g116 g117 g118 g119 g120 g121 g122 g123 g124 g125 g126 g127 g128:Value),b9=false→K { tmps:=#[.string s,g1,.pointer (some ⟨w.heap.size,0,none⟩),.int .i64 0,.pointer (some ⟨gx1,0,none⟩),.int .i64 ((e:Int)),.bool ng,.int .i64 ((b:Int)),.pointer (some ⟨gx5,0,none⟩),g9,g10,g11,g12,g13,g14,g15,g16,g17,g18,g19,g20,g21,g22,g23,g24,g25,g26,g27,g28,g29,g30,g31,g32,g33,g34,g35,g36,g37,g38,g39,.bool b9,g41,g42,g43,g44,g45,g46,g47,g48,g49,g50,g51,g52,g53,g54,g55,g56,g57,g58,g59,g60,g61,g62,g63,g64,g65,g66,g67,g68,g69,g70,g71,g72,g73,g74,g75,g76,g77,g78,g79,g80,g81,g82,g83,g84,g85,g86,g87,g88,g89,g90,g91,g92,g93,g94,g95,g96,g97,g98,g99,g100,g101,g102,g103,g104,g105,g106,g107,g108,g109,g110,g111,g112,g113,g114,g115,g116,g117,g118,g119,g120,g121,g122,g123,g124,g125,g126,g127,g128],defers:=[] } wr) by
    rcases HEND.out with h9|⟨h8,h9|h9⟩
    ·have hk0:¬ (e:Int)<(s.size:Int):=by omega
     clear h9
     go_wp2
     exact HJ.out _ _ _ _ _ _ _ _ _ _ _ _ _ _ _ _ _ _ _ _ _ _ _ _ _ _ _ _ _ _ _ _ _ _ _ _ _ _ _ _ _ _ _ _ _ _ _ _ _ _ _ _ _ _ _ _ _ _ _ _ _ _ _ _ _ _ _ _ _ _ _ _ _ _ _ _ _ _ _ _ _ _ _ _ _ _ _ _ _ _ _ _ _ _ _ _ _ _ _ _ _ _ _ _ _ _ _ _ _ _ _ _ _ _ _ _ _ _ _ _ _ (by first|rfl|simp)
    ·have hk0:(e:Int)<(s.size:Int):=by omega
     obtain ⟨y,hy⟩:∃ y,(s[e]'h8).toNat=y:=⟨_,rfl⟩
     have hyb:byt s e=y:=by rw [← hy,qe4 h8]
     rw [hyb] at h9
     have hk1:¬ (48:Int)≤(y:Int):=by omega
     have hk2:¬ 48≤y:=by omega
     go_wp2
     exact HJ.out _ _ _ _ _ _ _ _ _ _ _ _ _ _ _ _ _ _ _ _ _ _ _ _ _ _ _ _ _ _ _ _ _ _ _ _ _ _ _ _ _ _ _ _ _ _ _ _ _ _ _ _ _ _ _ _ _ _ _ _ _ _ _ _ _ _ _ _ _ _ _ _ _ _ _ _ _ _ _ _ _ _ _ _ _ _ _ _ _ _ _ _ _ _ _ _ _ _ _ _ _ _ _ _ _ _ _ _ _ _ _ _ _ _ _ _ _ _ _ _ _ (by first|rfl|simp)
    have hk0:(e:Int)<(s.size:Int):=by omega
    obtain ⟨y,hy⟩:∃ y,(s[e]'h8).toNat=y:=⟨_,rfl⟩
    have hyb:byt s e=y:=by rw [← hy,qe4 h8]
    rw [hyb] at h9
    have hk1:(48:Int)≤(y:Int):=by omega
    have hk2:48≤y:=by omega
    have hk3:¬ (y:Int)≤57:=by omega
    have hk4:¬ y≤57:=by omega
    go_wp2
    exact HJ.out _ _ _ _ _ _ _ _ _ _ _ _ _ _ _ _ _ _ _ _ _ _ _ _ _ _ _ _ _ _ _ _ _ _ _ _ _ _ _ _ _ _ _ _ _ _ _ _ _ _ _ _ _ _ _ _ _ _ _ _ _ _ _ _ _ _ _ _ _ _ _ _ _ _ _ _ _ _ _ _ _ _ _ _ _ _ _ _ _ _ _ _ _ _ _ _ _ _ _ _ _ _ _ _ _ _ _ _ _ _ _ _ _ _ _ _ _ _ _ _ _ (by first|rfl|simp)
   refine lh_ ?_
   intro b9 g1 g9 g10 g11 g12 g13 g14 g15 g16 g17 g18 g19 g20 g21 g22 g23 g24 g25 g26 g27 g28 g29 g30 g31 g32 g33 g34 g35 g36 g37 g38 g39 g41 g42 g43 g44 g45 g46 g47 g48 g49 g50 g51 g52 g53 g54 g55 g56 g57 g58 g59 g60 g61 g62 g63 g64 g65 g66 g67 g68 g69 g70 g71 g72 g73 g74 g75 g76 g77 g78 g79 g80 g81 g82 g83 g84 g85 g86 g87 g88 g89 g90 g91 g92 g93 g94 g95 g96 g97 g98 g99 g100 g101 g102 g103 g104 g105 g106 g107 g108 g109 g110 g111 g112 g113 g114 g115 g116 g117 g118 g119 g120 g121 g122 g123 g124 g125 g126 g127 g128 hb9
   subst hb9
   refine kO O ?_;clear O K
   refine wp_cond_false (by rfl) ?_
   refine wp_exit ?_
   show Code.wp _ _ _ _ _
   refine wp_seq ?_
   refine kS fun K O=>?_
   suffices HJ:Hid (∀ (b9:Bool) (g1 g7 g9 g10 g11 g12 g13 g14 g15 g16 g17 g18 g19 g20 g21 g22 g23 g24 g25 g26 g27 g28 g29 g30 g31 g32 g33 g34 g35 g36 g37 g38 g39 g40 g41 g42 g43 g44 g45 g46 g47 g48 g49 g50 g51 g52 g53 g54 g55 g56 g57 g58 g59 g60 g61 g62 g63 g64 g65 g66 g68 g69 g70 g71 g72 g73 g74 g75 g76 g77 g78 g79 g80 g81 g82 g83 g84 g85 g86 g87 g88 g89 g90 g91 g92 g93 g94 g95 g96 g97 g98 g99 g100 g101 g102 g103 g104 g105 g106 g107 g108 g109 g110 g111 g112 g113 g114 g115 g116 g117 g118 g119 g120 g121 g122 g123 g124 g125 g126 g127 g128:Value),b9=false→K { tmps:=#[.string s,g1,.pointer (some ⟨w.heap.size,0,none⟩),.int .i64 0,.pointer (some ⟨gx1,0,none⟩),.int .i64 ((e:Int)),.bool ng,g7,.pointer (some ⟨gx5,0,none⟩),g9,g10,g11,g12,g13,g14,g15,g16,g17,g18,g19,g20,g21,g22,g23,g24,g25,g26,g27,g28,g29,g30,g31,g32,g33,g34,g35,g36,g37,g38,g39,g40,g41,g42,g43,g44,g45,g46,g47,g48,g49,g50,g51,g52,g53,g54,g55,g56,g57,g58,g59,g60,g61,g62,g63,g64,g65,g66,.bool b9,g68,g69,g70,g71,g72,g73,g74,g75,g76,g77,g78,g79,g80,g81,g82,g83,g84,g85,g86,g87,g88,g89,g90,g91,g92,g93,g94,g95,g96,g97,g98,g99,g100,g101,g102,g103,g104,g105,g106,g107,g108,g109,g110,g111,g112,g113,g114,g115,g116,g117,g118,g119,g120,g121,g122,g123,g124,g125,g126,g127,g128],defers:=[] } wr) by
    by_cases h9:byt s b=48
    ·have hlb:b<s.size:=by have:=HA.out;omega
     obtain ⟨y,hy⟩:∃ y,(s[b]'hlb).toNat=y:=⟨_,rfl⟩
     have hyb:byt s b=y:=by rw [← hy,qe4 hlb]
     obtain rfl:y=48:=by omega
     have hk0:¬ (e:Int)=(b:Int):=by have:=HA.out;omega
     have hk5:((e:Int) == (b:Int))=false:=by simpa using hk0
     have hk6:(b:Int)<(s.size:Int):=by omega
     have hk8:¬ (b:Int)+1<(e:Int):=by have:=HA.out;omega
     have hw9:IntKind.i64.wrap ((b:Int)+1)=(b:Int)+1:=by rw [IntKind.wrap_i64];omega
     go_wp2
     exact HJ.out _ _ _ _ _ _ _ _ _ _ _ _ _ _ _ _ _ _ _ _ _ _ _ _ _ _ _ _ _ _ _ _ _ _ _ _ _ _ _ _ _ _ _ _ _ _ _ _ _ _ _ _ _ _ _ _ _ _ _ _ _ _ _ _ _ _ _ _ _ _ _ _ _ _ _ _ _ _ _ _ _ _ _ _ _ _ _ _ _ _ _ _ _ _ _ _ _ _ _ _ _ _ _ _ _ _ _ _ _ _ _ _ _ _ _ _ _ _ _ _ _ _ (by first|rfl|simp)
    have hlb:b<s.size:=by have:=HA.out;omega
    obtain ⟨y,hy⟩:∃ y,(s[b]'hlb).toNat=y:=⟨_,rfl⟩
    have hyb:byt s b=y:=by rw [← hy,qe4 hlb]
    have hk0:¬ (e:Int)=(b:Int):=by have:=HA.out;omega
    have hk5:((e:Int) == (b:Int))=false:=by simpa using hk0
    have hk6:(b:Int)<(s.size:Int):=by omega
    have hk1:¬ (y:Int)=48:=by omega
    have hk2:¬ y=48:=by omega
    have hkb:((y:Int) == 48)=false:=by rw [beq_eq_false_iff_ne];omega
    go_wp2
    exact HJ.out _ _ _ _ _ _ _ _ _ _ _ _ _ _ _ _ _ _ _ _ _ _ _ _ _ _ _ _ _ _ _ _ _ _ _ _ _ _ _ _ _ _ _ _ _ _ _ _ _ _ _ _ _ _ _ _ _ _ _ _ _ _ _ _ _ _ _ _ _ _ _ _ _ _ _ _ _ _ _ _ _ _ _ _ _ _ _ _ _ _ _ _ _ _ _ _ _ _ _ _ _ _ _ _ _ _ _ _ _ _ _ _ _ _ _ _ _ _ _ _ _ _ (by first|rfl|simp)
   refine lh_ ?_
   intro b9 g1 g7 g9 g10 g11 g12 g13 g14 g15 g16 g17 g18 g19 g20 g21 g22 g23 g24 g25 g26 g27 g28 g29 g30 g31 g32 g33 g34 g35 g36 g37 g38 g39 g40 g41 g42 g43 g44 g45 g46 g47 g48 g49 g50 g51 g52 g53 g54 g55 g56 g57 g58 g59 g60 g61 g62 g63 g64 g65 g66 g68 g69 g70 g71 g72 g73 g74 g75 g76 g77 g78 g79 g80 g81 g82 g83 g84 g85 g86 g87 g88 g89 g90 g91 g92 g93 g94 g95 g96 g97 g98 g99 g100 g101 g102 g103 g104 g105 g106 g107 g108 g109 g110 g111 g112 g113 g114 g115 g116 g117 g118 g119 g120 g121 g122 g123 g124 g125 g126 g127 g128 hb9
   subst hb9
   refine kO O ?_;clear O K
   refine wp_cond_false (by rfl) ?_
   refine wp_skip ?_
   show Code.wp _ _ _ _ _
   refine wp_seq ?_
   by_cases hen:e<s.size
   ·by_cases hC:byt s e≠46∨e+1=s.size
    ·have HC2:=lh_ hC
     obtain ⟨rfl,rfl⟩:=HB2.out hen hC
     clear hC
     have hk0:(e:Int)<(s.size:Int):=by omega
     refine ks4_ fun K O T Y=>?_
     iterate 4 refine tk ?_
     refine nz Y I O ?_;clear Y T I O K;intro vw5 I
     clear hk0
     refine wp_cond_true (by rfl) ?_
     refine wp_seq ?_
     refine kS fun K O=>?_
     suffices HJ:Hid (∀ (b9:Bool) (g1 g7 g9 g10 g11 g12 g13 g14 g15 g16 g17 g18 g19 g20 g21 g22 g23 g24 g25 g26 g27 g28 g29 g30 g31 g32 g33 g34 g35 g36 g37 g38 g39 g40 g41 g42 g43 g44 g45 g46 g47 g48 g49 g50 g51 g52 g53 g54 g55 g56 g57 g58 g59 g60 g61 g62 g63 g64 g65 g66 g67 g68 g69 g70 g71 g72 g73 g74 g75 g76 g77 g78 g79 g80 g81 g82 g84 g85 g86 g87 g88 g89 g90 g91 g92 g93 g94 g95 g96 g97 g98 g99 g100 g101 g102 g103 g104 g105 g106 g107 g108 g109 g110 g111 g112 g113 g114 g115 g116 g117 g118 g119 g120 g121 g122 g123 g124 g125 g126 g127 g128:Value),b9=true→K { tmps:=#[.string s,g1,.pointer (some ⟨w.heap.size,0,none⟩),.int .i64 0,.pointer (some ⟨gx1,0,none⟩),.int .i64 ((e:Int)),.bool ng,g7,.pointer (some ⟨gx5,0,none⟩),g9,g10,g11,g12,g13,g14,g15,g16,g17,g18,g19,g20,g21,g22,g23,g24,g25,g26,g27,g28,g29,g30,g31,g32,g33,g34,g35,g36,g37,g38,g39,g40,g41,g42,g43,g44,g45,g46,g47,g48,g49,g50,g51,g52,g53,g54,g55,g56,g57,g58,g59,g60,g61,g62,g63,g64,g65,g66,g67,g68,g69,g70,g71,g72,g73,g74,g75,g76,g77,g78,g79,g80,g81,g82,.bool b9,g84,g85,g86,g87,g88,g89,g90,g91,g92,g93,g94,g95,g96,g97,g98,g99,g100,g101,g102,g103,g104,g105,g106,g107,g108,g109,g110,g111,g112,g113,g114,g115,g116,g117,g118,g119,g120,g121,g122,g123,g124,g125,g126,g127,g128],defers:=[] } vw5) by
      by_cases h9:byt s e=46
      ·obtain ⟨y,hy⟩:∃ y,(s[e]'hen).toNat=y:=⟨_,rfl⟩
       have hyb:byt s e=y:=by rw [← hy,qe4 hen]
       obtain rfl:y=46:=by omega
       have hk0:(e:Int)<(s.size:Int):=by omega
       have hw9:IntKind.i64.wrap ((e:Int)+1)=(e:Int)+1:=by rw [IntKind.wrap_i64];omega
       have hk1:(e:Int)+1=(s.size:Int):=by have:=HC2.out;omega
       have hk5:((e:Int)+1 == (s.size:Int))=true:=by simp [hk1]
       go_wp2
       exact HJ.out _ _ _ _ _ _ _ _ _ _ _ _ _ _ _ _ _ _ _ _ _ _ _ _ _ _ _ _ _ _ _ _ _ _ _ _ _ _ _ _ _ _ _ _ _ _ _ _ _ _ _ _ _ _ _ _ _ _ _ _ _ _ _ _ _ _ _ _ _ _ _ _ _ _ _ _ _ _ _ _ _ _ _ _ _ _ _ _ _ _ _ _ _ _ _ _ _ _ _ _ _ _ _ _ _ _ _ _ _ _ _ _ _ _ _ _ _ _ _ _ _ _ (by first|rfl|simp)
      obtain ⟨y,hy⟩:∃ y,(s[e]'hen).toNat=y:=⟨_,rfl⟩
      have hyb:byt s e=y:=by rw [← hy,qe4 hen]
      have hk0:(e:Int)<(s.size:Int):=by omega
      have hk1:¬ (y:Int)=46:=by omega
      have hk2:¬ y=46:=by omega
      have hkb:((y:Int) == 46)=false:=by rw [beq_eq_false_iff_ne];omega
      go_wp2
      exact HJ.out _ _ _ _ _ _ _ _ _ _ _ _ _ _ _ _ _ _ _ _ _ _ _ _ _ _ _ _ _ _ _ _ _ _ _ _ _ _ _ _ _ _ _ _ _ _ _ _ _ _ _ _ _ _ _ _ _ _ _ _ _ _ _ _ _ _ _ _ _ _ _ _ _ _ _ _ _ _ _ _ _ _ _ _ _ _ _ _ _ _ _ _ _ _ _ _ _ _ _ _ _ _ _ _ _ _ _ _ _ _ _ _ _ _ _ _ _ _ _ _ _ _ (by first|rfl|simp)
     refine lh_ ?_
     intro b9 g1 g7 g9 g10 g11 g12 g13 g14 g15 g16 g17 g18 g19 g20 g21 g22 g23 g24 g25 g26 g27 g28 g29 g30 g31 g32 g33 g34 g35 g36 g37 g38 g39 g40 g41 g42 g43 g44 g45 g46 g47 g48 g49 g50 g51 g52 g53 g54 g55 g56 g57 g58 g59 g60 g61 g62 g63 g64 g65 g66 g67 g68 g69 g70 g71 g72 g73 g74 g75 g76 g77 g78 g79 g80 g81 g82 g84 g85 g86 g87 g88 g89 g90 g91 g92 g93 g94 g95 g96 g97 g98 g99 g100 g101 g102 g103 g104 g105 g106 g107 g108 g109 g110 g111 g112 g113 g114 g115 g116 g117 g118 g119 g120 g121 g122 g123 g124 g125 g126 g127 g128 hb9
     subst hb9
     refine kO O ?_;clear O K
     refine wp_cond_true (by rfl) ?_
     have lx1:=kc1_ I
     refine ks1_ fun K O T Y=>?_
     refine tk ?_
     refine nlS Y I fun vw6 J=>?_
     clear Y T I lx1
     have lx0:=kc0_ J;have fx0:=kf0_ J
     have r0:=Gr.refl vw6
     go_wp2
     refine kO O ?_;clear O K
     clear r0 lx0 fx0
     refine fH (((J.out).put2 0 0 rfl).put 0 2 _ rfl) fun Wx17 I=>?_
     clear J
     refine wp_ret ?_
     try simp only [Exit.then,Exit.inBlock]
     have lx0:=kc0_ I
     have r0:=Gr.refl Wx17
     exact bR ⟨⟨.slice none 0 0,.slice none 0 0,rfl,xh3,xh4⟩,I.out.1⟩ qD6
    have HC2:=lh_ hC
    clear hC
    obtain ⟨hef,hfs⟩:=HEF.out hen
    have hk0:(e:Int)<(s.size:Int):=by omega
    refine ks4_ fun K O T Y=>?_
    iterate 4 refine tk ?_
    refine nz Y I O ?_;clear Y T I O K;intro vw5 I
    clear hk0
    refine wp_cond_true (by rfl) ?_
    refine wp_seq ?_
    refine kS fun K O=>?_
    suffices HJ:Hid (∀ (b9:Bool) (g1 g7 g9 g10 g11 g12 g13 g14 g15 g16 g17 g18 g19 g20 g21 g22 g23 g24 g25 g26 g27 g28 g29 g30 g31 g32 g33 g34 g35 g36 g37 g38 g39 g40 g41 g42 g43 g44 g45 g46 g47 g48 g49 g50 g51 g52 g53 g54 g55 g56 g57 g58 g59 g60 g61 g62 g63 g64 g65 g66 g67 g68 g69 g70 g71 g72 g73 g74 g75 g76 g77 g78 g79 g80 g81 g82 g84 g85 g86 g87 g88 g89 g90 g91 g92 g93 g94 g95 g96 g97 g98 g99 g100 g101 g102 g103 g104 g105 g106 g107 g108 g109 g110 g111 g112 g113 g114 g115 g116 g117 g118 g119 g120 g121 g122 g123 g124 g125 g126 g127 g128:Value),b9=false→K { tmps:=#[.string s,g1,.pointer (some ⟨w.heap.size,0,none⟩),.int .i64 0,.pointer (some ⟨gx1,0,none⟩),.int .i64 ((e:Int)),.bool ng,g7,.pointer (some ⟨gx5,0,none⟩),g9,g10,g11,g12,g13,g14,g15,g16,g17,g18,g19,g20,g21,g22,g23,g24,g25,g26,g27,g28,g29,g30,g31,g32,g33,g34,g35,g36,g37,g38,g39,g40,g41,g42,g43,g44,g45,g46,g47,g48,g49,g50,g51,g52,g53,g54,g55,g56,g57,g58,g59,g60,g61,g62,g63,g64,g65,g66,g67,g68,g69,g70,g71,g72,g73,g74,g75,g76,g77,g78,g79,g80,g81,g82,.bool b9,g84,g85,g86,g87,g88,g89,g90,g91,g92,g93,g94,g95,g96,g97,g98,g99,g100,g101,g102,g103,g104,g105,g106,g107,g108,g109,g110,g111,g112,g113,g114,g115,g116,g117,g118,g119,g120,g121,g122,g123,g124,g125,g126,g127,g128],defers:=[] } vw5) by
     obtain ⟨y,hy⟩:∃ y,(s[e]'hen).toNat=y:=⟨_,rfl⟩
     have hyb:byt s e=y:=by rw [← hy,qe4 hen]
     obtain rfl:y=46:=by have:=HC2.out;omega
     have hk0:(e:Int)<(s.size:Int):=by omega
     have hw9:IntKind.i64.wrap ((e:Int)+1)=(e:Int)+1:=by rw [IntKind.wrap_i64];omega
     have hk1:¬ (e:Int)+1=(s.size:Int):=by have:=HC2.out;omega
     have hk5:((e:Int)+1 == (s.size:Int))=false:=by simpa using hk1
     go_wp2
     exact HJ.out _ _ _ _ _ _ _ _ _ _ _ _ _ _ _ _ _ _ _ _ _ _ _ _ _ _ _ _ _ _ _ _ _ _ _ _ _ _ _ _ _ _ _ _ _ _ _ _ _ _ _ _ _ _ _ _ _ _ _ _ _ _ _ _ _ _ _ _ _ _ _ _ _ _ _ _ _ _ _ _ _ _ _ _ _ _ _ _ _ _ _ _ _ _ _ _ _ _ _ _ _ _ _ _ _ _ _ _ _ _ _ _ _ _ _ _ _ _ _ _ _ _ (by first|rfl|simp)
    refine lh_ ?_
    intro b9 g1 g7 g9 g10 g11 g12 g13 g14 g15 g16 g17 g18 g19 g20 g21 g22 g23 g24 g25 g26 g27 g28 g29 g30 g31 g32 g33 g34 g35 g36 g37 g38 g39 g40 g41 g42 g43 g44 g45 g46 g47 g48 g49 g50 g51 g52 g53 g54 g55 g56 g57 g58 g59 g60 g61 g62 g63 g64 g65 g66 g67 g68 g69 g70 g71 g72 g73 g74 g75 g76 g77 g78 g79 g80 g81 g82 g84 g85 g86 g87 g88 g89 g90 g91 g92 g93 g94 g95 g96 g97 g98 g99 g100 g101 g102 g103 g104 g105 g106 g107 g108 g109 g110 g111 g112 g113 g114 g115 g116 g117 g118 g119 g120 g121 g122 g123 g124 g125 g126 g127 g128 hb9
    subst hb9
    refine kO O ?_;clear O K
    refine wp_cond_false (by rfl) ?_
    refine wp_skip ?_
    show Code.wp _ _ _ _ _
    have HZ2:Hid (((1:Int):Rat)=(1:Rat)):=lh_ (by decide +kernel)
    have su2:rz ((1:Rat))≤5:=qo3 (qc0.2 (by decide +kernel)) (qc0.2 (by decide +kernel))
    refine kS fun K O=>?_
    have HG0:Hid (Gr vw5 vw5):=lh_ (Gr.refl _)
    refine qC7 fun T Y=>?_
    refine ce2 Tryz.call173 HG0 (fun w' hw=>qg3 (1) (1:Rat) _ HZ2.out om om) ?_;clear HG0;intro vv6 HG0 _ ao3 nn3 cc3 ao4 nn4 cc4 RN6 RN7
    refine qa0 (Y.out _ _ ?_)
    intro vw6 hg
    simp only [puts,Act.put,lA,lB,lC,lD,lE,↓reduceIte,Nat.reduceEqDiff]
    have J:=lh_ (((I.out.gr (HG0.out.trans hg)).ar (RN6.out.gr hg)).ar (RN7.out.gr hg))
    simp only [zq1_,zq2_,zq3_,zq4_,lF,lG] at J
    clear Y T I hg HG0 RN6 RN7
    go_wp2
    refine kF_ O ((J.out).aL (vw6.heap.size)) fun Wx18 I=>?_;clear O K
    clear J
    generalize vw6.heap.size=gx8 at *
    have hw9:IntKind.i64.wrap ((e:Int)+1)=(e:Int)+1:=by rw [IntKind.wrap_i64];omega
    refine ks3_ fun K O T Y=>?_
    refine tk3_ ?_
    refine nz Y I O ?_;clear Y T I O K;intro vw7 I
    clear hw9
    refine wp_block ?_
    replace I:=lh_ ((I.out.er 3).ar (I.out.rn 3 rfl))
    simp only [List.eraseIdx_cons_zero,List.eraseIdx_cons_succ,List.cons_append,List.nil_append] at I
    replace I:=lh_ ((I.out.er 3).ar (I.out.rn 3 rfl))
    simp only [List.eraseIdx_cons_zero,List.eraseIdx_cons_succ,List.cons_append,List.nil_append] at I
    replace I:=lh_ ((I.out.er 3).ar (I.out.rn 3 rfl))
    simp only [List.eraseIdx_cons_zero,List.eraseIdx_cons_succ,List.cons_append,List.nil_append] at I
    replace I:=lh_ ((I.out.er 3).ar (I.out.rn 3 rfl))
    simp only [List.eraseIdx_cons_zero,List.eraseIdx_cons_succ,List.cons_append,List.nil_append] at I
    go_loopg [5] (f - (e+1)) (fun kk iv wr=>∃ (i:Nat) (v sc:Rat) (vB1 vB2 vD1 vD2:Value),iv=.int .i64 (i:Int)∧i+kk=f∧e+1≤i∧Hid ((1 / 10:Rat) ^ (i - (e+1))=sc)∧Hid (q+(((pvr s (e+1) (i - (e+1)):Nat):Int):Rat)*sc=v)∧Hid (HP w wr [Sum.inl (w.heap.size,47,#[.bool false,.slice none 0 0,.slice none 0 0]),Sum.inl (gx1,47,#[.bool false,.slice none 0 0,.slice none 0 0]),Sum.inl (gx5,47,#[.bool (decide (v.num<0)),vB1,vB2]),Sum.inl (gx8,47,#[.bool (decide (sc.num<0)),vD1,vD2]),Sum.inr (vB1,Int.natAbs (v.num)),Sum.inr (vB2,v.den - 1),Sum.inr (vD1,Int.natAbs (sc.num)),Sum.inr (vD2,sc.den - 1)]))
    case atStart=>exact ⟨e+1,q,1,_,_,_,_,by go_num,by omega,Nat.le_refl _,lh_ (by rw [Nat.sub_self,Rat.pow_zero]),lh_ (by rw [Nat.sub_self];show q+((0:Int):Rat)*1=q;rw [Rat.mul_one];exact Rat.add_zero q),I⟩
    case round =>
     rename_i J_ K_ hm1_ hm0_
     clear I
     obtain ⟨i,v,sc,vB1,vB2,vD1,vD2,rfl,hif,hei,HSC,HV,I⟩:=hrel
     obtain ⟨aoB1,nnB1,ccB1,rfl⟩:=Rn.sl (I.out.rn 4 rfl)
     obtain ⟨aoB2,nnB2,ccB2,rfl⟩:=Rn.sl (I.out.rn 5 rfl)
     obtain ⟨aoD1,nnD1,ccD1,rfl⟩:=Rn.sl (I.out.rn 6 rfl)
     obtain ⟨aoD2,nnD2,ccD2,rfl⟩:=Rn.sl (I.out.rn 7 rfl)
     have hssc:rz sc≤30:=by rw [← HSC.out];exact xp2 om
     have hsv:rz v≤120:=by rw [← HV.out];exact xJ5 hsq (xs9 om (fun j hj=>by have:=(HDF.out (e+1+j) om om).2;omega)) hssc
     rcases gk with _|kk
     ·obtain rfl:f=i:=by omega
      by_cases hfn:f<s.size
      ·obtain ⟨rfl,rfl⟩:=HB3.out hen hfn
       refine wp_seq ?_
       have hk0:(f:Int)<(s.size:Int):=by omega
       refine ks4_ fun K O T Y=>?_
       iterate 4 refine tk ?_
       refine nz Y I O ?_;clear Y T I O K;intro vw8 I
       clear hk0
       refine wp_cond_true (by rfl) ?_
       refine wp_skip ?_
       show Code.wp _ _ _ _ _
       refine wp_seq ?_
       refine wp_block ?_
       refine wp_seq ?_
       refine kS fun K O=>?_
       suffices HJ:Hid (∀ (b9:Bool) (g1 g3 g7 g10 g11 g12 g13 g14 g15 g16 g17 g18 g19 g20 g21 g22 g23 g24 g25 g26 g27 g28 g29 g30 g31 g32 g33 g34 g35 g36 g37 g38 g39 g40 g41 g42 g43 g44 g45 g46 g47 g48 g49 g50 g51 g52 g53 g54 g55 g56 g57 g58 g59 g60 g61 g62 g63 g64 g65 g66 g67 g68 g69 g70 g71 g72 g73 g74 g75 g76 g77 g78 g79 g80 g81 g82 g83 g84 g85 g86 g87 g92 g93 g94 g95 g96 g97 g98 g99 g100 g101 g102 g104 g105 g106 g107 g108 g109 g110 g111 g112 g113 g114 g115 g116 g117 g118 g119 g120 g121 g122 g123 g124 g125 g126 g127 g128:Value),b9=true→K { tmps:=#[.string s,g1,.pointer (some ⟨w.heap.size,0,none⟩),g3,.pointer (some ⟨gx1,0,none⟩),.int .i64 ((f:Int)),.bool ng,g7,.pointer (some ⟨gx5,0,none⟩),.pointer (some ⟨gx8,0,none⟩),g10,g11,g12,g13,g14,g15,g16,g17,g18,g19,g20,g21,g22,g23,g24,g25,g26,g27,g28,g29,g30,g31,g32,g33,g34,g35,g36,g37,g38,g39,g40,g41,g42,g43,g44,g45,g46,g47,g48,g49,g50,g51,g52,g53,g54,g55,g56,g57,g58,g59,g60,g61,g62,g63,g64,g65,g66,g67,g68,g69,g70,g71,g72,g73,g74,g75,g76,g77,g78,g79,g80,g81,g82,g83,g84,g85,g86,g87,.int .i64 ((f:Int)),.string s,.int .i64 ((s.size:Int)),.bool true,g92,g93,g94,g95,g96,g97,g98,g99,g100,g101,g102,.bool b9,g104,g105,g106,g107,g108,g109,g110,g111,g112,g113,g114,g115,g116,g117,g118,g119,g120,g121,g122,g123,g124,g125,g126,g127,g128],defers:=[] } vw8) by
        rcases HFD.out hfn with h9|h9
        ·obtain ⟨y,hy⟩:∃ y,(s[f]'hfn).toNat=y:=⟨_,rfl⟩
         have hyb:byt s f=y:=by rw [← hy,qe4 hfn]
         have hk0:(f:Int)<(s.size:Int):=by omega
         rw [hyb] at h9
         have hk1:(y:Int)<48:=by omega
         have hk2:y<48:=by omega
         go_wp2
         exact HJ.out _ _ _ _ _ _ _ _ _ _ _ _ _ _ _ _ _ _ _ _ _ _ _ _ _ _ _ _ _ _ _ _ _ _ _ _ _ _ _ _ _ _ _ _ _ _ _ _ _ _ _ _ _ _ _ _ _ _ _ _ _ _ _ _ _ _ _ _ _ _ _ _ _ _ _ _ _ _ _ _ _ _ _ _ _ _ _ _ _ _ _ _ _ _ _ _ _ _ _ _ _ _ _ _ _ _ _ _ _ _ _ _ _ _ _ _ _ _ (by first|rfl|simp)
        obtain ⟨y,hy⟩:∃ y,(s[f]'hfn).toNat=y:=⟨_,rfl⟩
        have hyb:byt s f=y:=by rw [← hy,qe4 hfn]
        have hk0:(f:Int)<(s.size:Int):=by omega
        rw [hyb] at h9
        have hk1:¬ (y:Int)<48:=by omega
        have hk2:¬ y<48:=by omega
        have hk3:(57:Int)<(y:Int):=by omega
        have hk4:57<y:=by omega
        go_wp2
        exact HJ.out _ _ _ _ _ _ _ _ _ _ _ _ _ _ _ _ _ _ _ _ _ _ _ _ _ _ _ _ _ _ _ _ _ _ _ _ _ _ _ _ _ _ _ _ _ _ _ _ _ _ _ _ _ _ _ _ _ _ _ _ _ _ _ _ _ _ _ _ _ _ _ _ _ _ _ _ _ _ _ _ _ _ _ _ _ _ _ _ _ _ _ _ _ _ _ _ _ _ _ _ _ _ _ _ _ _ _ _ _ _ _ _ _ _ _ _ _ _ (by first|rfl|simp)
       refine lh_ ?_
       intro b9 g1 g3 g7 g10 g11 g12 g13 g14 g15 g16 g17 g18 g19 g20 g21 g22 g23 g24 g25 g26 g27 g28 g29 g30 g31 g32 g33 g34 g35 g36 g37 g38 g39 g40 g41 g42 g43 g44 g45 g46 g47 g48 g49 g50 g51 g52 g53 g54 g55 g56 g57 g58 g59 g60 g61 g62 g63 g64 g65 g66 g67 g68 g69 g70 g71 g72 g73 g74 g75 g76 g77 g78 g79 g80 g81 g82 g83 g84 g85 g86 g87 g92 g93 g94 g95 g96 g97 g98 g99 g100 g101 g102 g104 g105 g106 g107 g108 g109 g110 g111 g112 g113 g114 g115 g116 g117 g118 g119 g120 g121 g122 g123 g124 g125 g126 g127 g128 hb9
       subst hb9
       refine kO O ?_;clear O K
       refine wp_cond_true (by rfl) ?_
       have lx1:=kc1_ I
       refine ks1_ fun K O T Y=>?_
       refine tk ?_
       refine nlS Y I fun vw9 J=>?_
       clear Y T I lx1
       have lx0:=kc0_ J;have fx0:=kf0_ J
       have r0:=Gr.refl vw9
       go_wp2
       refine kO O ?_;clear O K
       clear r0 lx0 fx0
       refine fH (((J.out).put2 0 0 rfl).put 0 2 _ rfl) fun Wx23 I=>?_
       clear J
       refine wp_ret ?_
       try simp only [Exit.then,Exit.inBlock]
       have lx0:=kc0_ I
       have r0:=Gr.refl Wx23
       exact bR ⟨⟨.slice none 0 0,.slice none 0 0,rfl,xh3,xh4⟩,I.out.1⟩ qD6
      obtain rfl:u=v:=by rw [← HV.out,← HSC.out,← HQ.out,show f - (e+1)=s.size - (e+1) by omega];exact (HVP.out hen om).symm
      have hnof:∀ h:e<s.size,¬ (byt s e≠46∨e+1=s.size)∧¬ f<s.size:=fun h=>⟨HC2.out,hfn⟩
      refine wp_seq ?_
      have hk0:¬ (f:Int)<(s.size:Int):=by omega
      refine ks4_ fun K O T Y=>?_
      iterate 4 refine tk ?_
      refine nz Y I O ?_;clear Y T I O K;intro vw8 I
      clear hk0
      refine wp_cond_false (by rfl) ?_
      refine wp_exit ?_
      show Code.wp _ _ _ _ _
      refine wp_seq ?_
      cases hng:ng
      ·subst hng
       obtain ⟨hz,rfl⟩:=HOK.out HA.out (fun h=>by first|exact absurd (hnof h) (fun h9=>h9)|exact hnof h) (by simp)
       obtain rfl:u=z:=by simpa using hz
       clear hz
       have lx5:=kc2_ I
       refine ks6_ fun K O T Y=>?_
       refine tk2_ ?_
       iterate 3 refine sk ?_
       refine tk ?_
       refine nzR Y O (fun w2 hg=>(((I.out.gr hg).er 7).er 6).er 3) ?_;clear Y T I lx5 O K;intro Wx26 I
       refine wp_cond_false (by rfl) ?_
       refine wp_skip ?_
       show Code.wp _ _ _ _ _
       refine wp_seq ?_
       refine ks1_ fun K O T Y=>?_
       refine tk ?_
       refine nzR Y O (fun w2 hg=>(I.out.gr hg).er 1) ?_;clear Y T I O K;intro Wx28 I
       refine wp_cond_false (by rfl) ?_
       refine wp_skip ?_
       show Code.wp _ _ _ _ _
       have lx5:=kc1_ I
       refine ks1_ fun K O T Y=>?_
       refine tk ?_
       refine nlS Y I fun vw11 J=>?_
       clear Y T I lx5
       have lx0:=kc0_ J;have fx0:=kf0_ J
       have r0:=Gr.refl vw11
       go_wp2
       refine kO O ?_;clear O K
       clear r0 lx0 fx0
       refine fH ((((J.out).put2 0 0 rfl).put 0 2 _ rfl).er 1) fun Wx30 I=>?_
       clear J
       refine wp_ret ?_
       try simp only [Exit.then,Exit.inBlock]
       have lx0:=kc0_ I
       have r0:=Gr.refl Wx30
       exact bR ⟨⟨(.slice aoB1 nnB1 ccB1),(.slice aoB2 nnB2 ccB2),rfl,(I.out.rn 1 rfl),(I.out.rn 2 rfl)⟩,I.out.1⟩ qD6
      subst hng
      by_cases hu0:u=0
      ·have HU0:=lh_ hu0
       obtain ⟨rfl,rfl⟩:=HB4.out HA.out (fun h=>by first|exact absurd (hnof h) (fun h9=>h9)|exact hnof h) rfl hu0
       clear hu0
       have lx5:=kc2_ I
       refine ks6_ fun K O T Y=>?_
       refine tk3_ ?_
       refine ck Tryz.call88 (fun w' hw=>qe_ u (0) _ _ _ (by have e9:(u)=(0:Rat):=(by exact HU0.out);exact qg6 e9) (I.out.r 4 rfl hw) (I.out.r 5 rfl hw)) ?_
       refine tk2_ ?_
       refine nzR Y O (fun w2 hg=>(((I.out.gr hg).er 7).er 6).er 3) ?_;clear Y T I lx5 O K;intro Wx26 I
       refine wp_cond_true (by rfl) ?_
       have lx1:=kc1_ I
       refine ks1_ fun K O T Y=>?_
       refine tk ?_
       refine nlS Y I fun vw10 J=>?_
       clear Y T I lx1
       have lx0:=kc0_ J;have fx0:=kf0_ J
       have r0:=Gr.refl vw10
       go_wp2
       refine kO O ?_;clear O K
       clear r0 lx0 fx0
       refine fH ((((J.out).put2 0 0 rfl).put 0 2 _ rfl).er 1) fun Wx27 I=>?_
       clear J
       refine wp_ret ?_
       try simp only [Exit.then,Exit.inBlock]
       have lx0:=kc0_ I
       have r0:=Gr.refl Wx27
       exact bR ⟨⟨.slice none 0 0,.slice none 0 0,rfl,xh3,xh4⟩,I.out.1⟩ qD6
      have HU0:=lh_ hu0
      obtain ⟨hz,rfl⟩:=HOK.out HA.out (fun h=>by first|exact absurd (hnof h) (fun h9=>h9)|exact hnof h) (fun h=>hu0 h.2)
      obtain ⟨su,HSU⟩:=ex_ (sgQ u)
      have hsu0:¬ su=0:=by rw [← HSU.out];exact xt1 hu0
      have HZN:Hid (-u=z):=lh_ (by simpa using hz)
      clear hu0 hz
      have hsz:(su == 0)=false:=by simpa using hsu0
      have lx5:=kc2_ I
      refine ks6_ fun K O T Y=>?_
      refine tk3_ ?_
      refine ck Tryz.call88 (fun w' hw=>qe_ u su _ _ _ (HSU.out) (I.out.r 4 rfl hw) (I.out.r 5 rfl hw)) ?_
      refine tk2_ ?_
      refine nzR Y O (fun w2 hg=>(((I.out.gr hg).er 7).er 6).er 3) ?_;clear Y T I lx5 O K;intro Wx26 I
      clear hsz
      refine wp_cond_false (by rfl) ?_
      refine wp_skip ?_
      show Code.wp _ _ _ _ _
      refine wp_seq ?_
      refine ks1_ fun K O T Y=>?_
      refine tk ?_
      refine nzR Y O (fun w2 hg=>(I.out.gr hg).er 1) ?_;clear Y T I O K;intro Wx28 I
      refine wp_cond_true (by rfl) ?_
      have HZ3:Hid (-(u)=z):=lh_ (HZN.out)
      have su3:rz z≤400:=by have e:=HZ3.out;first|omega|(rw [← e];rw [qG2];omega)
      have lx5:=kc1_ I
      refine kL fun K O=>?_
      have HG0:Hid (Gr Wx28 Wx28):=lh_ (Gr.refl _)
      refine qK0 fun T Y=>?_
      refine tk ?_
      refine ce2 Tryz.call136 HG0 (fun w' hw=>qC2 u z _ _ _ HZ3.out (I.out.r 2 rfl (HG0.out.trans hw)) (I.out.r 3 rfl (HG0.out.trans hw))) ?_;clear HG0;intro vv9 HG0 _ ao5 nn5 cc5 ao6 nn6 cc6 RN9 RN10
      clear lx5;have lx5:=fun w' (h:Gr _ w')=>kc1_ I w' (HG0.out.trans h)
      refine qa0 (Y.out _ _ ?_)
      intro vw11 hg
      simp only [puts,Act.put,lA,lB,lC,lD,lE,↓reduceIte,Nat.reduceEqDiff]
      have J:=lh_ (((I.out.gr (HG0.out.trans hg)).ar (RN9.out.gr hg)).ar (RN10.out.gr hg))
      simp only [zq1_,zq2_,zq3_,zq4_,lF,lG] at J
      clear Y T I hg HG0 RN9 RN10 lx5
      have lx5:=kc1_ J;have fx5:=kf1_ J
      have r0:=Gr.refl vw11
      go_wp2
      refine kO O ?_;clear O K
      clear r0 lx5 fx5
      refine fH (((((J.out).put2 1 0 rfl).put 1 2 _ rfl).er 3).er 2) fun Wx29 I=>?_
      clear J
      have lx5:=kc1_ I
      refine ks1_ fun K O T Y=>?_
      refine tk ?_
      refine nlS Y I fun vw12 J=>?_
      clear Y T I lx5
      have lx0:=kc0_ J;have fx0:=kf0_ J
      have r0:=Gr.refl vw12
      go_wp2
      refine kO O ?_;clear O K
      clear r0 lx0 fx0
      refine fH ((((J.out).put2 0 0 rfl).put 0 2 _ rfl).er 1) fun Wx30 I=>?_
      clear J
      refine wp_ret ?_
      try simp only [Exit.then,Exit.inBlock]
      have lx0:=kc0_ I
      have r0:=Gr.refl Wx30
      exact bR ⟨⟨(.slice ao5 nn5 cc5),(.slice ao6 nn6 cc6),rfl,(I.out.rn 1 rfl),(I.out.rn 2 rfl)⟩,I.out.1⟩ qD6
     have hlt:i<s.size:=by omega
     obtain ⟨y,hy⟩:∃ y,(s[i]'hlt).toNat=y:=⟨_,rfl⟩
     have hyb:byt s i=y:=by rw [← hy,qe4 hlt]
     obtain ⟨hy1,hy2⟩:=HDF.out i om om
     rw [hyb] at hy1 hy2
     have HYB:=lh_ hyb
     clear hyb
     obtain ⟨dg,HDG2⟩:∃ dg,Hid (dg=y - 48):=⟨_,lh_ rfl⟩
     have hdg9:dg≤9:=by have e9:=HDG2.out;omega
     obtain ⟨sc',HSC'⟩:∃ z,Hid (sc / (10:Rat)=z):=⟨_,lh_ rfl⟩
     obtain ⟨v',HV'⟩:∃ z,Hid (v+sc'*((((dg:Nat):Int)):Rat)=z):=⟨_,lh_ rfl⟩
     refine wp_seq ?_
     have hk0:(i:Int)<(s.size:Int):=by omega
     refine ks4_ fun K O T Y=>?_
     iterate 4 refine tk ?_
     refine nz Y I O ?_;clear Y T I O K;intro vw8 I
     clear hk0
     refine wp_cond_true (by rfl) ?_
     refine wp_skip ?_
     show Code.wp _ _ _ _ _
     refine wp_seq ?_
     refine wp_block ?_
     refine wp_seq ?_
     have hk1:¬ y<48:=by omega
     have hk1i:¬ (y:Int)<48:=by omega
     have hk2:¬ 57<y:=by omega
     have hk2i:¬ (57:Int)<(y:Int):=by omega
     refine qy5 fun K O T Y=>?_
     iterate 10 refine tk ?_
     refine nz Y I O ?_;clear Y T I O K;intro vw9 I
     clear hk1 hk1i hk2 hk2i
     refine wp_cond_false (by rfl) ?_
     refine wp_skip ?_
     show Code.wp _ _ _ _ _
     have HZ3:Hid (((10:Int):Rat)=(10:Rat)):=lh_ (by decide +kernel)
     have su3:rz ((10:Rat))≤5:=qo3 (qc0.2 (by decide +kernel)) (qc0.2 (by decide +kernel))
     have HZ4:Hid (sc / (10:Rat)=sc'):=lh_ (HSC'.out)
     have su4:rz sc'≤60:=by have e:=HZ4.out;first|omega|(rw [← e];have:=xe3 sc (10:Rat);omega)
     have lx8:=kc3_ I
     refine kS fun K O=>?_
     have HG0:Hid (Gr vw9 vw9):=lh_ (Gr.refl _)
     refine xH_ fun T Y=>?_
     refine tk ?_
     refine ce2 Tryz.call173 HG0 (fun w' hw=>qg3 (10) (10:Rat) _ HZ3.out om om) ?_;clear HG0;intro vv9 HG0 _ ao5 nn5 cc5 ao6 nn6 cc6 RN9 RN10
     clear lx8;have lx8:=fun w' (h:Gr _ w')=>kc3_ I w' (HG0.out.trans h)
     refine ce2 Tryz.call89 HG0 (fun w' hw=>qC1 sc (10:Rat) sc' _ _ _ _ _ HZ4.out om om (I.out.r 6 rfl (HG0.out.trans hw)) (I.out.r 7 rfl (HG0.out.trans hw)) (RN9.out.gr hw) (RN10.out.gr hw)) ?_;clear HG0;intro vv11 HG0 HGS ao7 nn7 cc7 ao8 nn8 cc8 RN11 RN12
     replace RN9:=lh_ (RN9.out.gr HGS.out)
     replace RN10:=lh_ (RN10.out.gr HGS.out)
     clear HGS
     clear lx8;have lx8:=fun w' (h:Gr _ w')=>kc3_ I w' (HG0.out.trans h)
     refine qa0 (Y.out _ _ ?_)
     intro G vw10 hg hf
     simp only [puts,Act.put,lA,lB,lC,lD,lE,↓reduceIte,Nat.reduceEqDiff]
     have J:=lh_ (((((I.out.gr (HG0.out.trans hg)).ar (RN9.out.gr hg)).ar (RN10.out.gr hg)).ar (RN11.out.gr hg)).ar (RN12.out.gr hg))
     simp only [zq1_,zq2_,zq3_,zq4_,lF,lG] at J
     clear Y T I hg hf HG0 RN9 RN10 RN11 RN12 lx8
     have lx8:=kc3_ J;have fx8:=kf3_ J
     have r0:=Gr.refl vw10
     go_wp2
     refine kO O ?_;clear O K
     clear r0 lx8 fx8
     refine fH (((J.out).put2 3 0 rfl).put 3 2 _ rfl) fun Wx24 I=>?_
     clear J
     have hwd:IntKind.u8.wrap ((y:Int) - 48)=(dg:Int):=by have e9:=HDG2.out;rw [qQ0];omega
     have hwd2:IntKind.i64.wrap (dg:Int)=(dg:Int):=by have e9:=HDG2.out;rw [IntKind.wrap_i64];omega
     obtain ⟨u5,HZ5⟩:=ex_ ((((dg:Int):Int):Rat))
     have su5:rz u5≤5:=by rw [← HZ5.out];exact qz6 om om
     obtain ⟨u6,HZ6⟩:=ex_ (sc'*(u5))
     have su6:rz u6≤65:=by rw [← HZ6.out];have:=qn4 sc' u5;omega
     have HZ7:Hid (v+(u6)=v'):=lh_ (by simp only [← HZ6.out,← HZ5.out];exact HV'.out)
     have su7:rz v'≤400:=by have e:=HZ7.out;first|omega|(rw [← e];have:=qP4 v u6;omega)
     have lx5:=kc2_ I
     have lx8:=kc3_ I
     refine kL fun K O=>?_
     have HG0:Hid (Gr Wx24 Wx24):=lh_ (Gr.refl _)
     refine xQ_ fun T Y=>?_
     iterate 7 refine tk ?_
     refine ce2 Tryz.call173 HG0 (fun w' hw=>qg3 ((dg:Int)) u5 _ HZ5.out om om) ?_;clear HG0;intro vv13 HG0 _ ao9 nn9 cc9 ao10 nn10 cc10 RN13 RN14
     clear lx5;have lx5:=fun w' (h:Gr _ w')=>kc2_ I w' (HG0.out.trans h)
     clear lx8;have lx8:=fun w' (h:Gr _ w')=>kc3_ I w' (HG0.out.trans h)
     refine ce2 Tryz.call135 HG0 (fun w' hw=>qu4 sc' u5 u6 _ _ _ _ _ HZ6.out om om (I.out.r 10 rfl (HG0.out.trans hw)) (I.out.r 11 rfl (HG0.out.trans hw)) (RN13.out.gr hw) (RN14.out.gr hw)) ?_;clear HG0;intro vv15 HG0 HGS ao11 nn11 cc11 ao12 nn12 cc12 RN15 RN16
     replace RN13:=lh_ (RN13.out.gr HGS.out)
     replace RN14:=lh_ (RN14.out.gr HGS.out)
     clear HGS
     clear lx5;have lx5:=fun w' (h:Gr _ w')=>kc2_ I w' (HG0.out.trans h)
     clear lx8;have lx8:=fun w' (h:Gr _ w')=>kc3_ I w' (HG0.out.trans h)
     refine ce2 Tryz.call131 HG0 (fun w' hw=>qB_ v u6 v' _ _ _ _ _ HZ7.out om om (I.out.r 4 rfl (HG0.out.trans hw)) (I.out.r 5 rfl (HG0.out.trans hw)) (RN15.out.gr hw) (RN16.out.gr hw)) ?_;clear HG0;intro vv17 HG0 HGS ao13 nn13 cc13 ao14 nn14 cc14 RN17 RN18
     replace RN13:=lh_ (RN13.out.gr HGS.out)
     replace RN14:=lh_ (RN14.out.gr HGS.out)
     replace RN15:=lh_ (RN15.out.gr HGS.out)
     replace RN16:=lh_ (RN16.out.gr HGS.out)
     clear HGS
     clear lx5;have lx5:=fun w' (h:Gr _ w')=>kc2_ I w' (HG0.out.trans h)
     clear lx8;have lx8:=fun w' (h:Gr _ w')=>kc3_ I w' (HG0.out.trans h)
     refine qa0 (Y.out _ _ ?_)
     intro G vw11 hg hf
     simp only [puts,Act.put,lA,lB,lC,lD,lE,↓reduceIte,Nat.reduceEqDiff]
     have J:=lh_ (((((((I.out.gr (HG0.out.trans hg)).ar (RN13.out.gr hg)).ar (RN14.out.gr hg)).ar (RN15.out.gr hg)).ar (RN16.out.gr hg)).ar (RN17.out.gr hg)).ar (RN18.out.gr hg))
     simp only [zq1_,zq2_,zq3_,zq4_,lF,lG] at J
     clear Y T I hg hf HG0 RN13 RN14 RN15 RN16 RN17 RN18 lx5 lx8
     have lx5:=kc2_ J;have fx5:=kf2_ J
     have r0:=Gr.refl vw11
     go_wp2
     refine kO O ?_;clear O K
     clear r0 lx5 fx5
     refine fH (((J.out).put2 2 0 rfl).put 2 2 _ rfl) fun Wx25 I=>?_
     clear J
     clear hwd hwd2
     have hwi:IntKind.i64.wrap ((i:Int)+1)=(i:Int)+1:=by rw [IntKind.wrap_i64];omega
     refine kL fun K O=>?_
     refine sq3_ fun T Y=>?_
     refine tk3_ ?_
     refine nlS Y I fun vw12 J=>?_
     clear Y T I
     go_wp2
     refine O.out _ _ ?_;clear O K
     try simp only [Exit.then,Exit.inBlock]
     have I:=lh_ (J.out);clear J
     clear hwi
     have HFa:=lh_ (((((((((((I.out).er 15).er 14).er 13).er 12).er 9).er 8).er 7).er 6).er 5).er 4)
     replace HFa:=lh_ ((HFa.out.er 4).ar (HFa.out.rn 4 rfl))
     replace HFa:=lh_ ((HFa.out.er 4).ar (HFa.out.rn 4 rfl))
     simp only [List.eraseIdx_cons_zero,List.eraseIdx_cons_succ,List.cons_append,List.nil_append] at HFa
     refine hm0_ _ _ ?_
     go_roundg kk
     case measure=>omega
     case rel=>exact ⟨i+1,v',sc',_,_,_,_,by go_num,by omega,by omega,lh_ (by rw [← HSC'.out,← HSC.out];exact qV0 om),lh_ (by rw [← HV'.out,← HV.out,← HSC'.out,HDG2.out,← HYB.out];exact qZ0 s hei),HFa⟩
   obtain rfl:q=u:=by rw [← HQ.out];exact HVN.out om
   have hnof:∀ h:e<s.size,False:=fun h=>hen h
   have hk0:¬ (e:Int)<(s.size:Int):=by omega
   refine ks4_ fun K O T Y=>?_
   iterate 4 refine tk ?_
   refine nz Y I O ?_;clear Y T I O K;intro vw5 I
   clear hk0
   refine wp_cond_false (by rfl) ?_
   refine wp_skip ?_
   show Code.wp _ _ _ _ _
   refine wp_seq ?_
   cases hng:ng
   ·subst hng
    obtain ⟨hz,rfl⟩:=HOK.out HA.out (fun h=>by first|exact absurd (hnof h) (fun h9=>h9)|exact hnof h) (by simp)
    obtain rfl:q=z:=by simpa using hz
    clear hz
    have lx5:=kc2_ I
    refine ks6_ fun K O T Y=>?_
    refine tk2_ ?_
    iterate 3 refine sk ?_
    refine tk ?_
    refine nz Y I O ?_;clear Y T I lx5 O K;intro vw6 I
    refine wp_cond_false (by rfl) ?_
    refine wp_skip ?_
    show Code.wp _ _ _ _ _
    refine wp_seq ?_
    refine ks1_ fun K O T Y=>?_
    refine tk ?_
    refine nzR Y O (fun w2 hg=>(I.out.gr hg).er 1) ?_;clear Y T I O K;intro Wx28 I
    refine wp_cond_false (by rfl) ?_
    refine wp_skip ?_
    show Code.wp _ _ _ _ _
    have lx5:=kc1_ I
    refine ks1_ fun K O T Y=>?_
    refine tk ?_
    refine nlS Y I fun vw8 J=>?_
    clear Y T I lx5
    have lx0:=kc0_ J;have fx0:=kf0_ J
    have r0:=Gr.refl vw8
    go_wp2
    refine kO O ?_;clear O K
    clear r0 lx0 fx0
    refine fH ((((J.out).put2 0 0 rfl).put 0 2 _ rfl).er 1) fun Wx30 I=>?_
    clear J
    refine wp_ret ?_
    try simp only [Exit.then,Exit.inBlock]
    have lx0:=kc0_ I
    have r0:=Gr.refl Wx30
    exact bR ⟨⟨(.slice aoA1 nnA1 ccA1),(.slice aoA2 nnA2 ccA2),rfl,(I.out.rn 1 rfl),(I.out.rn 2 rfl)⟩,I.out.1⟩ qD6
   subst hng
   by_cases hu0:q=0
   ·have HU0:=lh_ hu0
    obtain ⟨rfl,rfl⟩:=HB4.out HA.out (fun h=>by first|exact absurd (hnof h) (fun h9=>h9)|exact hnof h) rfl hu0
    clear hu0
    have lx5:=kc2_ I
    refine ks6_ fun K O T Y=>?_
    refine tk3_ ?_
    refine ck Tryz.call88 (fun w' hw=>qe_ q (0) _ _ _ (by have e9:(q)=(0:Rat):=(by exact HU0.out);exact qg6 e9) (I.out.r 3 rfl hw) (I.out.r 4 rfl hw)) ?_
    refine tk2_ ?_
    refine nz Y I O ?_;clear Y T I lx5 O K;intro vw6 I
    refine wp_cond_true (by rfl) ?_
    have lx1:=kc1_ I
    refine ks1_ fun K O T Y=>?_
    refine tk ?_
    refine nlS Y I fun vw7 J=>?_
    clear Y T I lx1
    have lx0:=kc0_ J;have fx0:=kf0_ J
    have r0:=Gr.refl vw7
    go_wp2
    refine kO O ?_;clear O K
    clear r0 lx0 fx0
    refine fH ((((J.out).put2 0 0 rfl).put 0 2 _ rfl).er 1) fun Wx27 I=>?_
    clear J
    refine wp_ret ?_
    try simp only [Exit.then,Exit.inBlock]
    have lx0:=kc0_ I
    have r0:=Gr.refl Wx27
    exact bR ⟨⟨.slice none 0 0,.slice none 0 0,rfl,xh3,xh4⟩,I.out.1⟩ qD6
   have HU0:=lh_ hu0
   obtain ⟨hz,rfl⟩:=HOK.out HA.out (fun h=>by first|exact absurd (hnof h) (fun h9=>h9)|exact hnof h) (fun h=>hu0 h.2)
   obtain ⟨su,HSU⟩:=ex_ (sgQ q)
   have hsu0:¬ su=0:=by rw [← HSU.out];exact xt1 hu0
   have HZN:Hid (-q=z):=lh_ (by simpa using hz)
   clear hu0 hz
   have hsz:(su == 0)=false:=by simpa using hsu0
   have lx5:=kc2_ I
   refine ks6_ fun K O T Y=>?_
   refine tk3_ ?_
   refine ck Tryz.call88 (fun w' hw=>qe_ q su _ _ _ (HSU.out) (I.out.r 3 rfl hw) (I.out.r 4 rfl hw)) ?_
   refine tk2_ ?_
   refine nz Y I O ?_;clear Y T I lx5 O K;intro vw6 I
   clear hsz
   refine wp_cond_false (by rfl) ?_
   refine wp_skip ?_
   show Code.wp _ _ _ _ _
   refine wp_seq ?_
   refine ks1_ fun K O T Y=>?_
   refine tk ?_
   refine nzR Y O (fun w2 hg=>(I.out.gr hg).er 1) ?_;clear Y T I O K;intro Wx28 I
   refine wp_cond_true (by rfl) ?_
   have HZ2:Hid (-(q)=z):=lh_ (HZN.out)
   have su2:rz z≤400:=by have e:=HZ2.out;first|omega|(rw [← e];rw [qG2];omega)
   have lx5:=kc1_ I
   refine kL fun K O=>?_
   have HG0:Hid (Gr Wx28 Wx28):=lh_ (Gr.refl _)
   refine qK0 fun T Y=>?_
   refine tk ?_
   refine ce2 Tryz.call136 HG0 (fun w' hw=>qC2 q z _ _ _ HZ2.out (I.out.r 2 rfl (HG0.out.trans hw)) (I.out.r 3 rfl (HG0.out.trans hw))) ?_;clear HG0;intro vv6 HG0 _ ao3 nn3 cc3 ao4 nn4 cc4 RN6 RN7
   clear lx5;have lx5:=fun w' (h:Gr _ w')=>kc1_ I w' (HG0.out.trans h)
   refine qa0 (Y.out _ _ ?_)
   intro vw8 hg
   simp only [puts,Act.put,lA,lB,lC,lD,lE,↓reduceIte,Nat.reduceEqDiff]
   have J:=lh_ (((I.out.gr (HG0.out.trans hg)).ar (RN6.out.gr hg)).ar (RN7.out.gr hg))
   simp only [zq1_,zq2_,zq3_,zq4_,lF,lG] at J
   clear Y T I hg HG0 RN6 RN7 lx5
   have lx5:=kc1_ J;have fx5:=kf1_ J
   have r0:=Gr.refl vw8
   go_wp2
   refine kO O ?_;clear O K
   clear r0 lx5 fx5
   refine fH (((((J.out).put2 1 0 rfl).put 1 2 _ rfl).er 3).er 2) fun Wx29 I=>?_
   clear J
   have lx5:=kc1_ I
   refine ks1_ fun K O T Y=>?_
   refine tk ?_
   refine nlS Y I fun vw9 J=>?_
   clear Y T I lx5
   have lx0:=kc0_ J;have fx0:=kf0_ J
   have r0:=Gr.refl vw9
   go_wp2
   refine kO O ?_;clear O K
   clear r0 lx0 fx0
   refine fH ((((J.out).put2 0 0 rfl).put 0 2 _ rfl).er 1) fun Wx30 I=>?_
   clear J
   refine wp_ret ?_
   try simp only [Exit.then,Exit.inBlock]
   have lx0:=kc0_ I
   have r0:=Gr.refl Wx30
   exact bR ⟨⟨(.slice ao3 nn3 cc3),(.slice ao4 nn4 cc4),rfl,(I.out.rn 1 rfl),(I.out.rn 2 rfl)⟩,I.out.1⟩ qD6
  have hlt:i<s.size:=by omega
  obtain ⟨y,hy⟩:∃ y,(s[i]'hlt).toNat=y:=⟨_,rfl⟩
  have hyb:byt s i=y:=by rw [← hy,qe4 hlt]
  obtain ⟨hy1,hy2⟩:=HDG.out i hbi om
  rw [hyb] at hy1 hy2
  have HYB:=lh_ hyb
  clear hyb
  obtain ⟨dg,HDG2⟩:∃ dg,Hid (dg=y - 48):=⟨_,lh_ rfl⟩
  have hdg9:dg≤9:=by have e9:=HDG2.out;omega
  obtain ⟨q',HQ'⟩:∃ z,Hid (q*(10:Rat)+((((dg:Nat):Int)):Rat)=z):=⟨_,lh_ rfl⟩
  refine wp_seq ?_
  have hltI:(i:Int)<(s.size:Int):=by omega
  have hge:48≤y:=hy1
  have hgei:(48:Int)≤(y:Int):=by omega
  have hle:y≤57:=hy2
  have hlei:(y:Int)≤57:=by omega
  refine xb2 fun K O T Y=>?_
  iterate 16 refine tk ?_
  refine nz Y I O ?_;clear Y T I O K;intro vw5 I
  clear hltI hge hgei hle hlei
  refine wp_cond_true (by rfl) ?_
  refine wp_skip ?_
  show Code.wp _ _ _ _ _
  refine wp_block ?_
  have hwd:IntKind.u8.wrap ((y:Int) - 48)=(dg:Int):=by have e9:=HDG2.out;rw [qQ0];omega
  have hwd2:IntKind.i64.wrap (dg:Int)=(dg:Int):=by have e9:=HDG2.out;rw [IntKind.wrap_i64];omega
  have HZ2:Hid (((10:Int):Rat)=(10:Rat)):=lh_ (by decide +kernel)
  have su2:rz ((10:Rat))≤5:=qo3 (qc0.2 (by decide +kernel)) (qc0.2 (by decide +kernel))
  obtain ⟨u3,HZ3⟩:=ex_ (q*(10:Rat))
  have su3:rz u3≤45:=by rw [← HZ3.out];have:=qn4 q (10:Rat);omega
  obtain ⟨u4,HZ4⟩:=ex_ ((((dg:Int):Int):Rat))
  have su4:rz u4≤5:=by rw [← HZ4.out];exact qz6 om om
  have HZ5:Hid (u3+(u4)=q'):=lh_ (by simp only [← HZ4.out,← HZ3.out];exact HQ'.out)
  have su5:rz q'≤60:=by have e:=HZ5.out;first|omega|(rw [← e];have:=qP4 u3 u4;omega)
  have lx5:=kc2_ I
  refine kS fun K O=>?_
  have HG0:Hid (Gr vw5 vw5):=lh_ (Gr.refl _)
  refine xR0 fun T Y=>?_
  iterate 6 refine tk ?_
  refine ce2 Tryz.call173 HG0 (fun w' hw=>qg3 (10) (10:Rat) _ HZ2.out om om) ?_;clear HG0;intro vv6 HG0 _ ao3 nn3 cc3 ao4 nn4 cc4 RN6 RN7
  clear lx5;have lx5:=fun w' (h:Gr _ w')=>kc2_ I w' (HG0.out.trans h)
  refine ce2 Tryz.call135 HG0 (fun w' hw=>qu4 q (10:Rat) u3 _ _ _ _ _ HZ3.out om om (I.out.r 3 rfl (HG0.out.trans hw)) (I.out.r 4 rfl (HG0.out.trans hw)) (RN6.out.gr hw) (RN7.out.gr hw)) ?_;clear HG0;intro vv8 HG0 HGS ao5 nn5 cc5 ao6 nn6 cc6 RN8 RN9
  replace RN6:=lh_ (RN6.out.gr HGS.out)
  replace RN7:=lh_ (RN7.out.gr HGS.out)
  clear HGS
  clear lx5;have lx5:=fun w' (h:Gr _ w')=>kc2_ I w' (HG0.out.trans h)
  refine ce2 Tryz.call173 HG0 (fun w' hw=>qg3 ((dg:Int)) u4 _ HZ4.out om om) ?_;clear HG0;intro vv10 HG0 HGS ao7 nn7 cc7 ao8 nn8 cc8 RN10 RN11
  replace RN6:=lh_ (RN6.out.gr HGS.out)
  replace RN7:=lh_ (RN7.out.gr HGS.out)
  replace RN8:=lh_ (RN8.out.gr HGS.out)
  replace RN9:=lh_ (RN9.out.gr HGS.out)
  clear HGS
  clear lx5;have lx5:=fun w' (h:Gr _ w')=>kc2_ I w' (HG0.out.trans h)
  refine ce2 Tryz.call131 HG0 (fun w' hw=>qB_ u3 u4 q' _ _ _ _ _ HZ5.out om om (RN8.out.gr hw) (RN9.out.gr hw) (RN10.out.gr hw) (RN11.out.gr hw)) ?_;clear HG0;intro vv12 HG0 HGS ao9 nn9 cc9 ao10 nn10 cc10 RN12 RN13
  replace RN6:=lh_ (RN6.out.gr HGS.out)
  replace RN7:=lh_ (RN7.out.gr HGS.out)
  replace RN8:=lh_ (RN8.out.gr HGS.out)
  replace RN9:=lh_ (RN9.out.gr HGS.out)
  replace RN10:=lh_ (RN10.out.gr HGS.out)
  replace RN11:=lh_ (RN11.out.gr HGS.out)
  clear HGS
  clear lx5;have lx5:=fun w' (h:Gr _ w')=>kc2_ I w' (HG0.out.trans h)
  refine qa0 (Y.out _ _ ?_)
  intro G vw6 hg hf
  simp only [puts,Act.put,lA,lB,lC,lD,lE,↓reduceIte,Nat.reduceEqDiff]
  have J:=lh_ (((((((((I.out.gr (HG0.out.trans hg)).ar (RN6.out.gr hg)).ar (RN7.out.gr hg)).ar (RN8.out.gr hg)).ar (RN9.out.gr hg)).ar (RN10.out.gr hg)).ar (RN11.out.gr hg)).ar (RN12.out.gr hg)).ar (RN13.out.gr hg))
  simp only [zq1_,zq2_,zq3_,zq4_,lF,lG] at J
  clear Y T I hg hf HG0 RN6 RN7 RN8 RN9 RN10 RN11 RN12 RN13 lx5
  have lx5:=kc2_ J;have fx5:=kf2_ J
  have r0:=Gr.refl vw6
  go_wp2
  refine kO O ?_;clear O K
  clear r0 lx5 fx5
  refine fH (((J.out).put2 2 0 rfl).put 2 2 _ rfl) fun Wx11 I=>?_
  clear J
  clear hwd hwd2
  have hwi:IntKind.i64.wrap ((i:Int)+1)=(i:Int)+1:=by rw [IntKind.wrap_i64];omega
  refine kL fun K O=>?_
  refine sq3_ fun T Y=>?_
  refine tk3_ ?_
  refine nlS Y I fun vw7 J=>?_
  clear Y T I
  go_wp2
  refine O.out _ _ ?_;clear O K
  try simp only [Exit.then,Exit.inBlock]
  have I:=lh_ (J.out);clear J
  clear hwi
  refine hj0_ _ _ ?_
  go_roundg kk
  case measure=>omega
  case rel=>exact ⟨i+1,q',_,_,rfl,by omega,by omega,lh_ (by rw [← HQ'.out,← HQ.out,HDG2.out,← HYB.out];exact qF5 s hbi),lh_ (((((((((I.out).er 10).er 9).er 8).er 7).er 6).er 5).er 4).er 3)⟩
end Go.Proofs.YtobojnodohjiaaaGreatDoor
