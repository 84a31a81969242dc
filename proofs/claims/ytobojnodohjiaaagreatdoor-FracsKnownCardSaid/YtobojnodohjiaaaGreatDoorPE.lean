/- A pack of texts: Form, TextP, Text. No condition but those stated. -/
import Derived.Test.YtobojnodohjiaaaGreatDoorShelf
import Derived.Test.YtobojnodohjiaaaGreatDoorPC
import Derived.Test.YtobojnodohjiaaaGreatDoorPA
import Derived.Lib.AppendIntMem
import Derived.Lib.Hide
import Derived.BigCall
import Derived.Test.YtobojnodohjiaaaGreatDoorPD
import Derived.Lib.Repeat
import Derived.Lib.Join
import Derived.Lib.LazyBuf
import Derived.Test.YtobojnodohjiaaaGreatDoorPF
import Derived.Test.YtobojnodohjiaaaGreatDoorPB
set_option maxRecDepth 100000
set_option maxHeartbeats 16000000
set_option linter.unusedVariables false
set_option linter.unusedSimpArgs false
namespace Go.Proofs.YtobojnodohjiaaaGreatDoor
section
open Go.RowKit Go.Sort
def Tab (w:World):Prop:=Lib.TabIs Tryz.prog w "internal/strconv.uint64pow10" .u64 Lib.pow10Tab
theorem xi0 {P:Program} {w w':World} {name:String} {k:IntKind} {zs:List Int} (h:Lib.TabIs P w name k zs) (hg:Gr w w'):Lib.TabIs P w' name k zs:=by
 unfold Lib.TabIs World.var? at *
 cases hn:P.globalNamed name with
 | none=>simp [hn] at h
 | some g =>
  simp only [hn,Option.bind_some] at h ⊢
  have hlt:g<w.heap.size:=by
   rcases Nat.lt_or_ge g w.heap.size with h'|h'
   ·exact h'
   rw [Array.getElem?_eq_none h'] at h;simp at h
  rw [Below.block hg g hlt]
  exact h
theorem Tab.gr {w w':World} (h:Tab w) (hg:Gr w w'):Tab w':=xi0 h hg
theorem qT4 {w:World} {k:Nat} {os:Array Obj}:Gr w (Go.Sort.grow (w.drewN k) os):=Lib.below_grow _ _ (Nat.le_refl _) _ _
theorem fin0 (w:World) (o:Obj) (dk:Array UInt8) (k:Nat):Gr w ((putRow (fun (b:UInt8)=>Value.int .u8 (b.toNat:Int)) (w.alloc o) w.heap.size 0 dk).drewN k):=by
 rw [alloc_eq_grow]
 obtain ⟨os',_,e⟩:=putRow_grow_new (fun (b:UInt8)=>Value.int .u8 (b.toNat:Int)) w #[o] w.heap.size 0 dk (Nat.le_refl _)
 rw [e]
 exact qT4 (w:=w) (k:=k) (os:=os')
theorem holds_zero0 (w:World) (T:TypeId) (nd:Nat) (hs:nd≤24):Holds (fun (b:UInt8)=>Value.int .u8 (b.toNat:Int)) (w.alloc (.cells Lib.zeros24 T)) w.heap.size 0 (Array.replicate nd (0:UInt8)):=fun j hj=>by
 have hj':j<nd:=by simpa using hj
 refine ⟨?_,World.frozen?_alloc_new _ _ _ _⟩
 rw [World.cell?_alloc_new,Lib.zeros24_at _ (by omega),getElem!_pos _ j hj]
 simp
theorem xn4 (u:Nat) (hu64:u<18446744073709551616) (w:World) (HT:Hid (Tab w)) :
  Calls Tryz.prog 253 #[.int .u64 (u:Int),.int .i64 10] w fun e w'=>e=.returned (.string ⟨(Lib.decDigits u).toArray⟩)∧Gr w w':=by
 by_cases hs:u<100
 ·go_enter Tryz.func253,Tryz.ntmps253
  go_wp2_with fail
  refine (Tryz.internal_strconv_small u hs _).mono ?_
  rintro e w' ⟨rfl,rfl⟩
  go_wp2_with fail
  go_ret
  exact ⟨rfl,Gr.refl _⟩
 have hu1:1≤u:=by omega
 have hnd20:Lib.nDigits u≤20:=by have:=Lib.numDigits_eq u hu1 hu64;split at this <;> omega
 have hal:Tryz.prog.arrayLen 312=24:=by kernel_rfl
 have hsl1:∀ W,(Instr.sliceAt 312 (.pointer (some ⟨w.heap.size,0,none⟩)) none (some (.int .i64 (Lib.nDigits u:Int))) none).run Tryz.prog W=.ok (.slice (some ⟨w.heap.size,0,none⟩) (Lib.nDigits u) 24) W:=fun W=>by
  rw [run_sliceAt_array_h W 312 ⟨w.heap.size,0,none⟩ (by kernel_rfl) .i64 (Lib.nDigits u:Int) (by omega) (by rw [hal];omega)]
  rw [show Tryz.prog.elem 312=5 by kernel_rfl,hal]
  go_simp
 have hH0:=holds_zero0 w 312 (Lib.nDigits u) (by omega)
 have hfmt:=Tryz.internal_strconv_formatBase10 w.heap.size 0 24 u (Array.replicate (Lib.nDigits u) 0) (w.alloc (.cells Lib.zeros24 312)) hH0 (by rw [Array.size_replicate];exact Lib.lt_pow_nDigits u) hu64 (by rw [Array.size_replicate];omega)
 rw [Array.size_replicate] at hfmt
 have HH0:=Lib.hid hH0
 clear hH0 hal
 go_enter Tryz.func253,Tryz.ntmps253
 go_wp2_with fail
 refine (Tryz.internal_strconv_numDigits u hu1 hu64 _ (Lib.tabIs_alloc HT.out _)).mono ?_
 rintro e w' ⟨rfl,rfl⟩
 go_wp2_with fail
 refine hfmt.mono ?_
 rintro e w' ⟨rfl,k,v',dk,rfl,hF⟩
 have hcv:(Go.convert 250 9 (.slice (some ⟨w.heap.size,0,none⟩) (Lib.nDigits u) 24)).run Tryz.prog ((putRow (fun (b:UInt8)=>Value.int .u8 (b.toNat:Int)) (w.alloc (.cells Lib.zeros24 312)) w.heap.size 0 dk).drewN k)=.ok (.string ⟨(Lib.decDigits u).toArray⟩) ((putRow (fun (b:UInt8)=>Value.int .u8 (b.toNat:Int)) (w.alloc (.cells Lib.zeros24 312)) w.heap.size 0 dk).drewN k):=by
  have h:=run_convert_bytes_back (P:=Tryz.prog) ((putRow (fun (b:UInt8)=>Value.int .u8 (b.toNat:Int)) (w.alloc (.cells Lib.zeros24 312)) w.heap.size 0 dk).drewN k) 250 9 5 ⟨w.heap.size,0,none⟩ 24 (Lib.decDigits u) (by kernel_rfl) (by kernel_rfl) (by kernel_rfl) (fun j hj=>by
   rw [Lib.row_is_numeral hF j hj,Lib.add_plain,World.cell?_drewN]
   exact cell?_putRow (fun (b:UInt8)=>Value.int .u8 (b.toNat:Int)) _ w.heap.size 0 _ dk HH0.out (by rw [hF.size,Array.size_replicate]) j (by rw [hF.size];rw [Lib.decDigits_length] at hj;exact hj))
  rw [Lib.decDigits_length] at h
  exact h
 go_wp2_with fail
 go_ret
 exact ⟨rfl,fin0 w _ dk k⟩
theorem xd0 (u:Nat) (hu64:u<18446744073709551616) (w:World) (HT:Hid (Tab w)) :
  Calls Tryz.prog 223 #[.int .u64 (u:Int),.int .i64 10] w fun e w'=>e=.returned (.string ⟨(Lib.decDigits u).toArray⟩)∧Below w.heap.size w w':=by
 go_enter Tryz.func223,Tryz.ntmps223
 go_wp2_with fail
 refine (xn4 u hu64 w HT).mono ?_
 rintro e w' ⟨rfl,hg⟩
 go_wp2_with fail
 go_ret
 exact ⟨rfl,hg⟩
theorem xe9 (u:Nat) (hu:u<4294967296) (w:World) (HT:Hid (Tab w)) :
  Calls Tryz.prog 224 #[.int .i64 (u:Int)] w fun e w'=>e=.returned (.string ⟨(Lib.decDigits u).toArray⟩)∧Below w.heap.size w w':=by
 refine (Tryz.strconv_Itoa (u:Int) (by omega) (by omega) w HT.out).mono ?_
 rintro e w' ⟨rfl,k,os,rfl⟩
 exact ⟨by rw [Lib.itoa_nonneg],qT4⟩
end
section
open Go.RowKit
def pad (k r:Nat):List UInt8:=Lib.repeatL [48] (k - Lib.nDigits r) ++ Lib.decDigits r
theorem qA3 (k:Nat):Lib.repeatL [48] (k+1)=Lib.repeatL [48] k ++ [48]:=by
 induction k with
 | zero=>rfl
 | succ k ih =>
  show [48] ++ Lib.repeatL [48] (k+1)=([48] ++ Lib.repeatL [48] k) ++ [48]
  rw [ih,List.append_assoc]
theorem qc5 {u:Nat} (h:¬ u<10):Lib.decDigits u=Lib.decDigits (u / 10) ++ [UInt8.ofNat (48+u % 10)]:=by rw [Lib.decDigits,dif_neg h]
theorem qv8:∀ (k r:Nat),r<10 ^ (k+1)→Lib.nDigits r≤k+1
 | 0,r,h=>by rw [Lib.nDigits_small (by simpa using h)];exact Nat.le_refl _
 | k+1,r,h=>by
  by_cases h1:r<10
  ·rw [Lib.nDigits_small h1];omega
  rw [Lib.nDigits_big h1]
  have:=qv8 k (r / 10) (by rw [Nat.pow_succ] at h;omega)
  omega
theorem xf_ (k r:Nat) (hk:0<k) (h:r<10 ^ (k+1)):pad (k+1) r=pad k (r / 10) ++ [UInt8.ofNat (48+r % 10)]:=by
 unfold pad
 by_cases h1:r<10
 ·obtain ⟨j,rfl⟩:∃ j,k=j+1:=⟨k - 1,by omega⟩
  rw [Lib.nDigits_small h1,show r / 10=0 by omega,Lib.nDigits_small (by decide:0<10),Lib.decDigits_one h1,Lib.decDigits_one (by decide:0<10),show r % 10=r by omega,
   show j+1+1 - 1=j+1 by omega,show j+1 - 1=j by omega,qA3]
  rfl
 rw [Lib.nDigits_big h1,qc5 h1,← List.append_assoc,show k+1 - (Lib.nDigits (r / 10)+1)=k - Lib.nDigits (r / 10) by omega]
theorem qz1:∀ (k x:Nat),0<k→10 ^ k≤x→Lib.decDigits x=Lib.decDigits (x / 10 ^ k) ++ pad k (x % 10 ^ k)
 | 0,_,h,_=>absurd h (by decide)
 | 1,x,_,h=>by
  rw [Nat.pow_one] at *
  rw [qc5 (by omega)]
  congr 1
  unfold pad
  rw [Lib.nDigits_small (Nat.mod_lt _ (by decide)),Lib.decDigits_one (Nat.mod_lt _ (by decide))]
  rfl
 | k+2,x,_,h=>by
  have hp:0<10 ^ k:=Nat.pow_pos (by decide)
  have e1:10 ^ (k+1)=10*10 ^ k:=by rw [Nat.pow_succ,Nat.mul_comm]
  have e:10 ^ (k+2)=10*10 ^ (k+1):=by rw [Nat.pow_succ 10 (k+1),Nat.mul_comm]
  have hx:¬ x<10:=by omega
  rw [qc5 hx,qz1 (k+1) (x / 10) (by omega) (by rw [Nat.le_div_iff_mul_le (by decide)];omega),xf_ (k+1) _ (by omega) (Nat.mod_lt _ (Nat.pow_pos (by decide))),List.append_assoc]
  congr 2
  ·rw [e,Nat.div_div_eq_div_mul]
  ·rw [e,Nat.mod_mul_right_div_self]
  rw [e,Nat.mod_mul_right_mod]
def hd (x:Nat):List UInt8:=if x=0 then [] else Lib.decDigits x
def ql9 (x:Nat):List UInt8:=if x / 1000000000=0 then Lib.decDigits (x % 1000000000) else pad 9 (x % 1000000000)
theorem xo2 {x:Nat} (h:x≠0):hd x=hd (x / 1000000000) ++ ql9 x:=by
 unfold hd ql9
 rw [if_neg h]
 by_cases h1:x / 1000000000=0
 ·rw [if_pos h1,if_pos h1,show x % 1000000000=x by omega];rfl
 rw [if_neg h1,if_neg h1]
 exact qz1 9 x (by decide) (by
  have:0<x / 1000000000:=Nat.pos_of_ne_zero h1
  have:=Nat.div_pos_iff.1 this
  simpa using this.2)
theorem qe6 (u:Nat):Lib.nDigits u≤nb u+1:=by
 have key:∀ u,2 ^ (Lib.nDigits u - 1)≤max 1 u:=fun u=>by
  induction u using Nat.strongRecOn with
  | ind u ih =>
   by_cases h:u<10
   ·rw [Lib.nDigits_small h];exact Nat.le_max_left _ _
   have h1:=ih (u / 10) (by omega)
   rw [Lib.nDigits_big h,Nat.add_sub_cancel]
   have h2:=Lib.nDigits_pos (u / 10)
   obtain ⟨j,hj⟩:∃ j,Lib.nDigits (u / 10)=j+1:=⟨_,(Nat.succ_pred_eq_of_pos h2).symm⟩
   rw [hj,Nat.add_sub_cancel] at h1
   rw [hj,Nat.pow_succ]
   omega
 have h1:=key u
 have h2:u<2 ^ nb u:=nb_le.1 (Nat.le_refl _)
 have h3:2 ^ (Lib.nDigits u - 1)≤2 ^ nb u:=Nat.le_trans h1 (by have:0<2 ^ nb u:=Nat.pow_pos (by decide);omega)
 have:=(Nat.pow_le_pow_iff_right (by decide:1<2)).1 h3
 omega
def TextAt (n x:Nat) (ps:List ByteArray):Prop :=
 Lib.decDigits n=hd x ++ (ps.map fun s=>s.data.toList).reverse.flatten∧x*2 ^ ps.length≤n∧ps.length≤nb n
theorem TextAt.start {n:Nat} (h:n≠0):TextAt n n []:=⟨by unfold hd;rw [if_neg h];simp,by simp,Nat.zero_le _⟩
theorem TextAt.step {n x:Nat} {ps:List ByteArray} (h:TextAt n x ps) (hx:x≠0) {s:ByteArray} (hs:s.data.toList=ql9 x):TextAt n (x / 1000000000) (ps ++ [s]):=by
 obtain ⟨h1,h2,h3⟩:=h
 refine ⟨?_,?_,?_⟩
 ·rw [h1,xo2 hx]
  simp [hs]
 ·rw [List.length_append,List.length_singleton,Nat.pow_succ]
  refine Nat.le_trans ?_ h2
  have h4:x / 1000000000*2≤x:=by omega
  calc x / 1000000000*(2 ^ ps.length*2)=x / 1000000000*2*2 ^ ps.length:=by simp only [Nat.mul_comm,Nat.mul_left_comm,Nat.mul_assoc]
   _≤x*2 ^ ps.length:=Nat.mul_le_mul_right _ h4
 rw [List.length_append,List.length_singleton]
 have h4:2 ^ ps.length≤n:=Nat.le_trans (Nat.le_mul_of_pos_left _ (Nat.pos_of_ne_zero hx)) h2
 rcases Nat.lt_or_ge ps.length (nb n) with h|h
 ·omega
 have:=nb_le.1 h
 omega
theorem TextAt.done {n:Nat} {ps:List ByteArray} (h:TextAt n 0 ps):Lib.decDigits n=(ps.map fun s=>s.data.toList).reverse.flatten:=by
 rw [h.1];unfold hd;rw [if_pos rfl];rfl
def svs (ps:List ByteArray):List Value:=ps.map .string
def Sr (w:World) (B:Nat) (v:Value) (ps:List ByteArray):Prop:=w.ownsRow B 9 1 v ps.length (svs ps)
theorem Sr.cases {w:World} {B:Nat} {v:Value} {ps:List ByteArray} (h:Sr w B v ps):(v=.slice none 0 0∧ps = [])∨∃ b c,v=.slice (some ⟨b,0,none⟩) ps.length c∧B≤b∧b<w.heap.size∧ps.length≤c∧c≤9223372036854775807∧(∀ (i:Nat) s,ps[i]?=some s→w.cell? ⟨b,i,none⟩=some (.string s))∧(∀ i,w.frozen? ⟨b,i,none⟩=false):=by
 have h0:=h
 rcases h.2 with ⟨hn,hl⟩|⟨b,c,cur,rfl,hb,hg,hc,hm,hs,ht⟩
 ·exact .inl ⟨hn,List.length_eq_zero_iff.1 hl⟩
 refine .inr ⟨b,c,rfl,hb,(Array.getElem?_eq_some_iff.1 hg).1,hc,hm,fun i s hi=>?_,fun i=>h0.frozenAt i⟩
 have hlt:i<ps.length:=(List.getElem?_eq_some_iff.1 hi).1
 rw [World.ownsRow.cellAt h0 i (by omega)]
 simp [svs,hi]
theorem Sr.gr {w w':World} {B:Nat} {v:Value} {ps:List ByteArray} (h:Sr w B v ps) (hg:Gr w w'):Sr w' B v ps:=by
 refine ⟨h.1,?_⟩
 rcases h.2 with hn|⟨b,c,cur,rfl,hb,hh,rest⟩
 ·exact .inl hn
 exact .inr ⟨b,c,cur,rfl,hb,hg.block hh,rest⟩
theorem Sr.alloc {w:World} {B:Nat} {v:Value} {ps:List ByteArray} (h:Sr w B v ps) (o:Obj):Sr (w.alloc o) B v ps:=h.gr (Gr.alloc w o)
theorem Sr.nil (w:World) (B:Nat):Sr w B (.slice none 0 0) []:=World.ownsRow_nil _ _ _ _
theorem Sr.own {w:World} {B:Nat} {v:Value} {ps:List ByteArray} (h:Sr w B v ps):∀ j,v.ownBlock=some j→B≤j∧j<w.heap.size:=fun j hj=>by
 rcases h.2 with ⟨rfl,_⟩|⟨b,c,cur,rfl,hb,hh,rest⟩
 ·exact absurd hj (by simp [Value.ownBlock])
 obtain rfl:b=j:=by simpa [Value.ownBlock] using hj
 exact ⟨hb,(Array.getElem?_eq_some_iff.1 hh).1⟩
theorem Sr.apart {w:World} {B:Nat} {v:Value} {ps:List ByteArray} (h:Sr w B v ps) {b n:Nat} {f:Nat→Nat} (hw:Ws w b n f):some b≠v.ownBlock:=by
 intro e
 rcases h.2 with ⟨rfl,_⟩|⟨g,c,cur,rfl,hb,hh,rest⟩
 ·exact absurd e (by simp [Value.ownBlock])
 obtain ⟨cw,h1,_⟩:=hw
 have e2:b=g:=by simpa [Value.ownBlock] using e
 subst e2
 rw [h1] at hh
 simp at hh
theorem qU4 (vs:List (List UInt8)):Lib.join vs []=vs.flatten:=by
 cases vs with
 | nil=>rfl
 | cons x r =>
  rw [Lib.join_cons]
  unfold Lib.joinTail
  simp
theorem xe8:(Tryz.prog.info? 9).map (fun i=>(i.zero,i.size,i.bytes))=some (some (.string ⟨#[]⟩),1,16):=by kernel_rfl
end
section
open Go.RowKit
theorem qC3 (l:List UInt8):(⟨l.toArray⟩:ByteArray).size=l.length:=by simp [ByteArray.size]
theorem qC2 (l:List UInt8):(⟨l.toArray⟩:ByteArray).data.toList=l:=by simp
theorem qP9 (a b:ByteArray):(a ++ b).data.toList=a.data.toList ++ b.data.toList:=by simp
theorem qI_ {w0 wr w1:World} {v v':Value} {ps:List ByteArray} {s:ByteArray} {o:Obj} (hb:Below w0.heap.size w0 wr) (ho:Sr wr w0.heap.size v ps)
  (hown:w1.ownsRow w0.heap.size 9 1 v' (ps.length+1) (svs ps ++ [.string s])) (hg:(wr.alloc o).grownBy w1 v.ownBlock) :
  Below w0.heap.size w0 w1∧Sr w1 w0.heap.size v' (ps ++ [s]) :=
 ⟨(hb.alloc hb.size o).grown hg (Nat.le_trans hb.size (by simp)) (fun j hj=>(ho.own j hj).1),by unfold Sr svs at *; rw [List.length_append,List.length_singleton,List.map_append];exact hown⟩
theorem qK0 {w0 wr w1:World} {v:Value} {ps:List ByteArray} {o:Obj} {b K:Nat} {f:Nat→Nat} (hw:Ws wr b K f) (ho:Sr wr w0.heap.size v ps) (hg:(wr.alloc o).grownBy w1 v.ownBlock):Ws w1 b K f :=
 World.rowIs.of_block (hw.alloc o) (hg.block b ((hw.alloc o).lt) (ho.apart hw))
theorem qV5 (s:ByteArray):∀ u ∈ [Value.string s],u.oneCell'=true:=by intro u hu;simp at hu;subst hu;rfl
theorem qO6 (n:Nat) (w:World) (h:n<18446744073709551616) (HT:Hid (Tab w)) :
  Calls Tryz.prog 154 #[(Value.agg #[.int .u64 (lo n),.string (bg n)])] w fun e w'=>e=.returned (.string ⟨(Lib.decDigits n).toArray⟩)∧Below w.heap.size w w':=by
 obtain ⟨W0,HW⟩:∃ W0,Hid (w.alloc (.cells #[.int .u64 ((lo n:Nat):Int),.string (bg n)] 30)=W0):=⟨_,Lib.hid rfl⟩
 have HB0:Hid (Below w.heap.size w W0):=Lib.hid (by rw [← HW.out];exact (Below.refl _ _).alloc (Nat.le_refl _) _)
 have bx:Bx W0 w.heap.size 30 #[.int .u64 ((lo n:Nat):Int),.string (bg n)]:=by rw [← HW.out];exact Bx.new _ _ _
 have c0:W0.cell? ⟨w.heap.size,0,none⟩=some (.int .u64 ((lo n:Nat):Int)):=by rw [bx.cells W0 (Gr.refl _)];rfl
 have c1:W0.cell? ⟨w.heap.size,1,none⟩=some (.string (bg n)):=by rw [bx.cells W0 (Gr.refl _)];rfl
 have p1:(bg n).toList.isEmpty=true:=by rw [qb9,decide_eq_true h]
 have HF:Hid (Calls Tryz.prog 223 #[.int .u64 ((lo n:Nat):Int),.int .i64 10] W0 fun e w'=>e=.returned (.string ⟨(Lib.decDigits n).toArray⟩)∧Below W0.heap.size W0 w'):=Lib.hid (by rw [qb0 h];exact xd0 n h W0 (Lib.hid (HT.out.gr HB0.out)))
 clear bx h
 go_enter Tryz.func154,Tryz.ntmps154
 go_wp2_with fail
 rw [HW.out]
 refine HF.out.mono ?_
 rintro e w1 ⟨rfl,hb1⟩
 have HB1:=Lib.hid (HB0.out.trans (hb1.mono HB0.out.size))
 clear hb1 HF
 go_wp2_with fail
 go_ret
 exact ⟨rfl,HB1.out⟩
theorem xi1 (n:Nat) (w:World) (hbig:¬ n<18446744073709551616) (hn:wl n≤1000000) (HT:Hid (Tab w)) :
  Calls Tryz.prog 154 #[(Value.agg #[.int .u64 (lo n),.string (bg n)])] w fun e w'=>e=.returned (.string ⟨(Lib.decDigits n).toArray⟩)∧Below w.heap.size w w':=by
 obtain ⟨i0,hi,hz0,hz1,hz2⟩:=info_parts xe8
 obtain ⟨W0,HW⟩:∃ W0,Hid (w.alloc (.cells #[.int .u64 ((lo n:Nat):Int),.string (bg n)] 30)=W0):=⟨_,Lib.hid rfl⟩
 have HB0:Hid (Below w.heap.size w W0):=Lib.hid (by rw [← HW.out];exact (Below.refl _ _).alloc (Nat.le_refl _) _)
 have bx:Bx W0 w.heap.size 30 #[.int .u64 ((lo n:Nat):Int),.string (bg n)]:=by rw [← HW.out];exact Bx.new _ _ _
 have c0:(w.alloc (.cells #[.int .u64 ((lo n:Nat):Int),.string (bg n)] 30)).cell? ⟨w.heap.size,0,none⟩=some (.int .u64 ((lo n:Nat):Int)):=by rw [HW.out,bx.cells W0 (Gr.refl _)];rfl
 have c1:(w.alloc (.cells #[.int .u64 ((lo n:Nat):Int),.string (bg n)] 30)).cell? ⟨w.heap.size,1,none⟩=some (.string (bg n)):=by rw [HW.out,bx.cells W0 (Gr.refl _)];rfl
 have p1:(bg n).toList.isEmpty=false:=by rw [qb9,decide_eq_false hbig]
 have HN0:Hid (n≠0):=Lib.hid (by intro e;subst e;exact hbig (by decide))
 obtain ⟨m,hm⟩:∃ m,wl n=m:=⟨_,rfl⟩
 have HM:=Lib.hid hm
 have HWO:=Lib.hid (qd6 n W0 (by omega))
 have hnb:nb n≤32000000:=by have:=nb_wl n;omega
 have HNB:=Lib.hid hnb
 rw [hm] at hn
 clear hm bx hbig hnb
 go_enter Tryz.func154,Tryz.ntmps154
 go_wp2_with fail
 rw [HW.out]
 refine HWO.out.mono ?_
 rintro e w1 ⟨b,c,rfl,hb,hc,hc2,hws,hbel⟩
 rw [HM.out] at hc hc2 ⊢
 have HB1:=Lib.hid (HB0.out.trans (hbel.mono HB0.out.size))
 have HWS:Hid (∃ K,m≤K∧Ws w1 b K (dg n)):=Lib.hid ⟨c,hc,hws⟩
 clear hws hbel HB0 HW HWO c0 c1 hb
 go_wp2_with fail
 go_loopg [3,4] n (fun x v l wr=>∃ (ps:List ByteArray) (b k c:Nat),l=.slice (some ⟨b,0,none⟩) k c∧Hid (wl x=k)∧k≤c∧c≤2000000∧k≤1000000∧Hid (∃ K,k≤K∧Ws wr b K (dg x))∧Hid (Sr wr w.heap.size v ps)∧Hid (TextAt n x ps)∧Hid (Below w.heap.size w wr))
 case atStart=>exact ⟨[],b,m,c,rfl,HM,hc,by omega,hn,HWS,Lib.hid (Sr.nil _ _),Lib.hid (TextAt.start HN0.out),HB1⟩
 case round =>
  obtain ⟨ps,b,k,c,rfl,HK,hkc,hc2,hk,HWS,HSR,HTX,HB⟩:=hrel
  clear HM HB1
  by_cases hx:gk=0
  ·obtain rfl:k=0:=by rw [← HK.out,hx];rfl
   have HX:=Lib.hid hx
   clear hx
   go_wp2_with fail
   have HD:Hid (Lib.decDigits n=(ps.map fun s=>s.data.toList).reverse.flatten):=Lib.hid (by have h:=HTX.out;rw [HX.out] at h;exact h.done)
   have hlen:ps.length≤32000000:=Nat.le_trans HTX.out.2.2 HNB.out
   have HLN:Hid ((Lib.decDigits n).length≤32000001):=Lib.hid (by rw [Lib.decDigits_length];have:=qe6 n;have:=HNB.out;omega)
   have hne:ps ≠ []:=by
    intro e
    have h:=HD.out
    rw [e] at h
    have h2:=congrArg List.length h
    rw [Lib.decDigits_length] at h2
    have:=Lib.nDigits_pos n
    simp at h2
    omega
   rcases HSR.out.cases with ⟨_,h⟩|⟨gb,gc,rfl,hgb,hlt,hcap,hcap2,hcell,hfz⟩
   ·exact absurd h hne
   obtain ⟨nn,hnn⟩:∃ nn,ps.length=nn:=⟨_,rfl⟩
   have HREV:=Lib.hid (Tryz.slices_Reverse_string_cells gb 0 nn gc (fun i=>ps.getD i ⟨#[]⟩) wr (by omega) (fun i hi=>by rw [Nat.zero_add];exact hcell i _ (by simp [List.getD,show i<ps.length by omega])) (fun i hi=>hfz _))
   rw [hnn]
   rw [hnn] at hcap hlen
   have HNN:=Lib.hid hnn
   have HCELL:=Lib.hid hcell
   have HNE:=Lib.hid hne
   clear hcell hfz hnn hne
   go_wp2_with fail
   refine HREV.out.mono ?_
   rintro e w2 ⟨rfl,qd,rfl⟩
   obtain ⟨vs,hvs⟩:∃ vs,(Lib.strsOf (fun i=>ps.getD i ⟨#[]⟩) nn).reverse=vs:=⟨_,rfl⟩
   have hvs2:vs=(ps.map fun s=>s.data.toList).reverse:=by
    rw [← hvs]
    congr 1
    apply List.ext_getElem?
    intro j
    unfold Lib.strsOf
    by_cases hj:j<ps.length
    ·simp [← HNN.out,hj]
    simp [← HNN.out,hj]
   have hvl:vs.length=nn:=by rw [hvs2];simp [HNN.out]
   rw [hvs]
   obtain ⟨W2,HW2⟩:∃ W2,Hid ((wr.drewN qd).setCells gb 0 (vs.map encStr)=W2):=⟨_,Lib.hid rfl⟩
   rw [HW2.out]
   have HB2:Hid (Below w.heap.size w W2):=Lib.hid (by rw [← HW2.out];exact Go.below_setCells hgb _ _ _ (qa0 HB.out _))
   have HC2:∀ (j:Nat) x,(vs.map fun l=>(⟨l.toArray⟩:ByteArray))[j]?=some x→W2.cell? ⟨gb,0+j,none⟩=some (.string x):=by
    intro j x hx
    have hj:j<(vs.map encStr).length:=by
     have:=(List.getElem?_eq_some_iff.1 hx).1
     simpa using this
    have hin:=World.cell?_setCells_in gb (vs.map encStr) 0 (wr.drewN qd) (fun t ht=>by
     rw [World.cell?_drewN,Nat.zero_add]
     have htl:t<ps.length:=by rw [HNN.out,← hvl];simpa using ht
     rw [HCELL.out t _ (List.getElem?_eq_getElem htl)]
     rfl) j hj
    rw [← HW2.out,hin]
    congr 1
    have hj2:j<vs.length:=by simpa using hj
    have e:(⟨vs[j].toArray⟩:ByteArray)=x:=by simpa [hj2] using hx
    rw [← e]
    simp [encStr]
   have hlt2:gb<W2.heap.size:=by
    have:=HB2.out
    rw [← HW2.out]
    have h3:=(Go.below_setCells (B:=0) (a:=wr) (Nat.zero_le gb) (vs.map encStr) 0 (wr.drewN qd) (qa0 (Below.refl _ _) qd)).size
    omega
   have hjoin:(Lib.join ((vs.map fun l=>(⟨l.toArray⟩:ByteArray)).map (·.data.toList)) (⟨#[]⟩:ByteArray).data.toList)=Lib.decDigits n:=by
    rw [HD.out,← hvs2]
    have e:((vs.map fun l=>(⟨l.toArray⟩:ByteArray)).map (·.data.toList))=vs:=by rw [List.map_map];exact (List.map_congr_left (g:=id) fun l _=>by simp).trans (List.map_id vs)
    rw [e]
    exact qU4 vs
   have HJ:=Tryz.strings_Join gb 0 gc (vs.map fun l=>(⟨l.toArray⟩:ByteArray)) ⟨#[]⟩ W2 HC2 hlt2 (by rw [List.length_map];omega) (by rw [List.length_map];omega) (by rw [hjoin];have:=HLN.out;omega)
   rw [hjoin,List.length_map,hvl] at HJ
   have HJ2:=Lib.hid HJ
   clear HJ hjoin HC2 hvs hvs2 HREV HW2
   go_wp2_with fail
   refine HJ2.out.mono ?_
   rintro e w3 ⟨rfl,hb3⟩
   have HB3:=Lib.hid (HB2.out.trans (hb3.mono HB2.out.size))
   clear hb3 HJ2
   go_wp2_with fail
   go_ret
   exact ⟨rfl,HB3.out⟩
  have hk0:0<k:=by rw [← HK.out];exact qo5 (by omega)
  have HX:=Lib.hid hx
  clear hx
  have HSH:Hid (Calls Tryz.prog 121 #[.slice (some ⟨b,0,none⟩) k c,.int .u32 1000000000] wr (ShortPost gk k 1000000000 wr)):=Lib.hid (by
   obtain ⟨K,hK,hws⟩:=HWS.out
   exact qB2 gk 1000000000 b c k wr (by omega) (fun i hi=>hws.cell (by omega)) hws.lt (by rw [← HK.out];exact qa6 gk) (by decide) (by decide))
  obtain ⟨q,hq⟩:∃ q,gk / 1000000000=q:=⟨_,rfl⟩
  obtain ⟨r,hr⟩:∃ r,gk % 1000000000=r:=⟨_,rfl⟩
  unfold ShortPost at HSH
  rw [hq,hr] at HSH
  have hr9:r<1000000000:=by omega
  have hqx:q<gk:=by have:=HX.out;omega
  have hqk:q<bp k:=Nat.lt_trans hqx (by rw [← HK.out];exact qa6 gk)
  have hqk2:wl q≤k:=wl_le.2 hqk
  have HCUT:Hid (∀ g W,(∀ i,i<k→W.cell? ⟨g,i,none⟩=some (.int .u32 ((dg q i:Nat):Int)))→Calls Tryz.prog 202 #[.slice (some ⟨g,0,none⟩) k k] W fun e w'=>e=.returned (.slice (some ⟨g,0,none⟩) (wl q) k)∧W=w'):=Lib.hid (fun g W hcell=>by
   have h:=qw6 g k (dg q) W k (Nat.le_refl _) (by omega) hcell
   rwa [xr3 (fun i _=>qd1 q i),qa1 hqk] at h)
  have HQ:=Lib.hid hq
  have HR:=Lib.hid hr
  clear hq hr hqk
  obtain ⟨k',hk'⟩:∃ k',wl q=k':=⟨_,rfl⟩
  rw [hk'] at HCUT hqk2
  have HK':=Lib.hid hk'
  clear hk'
  obtain ⟨S0,HS0⟩:∃ S:ByteArray,Hid ((⟨(Lib.decDigits r).toArray⟩:ByteArray)=S):=⟨_,Lib.hid rfl⟩
  have HIT:Hid (∀ W,Hid (Tab W)→Calls Tryz.prog 224 #[.int .i64 (r:Int)] W fun e w'=>e=.returned (.string S0)∧Below W.heap.size W w'):=Lib.hid (fun W h=>by rw [← HS0.out];exact xe9 r (by omega) W h)
  obtain ⟨d,hd⟩:∃ d,S0.size=d:=⟨_,rfl⟩
  have hd9:d≤9:=by rw [← hd,← HS0.out,qC3,Lib.decDigits_length];exact qv8 8 r hr9
  go_wp2_with fail
  refine HSH.out.mono ?_
  rintro e w2 ⟨g,rfl,hg1,hg2,hg3⟩
  have HG2:=Lib.hid (show Gr wr w2 from hg3)
  have HWG:=Lib.hid hg2
  clear hg2 hg3 hg1 HSH HWS
  go_wp2_with fail
  refine (HCUT.out g w2 (fun i hi=>HWG.out.cell hi)).mono ?_
  rintro e w3 ⟨rfl,rfl⟩
  clear HCUT
  go_wp2_with fail
  refine (HIT.out w2 (Lib.hid ((HT.out.gr (show Gr w wr from HB.out)).gr HG2.out))).mono ?_
  rintro e w3 ⟨rfl,hb3⟩
  have HG3:=Lib.hid (Gr.trans HG2.out hb3)
  have HW3:=Lib.hid (HWG.out.below hb3 HWG.out.lt)
  have HSR3:=Lib.hid (HSR.out.gr HG3.out)
  have HB3:=Lib.hid (HB.out.trans (HG3.out.mono HB.out.size))
  clear hb3 HG2 HWG HSR HB HIT
  have hlen:ps.length≤32000000:=Nat.le_trans HTX.out.2.2 HNB.out
  by_cases hq0:q=0
  ·obtain rfl:k'=0:=by rw [← HK'.out,hq0];rfl
   have HP:Hid (S0.data.toList=ql9 gk):=Lib.hid (by unfold ql9;rw [HQ.out,if_pos hq0,HR.out,← HS0.out,qC2])
   clear hq0
   go_wp2_with (first|(at_builtin;refine wpList_append_own _ rfl (.tmp 38) (.tmp 40) 125 rfl w.heap.size 9 i0 (.string ⟨#[]⟩) 1 16 (by kernel_rfl) hi hz0 hz1 hz2 rfl (by decide) _ _ _ (by simp [Act.eval,Act.put]) (HSR3.out.alloc _) ⟨w3.heap.size,0,none⟩ 1 1 [.string S0] (by simp [Act.eval,Act.put]) rfl (qg6 _ _ _) (qV5 _) (by unfold maxLen;omega) (by omega) (by have:=HB3.out.size;simp;omega) ?_)|fail)
   intro v' w4 hown' hgrow _
   have R:=qI_ HB3.out HSR3.out hown' hgrow
   have HW4:=Lib.hid (qK0 HW3.out HSR3.out hgrow)
   have H1:=Lib.hid R.1
   have H2:=Lib.hid R.2
   clear R hown' hgrow
   go_wp2_with fail
   go_roundg q
   case measure=>exact hqx
   case rel =>
    have hT:=HTX.out.step HX.out HP.out
    rw [HQ.out] at hT
    exact ⟨ps ++ [S0],g,0,k,rfl,HK',hqk2,by omega,by omega,Lib.hid ⟨k,hqk2,HW4.out⟩,H2,Lib.hid hT,H1⟩
  have hk0':0<k':=by rw [← HK'.out];exact qo5 (by omega)
  obtain ⟨e9,he9⟩:∃ e9:Nat,(9:Int) - (d:Int)=(e9:Int):=⟨9 - d,by omega⟩
  obtain ⟨R0,HR0⟩:∃ S:ByteArray,Hid ((⟨(Lib.repeatL [48] e9).toArray⟩:ByteArray)=S):=⟨_,Lib.hid rfl⟩
  have he9b:e9≤9:=by omega
  have hR0:R0.size=e9:=by rw [← HR0.out,qC3,Lib.repeatL_length];simp
  have HREP:Hid (∀ W,Calls Tryz.prog 225 #[.string ⟨#[48]⟩,.int .i64 (e9:Int)] W fun e w'=>e=.returned (.string R0)∧Below W.heap.size W w'):=Lib.hid (fun W=>by rw [← HR0.out];exact Tryz.strings_Repeat ⟨#[48]⟩ e9 W (by omega) (by show 1*e9≤_;omega))
  obtain ⟨S1,HS1⟩:∃ S:ByteArray,Hid (R0 ++ S0=S):=⟨_,Lib.hid rfl⟩
  have HP:Hid (S1.data.toList=ql9 gk):=Lib.hid (by
   unfold ql9
   rw [HQ.out,if_neg hq0,HR.out,← HS1.out,qP9,← HR0.out,← HS0.out,qC2,qC2]
   unfold pad
   rw [show e9=9 - Lib.nDigits r by rw [← hd,← HS0.out,qC3,Lib.decDigits_length] at he9;omega])
  clear hq0
  go_wp2_with fail
  refine (HREP.out w3).mono ?_
  rintro e w4 ⟨rfl,hb4⟩
  have HB4:=Lib.hid (HB3.out.trans (hb4.mono HB3.out.size))
  have HW4:=Lib.hid (HW3.out.below hb4 HW3.out.lt)
  have HSR4:=Lib.hid (HSR3.out.gr hb4)
  have hs1:R0 ++ S0=S1:=HS1.out
  clear hb4 HB3 HW3 HSR3 HREP
  go_wp2_with (first|(at_builtin;refine wpList_append_own _ rfl (.tmp 38) (.tmp 40) 125 rfl w.heap.size 9 i0 (.string ⟨#[]⟩) 1 16 (by kernel_rfl) hi hz0 hz1 hz2 rfl (by decide) _ _ _ (by simp [Act.eval,Act.put]) (HSR4.out.alloc _) ⟨w4.heap.size,0,none⟩ 1 1 [.string S1] (by simp [Act.eval,Act.put]) rfl (qg6 _ _ _) (qV5 _) (by unfold maxLen;omega) (by omega) (by have:=HB4.out.size;simp;omega) ?_)|fail)
  intro v' w5 hown' hgrow _
  have R:=qI_ HB4.out HSR4.out hown' hgrow
  have HW5:=Lib.hid (qK0 HW4.out HSR4.out hgrow)
  have H1:=Lib.hid R.1
  have H2:=Lib.hid R.2
  clear R hown' hgrow
  go_wp2_with fail
  go_roundg q
  case measure=>exact hqx
  case rel =>
   have hT:=HTX.out.step HX.out HP.out
   rw [HQ.out] at hT
   exact ⟨ps ++ [S1],g,k',k,rfl,HK',hqk2,by omega,by omega,Lib.hid ⟨k,hqk2,HW5.out⟩,H2,Lib.hid hT,H1⟩
theorem qy6 (n:Nat) (w:World) (hn:wl n≤1000000) (HT:Hid (Tab w)) :
  Calls Tryz.prog 154 #[(Value.agg #[.int .u64 (lo n),.string (bg n)])] w fun e w'=>e=.returned (.string ⟨(Lib.decDigits n).toArray⟩)∧Below w.heap.size w w':=by
 by_cases h:n<18446744073709551616
 ·exact qO6 n w h HT
 exact xi1 n w h hn HT
end
end Go.Proofs.YtobojnodohjiaaaGreatDoor
