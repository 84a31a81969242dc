/- A pack of texts: RefF, RefG1, RefG, RefH. No condition but those stated. -/
import Derived.Test.YtobojnodohjiaaaGreatDoorPF
import Derived.Laws.AppendOwnNone
import Derived.Deep.LoopGhost
set_option maxRecDepth 100000
set_option maxHeartbeats 16000000
set_option linter.unusedVariables false
set_option linter.unusedSimpArgs false
namespace Go.Proofs.YtobojnodohjiaaaGreatDoor
section
open Go.RowKit
theorem qN6 (x y j:Nat) (hy:0<y) :
  (tg x j+10000*(x / tp (j+1) % y)) / y=tg (x / y) j∧(tg x j+10000*(x / tp (j+1) % y)) % y=x / tp j % y∧tg x j+10000*(x / tp (j+1) % y)<10000*y:=by
 have h1:=qz7 x j
 have h2:=qf4 x j
 obtain ⟨A,hA⟩:∃ A,x / tp (j+1)=A:=⟨_,rfl⟩
 have h3:x / tp j / y=x / y / tp j:=by rw [Nat.div_div_eq_div_mul,Nat.div_div_eq_div_mul,Nat.mul_comm]
 rw [qF0 (x / y) j |>.symm,← h3,← h1,hA]
 have h4:=Nat.div_add_mod A y
 have h5:=Nat.mod_lt A hy
 obtain ⟨q,hq⟩:∃ q,A / y=q:=⟨_,rfl⟩
 obtain ⟨R,hR⟩:∃ R,A % y=R:=⟨_,rfl⟩
 rw [hR] at h4 h5 ⊢
 rw [hq] at h4
 have h6:10000*A+tg x j=(tg x j+10000*R)+y*(10000*q):=by rw [← h4];grind
 have h7:tg x j+10000*R<10000*y:=by omega
 rw [h6,Nat.add_mul_div_left _ _ hy,Nat.add_mul_mod_self_left (tg x j+10000*R) y (10000*q)]
 refine ⟨?_,rfl,h7⟩
 have h8:(tg x j+10000*R) / y<10000:=Nat.div_lt_of_lt_mul (by omega)
 generalize (tg x j+10000*R) / y=f at *
 omega
theorem qE1 (R y T:Nat) (hT:0<T) (hy:0<y) (ht:0<y / T):R / T / (y / T+1)≤R / y∧R / y≤R / T / (y / T):=by
 constructor
 ·refine (Nat.le_div_iff_mul_le hy).2 ?_
  have h1:R / T / (y / T+1)*(y / T+1)≤R / T:=Nat.div_mul_le_self _ _
  have h2:R / T*T≤R:=Nat.div_mul_le_self _ _
  have h3:y≤(y / T+1)*T:=by
   have:=Nat.div_add_mod y T
   have:=Nat.mod_lt y hT
   rw [Nat.add_mul,Nat.mul_comm (y / T)]
   omega
  calc R / T / (y / T+1)*y≤R / T / (y / T+1)*((y / T+1)*T):=Nat.mul_le_mul_left _ h3
   _=R / T / (y / T+1)*(y / T+1)*T:=(Nat.mul_assoc _ _ _).symm
   _≤R / T*T:=Nat.mul_le_mul_right _ h1
   _≤R:=h2
 refine (Nat.le_div_iff_mul_le ht).2 ((Nat.le_div_iff_mul_le hT).2 ?_)
 have h1:R / y*y≤R:=Nat.div_mul_le_self _ _
 have h2:y / T*T≤y:=Nat.div_mul_le_self _ _
 calc R / y*(y / T)*T=R / y*(y / T*T):=Nat.mul_assoc _ _ _
  _≤R / y*y:=Nat.mul_le_mul_left _ h2
  _≤R:=h1
theorem qQ7 {x y:Nat}:cmpI (x:Int) (y:Int)≤0 ↔ x≤y:=by
 unfold cmpI
 split
 ·omega
 split <;> omega
theorem xc0 (f:Nat→Nat) (n d:Nat):[Value.int .i64 ((d:Nat):Int)] ++ dvs f n=dvs (fun t=>if t=0 then d else f (t - 1)) (n+1):=by
 unfold dvs
 rw [List.range_succ_eq_map,List.map_cons,List.map_map]
 simp [Function.comp_def]
theorem xi3 (f:Nat→Nat) (n d:Nat):tv (fun t=>if t=0 then d else f (t - 1)) (n+1)=d+10000*tv f n:=by
 rw [qZ0]
 simp
section
variable {w:World} {B n:Nat} {v:Value} {f:Nat→Nat}
theorem Dr.num (h:Dr w B v (tl f n) f) (hf:∀ i,i<n→f i<10000):Dr w B v (tw (tv f n)) (tg (tv f n)):=by
 have e:=xy3 hf
 have hle:=qO7 f n
 rw [← e]
 refine h.congr fun i hi=>?_
 rw [← xr7,xy2 (fun j hj=>hf j (by omega)) hi]
theorem Dr.setBelow (h:Dr w B v n f) {g:Nat} (hg:g<B) (j:Nat) (u:Value):Dr (w.setCell ⟨g,j,none⟩ u) B v n f:=ownsRow_setCell_below h hg u
theorem Dr.lit (W:World) (hB:B≤W.heap.size) (d:Nat):Dr (W.alloc (.cells #[.int .i64 ((d:Nat):Int)] 3)) B (.slice (some ⟨W.heap.size,0,none⟩) 1 1) 1 (fun _=>d) :=
 World.ownsRow_lit (base:=B) (e:=3) (size:=1) W #[.int .i64 ((d:Nat):Int)] 1 hB (by decide) rfl
theorem Dr.lit0 (W:World) (hB:B≤W.heap.size) (f:Nat→Nat):Dr (W.alloc (.cells #[] 3)) B (.slice (some ⟨W.heap.size,0,none⟩) 0 0) 0 f :=
 World.ownsRow_lit (base:=B) (e:=3) (size:=1) W #[] 0 hB (by decide) rfl
theorem Dr.belowK {C:Nat} {w':World} (h:Dr w B v n f) (hb:Below C w w') (hlt:∀ k,v.ownBlock=some k→k<C):Dr w' B v n f:=by
 refine ⟨h.1,?_⟩
 rcases h.2 with hn|⟨b,c,cur,rfl,hb0,hh,rest⟩
 ·exact .inl hn
 exact .inr ⟨b,c,cur,rfl,hb0,(hb.block b (hlt b rfl)).trans hh,rest⟩
theorem Rn.form {k:Nat} (h:Rn w v k):∃ ao c,v=.slice ao (tw k) c∧(ao=none→tw k=0∧c=0)∧∀ ad,ao=some ad→∀ j,j<tw k→w.cell? (ad.add j)=some (.int .i64 ((tg k j:Nat):Int)):=by
 rcases Dr.cases h with ⟨rfl,e⟩|⟨b,c,rfl,_,_,h1,h2,h3,_⟩
 ·exact ⟨none,0,by rw [e],fun _=>⟨e,rfl⟩,fun ad had=>by cases had⟩
 refine ⟨_,c,rfl,fun e=>(by cases e),fun ad had j hj=>?_⟩
 cases had
 rw [← h3 j hj]
 congr 1
 unfold Addr.add
 split <;> simp_all
theorem xm3 {a:Addr} {u:Value} (h:w.cell? a=some u):a.block<w.heap.size:=by
 rcases Nat.lt_or_ge a.block w.heap.size with h1|h1
 ·exact h1
 have:w.heap[a.block]?=none:=Array.getElem?_eq_none h1
 simp [World.cell?,this] at h
theorem Rn.zero (w:World):Rn w (.slice none 0 0) 0:=by unfold Rn;rw [qf3];exact Dr.nil _ _ _
end
theorem qg4 {w:World} {ops:Array Oper} {rest:List Oper} {o:Oper} {a:Act} {Q:Exit→Act→World→Prop} (hgd:o.guard=none) (s x:Operand)
  (ho:o.op=.call { callee:=.builtin .append,args:=#[s,x],argTypes:=#[43,43] })
  (base:Nat) (v:Value) (n m c:Nat) (F f:Nat→Nat) (hs:a.eval s=v) (hown:Dr w base v n F) (ao:Option Addr) (hx:a.eval x=.slice ao m c) (hnone:ao=none→m=0∧c=0)
  (hc:∀ ad,ao=some ad→∀ j,j<m→w.cell? (ad.add j)=some (.int .i64 ((f j:Nat):Int))) (hb:n+m≤10000000000) (hbase:base≤w.heap.size)
  (h:∀ v' w',w'.ownsRow base 3 1 v' (n+m) (dvs F n ++ dvs f m)→w.grownBy w' v.ownBlock→wpList Tryz.prog ops Q rest (a.put o.dst v') w') :
  wpList Tryz.prog ops Q (o :: rest) a w:=by
 obtain ⟨i0,hi,hz0,hz1,hz2⟩:=info_parts qk3
 cases ao with
 | none =>
  obtain ⟨rfl,rfl⟩:=hnone rfl
  refine wpList_append_own_none hgd s x 43 ho base 3 i0 1 Tryz.underlying43 hi v n _ hs hown hx (h v w ?_ (World.grownBy.refl _ _))
  rw [show dvs F n ++ dvs f 0=dvs F n by simp [dvs]]
  exact hown
 | some ad =>
  refine wpList_append_own w hgd s x 43 ho base 3 i0 (.int .i64 0) 1 8 Tryz.underlying43 hi hz0 hz1 hz2 rfl (by decide) v n _ hs hown ad m c (dvs f m) hx (by simp [qp1]) ?_ ?_ (by unfold maxLen;omega) (by omega) hbase (fun v' w' h1 h2 _=>h v' w' h1 h2)
  ·intro j u hj
   have hjm:j<m:=by
    have:=(List.getElem?_eq_some_iff.1 hj).1
    simpa [qp1] using this
   rw [qC9 f hjm] at hj
   cases hj
   exact hc ad rfl j hjm
  intro u hu
  unfold dvs at hu
  obtain ⟨i,_,rfl⟩:=List.mem_map.1 hu
  rfl
theorem qN5 {w0 wr w1:World} {v':Value} {g d R:Nat} {o:Obj} (hb:Below w0.heap.size w0 wr) (hg:w0.heap.size≤g) (hgs:g<wr.heap.size)
  (hown:w1.ownsRow (g+1) 3 1 v' (1+tw R) (dvs (fun _=>d) 1 ++ dvs (tg R) (tw R))) (hgr:(wr.alloc o).grownBy w1 (some wr.heap.size)) :
  Below w0.heap.size w0 w1∧Below (g+1) wr w1∧Dr w1 (g+1) v' (tw R+1) (fun t=>if t=0 then d else tg R (t - 1)):=by
 refine ⟨(hb.alloc hb.size o).grown hgr (Nat.le_trans hb.size (by simp)) (fun j hj=>?_),((Below.refl _ wr).alloc (by omega) o).grown hgr (by simp;omega) (fun j hj=>?_),?_⟩
 ·cases hj;exact hb.size
 ·cases hj;omega
 unfold Dr
 have e:dvs (fun _=>d) 1 = [Value.int .i64 ((d:Nat):Int)]:=rfl
 rw [e] at hown
 rw [← xc0,show tw R+1=1+tw R from Nat.add_comm _ _]
 exact hown
theorem xi4 (x k:Nat):tw (x / tp k)=tw x - k:=by
 have h:∀ c,tw (x / tp k)≤c ↔ tw x≤c+k:=fun c=>by
  rw [qe_,qe_,Nat.div_lt_iff_lt_mul (ql1 k),qj0]
 have h1:=(h (tw (x / tp k))).1 (Nat.le_refl _)
 have h2:=(h (tw x - k)).2 (by omega)
 omega
theorem xi2 (x k t:Nat):tg (x / tp k) t=tg x (k+t):=by
 unfold tg
 rw [Nat.div_div_eq_div_mul,qj0]
theorem Rn.shift {w:World} {B:Nat} {v:Value} {x k:Nat} (h:Dr w B v (tw x - k) (fun t=>tg x (k+t))):Rn w v (x / tp k):=by
 unfold Rn
 rw [xi4]
 exact (h.mono (Nat.zero_le _)).congr fun i _=>(xi2 x k i).symm
def DivAt (w:World) (x y p g j:Nat) (r:Value) (wr:World):Prop :=
 Rn wr r (x / tp j % y)∧Dr wr w.heap.size (.slice (some ⟨g,0,none⟩) (p+1) (p+1)) (p+1) (fun t=>if t<j then 0 else tg (x / y) t)∧Below w.heap.size w wr∧g<wr.heap.size
theorem DivAt.start {w w1 w':World} {x y p:Nat} {v':Value} {k:Nat} (hB:Below w.heap.size w w1) (hk:tw x - (p+1)=k) (hlow:x / tp (p+1)<y) (hp:p≤1000000000)
  (hown:w'.ownsRow (w1.heap.size+1) 3 1 v' k (dvs (fun _=>0) 0 ++ dvs (fun t=>tg x (p+1+t)) k))
  (hgr:((w1.alloc (.cells (madeCells #[.int .i64 0] (p+1)) 3)).alloc (.cells #[] 3)).grownBy w' (some (w1.heap.size+1))):DivAt w x y p w1.heap.size (p+1) v' w':=by
 have hb2:Below (w1.heap.size+1) (w1.alloc (.cells (madeCells #[.int .i64 0] (p+1)) 3)) w' :=
  ((Below.refl _ _).alloc (by simp) _).grown hgr (by simp) (fun j hj=>by cases hj;omega)
 have hq:=Dr.made (B:=w.heap.size) w1 hB.size (p+1) (by omega)
 refine ⟨?_,(hq.belowK hb2 (fun k hk=>by cases hk;exact Nat.lt_succ_self _)).congr fun i hi=>?_,(hB.alloc hB.size _).trans (hb2.mono (by have:=hB.size;omega)),?_⟩
 ·rw [Nat.mod_eq_of_lt hlow]
  refine Rn.shift (B:=w1.heap.size+1) ?_
  rw [hk]
  exact hown
 ·rw [if_pos hi]
 have:=hb2.size
 simp at this
 omega
theorem xv7 {y R d mid:Nat} (hy:0<y) (hd:R / y=d):cmpI ((y*mid:Nat):Int) (R:Int)≤0 ↔ mid≤d:=by
 rw [qQ7,← hd,Nat.le_div_iff_mul_le hy,Nat.mul_comm]
theorem DivAt.next {w wr w3:World} {x y p g j d:Nat} {r2:Value} (hgw:w.heap.size≤g)
  (hq:Dr wr w.heap.size (.slice (some ⟨g,0,none⟩) (p+1) (p+1)) (p+1) (fun t=>if t<j+1 then 0 else tg (x / y) t)) (hb:Below w.heap.size w wr) (hg:g<wr.heap.size)
  (hd:tg (x / y) j=d) (hj:j<p+1) (hr:Rn w3 r2 (x / tp j % y)) (h3:Gr (wr.setCell ⟨g,j,none⟩ (.int .i64 ((d:Nat):Int))) w3):DivAt w x y p g j r2 w3:=by
 refine ⟨hr,((hq.store j d hj).gr h3).congr fun i hi=>?_,(hb.setCell hgw _).trans (h3.mono ?_),Nat.lt_of_lt_of_le ?_ h3.size⟩
 ·by_cases e:i=j
  ·subst e;simp [hd]
  by_cases e2:i<j
  ·simp [e,e2,show i<j+1 by omega]
  simp [e,e2,show ¬ i<j+1 by omega]
 ·have:=hb.size
  simpa using this
 simpa using hg
end
section
open Go.RowKit
theorem qN8 (v u:Value) (x y:Nat) (w:World) (hx:Rn w v x) (hy:Rn w u y) (hlt:x<y) (bx:tw x≤1000000000) (by':tw y≤1000000000) :
  Calls Tryz.prog 176 #[v,u] w fun e w'=>(∃ q r,e=.returned (.tuple #[q,r])∧Rn w' q (x / y)∧Rn w' r (x % y))∧Below w.heap.size w w':=by
 have hcm:=qn5 v u x y w hx hy bx by'
 rw [ql3 (by omega)] at hcm
 obtain ⟨ao,ca,rfl,hca,hca2⟩:=hx.slice
 obtain ⟨bo,cb,rfl,hcb,hcb2⟩:=hy.slice
 have HX:=Lib.hid hx
 have HCM:=Lib.hid hcm
 have HD:Hid (x / y=0∧x % y=x):=Lib.hid ⟨Nat.div_eq_of_lt hlt,Nat.mod_eq_of_lt hlt⟩
 clear hx hy hcm hlt
 go_enter Tryz.func176,Tryz.ntmps176
 go_wp2_with fail
 refine HCM.out.mono ?_
 rintro e w1 ⟨rfl,hb⟩
 have HB:=Lib.hid hb
 clear hb
 go_wp2
 go_ret2
 refine ⟨⟨_,_,rfl,?_,?_⟩,HB.out⟩
 ·rw [HD.out.1];exact Rn.zero _
 rw [HD.out.2];exact HX.out.gr HB.out
end
section
open Go.RowKit
theorem qN7 (v u:Value) (x y:Nat) (w:World) (hx:Rn w v x) (hy:Rn w u y) (h0:0<y) (hle:y≤x) (bx:tw x≤500000000) (by':tw y≤500000000) :
  Calls Tryz.prog 176 #[v,u] w fun e w'=>(∃ q r,e=.returned (.tuple #[q,r])∧Rn w' q (x / y)∧Rn w' r (x % y))∧Below w.heap.size w w':=by
 have hcm:=qn5 v u x y w hx hy (by omega) (by omega)
 obtain ⟨cc,hcc⟩:∃ cc,cmpI (x:Int) (y:Int)=cc:=⟨_,rfl⟩
 have hcc0:¬ cc<0:=by rw [← hcc];unfold cmpI;split;omega;split <;> decide
 rw [hcc] at hcm
 clear hcc
 obtain ⟨n,hn⟩:∃ n,tw x=n:=⟨_,rfl⟩
 obtain ⟨m,hm⟩:∃ m,tw y=m:=⟨_,rfl⟩
 have hmn:m≤n:=by rw [← hn,← hm];exact qc7 hle
 have hm0:0<m:=by rw [← hm];exact qo1 h0
 obtain ⟨p,hp⟩:∃ p:Nat,(n:Int) - (m:Int)=(p:Int):=⟨n - m,by omega⟩
 have HNP:Hid (n=(m - 1)+(p+1)):=Lib.hid (by omega)
 have HNP2:Hid (n=(p+1)+(m - 1)):=Lib.hid (by omega)
 obtain ⟨s,hs⟩:∃ s:Nat,(if (3:Int)<(m:Int) then (m:Int) - 3 else 0)=(s:Int):=⟨m - 3,by split <;> omega⟩
 have hs1:s≤m - 1:=by split at hs <;> omega
 have hs2:m≤s+3:=by split at hs <;> omega
 have hcx:=hx.cases
 obtain ⟨bo,cb,rfl,hcb,hcb2⟩:=hy.slice
 rw [hn] at hcx bx
 rw [hm] at hy hcb by' hcm ⊢
 obtain ⟨b,ca,rfl,-,hbl,hca,hca2,hxc,-⟩:=hcx.resolve_left (fun h=>by omega)
 have hT:Hid (0<y / tp s):=Lib.hid (Nat.div_pos (Nat.le_trans (ql0 (n:=m - 1) (by omega)) (qz_.1 (by rw [hm];omega))) (ql1 s))
 have hT2:y / tp s<1000000000000:=by
  refine Nat.div_lt_of_lt_mul ?_
  have h1:=qb1 y
  have h2:tp (tw y)≤tp (s+3):=ql0 (by rw [hm];omega)
  rw [qj0,show tp 3=1000000000000 by decide] at h2
  omega
 obtain ⟨T,HT⟩:∃ T,Hid (y / tp s=T):=⟨_,Lib.hid rfl⟩
 rw [HT.out] at hT hT2
 have hT1:=hT.out
 have HX:=Lib.hid hx
 have HY:=Lib.hid hy
 have HXC:=Lib.hid hxc
 have HCM:=Lib.hid hcm
 have HN:=Lib.hid hn
 have HM:=Lib.hid hm
 have HLE:=Lib.hid hle
 have HY0:=Lib.hid h0
 have HLOW:Hid (x / tp (p+1)<y):=Lib.hid (by
  rw [Nat.div_lt_iff_lt_mul (ql1 _)]
  have h1:=qb1 x
  rw [hn,HNP.out,qj0] at h1
  have h2:tp (m - 1)≤y:=qz_.1 (by rw [hm];exact Nat.sub_lt hm0 Nat.zero_lt_one)
  exact Nat.lt_of_lt_of_le h1 (Nat.mul_le_mul_right _ h2))
 clear hx hy hxc hcm hn hm hle h0 hcx hT
 go_enter Tryz.func176,Tryz.ntmps176
 go_wp2_with fail
 refine HCM.out.mono ?_
 rintro e w1 ⟨rfl,hb⟩
 have HB:=Lib.hid hb
 clear hb HCM
 go_wp2_with fail
 refine (qI2 _ y s w1 (HY.out.gr HB.out) (by rw [HM.out];omega) (by omega)).mono ?_
 rintro e w2 ⟨rfl,rfl⟩
 rw [HT.out]
 clear hs
 have hmk:=qD6 ((p:Int)+1) (p+1) (by omega) (by omega)
 have hwn:IntKind.i64.wrap ((p:Int)+1)=(p:Int)+1:=qg2 (by omega) (by omega)
 have hlit:Dr ((w1.alloc (.cells (madeCells #[.int .i64 0] (p+1)) 3)).alloc (.cells #[] 3)) (w1.heap.size+1) (.slice (some ⟨w1.heap.size+1,0,none⟩) 0 0) 0 (fun _=>0):=by
  have h:=Dr.lit0 (B:=w1.heap.size+1) (w1.alloc (.cells (madeCells #[.int .i64 0] (p+1)) 3)) (by simp) (fun _=>0)
  simpa using h
 have HLIT:=Lib.hid hlit
 clear hlit
 go_wp2_with (first
  | (at_builtin;refine qg4 rfl (.tmp 35) (.tmp 39) rfl (w1.heap.size+1) _ 0 _ _ (fun _=>0) (fun t=>tg x (p+1+t)) rfl HLIT.out _ rfl ?h1 ?h2 ?h3 ?h4 ?_)
  | fail)
 case h2.inl=>intro j hj;omega
 case h2.inr =>
  intro j hj
  exact (((HB.out.alloc HB.out.size _).alloc (by have:=HB.out.size;simp;omega) _).cell (p:=⟨b,p+1+j,none⟩) hbl).trans (HXC.out (p+1+j) (by omega))
 case h3=>omega
 case h4=>simp
 all_goals
  intro v' w3 hown hgr
  have HA:Hid (DivAt w x y p w1.heap.size (p+1) v' w3):=Lib.hid (DivAt.start HB.out (by rw [HN.out]) HLOW.out (by omega) hown hgr)
  clear hown hgr
  obtain ⟨g,hg⟩:∃ g,w1.heap.size=g:=⟨_,rfl⟩
  have hgw:w.heap.size≤g:=by rw [← hg];exact HB.out.size
  rw [hg] at HA ⊢
  clear HLIT hmk HB hg
  go_wp2_with fail
  go_loopw [8,10] (fun i r wr=>∃ j:Nat,j≤p+1∧i=.int .i64 ((j:Int) - 1)∧Hid (DivAt w x y p g j r wr)) (fun i _ _=>(intOf i+1).toNat)
  case atStart=>exact ⟨p+1,Nat.le_refl _,by simp,HA⟩
  case round =>
   clear HA
   obtain ⟨j,hj,rfl,HA⟩:=hrel
   rcases j with _|j
   ·rw [show (((0:Nat):Int) - 1) = -1 from rfl]
    go_wp2_with fail
    refine (qh_ _ w.heap.size (p+1) (tg (x / y)) _ (HA.out.2.1.congr (fun i _=>by simp))).mono ?_
    rintro e w4 ⟨⟨q',rfl,hq⟩,rfl⟩
    have HQ:=Lib.hid hq
    clear hq
    go_wp2
    go_ret2
    refine ⟨⟨_,_,rfl,?_,?_⟩,HA.out.2.2.1⟩
    ·have R:=Rn.of HQ.out (fun i _=>qf4 _ i)
     have hlt:x / y<tp (p+1):=by
      rw [Nat.div_lt_iff_lt_mul HY0.out]
      have h1:=qb1 x
      rw [HN.out,HNP2.out,qj0] at h1
      have h2:tp (m - 1)≤y:=qz_.1 (by rw [HM.out];omega)
      exact Nat.lt_of_lt_of_le h1 (Nat.mul_le_mul_left _ h2)
     rw [qc1 hlt] at R
     exact R
    have:=HA.out.1
    rw [qp9,Nat.div_one] at this
    exact this
   rw [show (((j+1:Nat):Int) - 1)=(j:Int) from by omega]
   obtain ⟨R,HR⟩:∃ R,Hid (x / tp (j+1) % y=R):=⟨_,Lib.hid rfl⟩
   obtain ⟨h1,h2,h3,hgs⟩:=HA.out
   rw [HR.out] at h1
   have hRy:Hid (R<y):=Lib.hid (by rw [← HR.out];exact Nat.mod_lt _ HY0.out)
   have htR:tw R≤m:=by rw [← HM.out];exact qc7 (Nat.le_of_lt hRy.out)
   obtain ⟨ro,rc,rfl,hnone,hcells⟩:=h1.form
   obtain ⟨k,hk⟩:∃ k,tw R=k:=⟨_,rfl⟩
   rw [hk] at htR hnone hcells ⊢
   have hxj:wr.cell? ⟨b,j,none⟩=some (.int .i64 ((tg x j:Nat):Int)):=(h3.cell (p:=⟨b,j,none⟩) hbl).trans (HXC.out j (by omega))
   have hws:=h3.size
   have hjn:(j:Int)<(n:Int):=by omega
   have HQ:=Lib.hid h2
   have HB:=Lib.hid h3
   have HK:=Lib.hid hk
   have HNO:=Lib.hid hnone
   have HCE:=Lib.hid hcells
   clear h1 h2 h3 hk hnone hcells HA
   have HLIT:Hid (Dr (wr.alloc (.cells #[.int .i64 ((tg x j:Nat):Int)] 3)) (g+1) (.slice (some ⟨wr.heap.size,0,none⟩) 1 1) 1 (fun _=>tg x j)):=Lib.hid (Dr.lit wr (by omega) (tg x j))
   have HCE2:Hid (∀ ad,ro=some ad→∀ j',j'<k→(wr.alloc (.cells #[.int .i64 ((tg x j:Nat):Int)] 3)).cell? (ad.add j')=some (.int .i64 ((tg R j':Nat):Int))):=Lib.hid (fun ad h t ht=>by
    have h1:=HCE.out ad h t ht
    have h2:(ad.add t).block<wr.heap.size:=xm3 h1
    rw [← h1]
    exact (Gr.alloc wr _).cell (p:=ad.add t) h2)
   go_wp2_with (first
    | (at_builtin;refine qg4 rfl (.tmp 49) (.tmp 50) rfl (g+1) _ 1 _ _ (fun _=>tg x j) (tg R) rfl HLIT.out _ rfl HNO.out HCE2.out (by omega) (by simp;omega) ?_)
    | fail)
   intro v3 w3 hown hgr
   have P:=qN5 (R:=R) HB.out hgw hgs (by rw [HK.out];exact hown) hgr
   obtain ⟨P1,P2,P3⟩:=P
   have HP1:=Lib.hid P1
   have HQ3:=Lib.hid (HQ.out.belowK P2 (fun k hk=>by cases hk;exact Nat.lt_succ_self _))
   have HP3:=Lib.hid P3
   have hgs3:g<w3.heap.size:=by have:=P2.size;omega
   clear P1 P2 P3 hown hgr HCE HCE2 HNO HLIT HB HQ hxj hws hgs
   go_wp2_with fail
   refine (qh_ _ (g+1) (tw R+1) _ _ HP3.out).mono ?_
   rintro e w4 ⟨⟨r1,rfl,hr1⟩,rfl⟩
   have hdig:∀ i,i<tw R+1→(if i=0 then tg x j else tg R (i - 1))<10000:=fun i _=>by split;exact qf4 _ _;exact qf4 _ _
   have hr2:=hr1.num hdig
   rw [xi3,qc1 (qb1 R)] at hr2
   obtain ⟨D1,D2,D3⟩:=qN6 x y j HY0.out
   rw [HR.out] at D1 D2 D3
   obtain ⟨R',HR'⟩:∃ R',Hid (tg x j+10000*R=R'):=⟨_,Lib.hid rfl⟩
   rw [HR'.out] at hr2 D1 D2 D3
   have HR2:=Lib.hid hr2
   have htw:tw R'≤s+4:=by
    have h1:tw R'≤m+1:=qe_.2 (Nat.lt_of_lt_of_le D3 (by rw [qf8];exact Nat.mul_le_mul_left _ (Nat.le_of_lt (by rw [← HM.out];exact qb1 y))))
    omega
   obtain ⟨d,hd⟩:∃ d,R' / y=d:=⟨_,rfl⟩
   rw [hd] at D1
   have hd9:d≤9999:=by rw [D1];have:=qf4 (x / y) j;omega
   have hT3:0<y / tp s:=by rw [HT.out];exact hT1
   obtain ⟨b1,b2⟩:=qE1 R' y (tp s) (ql1 s) HY0.out hT3
   rw [HT.out,hd] at b1 b2
   obtain ⟨f0,hf0⟩:∃ f0,R' / tp s=f0:=⟨_,rfl⟩
   rw [hf0] at b1 b2
   have HF0:=Lib.hid hf0
   have HD1:=Lib.hid D1
   have HD2:=Lib.hid D2
   have HDD:=Lib.hid hd
   have HRS:=Lib.hid htw
   have hf1:f0<10000000000000000:=by
    rw [← hf0]
    refine Nat.div_lt_of_lt_mul ?_
    have h1:=qb1 R'
    have h2:tp (tw R')≤tp (s+4):=ql0 htw
    rw [qj0,show tp 4=10000000000000000 by decide] at h2
    omega
   clear hr1 hr2 hdig D1 D2 D3 hd hf0 htw hT3 HP3
   go_wp2_with fail
   refine (qI2 _ R' s w3 (HR2.out.mono (Nat.zero_le _)) HRS.out (by omega)).mono ?_
   rintro e w5 ⟨rfl,rfl⟩
   rw [HF0.out]
   obtain ⟨l0,hl0⟩:∃ l0:Nat,f0 / (T+1)=l0:=⟨_,rfl⟩
   obtain ⟨q0,hq0⟩:∃ q0:Nat,f0 / T=q0:=⟨_,rfl⟩
   rw [hl0] at b1
   rw [hq0] at b2
   obtain ⟨h0,hh0⟩:∃ h0:Nat,(if (9999:Int)<(q0:Int) then 9999 else (q0:Int))=(h0:Int):=⟨min q0 9999,by split <;> omega⟩
   have hh1:d≤h0∧h0≤9999:=by split at hh0 <;> omega
   have e1:((f0:Nat):Int) / ((T:Int)+1)=(l0:Int):=by rw [← hl0];simp
   have e2:((f0:Nat):Int) / (T:Int)=(q0:Int):=by rw [← hq0];simp
   have e1t:Int.tdiv ((f0:Nat):Int) ((T:Int)+1)=(l0:Int):=by rw [Int.tdiv_eq_ediv_of_nonneg (by omega)];exact e1
   have e2t:Int.tdiv ((f0:Nat):Int) (T:Int)=(q0:Int):=by rw [Int.tdiv_eq_ediv_of_nonneg (by omega)];exact e2
   have hlf:l0≤f0:=by rw [← hl0];exact Nat.div_le_self _ _
   have hqf:q0≤f0:=by rw [← hq0];exact Nat.div_le_self _ _
   have hwT:IntKind.i64.wrap ((T:Int)+1)=(T:Int)+1:=qg2 (by omega) (by omega)
   have hwl:IntKind.i64.wrap ((l0:Nat):Int)=(l0:Int):=qg2 (by omega) (by omega)
   have hwq:IntKind.i64.wrap ((q0:Nat):Int)=(q0:Int):=qg2 (by omega) (by omega)
   have hTz:¬ ((T:Int)+1=0):=by omega
   have hTz2:¬ (T=0):=by omega
   clear hl0 hq0
   go_wp2_with fail
   go_quiet (fail)
   obtain ⟨wq,HWQ⟩:∃ wq,Hid (w3.drewN nq=wq):=⟨_,Lib.hid rfl⟩
   rw [HWQ.out]
   have HBq:Hid (Below w.heap.size w wq):=Lib.hid (by rw [← HWQ.out];exact qa0 HP1.out _)
   have HQq:Hid (Dr wq w.heap.size (.slice (some ⟨g,0,none⟩) (p+1) (p+1)) (p+1) (fun t=>if t<j+1 then 0 else tg (x / y) t)):=Lib.hid (by rw [← HWQ.out];exact HQ3.out.drewN nq)
   have HRq:Hid (Dr wq (g+1) r1 (tw R') (tg R')):=Lib.hid (by rw [← HWQ.out];exact HR2.out.drewN nq)
   have hgq:g<wq.heap.size:=by rw [← HWQ.out];exact hgs3
   have hRs:=HRS.out
   clear HP1 HQ3 HR2 HWQ hgs3 e1 e2 e1t e2t hwl hwq hwT hTz hTz2 hh0 HRS
   go_wp2_with fail
   go_loopw [12,13] (fun lo hi wr=>∃ l h:Nat,l≤d∧d≤h∧h≤9999∧lo=.int .i64 ((l:Nat):Int)∧hi=.int .i64 ((h:Nat):Int)∧Hid (Gr wq wr)) (fun lo hi _=>(intOf hi - intOf lo).toNat)
   case atStart=>exact ⟨l0,h0,b1,hh1.1,hh1.2,rfl,rfl,Lib.hid (Gr.refl _)⟩
   case round =>
    obtain ⟨l,h,hl,hh,h9,rfl,rfl,HG⟩:=hrel
    have HBr:Hid (Below w.heap.size w wr):=Lib.hid (Gr.trans HBq.out HG.out)
    by_cases hlh:l<h
    ·obtain ⟨mid,hmid⟩:∃ mid:Nat,((l:Int)+(h:Int)+1) / 2=(mid:Int):=⟨(l+h+1) / 2,by omega⟩
     have hm1:l<mid:=by omega
     have hm2:mid≤h:=by omega
     have hwu:IntKind.u64.wrap ((mid:Nat):Int)=(mid:Int):=by rw [IntKind.wrap_u64];omega
     go_wp2_with fail
     refine (qj_ mid wr (by omega)).mono ?_
     rintro e w5 ⟨⟨z,rfl,hz⟩,hb5⟩
     have HZ:=Lib.hid hz
     have HB5:Hid (Gr wr w5):=Lib.hid hb5
     clear hz hb5
     go_wp2_with fail
     have htz:tw mid≤1:=qk9 (by omega)
     refine (qs8 _ z y mid w5 (HY.out.gr (Gr.trans HBr.out HB5.out)) HZ.out (by rw [HM.out];omega) (by omega)).mono ?_
     rintro e w6 ⟨⟨z2,rfl,hz⟩,hb6⟩
     have HZ2:=Lib.hid hz
     have HB6:Hid (Gr w5 w6):=Lib.hid hb6
     clear hz hb6
     go_wp2_with fail
     have htm:tw (y*mid)≤m+1:=by
      have:=qj1 y mid
      have:=HM.out
      omega
     refine (qn5 z2 r1 (y*mid) R' w6 HZ2.out ((HRq.out.mono (Nat.zero_le _)).gr (Gr.trans HG.out (Gr.trans HB5.out HB6.out))) (by omega) (by omega)).mono ?_
     rintro e w7 ⟨rfl,hb7⟩
     have HB7:Hid (Gr w6 w7):=Lib.hid hb7
     clear hb7
     obtain ⟨c,hc⟩:∃ c,cmpI ((y*mid:Nat):Int) (R':Int)=c:=⟨_,rfl⟩
     rw [hc]
     have hcm:=xv7 (mid:=mid) HY0.out HDD.out
     rw [hc] at hcm
     clear hc
     have HG7:Hid (Gr wq w7):=Lib.hid (Gr.trans HG.out (Gr.trans HB5.out (Gr.trans HB6.out HB7.out)))
     by_cases hle2:mid≤d
     ·have hcl:c≤0:=hcm.2 hle2
      clear hcm
      go_wp2_with fail
      go_roundw
      case rel=>exact ⟨mid,h,hle2,hh,h9,rfl,rfl,HG7⟩
      case measure=>simp [intOf];omega
     have hcl:¬ c≤0:=fun e=>hle2 (hcm.1 e)
     clear hcm
     go_wp2_with fail
     go_roundw
     case rel=>exact ⟨l,mid - 1,hl,by omega,by omega,rfl,by go_num,HG7⟩
     case measure=>simp [intOf];omega
    obtain rfl:l=d:=by omega
    have HQr:=Lib.hid (HQq.out.gr HG.out)
    have hgr:g<wr.heap.size:=Nat.lt_of_lt_of_le hgq HG.out.size
    have hfr:=HQr.out.frozenAt j
    have hcl:=HQr.out.cellAt (i:=j) (by omega)
    have hj0:(0:Int)≤(j:Int):=by omega
    have hj1:(j:Int)<(p:Int)+1:=by omega
    have hwu:IntKind.u64.wrap ((l:Nat):Int)=(l:Int):=by rw [IntKind.wrap_u64];omega
    go_wp2_with fail
    obtain ⟨ws,HWS⟩:∃ ws,Hid (wr.setCell ⟨g,j,none⟩ (.int .i64 ((l:Nat):Int))=ws):=⟨_,Lib.hid rfl⟩
    rw [HWS.out]
    have HBs:Hid (Below w.heap.size w ws):=Lib.hid (by rw [← HWS.out];exact HBr.out.setCell hgw _)
    have HRs:Hid (Rn ws r1 R'):=Lib.hid (by rw [← HWS.out];exact ((HRq.out.gr HG.out).setBelow (Nat.lt_succ_self g) j _).mono (Nat.zero_le _))
    clear hfr hcl
    refine (qj_ l ws (by omega)).mono ?_
    rintro e w5 ⟨⟨z,rfl,hz⟩,hb5⟩
    have HZ:=Lib.hid hz
    have HB5:Hid (Gr ws w5):=Lib.hid hb5
    clear hz hb5
    go_wp2_with fail
    have htz:tw l≤1:=qk9 (by omega)
    refine (qs8 _ z y l w5 (HY.out.gr (Gr.trans HBs.out HB5.out)) HZ.out (by rw [HM.out];omega) (by omega)).mono ?_
    rintro e w6 ⟨⟨z2,rfl,hz⟩,hb6⟩
    have HZ2:=Lib.hid hz
    have HB6:Hid (Gr w5 w6):=Lib.hid hb6
    clear hz hb6
    go_wp2_with fail
    have htm:tw (y*l)≤m+1:=by
     have:=qj1 y l
     have:=HM.out
     omega
    have hmod:=Nat.div_add_mod R' y
    rw [HDD.out] at hmod
    refine (qJ5 r1 z2 R' (y*l) w6 (HRs.out.gr (Gr.trans HB5.out HB6.out)) HZ2.out (by omega) (by omega) (by omega)).mono ?_
    rintro e w7 ⟨⟨r2,rfl,hz⟩,hb7⟩
    rw [show R' - y*l=x / tp j % y by rw [← HD2.out];omega] at hz
    have HNX:=Lib.hid (DivAt.next (w:=w) hgw HQr.out HBr.out hgr HD1.out.symm (by omega) hz (by rw [HWS.out];exact Gr.trans HB5.out (Gr.trans HB6.out hb7)))
    clear hz hb7 hmod
    go_wp2_with fail
    go_roundw
    case rel=>exact ⟨j,by omega,rfl,HNX⟩
    case measure=>simp [intOf]
theorem qJ2 (v u:Value) (x y:Nat) (w:World) (hx:Rn w v x) (hy:Rn w u y) (h0:0<y) (bx:tw x≤500000000) (by':tw y≤500000000) :
  Calls Tryz.prog 176 #[v,u] w fun e w'=>(∃ q r,e=.returned (.tuple #[q,r])∧Rn w' q (x / y)∧Rn w' r (x % y))∧Below w.heap.size w w':=by
 rcases Nat.lt_or_ge x y with h|h
 ·exact qN8 v u x y w hx hy h (by omega) (by omega)
 exact qN7 v u x y w hx hy h0 h bx by'
end
section
open Go.RowKit
theorem xh2 (v u:Value) (x y:Nat) (w:World) (hx:Rn w v x) (hy:Rn w u y) (bx:tw x≤500000000) (by':tw y≤500000000) :
  Calls Tryz.prog 248 #[v,u] w fun e w'=>(∃ v',e=.returned v'∧Rn w' v' (Nat.gcd x y))∧Below w.heap.size w w':=by
 have HX:=Lib.hid hx
 have HY:=Lib.hid hy
 clear hx hy
 go_enter Tryz.func248,Tryz.ntmps248
 go_wp2_with fail
 go_loopg [0,1] y (fun k a b wr=>∃ p:Nat,Hid (Nat.gcd p k=Nat.gcd x y)∧tw p≤500000000∧tw k≤500000000∧Hid (Rn wr a p)∧Hid (Rn wr b k)∧Hid (Below w.heap.size w wr))
 case atStart=>exact ⟨x,Lib.hid rfl,bx,by',HX,HY,Lib.hid (Below.refl _ _)⟩
 case round =>
  obtain ⟨p,HE,hp,hq,HP,HQ,HB⟩:=hrel
  obtain ⟨ao,ca,rfl,hca,hca2⟩:=HQ.out.slice
  obtain ⟨n,hn⟩:∃ n,tw gk=n:=⟨_,rfl⟩
  have HN:=Lib.hid hn
  rw [hn] at HQ hq hca ⊢
  clear hn
  by_cases h0:n=0
  ·subst h0
   have hk0:gk=0:=qh1.1 HN.out
   have HK:=Lib.hid hk0
   clear hk0
   go_wp2
   go_ret
   refine ⟨⟨_,rfl,?_⟩,HB.out⟩
   have e:=HE.out
   rw [HK.out,Nat.gcd_zero_right] at e
   rw [← e]
   exact HP.out
  have hk0:0<gk:=Nat.pos_of_ne_zero (fun e=>h0 (by rw [← HN.out,e];exact qf3))
  have HK:=Lib.hid hk0
  clear hk0
  go_wp2_with fail
  refine (qJ2 _ _ p gk wr HP.out HQ.out HK.out hp (by rw [HN.out];exact hq)).mono ?_
  rintro e w2 ⟨⟨q,r,rfl,hq',hr⟩,hb⟩
  have HR:=Lib.hid hr
  have HB2:Hid (Gr wr w2):=Lib.hid hb
  clear hq' hr hb
  go_wp2_with fail
  go_roundg (p % gk)
  case measure=>exact Nat.mod_lt _ HK.out
  case rel =>
   refine ⟨gk,Lib.hid ?_,by rw [HN.out];exact hq,?_,Lib.hid (HQ.out.gr HB2.out),HR,Lib.hid (Gr.trans HB.out HB2.out)⟩
   ·rw [Nat.gcd_comm,← Nat.gcd_rec,Nat.gcd_comm]
    exact HE.out
   exact Nat.le_trans (qc7 (Nat.le_of_lt (Nat.mod_lt _ HK.out))) (by rw [HN.out];exact hq)
end
end Go.Proofs.YtobojnodohjiaaaGreatDoor
