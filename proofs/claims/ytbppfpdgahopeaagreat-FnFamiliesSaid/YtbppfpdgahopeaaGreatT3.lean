/-
  What the functions compute, and what the law asks of it: texts joined. Conditions: those that each lemma names.
-/
import Derived.Test.YtbppfpdgahopeaaGreatT2
import Derived.Test.YtbppfpdgahopeaaGreatProg
import Derived.Shelf.Lay
import Derived.Shelf.LaySoft
import Derived.Shelf.Strings.Builder1
import Derived.Shelf.Strings.Builder2
import Derived.Shelf.Strings.OnBuilder
import Derived.Ground.Names2Prog
import Derived.Shelf.Slices.Clone
import Derived.Test.YtbppfpdgahopeaaGreatT1
import Derived.WideKeyPair
set_option linter.unusedSimpArgs false
set_option linter.unusedVariables false
set_option maxRecDepth 20000
set_option linter.unusedSectionVars false
namespace Go.Gl
open Go Go.Proofs
variable [Amb] [NoQ]
theorem drP {b:List UInt8} {s:Cu} {n:Nat} (h:n≤8):isPermB (drL b s n).1=true:=by
 simp only[isPermB,drL_perm,drL_len,Bool.and_true,decide_eq_true_eq];exact h
def bdQ (b:List UInt8) (s:Cu):Int:=[1,1,1,2,(3:Int)].getD (bwX b s 5).toNat 0
theorem bdQ_r {b:List UInt8} {s:Cu}:1≤bdQ b s∧bdQ b s≤3:=by
 have q:=bwX_r (b:=b) (s:=s) (n:=5)
 have h:bdQ b s∈[1,1,1,2,(3:Int)]:=getD_mem (by simp;omega)
 simp at h;omega
theorem bdQ_c {m0:Bool} (b:List UInt8) (s:Cu) (hb:b.length≤1048576):CallT Tryz.prog false 111 [.mu true (curC b s),.pv (.sl (.lent m0) [.int .i64 1,.int .i64 1,.int .i64 1,.int .i64 2,.int .i64 3])] [some (curC b (bwS b s 5)),none] [.int .i64 (bdQ b s)]:=
 spec_l1PickInt_b (m0:=m0) b s [1,1,1,2,3] hb (by decide) (by decide)
def ibL (b:List UInt8) (s:Cu):Nat→List (List Int)×Cu
 |0=>([],s)
 |k+1=>((ibL b s k).1++[(drL b (bwS b (ibL b s k).2 5) (bdQ b (ibL b s k).2).toNat).1],(drL b (bwS b (ibL b s k).2 5) (bdQ b (ibL b s k).2).toNat).2)
theorem ibL_p {b:List UInt8} {s:Cu}:∀{k:Nat},(ibL b s k).1.length=k∧∀l∈(ibL b s k).1,isPermB l=true
 |0=>by simp[ibL]
 |k+1=>by
  obtain⟨h1,h2⟩:=ibL_p (b:=b) (s:=s) (k:=k)
  rw[ibL]
  refine⟨by simp[h1],fun x hx=> ?_⟩
  rcases List.mem_append.1 hx with q|q
  ·exact h2 x q
  ·rw[List.mem_singleton]at q;subst q
   have:=bdQ_r (b:=b) (s:=(ibL b s k).2)
   exact drP (by omega)
def ibT:List (List UInt8):=[[50,52,49,51],[51,49,52,50],[50,52,49,53,51],[50,53,51,49,52],[51,49,53,50,52]]
theorem ib_all:∀t∈ibT,t.length≤100∧isPermB (prsL t)=true:=by decide+kernel
theorem ib_tail (b:List UInt8) (s:Cu) (p:List Int) (hb:b.length≤1048576) (hp:isPermB p=true):(ibL b s p.length).1.length=p.length∧(ibL b s p.length).1.all isPermB=true:=
 ⟨ibL_p.1,List.all_eq_true.2 ibL_p.2⟩
theorem inO_short {p:List Int} {L:List (List Int)} (h:inOk L=true) (he:L.length=p.length):(inO p L p.length).length≤8:=by
 rw[inO_len (by omega)]
 simp only[inOk,Bool.and_eq_true,decide_eq_true_eq]at h
 have:=lenS_take (L:=L) (j:=p.length)
 omega
set_option maxHeartbeats 1600000 in
theorem spec_l5Inflated_x (b:List UInt8) (s:Cu) (hb:b.length≤1048576):∃s' p,CallT Tryz.prog false 79 [.mu true (curC b s)] [some (curC b s')] [.sl .own (List.map (PV.int .i64) p)]∧p.length≤1048576:=by
 have q:=bwX_r (b:=b) (s:=s) (n:=5)
 obtain⟨N,hN⟩:∃N:Nat,bwX b s 5=(N:Int):=Int.eq_ofNat_of_zero_le (by omega)
 rw[hN]at q
 have hN4:N<5:=by omega
 have nn:(1+(N:Int)).toNat=N+1:=by omega
 obtain⟨s2,hs2⟩:∃s2,(drL b (bwS b s 5) (N+1)).2=s2:=⟨_,rfl⟩
 obtain⟨x,hx⟩:∃x,bwX b s2 2=x:=⟨_,rfl⟩
 by_cases h0:x=0
 ·subst h0
  obtain⟨s3,t,c1,ht⟩:=spec_l1Pick_x (m0:=true) b (bwS b s2 2) ibT hb (by decide) (by decide)
  obtain⟨t1,hp⟩:=ib_all t ht
  simp only[ibT,List.map_cons,List.map_nil]at c1
  generalize hP:prsL t=P at*
  obtain⟨L,hL⟩:∃L,(ibL b s3 P.length).1=L:=⟨_,rfl⟩
  obtain⟨y1,y2⟩:=ib_tail b s3 P hb hp
  rw[hL]at y1 y2
  have y3:∀l∈L,l.length≤8:=fun l hl=>(isP_8 (List.all_eq_true.1 y2 l hl)).1
  have h8:=(isP_8 hp).1
  refine⟨(ibL b s3 P.length).2,if inOk L=true then inO P L P.length else P, ?_,by split;exact Nat.le_trans (inO_short (by assumption) y1) (by decide);omega⟩
  refine fX sgCu [2] Tryz.func79 ?_
  have cE1:= @spec_ParsePerm_c;have cE2:= @spec_InflateBy_c;have cM1:= @spec_l1Below_c;have cM2:= @spec_l2Draw_c;have cM3:= @spec_l1Once_c
  have cM4:= @c1
  refine dEa (And.intro @hN (And.intro @nn (And.intro @hs2 (And.intro @hx @hP)))) ?_
  all_goals try (refine zlf ?_;repeat' first|exact zso|refine And.intro ?_ ?_|(refine zim ?_;intro zb hc;repeat (have zc:=zb.1;replace zb:=zb.2))|(refine zin ?_;intro zb)|intro j')
  all_goals try refine zbx ?_
  refine v_loopB (fun ms1 S1=>∃(k:Nat),S1.e 0=.ptr 0 0∧S1.h 0=.live true (curC b (ibL b s3 k).2)∧0<S1.n∧OwnL (S1.e 3) S1.h S1.n (PV.int .i64) ((P).length) (P)∧OwnL (S1.e 4) S1.h S1.n (elI false) (((ibL b s3 k).1).length) ((ibL b s3 k).1)∧S1.e 5=.p (.int .i64 (k))∧(k≤P.length)∧NId (S1.e 4) (S1.e 3)∧NId (S1.e 3) (.ref 0 0 0)∧NId (S1.e 4) (.ref 0 0 0)∧ms1=P.length - k) ((fun(k:Nat)=>P.length - k) (0)) ?_ ⟨0,dC trivial ?_⟩
  all_goals try (refine zlf ?_;repeat' first|exact zso|refine And.intro ?_ ?_|(refine zim ?_;intro zb hc;repeat (have zc:=zb.1;replace zb:=zb.2))|(refine zin ?_;intro zb)|intro j')
  all_goals try refine zbx ?_
  rintro ms1 S1 ⟨k,h1_0,b1_0,l1_0,o1_3,o1_4,h1_5,c1_0,u1_0,u1_1,u1_2,hm1⟩
  obtain⟨i1_3,h1_3,b1_3,l1_3⟩:=o1_3.out
  obtain⟨i1_4,h1_4,b1_4,l1_4⟩:=o1_4.out
  have k1_0:=(u1_0).out h1_4 h1_3
  have k1_1:=(u1_1).out h1_3 rfl
  have k1_2:=(u1_2).out h1_4 rfl
  have ni1_3:=znds (x:=i1_3) (n:=S1.n)
  have ni1_4:=znds (x:=i1_4) (n:=S1.n)
  have n0:=znds (x:=0) (n:=S1.n)
  have di1_3i1_4:=zdne (x:=i1_3) (y:=i1_4)
  have di1_30:=zdne (x:=i1_3) (y:=0)
  have di1_40:=zdne (x:=i1_4) (y:=0)
  have fL1:=(And.intro h1_0 (And.intro b1_0 (And.intro h1_5 (And.intro h1_3 (And.intro b1_3 (And.intro h1_4 (And.intro b1_4 (And.intro ni1_3 (And.intro ni1_4 (And.intro n0 (And.intro di1_3i1_4 (And.intro di1_30 di1_40))))))))))))
  ·obtain⟨w1,w2⟩:=ibL_p (b:=b) (s:=s3) (k:=k)
   by_cases hk:k<P.length
   ·have g5:=bdQ_r (b:=b) (s:=(ibL b s3 k).2)
    have cM4:= @bdQ_c
    refine dEa fL1 ?_
    all_goals try (refine zlf ?_;repeat' first|exact zso|refine And.intro ?_ ?_|(refine zim ?_;intro zb hc;repeat (have zc:=zb.1;replace zb:=zb.2))|(refine zin ?_;intro zb)|intro j')
    all_goals try refine zbx ?_
    focus
     refine q_lp_n ((fun(k:Nat)=>P.length - k) (k+1)) (dC fL1 ?_) ⟨k+1,dC fL1 ?_⟩
     all_goals try (refine zlf ?_;repeat' first|exact zso|refine And.intro ?_ ?_|(refine zim ?_;intro zb hc;repeat (have zc:=zb.1;replace zb:=zb.2))|(refine zin ?_;intro zb)|intro j')
     all_goals try refine zbx ?_
    all_goals(first|(rw[ibL_p.1,ibL_p.1];done)|skip)
    all_goals trace_state
   ·obtain rfl:k=P.length:=by omega
    cases ho:inOk L with
    |true=>
     have z1:(if true=true then inO P L P.length else[])=inO P L P.length:=if_pos rfl
     have z2:(if true=true then inO P L P.length else P)=inO P L P.length:=if_pos rfl
     have cM4:=trivial
     refine dEa (And.intro fL1 (And.intro @hL (And.intro @ho (And.intro @z1 (And.intro @z2 (And.intro @hp @y2)))))) ?_
     all_goals try (refine zlf ?_;repeat' first|exact zso|refine And.intro ?_ ?_|(refine zim ?_;intro zb hc;repeat (have zc:=zb.1;replace zb:=zb.2))|(refine zin ?_;intro zb)|intro j')
     all_goals try refine zbx ?_
     all_goals trace_state
    |false=>
     have z1:(if false=true then inO P L P.length else[])=[]:=if_neg (by decide)
     have z2:(if false=true then inO P L P.length else P)=P:=if_neg (by decide)
     have cM4:=trivial
     refine dEa (And.intro fL1 (And.intro @hL (And.intro @ho (And.intro @z1 (And.intro @z2 (And.intro @hp @y2)))))) ?_
     all_goals try (refine zlf ?_;repeat' first|exact zso|refine And.intro ?_ ?_|(refine zim ?_;intro zb hc;repeat (have zc:=zb.1;replace zb:=zb.2))|(refine zin ?_;intro zb)|intro j')
     all_goals try refine zbx ?_
     all_goals trace_state
  all_goals trace_state
 ·have f0:(x=0)=False:=eq_false h0
  have hp:isPermB (drL b (bwS b s 5) (N+1)).1=true:=drP (by omega)
  generalize hP:(drL b (bwS b s 5) (N+1)).1=P at*
  obtain⟨L,hL⟩:∃L,(ibL b (bwS b s2 2) P.length).1=L:=⟨_,rfl⟩
  obtain⟨y1,y2⟩:=ib_tail b (bwS b s2 2) P hb hp
  rw[hL]at y1 y2
  have y3:∀l∈L,l.length≤8:=fun l hl=>(isP_8 (List.all_eq_true.1 y2 l hl)).1
  have h8:=(isP_8 hp).1
  refine⟨(ibL b (bwS b s2 2) P.length).2,if inOk L=true then inO P L P.length else P, ?_,by split;exact Nat.le_trans (inO_short (by assumption) y1) (by decide);omega⟩
  refine fX sgCu [2] Tryz.func79 ?_
  have cE1:= @spec_ParsePerm_c;have cE2:= @spec_InflateBy_c;have cM1:= @spec_l1Below_c;have cM2:= @spec_l2Draw_c;have cM3:= @spec_l1Once_c
  refine dEa (And.intro @hN (And.intro @nn (And.intro @hs2 (And.intro @hx (And.intro @f0 @hP))))) ?_
  all_goals try (refine zlf ?_;repeat' first|exact zso|refine And.intro ?_ ?_|(refine zim ?_;intro zb hc;repeat (have zc:=zb.1;replace zb:=zb.2))|(refine zin ?_;intro zb)|intro j')
  all_goals try refine zbx ?_
  refine v_loopB (fun ms1 S1=>∃(k:Nat),S1.e 0=.ptr 0 0∧S1.h 0=.live true (curC b (ibL b (bwS b s2 2) k).2)∧0<S1.n∧OwnL (S1.e 3) S1.h S1.n (PV.int .i64) ((P).length) (P)∧OwnL (S1.e 4) S1.h S1.n (elI false) (((ibL b (bwS b s2 2) k).1).length) ((ibL b (bwS b s2 2) k).1)∧S1.e 5=.p (.int .i64 (k))∧(k≤P.length)∧NId (S1.e 4) (S1.e 3)∧NId (S1.e 3) (.ref 0 0 0)∧NId (S1.e 4) (.ref 0 0 0)∧ms1=P.length - k) ((fun(k:Nat)=>P.length - k) (0)) ?_ ⟨0,dC trivial ?_⟩
  all_goals try (refine zlf ?_;repeat' first|exact zso|refine And.intro ?_ ?_|(refine zim ?_;intro zb hc;repeat (have zc:=zb.1;replace zb:=zb.2))|(refine zin ?_;intro zb)|intro j')
  all_goals try refine zbx ?_
  rintro ms1 S1 ⟨k,h1_0,b1_0,l1_0,o1_3,o1_4,h1_5,c1_0,u1_0,u1_1,u1_2,hm1⟩
  obtain⟨i1_3,h1_3,b1_3,l1_3⟩:=o1_3.out
  obtain⟨i1_4,h1_4,b1_4,l1_4⟩:=o1_4.out
  have k1_0:=(u1_0).out h1_4 h1_3
  have k1_1:=(u1_1).out h1_3 rfl
  have k1_2:=(u1_2).out h1_4 rfl
  have ni1_3:=znds (x:=i1_3) (n:=S1.n)
  have ni1_4:=znds (x:=i1_4) (n:=S1.n)
  have n0:=znds (x:=0) (n:=S1.n)
  have di1_3i1_4:=zdne (x:=i1_3) (y:=i1_4)
  have di1_30:=zdne (x:=i1_3) (y:=0)
  have di1_40:=zdne (x:=i1_4) (y:=0)
  have fL1:=(And.intro h1_0 (And.intro b1_0 (And.intro h1_5 (And.intro h1_3 (And.intro b1_3 (And.intro h1_4 (And.intro b1_4 (And.intro ni1_3 (And.intro ni1_4 (And.intro n0 (And.intro di1_3i1_4 (And.intro di1_30 di1_40))))))))))))
  ·obtain⟨w1,w2⟩:=ibL_p (b:=b) (s:=(bwS b s2 2)) (k:=k)
   by_cases hk:k<P.length
   ·have g5:=bdQ_r (b:=b) (s:=(ibL b (bwS b s2 2) k).2)
    have cM4:= @bdQ_c
    refine dEa fL1 ?_
    all_goals try (refine zlf ?_;repeat' first|exact zso|refine And.intro ?_ ?_|(refine zim ?_;intro zb hc;repeat (have zc:=zb.1;replace zb:=zb.2))|(refine zin ?_;intro zb)|intro j')
    all_goals try refine zbx ?_
    focus
     refine q_lp_n ((fun(k:Nat)=>P.length - k) (k+1)) (dC fL1 ?_) ⟨k+1,dC fL1 ?_⟩
     all_goals try (refine zlf ?_;repeat' first|exact zso|refine And.intro ?_ ?_|(refine zim ?_;intro zb hc;repeat (have zc:=zb.1;replace zb:=zb.2))|(refine zin ?_;intro zb)|intro j')
     all_goals try refine zbx ?_
    all_goals(first|(rw[ibL_p.1,ibL_p.1];done)|skip)
    all_goals trace_state
   ·obtain rfl:k=P.length:=by omega
    cases ho:inOk L with
    |true=>
     have z1:(if true=true then inO P L P.length else[])=inO P L P.length:=if_pos rfl
     have z2:(if true=true then inO P L P.length else P)=inO P L P.length:=if_pos rfl
     have cM4:=trivial
     refine dEa (And.intro fL1 (And.intro @hL (And.intro @ho (And.intro @z1 (And.intro @z2 (And.intro @hp @y2)))))) ?_
     all_goals try (refine zlf ?_;repeat' first|exact zso|refine And.intro ?_ ?_|(refine zim ?_;intro zb hc;repeat (have zc:=zb.1;replace zb:=zb.2))|(refine zin ?_;intro zb)|intro j')
     all_goals try refine zbx ?_
     all_goals trace_state
    |false=>
     have z1:(if false=true then inO P L P.length else[])=[]:=if_neg (by decide)
     have z2:(if false=true then inO P L P.length else P)=P:=if_neg (by decide)
     have cM4:=trivial
     refine dEa (And.intro fL1 (And.intro @hL (And.intro @ho (And.intro @z1 (And.intro @z2 (And.intro @hp @y2)))))) ?_
     all_goals try (refine zlf ?_;repeat' first|exact zso|refine And.intro ?_ ?_|(refine zim ?_;intro zb hc;repeat (have zc:=zb.1;replace zb:=zb.2))|(refine zin ?_;intro zb)|intro j')
     all_goals try refine zbx ?_
     all_goals trace_state
  all_goals trace_state
theorem spec_l5Bent_x (b:List UInt8) (s:Cu) (hb:b.length≤1048576):∃s' p,CallT Tryz.prog false 40 [.mu true (curC b s)] [some (curC b s')] [.sl .own (List.map (PV.int .i64) p)]∧p.length≤1048576:=by
 obtain⟨x,hx⟩:∃x,bwX b s 3=x:=⟨_,rfl⟩
 by_cases h0:x=0
 ·subst h0
  obtain⟨s1,p,c1,hp⟩:=spec_l2Bent_x b (bwS b s 3) hb
  refine⟨s1,p, ?_,Nat.le_trans hp.len (by decide)⟩
  refine fX sgCu [2] Tryz.func40 ?_
  have cM1:= @spec_l1Once_c
  have cM2:= @c1
  refine dEa @hx ?_
  all_goals try (refine zlf ?_;repeat' first|exact zso|refine And.intro ?_ ?_|(refine zim ?_;intro zb hc)|(refine zin ?_;intro zb)|intro j')
  all_goals try refine zbx ?_
  all_goals trace_state
 ·have f0:(x=0)=False:=eq_false h0
  obtain⟨s1,p,c1,hp⟩:=spec_l5Inflated_x b (bwS b s 3) hb
  refine⟨s1,p, ?_,hp⟩
  refine fX sgCu [2] Tryz.func40 ?_
  have cM1:= @spec_l1Once_c
  have cM2:= @c1
  refine dEa (And.intro @hx @f0) ?_
  all_goals try (refine zlf ?_;repeat' first|exact zso|refine And.intro ?_ ?_|(refine zim ?_;intro zb hc)|(refine zin ?_;intro zb)|intro j')
  all_goals try refine zbx ?_
  all_goals trace_state
def gtC (v:Int):List Int→Int
 |[]=>0
 |w::l=>bitI (decide (v<w))+gtC v l
def invN (p:List Int):Nat→Int
 |0=>0
 |k+1=>invN p k+gtC (p.getD k 0) (p.take k)
theorem gtC_snoc {v x:Int}:∀{l:List Int},gtC v (l++[x])=gtC v l+bitI (decide (v<x))
 |[]=>by simp[gtC]
 |w::l=>by rw[List.cons_append,gtC,gtC,gtC_snoc];omega
theorem gtC_r {v:Int}:∀{l:List Int},0≤gtC v l∧gtC v l≤l.length
 |[]=>by simp[gtC]
 |w::l=>by have:=gtC_r (v:=v) (l:=l);have:=bitI_r (decide (v<w));rw[gtC,List.length_cons];omega
theorem spec_CountInversions_c {m0:Bool} (p:List Int) (hp:p.length≤1048576):Fun Tryz.prog 63 [(.sl (.lent m0) (List.map (PV.int .i64) (p)))] [(.int .i64 ((if isPermB p then invN p p.length else -1)))]:=by
 by_cases h:isPermB p=true
 ·rw[if_pos h]
  have h8:p.length≤8:=by simp[isPermB]at h;exact h.1
  have hb:∀k,0≤invN p k∧invN p k≤8*(k:Int):=fun k=>by
   induction k with
   |zero=>simp[invN]
   |succ k ih=>
    have:=gtC_r (v:=p.getD k 0) (l:=p.take k)
    rw[List.length_take]at this
    rw[invN];omega
  refine fO sg0 [2] Tryz.func63 ?_
  have cE1:= @spec_l1Bit_c;have cE2:= @spec_IsPerm_c;have cD1:=zdh [false,false,false,false,false,false,false,false,false,false,true,false,false] [(0,10)]
  refine dEa @h ?_
  all_goals try (refine zlf ?_;repeat' first|exact zso|refine And.intro ?_ ?_|(refine zim ?_;intro zb hc)|(refine zin ?_;intro zb)|intro j')
  all_goals try refine zbx ?_
  refine v_loopB (fun ms1 S1=>∃(k:Nat),S1.e 0=.p (.sl (.lent m0) (List.map (PV.int .i64) (p)))∧S1.e 3=.p (.int .i64 (invN p k))∧S1.e 4=.p (.int .i64 (k))∧(k≤p.length)∧ms1=p.length - k) ((fun(k:Nat)=>p.length - k) (0)) ?_ ⟨0,dC trivial ?_⟩
  all_goals try (refine zlf ?_;repeat' first|exact zso|refine And.intro ?_ ?_|(refine zim ?_;intro zb hc)|(refine zin ?_;intro zb)|intro j')
  all_goals try refine zbx ?_
  rintro ms1 S1 ⟨k,h1_0,h1_3,h1_4,c1_0,hm1⟩
  have fL1:=(And.intro h1_0 (And.intro h1_3 h1_4))
  ·have b1:=hb k
   refine dEa fL1 ?_
   all_goals try (refine zlf ?_;repeat' first|exact zso|refine And.intro ?_ ?_|(refine zim ?_;intro zb hc)|(refine zin ?_;intro zb)|intro j')
   all_goals try refine zbx ?_
   ·refine v_loopB (fun ms2 S2=>∃(i:Nat),S2.e 0=.p (.sl (.lent m0) (List.map (PV.int .i64) (p)))∧S2.e 3=.p (.int .i64 ((invN p k+gtC (p.getD k 0) (p.take i))))∧S2.e 4=.p (.int .i64 (k))∧S2.e 5=.p (.int .i64 (i))∧(i≤k)∧(k<p.length)∧S1.n≤S2.n∧ms2=k - i) ((fun(i:Nat)=>k - i) (0)) ?_ ⟨0,dC fL1 ?_⟩
    all_goals try (refine zlf ?_;repeat' first|exact zso|refine And.intro ?_ ?_|(refine zim ?_;intro zb hc)|(refine zin ?_;intro zb)|intro j')
    all_goals try refine zbx ?_
    rintro ms2 S2 ⟨i,h2_0,h2_3,h2_4,h2_5,c2_0,c2_1,u2_0,hm2⟩
    have fL2:=(And.intro h2_0 (And.intro h2_3 (And.intro h2_4 h2_5)))
    ·have b2:=gtC_r (v:=p.getD k 0) (l:=p.take i)
     have b3:=bitI_r (decide (p.getD k 0<p.getD i 0))
     rw[List.length_take]at b2
     refine dEa fL2 ?_
     all_goals try (refine zlf ?_;repeat' first|exact zso|refine And.intro ?_ ?_|(refine zim ?_;intro zb hc)|(refine zin ?_;intro zb)|intro j')
     all_goals try refine zbx ?_
     ·focus
       refine q_lp_n ((fun(i:Nat)=>k - i) (i+1)) (dC fL2 ?_) ⟨i+1,dC fL2 ?_⟩
       all_goals try (refine zlf ?_;repeat' first|exact zso|refine And.intro ?_ ?_|(refine zim ?_;intro zb hc)|(refine zin ?_;intro zb)|intro j')
       all_goals try refine zbx ?_
      rw[take_getD (d:=0) (by omega),gtC_snoc];omega
     ·focus
       refine q_lp_n ((fun(k:Nat)=>p.length - k) (k+1)) (dC fL2 ?_) ⟨k+1,dC fL2 ?_⟩
       all_goals try (refine zlf ?_;repeat' first|exact zso|refine And.intro ?_ ?_|(refine zim ?_;intro zb hc)|(refine zin ?_;intro zb)|intro j')
       all_goals try refine zbx ?_
      obtain rfl:i=k:=by omega
      rfl
    ·simp[gtC]
   ·obtain rfl:k=p.length:=by omega
    rfl
 ·rw[if_neg h]
  rw[Bool.not_eq_true]at h
  refine fO sg0 [2] Tryz.func63 ?_
  have cE1:= @spec_l1Bit_c;have cE2:= @spec_IsPerm_c;have cD1:=zdh [false,false,false,false,false,false,false,false,false,false,true,false,false] [(0,10)]
  refine dEa @h ?_
  all_goals try (refine zlf ?_;repeat' first|exact zso|refine And.intro ?_ ?_|(refine zim ?_;intro zb hc)|(refine zin ?_;intro zb)|intro j')
  all_goals try refine zbx ?_
def abvN (p:List Int) (x:Int) (i:Nat):Int:=(((p.take i).filter fun y=>decide (x≤y)).length:Nat)
theorem abv_succ {p:List Int} {x:Int} {i:Nat} (h:i<p.length):abvN p x (i+1)=abvN p x i+bitI (decide (x≤p.getD i 0)):=by
 rw[abvN,abvN,take_getD (d:=0) h,List.filter_append,List.length_append,List.filter_cons]
 generalize p.getD i 0=y
 by_cases g:x≤y<;>simp[g,bitI]
theorem abv_b {p:List Int} {x:Int} {i:Nat}:0≤abvN p x i∧abvN p x i≤i:=by
 have:=List.length_filter_le (fun y=>decide (x≤y)) (p.take i)
 have:=List.length_take (l:=p) (i:=i)
 unfold abvN;omega
theorem spec_l28Above_c {m0:Bool} (p:List Int) (i x:Int) (h0:0≤i) (hi:i≤p.length) (hp:p.length≤1048576):Fun Tryz.prog 127 [(.sl (.lent m0) (List.map (PV.int .i64) (p))),(.int .i64 (i)),(.int .i64 (x))] [(.int .i64 (abvN p x i.toNat))]:=by
 obtain⟨i,rfl⟩:=Int.eq_ofNat_of_zero_le h0
 rw[Int.toNat_natCast]
 refine fO sg0 [6] Tryz.func127 ?_
 have cE1:= @spec_l1Bit_c
 refine dEa trivial ?_
 all_goals try (refine zlf ?_;repeat' first|exact zso|refine And.intro ?_ ?_|(refine zim ?_;intro zb hc)|(refine zin ?_;intro zb)|intro j')
 all_goals try refine zbx ?_
 refine v_loopB (fun ms1 S1=>∃(k:Nat),S1.e 0=.p (.sl (.lent m0) (List.map (PV.int .i64) (p)))∧S1.e 1=.p (.int .i64 (i))∧S1.e 2=.p (.int .i64 (x))∧S1.e 7=.p (.int .i64 (abvN p x k))∧S1.e 8=.p (.int .i64 (k))∧(k≤i)∧ms1=i - k) ((fun(k:Nat)=>i - k) (0)) ?_ ⟨0,dC trivial ?_⟩
 all_goals try (refine zlf ?_;repeat' first|exact zso|refine And.intro ?_ ?_|(refine zim ?_;intro zb hc)|(refine zin ?_;intro zb)|intro j')
 all_goals try refine zbx ?_
 rintro ms1 S1 ⟨k,h1_0,h1_1,h1_2,h1_7,h1_8,c1_0,hm1⟩
 have fL1:=(And.intro h1_0 (And.intro h1_1 (And.intro h1_2 (And.intro h1_7 h1_8))))
 have b1:=abv_b (p:=p) (x:=x) (i:=k)
 have b2:=bitI_r (decide (x≤p.getD k 0))
 by_cases hk:k<i
 ·refine dEa fL1 ?_
  all_goals try (refine zlf ?_;repeat' first|exact zso|refine And.intro ?_ ?_|(refine zim ?_;intro zb hc)|(refine zin ?_;intro zb)|intro j')
  all_goals try refine zbx ?_
  focus
   refine q_lp_n ((fun(k:Nat)=>i - k) (k+1)) (dC fL1 ?_) ⟨k+1,dC fL1 ?_⟩
   all_goals try (refine zlf ?_;repeat' first|exact zso|refine And.intro ?_ ?_|(refine zim ?_;intro zb hc)|(refine zin ?_;intro zb)|intro j')
   all_goals try refine zbx ?_
  all_goals(first|(rw[abv_succ (by omega)];done)|skip)
  all_goals trace_state
 ·refine dEa fL1 ?_
  all_goals try (refine zlf ?_;repeat' first|exact zso|refine And.intro ?_ ?_|(refine zim ?_;intro zb hc)|(refine zin ?_;intro zb)|intro j')
  all_goals try refine zbx ?_
  obtain rfl:k=i:=by omega
  rfl
def sbC (p q:List Int) (i j:Nat):Bool:=(List.range j).all fun x=>decide (abvN p ((x:Int)+1) i≤abvN q ((x:Int)+1) i)
def sbR (p q:List Int) (i:Nat):Bool:=(List.range i).all fun k=>sbC p q (k+1) p.length
def sbB (p q:List Int):Bool:=isPermB p&&isPermB q&&decide (p.length=q.length)&&sbR p q p.length
theorem sb_no {p q:List Int} {i j:Nat} (hi:i<p.length) (hj:j<p.length) (h:abvN q ((j:Int)+1) (i+1)<abvN p ((j:Int)+1) (i+1)):sbR p q p.length=false:=
 List.all_eq_false.2 ⟨i,List.mem_range.2 hi,by
  rw[Bool.not_eq_true]
  exact List.all_eq_false.2 ⟨j,List.mem_range.2 hj,by simp only[decide_eq_true_eq];omega⟩⟩
theorem sb_yes {p q:List Int} (h:∀i,i<p.length→∀j,j<p.length→abvN p ((j:Int)+1) (i+1)≤abvN q ((j:Int)+1) (i+1)):sbR p q p.length=true:=
 List.all_eq_true.2 fun i hi=>List.all_eq_true.2 fun j hj=>decide_eq_true (h i (List.mem_range.1 hi) j (List.mem_range.1 hj))
theorem spec_StrongBelow_c {m0 m1:Bool} (p q:List Int) (hp:p.length≤1048576) (hq:q.length≤1048576):Fun Tryz.prog 104 [(.sl (.lent m0) (List.map (PV.int .i64) (p))),(.sl (.lent m1) (List.map (PV.int .i64) (q)))] [(.bool (sbB p q))]:=by
 by_cases h1:isPermB p=true
 ·by_cases h2:isPermB q=true
  ·by_cases h3:p.length=q.length
   ·have h4:((p.length:Int)=(q.length:Int))=True:=eq_true (by omega)
    have e:sbB p q=sbR p q p.length:=by rw[sbB,h1,h2,decide_eq_true h3];rfl
    rw[e]
    refine fO sg0 [4] Tryz.func104 ?_
    have cE1:= @spec_IsPerm_c;have cE2:= @spec_l28Above_c
    refine dEa (And.intro @h1 (And.intro @h2 @h4)) ?_
    all_goals try (refine zlf ?_;repeat' first|exact zso|refine And.intro ?_ ?_|(refine zim ?_;intro zb hc)|(refine zin ?_;intro zb)|intro j')
    all_goals try refine zbx ?_
    refine v_loopB (fun ms1 S1=>∃(i:Nat),S1.e 0=.p (.sl (.lent m0) (List.map (PV.int .i64) (p)))∧S1.e 1=.p (.sl (.lent m1) (List.map (PV.int .i64) (q)))∧S1.e 5=.p (.int .i64 (((i:Int)+1)))∧(i≤p.length)∧(∀a,a<i→∀j,j<p.length→abvN p ((j:Int)+1) (a+1)≤abvN q ((j:Int)+1) (a+1))∧ms1=p.length - i) ((fun(i:Nat)=>p.length - i) (0)) ?_ ⟨0,dC trivial ?_⟩
    all_goals try (refine zlf ?_;repeat' first|exact zso|refine And.intro ?_ ?_|(refine zim ?_;intro zb hc)|(refine zin ?_;intro zb)|intro j')
    all_goals try refine zbx ?_
    rintro ms1 S1 ⟨i,h1_0,h1_1,h1_5,c1_0,c1_1,hm1⟩
    have fL1:=(And.intro h1_0 (And.intro h1_1 h1_5))
    ·by_cases hi:i<p.length
     ·refine dEa fL1 ?_
      all_goals try (refine zlf ?_;repeat' first|exact zso|refine And.intro ?_ ?_|(refine zim ?_;intro zb hc)|(refine zin ?_;intro zb)|intro j')
      all_goals try refine zbx ?_
      refine v_loopB (fun ms2 S2=>∃(j:Nat),S2.e 0=.p (.sl (.lent m0) (List.map (PV.int .i64) (p)))∧S2.e 1=.p (.sl (.lent m1) (List.map (PV.int .i64) (q)))∧S2.e 5=.p (.int .i64 (((i:Int)+1)))∧S2.e 6=.p (.int .i64 (((j:Int)+1)))∧(j≤p.length)∧(∀x,x<j→abvN p ((x:Int)+1) (i+1)≤abvN q ((x:Int)+1) (i+1))∧S1.n≤S2.n∧ms2=p.length - j) ((fun(j:Nat)=>p.length - j) (0)) ?_ ⟨0,dC fL1 ?_⟩
      all_goals try (refine zlf ?_;repeat' first|exact zso|refine And.intro ?_ ?_|(refine zim ?_;intro zb hc)|(refine zin ?_;intro zb)|intro j')
      all_goals try refine zbx ?_
      rintro ms2 S2 ⟨j,h2_0,h2_1,h2_5,h2_6,c2_0,c2_1,u2_0,hm2⟩
      have fL2:=(And.intro h2_0 (And.intro h2_1 (And.intro h2_5 h2_6)))
      ·have z1:((i:Int)+1).toNat=i+1:=by omega
       by_cases hj:j<p.length
       ·refine dEa (And.intro fL2 @z1) ?_
        all_goals try (refine zlf ?_;repeat' first|exact zso|refine And.intro ?_ ?_|(refine zim ?_;intro zb hc)|(refine zin ?_;intro zb)|intro j')
        all_goals try refine zbx ?_
        ·rw[sb_no hi hj (by omega)]
        ·focus
          refine q_lp_n ((fun(j:Nat)=>p.length - j) (j+1)) (dC fL2 ?_) ⟨j+1,dC fL2 ?_⟩
          all_goals try (refine zlf ?_;repeat' first|exact zso|refine And.intro ?_ ?_|(refine zim ?_;intro zb hc)|(refine zin ?_;intro zb)|intro j')
          all_goals try refine zbx ?_
         all_goals(first|(intro x hx;by_cases g:x=j;(subst g;omega);exact c2_1 x (by omega))|skip)
         all_goals trace_state
        all_goals trace_state
       ·refine dEa (And.intro fL2 @z1) ?_
        all_goals try (refine zlf ?_;repeat' first|exact zso|refine And.intro ?_ ?_|(refine zim ?_;intro zb hc)|(refine zin ?_;intro zb)|intro j')
        all_goals try refine zbx ?_
        focus
         refine q_lp_n ((fun(i:Nat)=>p.length - i) (i+1)) (dC fL2 ?_) ⟨i+1,dC fL2 ?_⟩
         all_goals try (refine zlf ?_;repeat' first|exact zso|refine And.intro ?_ ?_|(refine zim ?_;intro zb hc)|(refine zin ?_;intro zb)|intro j')
         all_goals try refine zbx ?_
        all_goals(first|(intro a ha x hx;by_cases g:a=i;(subst g;exact c2_1 x (by omega));exact c1_1 a (by omega) x hx)|skip)
        all_goals trace_state
      all_goals trace_state
     ·rw[sb_yes fun a ha=>c1_1 a (by omega)]
      refine dEa fL1 ?_
      all_goals try (refine zlf ?_;repeat' first|exact zso|refine And.intro ?_ ?_|(refine zim ?_;intro zb hc)|(refine zin ?_;intro zb)|intro j')
      all_goals try refine zbx ?_
      all_goals trace_state
    all_goals trace_state
   ·have h4:((p.length:Int)=(q.length:Int))=False:=eq_false (by omega)
    have e:sbB p q=false:=by rw[sbB,decide_eq_false h3];simp
    rw[e]
    refine fO sg0 [4] Tryz.func104 ?_
    have cE1:= @spec_IsPerm_c;have cE2:= @spec_l28Above_c
    refine dEa (And.intro @h1 (And.intro @h2 @h4)) ?_
    all_goals try (refine zlf ?_;repeat' first|exact zso|refine And.intro ?_ ?_|(refine zim ?_;intro zb hc)|(refine zin ?_;intro zb)|intro j')
    all_goals try refine zbx ?_
    all_goals trace_state
  ·rw[Bool.not_eq_true]at h2
   have e:sbB p q=false:=by rw[sbB,h2];simp
   rw[e]
   refine fO sg0 [4] Tryz.func104 ?_
   have cE1:= @spec_IsPerm_c;have cE2:= @spec_l28Above_c
   refine dEa (And.intro @h1 @h2) ?_
   all_goals try (refine zlf ?_;repeat' first|exact zso|refine And.intro ?_ ?_|(refine zim ?_;intro zb hc)|(refine zin ?_;intro zb)|intro j')
   all_goals try refine zbx ?_
   all_goals trace_state
 ·rw[Bool.not_eq_true]at h1
  have e:sbB p q=false:=by rw[sbB,h1];rfl
  rw[e]
  refine fO sg0 [4] Tryz.func104 ?_
  have cE1:= @spec_IsPerm_c;have cE2:= @spec_l28Above_c
  refine dEa @h1 ?_
  all_goals try (refine zlf ?_;repeat' first|exact zso|refine And.intro ?_ ?_|(refine zim ?_;intro zb hc)|(refine zin ?_;intro zb)|intro j')
  all_goals try refine zbx ?_
  all_goals trace_state
def blwL (p:List Int):List (List Int):=if isPermB p=true∧p.length≤5 then(permL p.length).filter fun q=>sbB q p else[]
theorem fil_sn' {L:List (List Int)} {f:List Int→Bool} {k:Nat} (hk:k<L.length):(L.take (k+1)).filter f=(L.take k).filter f++if f (L.getD k [])=true then[L.getD k []]else[]:=by
 rw[take_getD (d:=[]) hk,List.filter_append,List.filter_cons];split<;>simp
theorem spec_BelowOf_c {m0:Bool} (p:List Int) (hp:p.length≤1048576):Fun Tryz.prog 62 [(.sl (.lent m0) (List.map (PV.int .i64) (p)))] [(.sl .own (List.map (elI false) (blwL p)))]:=by
 by_cases h1:isPermB p=true
 ·by_cases h5:p.length≤5
  ·have e:blwL p=(permL p.length).filter fun q=>sbB q p:=if_pos ⟨h1,h5⟩
   have e2:permsB (p.length:Nat)=permL p.length:=by rw[permsB,if_pos (by omega),Int.toNat_natCast]
   have b1:=permL_len (n:=p.length) (by omega)
   rw[e]
   refine fO sg0 [2] Tryz.func62 ?_
   have cE1:= @spec_PermsOf_c;have cE2:= @spec_IsPerm_c;have cE3:= @spec_StrongBelow_c
   refine dEa (And.intro @h1 @e2) ?_
   all_goals try (refine zlf ?_;repeat' first|exact zso|refine And.intro ?_ ?_|(refine zim ?_;intro zb hc)|(refine zin ?_;intro zb)|intro j')
   all_goals try refine zbx ?_
   refine v_loopB (fun ms1 S1=>∃(k:Nat),S1.e 0=.p (.sl (.lent m0) (List.map (PV.int .i64) (p)))∧OwnL (S1.e 4) S1.h S1.n (elI false) ((permL p.length).length) (permL p.length)∧OwnL (S1.e 3) S1.h S1.n (elI false) ((((permL p.length).take k).filter (fun q=>sbB q p)).length) (((permL p.length).take k).filter (fun q=>sbB q p))∧S1.e 5=.p (.int .i64 (k))∧(k≤(permL p.length).length)∧NId (S1.e 3) (S1.e 4)∧ms1=(permL p.length).length - k) ((fun(k:Nat)=>(permL p.length).length - k) (0)) ?_ ⟨0,dC trivial ?_⟩
   all_goals try (refine zlf ?_;repeat' first|exact zso|refine And.intro ?_ ?_|(refine zim ?_;intro zb hc)|(refine zin ?_;intro zb)|intro j')
   all_goals try refine zbx ?_
   rintro ms1 S1 ⟨k,h1_0,o1_4,o1_3,h1_5,c1_0,u1_0,hm1⟩
   obtain⟨i1_4,h1_4,b1_4,l1_4⟩:=o1_4.out
   obtain⟨i1_3,h1_3,b1_3,l1_3⟩:=o1_3.out
   have k1_0:=(u1_0).out h1_3 h1_4
   have ni1_4:=znds (x:=i1_4) (n:=S1.n)
   have ni1_3:=znds (x:=i1_3) (n:=S1.n)
   have di1_4i1_3:=zdne (x:=i1_4) (y:=i1_3)
   have fL1:=(And.intro h1_0 (And.intro h1_5 (And.intro h1_4 (And.intro b1_4 (And.intro h1_3 (And.intro b1_3 (And.intro ni1_4 (And.intro ni1_3 di1_4i1_3))))))))
   ·have b2:(((permL p.length).take k).filter fun q=>sbB q p).length≤8^8:=Nat.le_trans (List.length_filter_le _ _) (by rw[List.length_take];omega)
    by_cases hk:k<(permL p.length).length
    ·have b3:=permL_row _ (getD_mem (d:=[]) hk)
     have b4:=fil_sn' (f:=fun q=>sbB q p) hk
     refine dEa fL1 ?_
     all_goals try (refine zlf ?_;repeat' first|exact zso|refine And.intro ?_ ?_|(refine zim ?_;intro zb hc)|(refine zin ?_;intro zb)|intro j')
     all_goals try refine zbx ?_
     ·focus
       refine q_lp_n ((fun(k:Nat)=>(permL p.length).length - k) (k+1)) (dC fL1 ?_) ⟨k+1,dC fL1 ?_⟩
       all_goals try (refine zlf ?_;repeat' first|exact zso|refine And.intro ?_ ?_|(refine zim ?_;intro zb hc)|(refine zin ?_;intro zb)|intro j')
       all_goals try refine zbx ?_
      all_goals(first|(rw[b4,if_pos hc];done)|(rw[b4,if_pos hc,List.length_append];rfl)|skip)
      all_goals trace_state
     ·focus
       refine q_lp_n ((fun(k:Nat)=>(permL p.length).length - k) (k+1)) (dC fL1 ?_) ⟨k+1,dC fL1 ?_⟩
       all_goals try (refine zlf ?_;repeat' first|exact zso|refine And.intro ?_ ?_|(refine zim ?_;intro zb hc)|(refine zin ?_;intro zb)|intro j')
       all_goals try refine zbx ?_
      all_goals(first|(rw[b4,if_neg (by rw[hc];decide),List.append_nil];done)|skip)
      all_goals trace_state
    ·refine dEa fL1 ?_
     all_goals try (refine zlf ?_;repeat' first|exact zso|refine And.intro ?_ ?_|(refine zim ?_;intro zb hc)|(refine zin ?_;intro zb)|intro j')
     all_goals try refine zbx ?_
     rw[List.take_of_length_le (by omega)]
   all_goals trace_state
  ·have e:blwL p=[]:=if_neg fun h=>h5 h.2
   rw[e]
   refine fO sg0 [2] Tryz.func62 ?_
   have cE1:= @spec_PermsOf_c;have cE2:= @spec_IsPerm_c;have cE3:= @spec_StrongBelow_c
   refine dEa @h1 ?_
   all_goals try (refine zlf ?_;repeat' first|exact zso|refine And.intro ?_ ?_|(refine zim ?_;intro zb hc)|(refine zin ?_;intro zb)|intro j')
   all_goals try refine zbx ?_
   all_goals trace_state
 ·have e:blwL p=[]:=if_neg fun h=>h1 h.1
  rw[Bool.not_eq_true]at h1
  rw[e]
  refine fO sg0 [2] Tryz.func62 ?_
  have cE1:= @spec_PermsOf_c;have cE2:= @spec_IsPerm_c;have cE3:= @spec_StrongBelow_c
  refine dEa @h1 ?_
  all_goals try (refine zlf ?_;repeat' first|exact zso|refine And.intro ?_ ?_|(refine zim ?_;intro zb hc)|(refine zin ?_;intro zb)|intro j')
  all_goals try refine zbx ?_
  all_goals trace_state
theorem blwL_f {p:List Int}:(blwL p).length≤8^8∧∀q∈blwL p,isPermB q=true∧q.length=p.length:=by
 unfold blwL;split
 ·rename_i h
  refine⟨Nat.le_trans (List.length_filter_le _ _) (permL_len (by omega)),fun q hq=> ?_⟩
  have:=(List.mem_filter.1 hq).1
  exact⟨permL_isPerm (by omega) this,permL_row q this⟩
 ·simp
def rkcL (n:Nat) (L:List (List Int)):List Int:=L.foldl (fun c q=>c.set (invN q q.length).toNat (c.getD (invN q q.length).toNat 0+1)) (List.replicate n 0)
theorem rkc_snoc {n:Nat} {L:List (List Int)} {q:List Int}:rkcL n (L++[q])=(rkcL n L).set (invN q q.length).toNat ((rkcL n L).getD (invN q q.length).toNat 0+1):=by rw[rkcL,List.foldl_append];rfl
theorem rkc_len {n:Nat} {L:List (List Int)}:(rkcL n L).length=n:=by
 have key:∀(L:List (List Int)) (c:List Int),(L.foldl (fun c q=>c.set (invN q q.length).toNat (c.getD (invN q q.length).toNat 0+1)) c).length=c.length:=by
  intro L
  induction L with
  |nil=>intro c;rfl
  |cons a L ih=>intro c;rw[List.foldl_cons,ih,List.length_set]
 rw[rkcL,key,List.length_replicate]
def pbOk (s:List UInt8):Bool:=decide (s=[])||((splitC 32 s).all prsB&&basisB ((splitC 32 s).map prsL))
def pbL (s:List UInt8):List (List Int):=if s=[]then[]else if pbOk s=true then(splitC 32 s).map prsL else[]
theorem spB_mem {c:UInt8}:∀{s cur:List UInt8},∀x∈spB c s cur,x.length≤s.length+cur.length
 |[],cur,x,h=>by simp[spB]at h;subst h;simp
 |b::l,cur,x,h=>by
  rw[spB]at h
  split at h
  ·rcases List.mem_cons.1 h with rfl|h
   ·simp
   ·have:=spB_mem x h;simp at this ⊢;omega
  ·have:=spB_mem x h;simp at this ⊢;omega
theorem prsL_len {s:List UInt8}:(prsL s).length≤s.length:=by
 unfold prsL;split
 ·simp
 ·split
  ·simp[dgL]
  ·simp
theorem all_atB {α:Type} {l:List α} {p:α→Bool} {k:Nat} {d:α} (h:k<l.length) (hf:p (l.getD k d)=false):l.all p=false:=by
 rw[List.all_eq_false];exact⟨l.getD k d,getD_mem h,by rw[hf];decide⟩
theorem pb_no {s:List UInt8} {k:Nat} (hn:¬s=[]) (hk:k<(splitC 32 s).length) (h:prsB ((splitC 32 s).getD k [])=false):pbOk s=false:=by
 rw[pbOk,decide_eq_false hn,all_atB hk h];rfl
theorem pb_end {s:List UInt8} (hn:¬s=[]) (h:(splitC 32 s).all prsB=true):pbOk s=basisB ((splitC 32 s).map prsL):=by
 rw[pbOk,decide_eq_false hn,h];simp
theorem pbL_no {s:List UInt8} (h:pbOk s=false):pbL s=[]:=by
 rw[pbL];split
 ·rfl
 ·rw[if_neg (by rw[h];decide)]
theorem pbL_yes {s:List UInt8} (hn:¬s=[]) (h:pbOk s=true):pbL s=(splitC 32 s).map prsL:=by rw[pbL,if_neg hn,if_pos h]
theorem pb_row {s:List UInt8} (b9:∀x∈splitC 32 s,x.length≤1000) {k:Nat}:∀l∈((splitC 32 s).take k).map prsL,l.length≤1048576:=fun l hl=>by
 obtain⟨x,hx,rfl⟩:=List.mem_map.1 hl
 have:=b9 x (List.mem_of_mem_take hx)
 have:=prsL_len (s:=x);omega
def sgPB:FuncId→List Bool:=fun f=>if f=4294967297 then[true,false,false,false]else[]
theorem sgPB_eq {f:FuncId}:sgPB f=if f=4294967297 then[true,false,false,false]else[]:=_root_.id rfl
theorem way_sgPB:wayE sgPB=false∧wayN sgPB=true∧wayS sgPB=false∧wayZ sgPB=false∧wayM sgPB=false:=⟨rfl,rfl,rfl,rfl,rfl⟩
attribute [go_sem] sgPB_eq way_sgPB
theorem spec_ParseBasis_c (s:List UInt8) (hl:s.length≤1000):Fun Tryz.prog 83 [(.str (s))] [(.dl (List.map (List.map (PV.int .i64)) (pbL s))),(.bool (pbOk s))]:=by
 refine fO sgPB [2,3] Tryz.func83 ?_
 have cE1:= @spec_SplitByte_c;have cE2:= @spec_ParsePerm_c;have cE3:= @spec_IsBasis_c
 have b0:=spB_len (c:=32) (s:=s) (cur:=[])
 have b9:∀x∈splitC 32 s,x.length≤1000:=fun x hx=>by have:=spB_mem x hx;simp at this;omega
 have b8:(splitC 32 s).length≤1001:=by unfold splitC;omega
 have hS:=spec_SplitByte_c s 32 (by omega)
 rw[show(((32:UInt8).toNat:Nat):Int)=32 from rfl]at hS
 have cE1:= @hS;have cE2:= @spec_SplitByte_c;have cE3:= @spec_ParsePerm_c;have cE4:= @spec_IsBasis_c
 refine dEa trivial ?_
 all_goals try (refine zlf ?_;repeat' first|exact zso|refine And.intro ?_ ?_|(refine zim ?_;intro zb hc)|(refine zin ?_;intro zb)|intro j')
 all_goals try refine zbx ?_
 ·subst hc;rfl
 ·subst hc;rfl
 ·have hn:=hc
  refine v_loopB (fun ms1 S1=>∃(k:Nat),S1.e 0=.p (.str (s))∧DwnL (S1.e 4) S1.h S1.n (PV.int .i64) ((((splitC 32 s).take k).map prsL).length) (((splitC 32 s).take k).map prsL)∧OwnL (S1.e 5) S1.h S1.n PV.str ((splitC 32 s).length) (splitC 32 s)∧S1.e 6=.p (.int .i64 (k))∧(k≤(splitC 32 s).length)∧(((splitC 32 s).take k).all prsB=true)∧NId (S1.e 5) (S1.e 4)∧ms1=(splitC 32 s).length - k) ((fun(k:Nat)=>(splitC 32 s).length - k) (0)) ?_ ⟨0,dC trivial ?_⟩
  all_goals try (refine zlf ?_;repeat' first|exact zso|refine And.intro ?_ ?_|(refine zim ?_;intro zb hc)|(refine zin ?_;intro zb)|intro j')
  all_goals try refine zbx ?_
  rintro ms1 S1 ⟨k,h1_0,o1_4,o1_5,h1_6,c1_0,c1_1,u1_0,hm1⟩
  obtain⟨i1_4,h1_4,b1_4,l1_4⟩:=o1_4.out
  obtain⟨i1_5,h1_5,b1_5,l1_5⟩:=o1_5.out
  have k1_0:=(u1_0).out h1_5 h1_4
  have ni1_4:=znds (x:=i1_4) (n:=S1.n)
  have ni1_5:=znds (x:=i1_5) (n:=S1.n)
  have di1_4i1_5:=zdne (x:=i1_4) (y:=i1_5)
  have fL1:=(And.intro h1_0 (And.intro h1_6 (And.intro h1_4 (And.intro b1_4 (And.intro h1_5 (And.intro b1_5 (And.intro ni1_4 (And.intro ni1_5 di1_4i1_5))))))))
  have b7:k<(splitC 32 s).length→((splitC 32 s).getD k []).length≤1048576:=fun h=>by have:=b9 ((splitC 32 s).getD k []) (getD_mem h);omega
  have r1:=pb_row b9 (k:=k)
  by_cases hk:k<(splitC 32 s).length
  ·have cE1:= @spec_SplitByte_c;have cE2:= @spec_ParsePerm_c;have cE3:= @spec_IsBasis_c;have cE4:=trivial
   refine dEa fL1 ?_
   all_goals try (refine zlf ?_;repeat' first|exact zso|refine And.intro ?_ ?_|(refine zim ?_;intro zb hc)|(refine zin ?_;intro zb)|intro j')
   all_goals try refine zbx ?_
   ·rw[pbL_no (pb_no hn hk hc)];rfl
   ·exact(pb_no hn hk hc).symm
   ·focus
     refine q_lp_n ((fun(k:Nat)=>(splitC 32 s).length - k) (k+1)) (dC fL1 ?_) ⟨k+1,dC fL1 ?_⟩
     all_goals try (refine zlf ?_;repeat' first|exact zso|refine And.intro ?_ ?_|(refine zim ?_;intro zb hc)|(refine zin ?_;intro zb)|intro j')
     all_goals try refine zbx ?_
    all_goals first|(rw[take_getD (d:=[]) hk];simp;done)|(rw[take_getD (d:=[]) hk,List.all_append,c1_1,List.all_cons,hc];rfl)|skip
  ·rw[List.take_of_length_le (by omega)]at c1_1 r1
   have r2:=pb_end hn c1_1
   have e0:(splitC 32 s).take k=splitC 32 s:=List.take_of_length_le (by omega)
   have cE1:= @spec_SplitByte_c;have cE2:= @spec_ParsePerm_c;have cE3:= @spec_IsBasis_c;have cE4:=trivial
   refine dE (And.intro fL1 @e0) ?_
   all_goals try (refine zlf ?_;repeat' first|exact zso|refine And.intro ?_ ?_|(refine zim ?_;intro zb hc)|(refine zin ?_;intro zb)|intro j')
   all_goals try refine zbx ?_
   all_goals try exact r1
   all_goals try exact zaut
   ·rw[pbL_no (r2.trans hc)];rfl
   ·exact(r2.trans hc).symm
   ·rw[pbL_yes hn (r2.trans hc)]
   ·exact(r2.trans hc).symm
theorem spec_ParseBasis_f_c (s:List UInt8) (hl:s.length≤1000):Fun Tryz.prog 83 [(.str (s))] [(.sl .own (List.map (elI false) (pbL s))),(.bool (pbOk s))]:=by
 refine fO sg0 [2,3] Tryz.func83 ?_
 have cE1:= @spec_SplitByte_c;have cE2:= @spec_ParsePerm_c;have cE3:= @spec_IsBasis_c
 have b0:=spB_len (c:=32) (s:=s) (cur:=[])
 have b9:∀x∈splitC 32 s,x.length≤1000:=fun x hx=>by have:=spB_mem x hx;simp at this;omega
 have b8:(splitC 32 s).length≤1001:=by unfold splitC;omega
 have hS:=spec_SplitByte_c s 32 (by omega)
 rw[show(((32:UInt8).toNat:Nat):Int)=32 from rfl]at hS
 have cE1:= @hS;have cE2:= @spec_SplitByte_c;have cE3:= @spec_ParsePerm_c;have cE4:= @spec_IsBasis_c
 refine dEa trivial ?_
 all_goals try (refine zlf ?_;repeat' first|exact zso|refine And.intro ?_ ?_|(refine zim ?_;intro zb hc)|(refine zin ?_;intro zb)|intro j')
 all_goals try refine zbx ?_
 ·subst hc;rfl
 ·subst hc;rfl
 ·have hn:=hc
  refine v_loopB (fun ms1 S1=>∃(k:Nat),S1.e 0=.p (.str (s))∧OwnL (S1.e 4) S1.h S1.n (elI false) ((((splitC 32 s).take k).map prsL).length) (((splitC 32 s).take k).map prsL)∧OwnL (S1.e 5) S1.h S1.n PV.str ((splitC 32 s).length) (splitC 32 s)∧S1.e 6=.p (.int .i64 (k))∧(k≤(splitC 32 s).length)∧(((splitC 32 s).take k).all prsB=true)∧NId (S1.e 5) (S1.e 4)∧ms1=(splitC 32 s).length - k) ((fun(k:Nat)=>(splitC 32 s).length - k) (0)) ?_ ⟨0,dC trivial ?_⟩
  all_goals try (refine zlf ?_;repeat' first|exact zso|refine And.intro ?_ ?_|(refine zim ?_;intro zb hc)|(refine zin ?_;intro zb)|intro j')
  all_goals try refine zbx ?_
  rintro ms1 S1 ⟨k,h1_0,o1_4,o1_5,h1_6,c1_0,c1_1,u1_0,hm1⟩
  obtain⟨i1_4,h1_4,b1_4,l1_4⟩:=o1_4.out
  obtain⟨i1_5,h1_5,b1_5,l1_5⟩:=o1_5.out
  have k1_0:=(u1_0).out h1_5 h1_4
  have ni1_4:=znds (x:=i1_4) (n:=S1.n)
  have ni1_5:=znds (x:=i1_5) (n:=S1.n)
  have di1_4i1_5:=zdne (x:=i1_4) (y:=i1_5)
  have fL1:=(And.intro h1_0 (And.intro h1_6 (And.intro h1_4 (And.intro b1_4 (And.intro h1_5 (And.intro b1_5 (And.intro ni1_4 (And.intro ni1_5 di1_4i1_5))))))))
  have b7:k<(splitC 32 s).length→((splitC 32 s).getD k []).length≤1048576:=fun h=>by have:=b9 ((splitC 32 s).getD k []) (getD_mem h);omega
  have r1:=pb_row b9 (k:=k)
  by_cases hk:k<(splitC 32 s).length
  ·have cE1:= @spec_SplitByte_c;have cE2:= @spec_ParsePerm_c;have cE3:= @spec_IsBasis_c;have cE4:=trivial
   refine dEa fL1 ?_
   all_goals try (refine zlf ?_;repeat' first|exact zso|refine And.intro ?_ ?_|(refine zim ?_;intro zb hc)|(refine zin ?_;intro zb)|intro j')
   all_goals try refine zbx ?_
   ·rw[pbL_no (pb_no hn hk hc)];rfl
   ·exact(pb_no hn hk hc).symm
   ·focus
     refine q_lp_n ((fun(k:Nat)=>(splitC 32 s).length - k) (k+1)) (dC fL1 ?_) ⟨k+1,dC fL1 ?_⟩
     all_goals try (refine zlf ?_;repeat' first|exact zso|refine And.intro ?_ ?_|(refine zim ?_;intro zb hc)|(refine zin ?_;intro zb)|intro j')
     all_goals try refine zbx ?_
    all_goals first|(rw[take_getD (d:=[]) hk];simp;done)|(rw[take_getD (d:=[]) hk,List.all_append,c1_1,List.all_cons,hc];rfl)|skip
  ·rw[List.take_of_length_le (by omega)]at c1_1 r1
   have r2:=pb_end hn c1_1
   have e0:(splitC 32 s).take k=splitC 32 s:=List.take_of_length_le (by omega)
   have cE1:= @spec_SplitByte_c;have cE2:= @spec_ParsePerm_c;have cE3:= @spec_IsBasis_c;have cE4:=trivial
   refine dE (And.intro fL1 @e0) ?_
   all_goals try (refine zlf ?_;repeat' first|exact zso|refine And.intro ?_ ?_|(refine zim ?_;intro zb hc)|(refine zin ?_;intro zb)|intro j')
   all_goals try refine zbx ?_
   all_goals try exact r1
   all_goals try exact zaut
   ·rw[pbL_no (r2.trans hc)];rfl
   ·exact(r2.trans hc).symm
   ·rw[pbL_yes hn (r2.trans hc)]
   ·exact(r2.trans hc).symm
def famB (p:List Int) (T:List (List Int)):Bool:=isPermB p&&avB T p
theorem famB_0 {p:List Int} {T:List (List Int)} (h:isPermB p=false):famB p T=false:=by rw[famB,h];rfl
theorem famB_1 {p:List Int} {T:List (List Int)} (h:isPermB p=true):famB p T=avB T p:=by rw[famB,h];rfl
theorem avB_hit {p:List Int} {W:List (List UInt8)} {k:Nat} (hk:k<W.length) (h:hasB p (prsL (W.getD k []))=true):avB (W.map prsL) p=false:=by
 have h1:((W.map prsL).any fun q=>hasB p q)=true:=List.any_eq_true.2 ⟨_,List.mem_map.2 ⟨_,getD_mem hk,rfl⟩,h⟩
 rw[avB,h1];rfl
theorem avB_none {p:List Int} {W:List (List UInt8)} (h:∀t∈W,hasB p (prsL t)=false):avB (W.map prsL) p=true:=by
 rw[avB,Bool.not_eq_true',←Bool.not_eq_true,List.any_eq_true]
 rintro⟨q,hq,h1⟩
 obtain⟨t,ht,rfl⟩:=List.mem_map.1 hq
 rw[h t ht]at h1;cases h1
theorem impl_isFreeOf_c {m0 m1:Bool} (p:List Int) (W:List (List UInt8)) (hp:p.length≤1048576) (hW:W.length≤8) (hw:∀t∈W,t.length≤100∧(prsL t).length≤8):Fun Tryz.prog 42 [(.sl (.lent m0) (List.map (PV.int .i64) (p))),(.sl (.lent m1) (List.map PV.str (W)))] [(.bool (famB p (W.map prsL)))]:=by
 by_cases h:isPermB p=true
 ·have h8:=(isPerm_facts h).1
  rw[famB_1 h]
  refine fO sg0 [4] Tryz.func42 ?_
  have cE1:= @impl_IsPerm_c;have cE2:= @impl_ParsePerm_c
  have cE1:= @impl_has0_c;have cE2:= @impl_IsPerm_c;have cE3:= @impl_ParsePerm_c
  refine dEa @h ?_
  all_goals try (refine zlf ?_;repeat' first|exact zso|refine And.intro ?_ ?_|(refine zim ?_;intro zb hc)|(refine zin ?_;intro zb)|intro j')
  all_goals try refine zbx ?_
  refine v_loopB (fun ms1 S1=>∃(k:Nat),S1.e 0=.p (.sl (.lent m0) (List.map (PV.int .i64) (p)))∧S1.e 12=.p (.sl (.lent m1) (List.map PV.str (W)))∧S1.e 13=.p (.int .i64 (W.length))∧S1.e 14=.p (.int .i64 (k))∧(k≤W.length)∧(∀t∈W.take k,hasB p (prsL t)=false)∧ms1=W.length - k) ((fun(k:Nat)=>W.length - k) (0)) ?_ ⟨0,dC trivial ?_⟩
  all_goals try (refine zlf ?_;repeat' first|exact zso|refine And.intro ?_ ?_|(refine zim ?_;intro zb hc)|(refine zin ?_;intro zb)|intro j')
  all_goals try refine zbx ?_
  rintro ms1 S1 ⟨k,h1_0,h1_12,h1_13,h1_14,c1_0,c1_1,hm1⟩
  have fL1:=(And.intro h1_0 (And.intro h1_12 (And.intro h1_13 h1_14)))
  by_cases hk:k<W.length
  ·obtain⟨w1,w2⟩:=hw _ (getD_mem (d:=[]) hk)
   cases hc0:hasB p (prsL (W.getD k []))with
   |true=>
    rw[avB_hit hk hc0]
    have cE1:= @impl_has0_c;have cE2:= @impl_IsPerm_c
    refine dEa (And.intro fL1 @hc0) ?_
    all_goals try (refine zlf ?_;repeat' first|exact zso|refine And.intro ?_ ?_|(refine zim ?_;intro zb hc)|(refine zin ?_;intro zb)|intro j')
    all_goals try refine zbx ?_
    all_goals trace_state
   |false=>
    have cE1:= @impl_has0_c;have cE2:= @impl_IsPerm_c
    refine dEa (And.intro fL1 @hc0) ?_
    all_goals try (refine zlf ?_;repeat' first|exact zso|refine And.intro ?_ ?_|(refine zim ?_;intro zb hc)|(refine zin ?_;intro zb)|intro j')
    all_goals try refine zbx ?_
    focus
     refine q_lp_n ((fun(k:Nat)=>W.length - k) (k+1)) (dC fL1 ?_) ⟨k+1,dC fL1 ?_⟩
     all_goals try (refine zlf ?_;repeat' first|exact zso|refine And.intro ?_ ?_|(refine zim ?_;intro zb hc)|(refine zin ?_;intro zb)|intro j')
     all_goals try refine zbx ?_
    all_goals(first|(intro t ht;rw[take_getD (d:=[]) hk]at ht;rcases List.mem_append.1 ht with g|g;exact c1_1 t g;rw[List.mem_singleton]at g;subst g;exact hc0)|skip)
    all_goals trace_state
  ·rw[List.take_of_length_le (by omega)]at c1_1
   rw[avB_none c1_1]
   have cE1:= @impl_IsPerm_c;have cE2:= @impl_ParsePerm_c;have cE3:=trivial
   refine dEa fL1 ?_
   all_goals try (refine zlf ?_;repeat' first|exact zso|refine And.intro ?_ ?_|(refine zim ?_;intro zb hc)|(refine zin ?_;intro zb)|intro j')
   all_goals try refine zbx ?_
   all_goals trace_state
 ·rw[Bool.not_eq_true]at h
  rw[famB_0 h]
  refine fO sg0 [4] Tryz.func42 ?_
  have cE1:= @impl_IsPerm_c;have cE2:= @impl_ParsePerm_c
  refine dEa @h ?_
  all_goals try (refine zlf ?_;repeat' first|exact zso|refine And.intro ?_ ?_|(refine zim ?_;intro zb hc)|(refine zin ?_;intro zb)|intro j')
  all_goals try refine zbx ?_
theorem bas_8 {L:List (List Int)} (h:basisB L=true):∀q∈L,q.length≤8:=by
 simp only[basisB,Bool.and_eq_true]at h
 intro q hq
 obtain⟨i,hi,rfl⟩:=List.getElem_of_mem hq
 have:=basK_perm h.2 hi
 rw[List.getD_eq_getElem?_getD,List.getElem?_eq_getElem hi]at this
 exact(isPerm_facts this).1
theorem spec_InClass_c {e0 m0 m1:Bool} (L:List (List Int)) (p:List Int) (hL:L.length≤1048576) (hl:∀l∈L,l.length≤1048576) (hp:p.length≤1048576):Fun Tryz.prog 84 [(.sl (.lent m0) (List.map (elI e0) (L))),(.sl (.lent m1) (List.map (PV.int .i64) (p)))] [(.bool ((basisB L&&famB p L)))]:=by
 by_cases h1:basisB L=true
 ·have h2:=bas_8 h1
  by_cases h:isPermB p=true
  ·have h8:=(isPerm_facts h).1
   rw[famB_1 h,h1]
   refine fO sg0 [4] Tryz.func84 ?_
   have cE1:= @spec_IsBasis_c;have cE2:= @spec_IsPerm_c;have cE3:= @spec_l12Avoids_c
   refine dEa (And.intro @h @h1) ?_
   all_goals try (refine zlf ?_;repeat' first|exact zso|refine And.intro ?_ ?_|(refine zim ?_;intro zb hc)|(refine zin ?_;intro zb)|intro j')
   all_goals try refine zbx ?_
   all_goals trace_state
  ·rw[Bool.not_eq_true]at h
   rw[famB_0 h,h1]
   refine fO sg0 [4] Tryz.func84 ?_
   have cE1:= @spec_IsBasis_c;have cE2:= @spec_IsPerm_c;have cE3:= @spec_l12Avoids_c
   refine dEa (And.intro @h @h1) ?_
   all_goals try (refine zlf ?_;repeat' first|exact zso|refine And.intro ?_ ?_|(refine zim ?_;intro zb hc)|(refine zin ?_;intro zb)|intro j')
   all_goals try refine zbx ?_
   all_goals trace_state
 ·rw[Bool.not_eq_true]at h1
  rw[h1]
  refine fO sg0 [4] Tryz.func84 ?_
  have cE1:= @spec_IsBasis_c;have cE2:= @spec_IsPerm_c;have cE3:= @spec_l12Avoids_c
  refine dEa @h1 ?_
  all_goals try (refine zlf ?_;repeat' first|exact zso|refine And.intro ?_ ?_|(refine zim ?_;intro zb hc)|(refine zin ?_;intro zb)|intro j')
  all_goals try refine zbx ?_
  all_goals trace_state
theorem spec_l29Avoids_c {m0:Bool} (p:List Int) (t:List UInt8) (hp:p.length≤1048576) (ht:t.length≤100) (h1:(pbL t).length≤8) (h2:∀l∈pbL t,l.length≤8):Fun Tryz.prog 43 [(.sl (.lent m0) (List.map (PV.int .i64) (p))),(.str (t))] [(.bool ((basisB (pbL t)&&famB p (pbL t))))]:=by
 refine fO sg0 [4] Tryz.func43 ?_
 have cE1:= @spec_ParseBasis_c;have cE2:= @spec_ParseBasis_f_c;have cE3:= @spec_InClass_c
 have cp:=spec_ParseBasis_f_c t (by omega)
 have h3:∀l∈pbL t,l.length≤1048576:=fun l hl=>by have:=h2 l hl;omega
 have cE1:= @cp;have cE2:= @spec_InClass_c;have cE3:=trivial
 refine dEa trivial ?_
 all_goals try (refine zlf ?_;repeat' first|exact zso|refine And.intro ?_ ?_|(refine zim ?_;intro zb hc)|(refine zin ?_;intro zb)|intro j')
 all_goals try refine zbx ?_
 all_goals trace_state
def vexT:List (List Int):=[[2,1,4,3]]
def skmT:List (List Int):=[[2,1,4,3],[3,4,1,2]]
def comT:List (List Int):=[[3,2,1]]
def smoT:List (List Int):=[[3,4,1,2],[4,2,3,1]]
theorem avB_two {a b p:List Int}:avB [a,b] p=avB [b,a] p:=by
 unfold avB;simp only[List.any_cons,List.any_nil,Bool.or_false];rw[Bool.or_comm]
theorem impl_IsVexillary_c {m0:Bool} (p:List Int) (hp:p.length≤1048576):Fun Tryz.prog 24 [(.sl (.lent m0) (List.map (PV.int .i64) (p)))] [(.bool (famB p vexT))]:=by
 refine fO sg0 [2] Tryz.func24 ?_
 have cE1:= @impl_isFreeOf_c
 have c1:=impl_isFreeOf_c (m0:=m0) (m1:=true) p [[50,49,52,51]] hp (by decide) (by decide+kernel)
 have e:famB p (([[50,49,52,51]]:List (List UInt8)).map prsL)=famB p vexT:=by
  rw[show([[50,49,52,51]]:List (List UInt8)).map prsL=vexT from by decide+kernel]
 rw[e]at c1
 simp only[List.map_cons,List.map_nil]at c1
 have cE1:= @c1
 refine dEa trivial ?_
 all_goals try (refine zlf ?_;repeat' first|exact zso|refine And.intro ?_ ?_|(refine zim ?_;intro zb hc)|(refine zin ?_;intro zb)|intro j')
 all_goals try refine zbx ?_
 all_goals trace_state
theorem spec_IsVexillary_c {m0:Bool} (p:List Int) (hp:p.length≤1048576):Fun Tryz.prog 25 [(.sl (.lent m0) (List.map (PV.int .i64) (p)))] [(.bool (famB p vexT))]:=by
 refine fO sg0 [2] Tryz.func25 ?_
 have cE1:= @spec_l29Avoids_c
 have c1:=spec_l29Avoids_c (m0:=m0) p [50,49,52,51] hp (by decide) (by decide+kernel) (by decide+kernel)
 have e1:pbL [50,49,52,51]=vexT:=by decide+kernel
 have e2:basisB vexT=true:=by decide+kernel
 rw[e1,e2,Bool.true_and]at c1
 have cE1:= @c1
 refine dEa trivial ?_
 all_goals try (refine zlf ?_;repeat' first|exact zso|refine And.intro ?_ ?_|(refine zim ?_;intro zb hc)|(refine zin ?_;intro zb)|intro j')
 all_goals try refine zbx ?_
 all_goals trace_state
theorem impl_IsSkewMerged_c {m0:Bool} (p:List Int) (hp:p.length≤1048576):Fun Tryz.prog 16 [(.sl (.lent m0) (List.map (PV.int .i64) (p)))] [(.bool (famB p skmT))]:=by
 refine fO sg0 [2] Tryz.func16 ?_
 have cE1:= @impl_isFreeOf_c
 have c1:=impl_isFreeOf_c (m0:=m0) (m1:=true) p [[51,52,49,50],[50,49,52,51]] hp (by decide) (by decide+kernel)
 have e:famB p (([[51,52,49,50],[50,49,52,51]]:List (List UInt8)).map prsL)=famB p skmT:=by
  rw[show([[51,52,49,50],[50,49,52,51]]:List (List UInt8)).map prsL=[[3,4,1,2],[2,1,4,3]]from by decide+kernel,famB,famB,skmT,avB_two]
 rw[e]at c1
 simp only[List.map_cons,List.map_nil]at c1
 have cE1:= @c1
 refine dEa trivial ?_
 all_goals try (refine zlf ?_;repeat' first|exact zso|refine And.intro ?_ ?_|(refine zim ?_;intro zb hc)|(refine zin ?_;intro zb)|intro j')
 all_goals try refine zbx ?_
 all_goals trace_state
theorem spec_IsSkewMerged_c {m0:Bool} (p:List Int) (hp:p.length≤1048576):Fun Tryz.prog 17 [(.sl (.lent m0) (List.map (PV.int .i64) (p)))] [(.bool (famB p skmT))]:=by
 refine fO sg0 [2] Tryz.func17 ?_
 have cE1:= @spec_l29Avoids_c
 have c1:=spec_l29Avoids_c (m0:=m0) p [50,49,52,51,32,51,52,49,50] hp (by decide) (by decide+kernel) (by decide+kernel)
 have e1:pbL [50,49,52,51,32,51,52,49,50]=skmT:=by decide+kernel
 have e2:basisB skmT=true:=by decide+kernel
 rw[e1,e2,Bool.true_and]at c1
 have cE1:= @c1
 refine dEa trivial ?_
 all_goals try (refine zlf ?_;repeat' first|exact zso|refine And.intro ?_ ?_|(refine zim ?_;intro zb hc)|(refine zin ?_;intro zb)|intro j')
 all_goals try refine zbx ?_
 all_goals trace_state
theorem impl_IsCommutative_c {m0:Bool} (p:List Int) (hp:p.length≤1048576):Fun Tryz.prog 14 [(.sl (.lent m0) (List.map (PV.int .i64) (p)))] [(.bool (famB p comT))]:=by
 refine fO sg0 [2] Tryz.func14 ?_
 have cE1:= @impl_isFreeOf_c
 have c1:=impl_isFreeOf_c (m0:=m0) (m1:=true) p [[51,50,49]] hp (by decide) (by decide+kernel)
 have e:famB p (([[51,50,49]]:List (List UInt8)).map prsL)=famB p comT:=by
  rw[show([[51,50,49]]:List (List UInt8)).map prsL=comT from by decide+kernel]
 rw[e]at c1
 simp only[List.map_cons,List.map_nil]at c1
 have cE1:= @c1
 refine dEa trivial ?_
 all_goals try (refine zlf ?_;repeat' first|exact zso|refine And.intro ?_ ?_|(refine zim ?_;intro zb hc)|(refine zin ?_;intro zb)|intro j')
 all_goals try refine zbx ?_
 all_goals trace_state
theorem spec_IsCommutative_c {m0:Bool} (p:List Int) (hp:p.length≤1048576):Fun Tryz.prog 15 [(.sl (.lent m0) (List.map (PV.int .i64) (p)))] [(.bool (famB p comT))]:=by
 refine fO sg0 [2] Tryz.func15 ?_
 have cE1:= @spec_l29Avoids_c
 have c1:=spec_l29Avoids_c (m0:=m0) p [51,50,49] hp (by decide) (by decide+kernel) (by decide+kernel)
 have e1:pbL [51,50,49]=comT:=by decide+kernel
 have e2:basisB comT=true:=by decide+kernel
 rw[e1,e2,Bool.true_and]at c1
 have cE1:= @c1
 refine dEa trivial ?_
 all_goals try (refine zlf ?_;repeat' first|exact zso|refine And.intro ?_ ?_|(refine zim ?_;intro zb hc)|(refine zin ?_;intro zb)|intro j')
 all_goals try refine zbx ?_
 all_goals trace_state
theorem impl_IsSmooth_c {m0:Bool} (p:List Int) (hp:p.length≤1048576):Fun Tryz.prog 12 [(.sl (.lent m0) (List.map (PV.int .i64) (p)))] [(.bool (famB p smoT))]:=by
 refine fO sg0 [2] Tryz.func12 ?_
 have cE1:= @impl_isFreeOf_c
 have c1:=impl_isFreeOf_c (m0:=m0) (m1:=true) p [[51,52,49,50],[52,50,51,49]] hp (by decide) (by decide+kernel)
 have e:famB p (([[51,52,49,50],[52,50,51,49]]:List (List UInt8)).map prsL)=famB p smoT:=by
  rw[show([[51,52,49,50],[52,50,51,49]]:List (List UInt8)).map prsL=smoT from by decide+kernel]
 rw[e]at c1
 simp only[List.map_cons,List.map_nil]at c1
 have cE1:= @c1
 refine dEa trivial ?_
 all_goals try (refine zlf ?_;repeat' first|exact zso|refine And.intro ?_ ?_|(refine zim ?_;intro zb hc)|(refine zin ?_;intro zb)|intro j')
 all_goals try refine zbx ?_
 all_goals trace_state
theorem spec_IsSmooth_c {m0:Bool} (p:List Int) (hp:p.length≤1048576):Fun Tryz.prog 13 [(.sl (.lent m0) (List.map (PV.int .i64) (p)))] [(.bool (famB p smoT))]:=by
 refine fO sg0 [2] Tryz.func13 ?_
 have cE1:= @spec_l29Avoids_c
 have c1:=spec_l29Avoids_c (m0:=m0) p [51,52,49,50,32,52,50,51,49] hp (by decide) (by decide+kernel) (by decide+kernel)
 have e1:pbL [51,52,49,50,32,52,50,51,49]=smoT:=by decide+kernel
 have e2:basisB smoT=true:=by decide+kernel
 rw[e1,e2,Bool.true_and]at c1
 have cE1:= @c1
 refine dEa trivial ?_
 all_goals try (refine zlf ?_;repeat' first|exact zso|refine And.intro ?_ ?_|(refine zim ?_;intro zb hc)|(refine zin ?_;intro zb)|intro j')
 all_goals try refine zbx ?_
 all_goals trace_state
def idL (n:Nat):List Int:=(List.range n).map fun i:Nat=>(i:Int)+1
theorem idL_succ {n:Nat}:idL (n+1)=idL n++[(n:Int)+1]:=by simp[idL,List.range_succ]
theorem idL_len {n:Nat}:(idL n).length=n:=by simp[idL]
theorem impl_identity_c (n:Int) (h0:0≤n) (h1:n≤1099511627776):Fun Tryz.prog 120 [(.int .i64 (n))] [(.sl .own (List.map (PV.int .i64) (idL n.toNat)))]:=by
 refine fO sg0 [2] Tryz.func120 ?_
 refine dE trivial ?_
 all_goals try (refine zlf ?_;repeat' first|exact zso|refine And.intro ?_ ?_|(refine zim ?_;intro zb hc)|(refine zin ?_;intro zb)|intro j')
 all_goals try refine zbx ?_
 refine v_loopB (fun ms1 S1=>∃(k:Nat),S1.e 0=.p (.int .i64 (n))∧OwnL (S1.e 3) S1.h S1.n (PV.int .i64) ((idL k).length) (idL k)∧S1.e 6=.p (.int .i64 (n))∧S1.e 7=.p (.int .i64 (k))∧((k:Int)≤n)∧ms1=n.toNat - k) ((fun(k:Nat)=>n.toNat - k) (0)) ?_ ⟨0,dI trivial ?_⟩
 all_goals try (refine zlf ?_;repeat' first|exact zso|refine And.intro ?_ ?_|(refine zim ?_;intro zb hc)|(refine zin ?_;intro zb)|intro j')
 all_goals try refine zbx ?_
 rintro ms1 S1 ⟨k,h1_0,o1_3,h1_6,h1_7,c1_0,hm1⟩
 obtain⟨i1_3,h1_3,b1_3,l1_3⟩:=o1_3.out
 have ni1_3:=znds (x:=i1_3) (n:=S1.n)
 have fL1:=(And.intro h1_0 (And.intro h1_6 (And.intro h1_7 (And.intro h1_3 (And.intro b1_3 ni1_3)))))
 refine dE fL1 ?_
 all_goals try (refine zlf ?_;repeat' first|exact zso|refine And.intro ?_ ?_|(refine zim ?_;intro zb hc)|(refine zin ?_;intro zb)|intro j')
 all_goals try refine zbx ?_
 all_goals have hl:=idL_len (n:=k)
 all_goals try exact zaut
 ·focus
   refine q_lp_n ((fun(k:Nat)=>n.toNat - k) (k+1)) (dC fL1 ?_) ⟨k+1,dC fL1 ?_⟩
   all_goals try (refine zlf ?_;repeat' first|exact zso|refine And.intro ?_ ?_|(refine zim ?_;intro zb hc)|(refine zin ?_;intro zb)|intro j')
   all_goals try refine zbx ?_
  all_goals simp[idL_succ,idL_len]
 ·rw[show k=n.toNat by omega]
theorem spec_IdentityPerm_c (n:Int) (h0:0≤n) (h1:n≤8):Fun Tryz.prog 102 [(.int .i64 (n))] [(.sl .own (List.map (PV.int .i64) (idL n.toNat)))]:=by
 refine fO sg0 [2] Tryz.func102 ?_
 refine dE trivial ?_
 all_goals try (refine zlf ?_;repeat' first|exact zso|refine And.intro ?_ ?_|(refine zim ?_;intro zb hc)|(refine zin ?_;intro zb)|intro j')
 all_goals try refine zbx ?_
 refine v_loopB (fun ms1 S1=>∃(k:Nat),S1.e 0=.p (.int .i64 (n))∧OwnL (S1.e 3) S1.h S1.n (PV.int .i64) ((idL k).length) (idL k)∧S1.e 4=.p (.int .i64 ((k+1)))∧((k:Int)≤n)∧ms1=n.toNat - k) ((fun(k:Nat)=>n.toNat - k) (0)) ?_ ⟨0,dI trivial ?_⟩
 all_goals try (refine zlf ?_;repeat' first|exact zso|refine And.intro ?_ ?_|(refine zim ?_;intro zb hc)|(refine zin ?_;intro zb)|intro j')
 all_goals try refine zbx ?_
 rintro ms1 S1 ⟨k,h1_0,o1_3,h1_4,c1_0,hm1⟩
 obtain⟨i1_3,h1_3,b1_3,l1_3⟩:=o1_3.out
 have ni1_3:=znds (x:=i1_3) (n:=S1.n)
 have fL1:=(And.intro h1_0 (And.intro h1_4 (And.intro h1_3 (And.intro b1_3 ni1_3))))
 refine dE fL1 ?_
 all_goals try (refine zlf ?_;repeat' first|exact zso|refine And.intro ?_ ?_|(refine zim ?_;intro zb hc)|(refine zin ?_;intro zb)|intro j')
 all_goals try refine zbx ?_
 all_goals have hl:=idL_len (n:=k)
 all_goals try exact zaut
 ·focus
   refine q_lp_n ((fun(k:Nat)=>n.toNat - k) (k+1)) (dC fL1 ?_) ⟨k+1,dC fL1 ?_⟩
   all_goals try (refine zlf ?_;repeat' first|exact zso|refine And.intro ?_ ?_|(refine zim ?_;intro zb hc)|(refine zin ?_;intro zb)|intro j')
   all_goals try refine zbx ?_
  all_goals simp[idL_succ,idL_len]
 ·rw[show k=n.toNat by omega]
def altA (p:List Int) (i:Nat):Bool:=decide (p.getD i 0<p.getD (i - 1) 0)==decide ((i:Int).tmod 2=1)
def altB (p:List Int):Bool:=isPermB p&&(List.range p.length).all fun i=>decide (i=0)||altA p i
theorem alt_no {p:List Int} {k:Nat} (hk:k<p.length) (h0:1≤k) (h:altA p k=false):altB p=false:=by
 rw[altB,Bool.and_eq_false_iff]
 refine .inr (List.all_eq_false.2 ⟨k,List.mem_range.2 hk, ?_⟩)
 rw[h,decide_eq_false (by omega)];decide
theorem alt_yes {p:List Int} (h:∀i,1≤i→i<p.length→altA p i=true):altB p=isPermB p:=by
 have:((List.range p.length).all fun i=>decide (i=0)||altA p i)=true:=List.all_eq_true.2 fun i hi=>by
  rw[List.mem_range]at hi
  by_cases h0:i=0
  ·rw[decide_eq_true h0];rfl
  ·rw[h i (by omega) hi,Bool.or_true]
 rw[altB,this,Bool.and_true]
theorem spec_IsAlternating_c {m0:Bool} (p:List Int) (hp:p.length≤1048576):Fun Tryz.prog 60 [(.sl (.lent m0) (List.map (PV.int .i64) (p)))] [(.bool (altB p))]:=by
 refine fO sg0 [2] Tryz.func60 ?_
 have cE1:= @spec_IsPerm_c
 refine dEa trivial ?_
 all_goals try (refine zlf ?_;repeat' first|exact zso|refine And.intro ?_ ?_|(refine zim ?_;intro zb hc)|(refine zin ?_;intro zb)|intro j')
 all_goals try refine zbx ?_
 refine v_loopB (fun ms1 S1=>∃(k:Nat),S1.e 0=.p (.sl (.lent m0) (List.map (PV.int .i64) (p)))∧S1.e 3=.p (.int .i64 (k))∧(1≤k)∧(k≤p.length∨k=1)∧(∀i,1≤i→i<k→altA p i=true)∧ms1=p.length - k) ((fun(k:Nat)=>p.length - k) (1)) ?_ ⟨1,dC trivial ?_⟩
 all_goals try (refine zlf ?_;repeat' first|exact zso|refine And.intro ?_ ?_|(refine zim ?_;intro zb hc)|(refine zin ?_;intro zb)|intro j')
 all_goals try refine zbx ?_
 rintro ms1 S1 ⟨k,h1_0,h1_3,c1_0,c1_1,c1_2,hm1⟩
 have fL1:=(And.intro h1_0 h1_3)
 by_cases hk:k<p.length
 ·have z:((k:Int) - 1).toNat=k - 1:=by omega
  cases ha:altA p k with
  |true=>
   have ha':(decide (p.getD k 0<p.getD (k - 1) 0)==decide ((k:Int).tmod 2=1))=true:=ha
   refine dEa (And.intro fL1 (And.intro @ha' @z)) ?_
   all_goals try (refine zlf ?_;repeat' first|exact zso|refine And.intro ?_ ?_|(refine zim ?_;intro zb hc)|(refine zin ?_;intro zb)|intro j')
   all_goals try refine zbx ?_
   focus
    refine q_lp_n ((fun(k:Nat)=>p.length - k) (k+1)) (dC fL1 ?_) ⟨k+1,dC fL1 ?_⟩
    all_goals try (refine zlf ?_;repeat' first|exact zso|refine And.intro ?_ ?_|(refine zim ?_;intro zb hc)|(refine zin ?_;intro zb)|intro j')
    all_goals try refine zbx ?_
   all_goals(first|(intro i h1 h2;by_cases e:i=k;(subst e;exact ha);exact c1_2 i h1 (by omega))|omega|skip)
   all_goals trace_state
  |false=>
   have ha':(decide (p.getD k 0<p.getD (k - 1) 0)==decide ((k:Int).tmod 2=1))=false:=ha
   rw[alt_no hk c1_0 ha]
   refine dEa (And.intro fL1 (And.intro @ha' @z)) ?_
   all_goals try (refine zlf ?_;repeat' first|exact zso|refine And.intro ?_ ?_|(refine zim ?_;intro zb hc)|(refine zin ?_;intro zb)|intro j')
   all_goals try refine zbx ?_
   all_goals trace_state
 ·rw[alt_yes fun i h1 h2=>c1_2 i h1 (by omega)]
  refine dEa fL1 ?_
  all_goals try (refine zlf ?_;repeat' first|exact zso|refine And.intro ?_ ?_|(refine zim ?_;intro zb hc)|(refine zin ?_;intro zb)|intro j')
  all_goals try refine zbx ?_
  all_goals trace_state
theorem impl_IsAlternating_c {m0:Bool} (p:List Int) (hp:p.length≤1048576):Fun Tryz.prog 53 [(.sl (.lent m0) (List.map (PV.int .i64) (p)))] [(.bool (altB p))]:=by
 by_cases h:isPermB p=true
 ·refine fO sg0 [2] Tryz.func53 ?_
  have cE1:= @impl_IsPerm_c
  refine dEa @h ?_
  all_goals try (refine zlf ?_;repeat' first|exact zso|refine And.intro ?_ ?_|(refine zim ?_;intro zb hc)|(refine zin ?_;intro zb)|intro j')
  all_goals try refine zbx ?_
  refine v_loopB (fun ms1 S1=>∃(k:Nat),S1.e 0=.p (.sl (.lent m0) (List.map (PV.int .i64) (p)))∧S1.e 3=.p (.int .i64 (k))∧(1≤k)∧(k≤p.length∨k=1)∧(∀i,1≤i→i<k→altA p i=true)∧ms1=p.length - k) ((fun(k:Nat)=>p.length - k) (1)) ?_ ⟨1,dC trivial ?_⟩
  all_goals try (refine zlf ?_;repeat' first|exact zso|refine And.intro ?_ ?_|(refine zim ?_;intro zb hc)|(refine zin ?_;intro zb)|intro j')
  all_goals try refine zbx ?_
  rintro ms1 S1 ⟨k,h1_0,h1_3,c1_0,c1_1,c1_2,hm1⟩
  have fL1:=(And.intro h1_0 h1_3)
  by_cases hk:k<p.length
  ·have z:((k:Int) - 1).toNat=k - 1:=by omega
   cases ha:altA p k with
   |true=>
    have ha':(decide (p.getD k 0<p.getD (k - 1) 0)==decide ((k:Int).tmod 2=1))=true:=ha
    refine dEa (And.intro fL1 (And.intro @ha' @z)) ?_
    all_goals try (refine zlf ?_;repeat' first|exact zso|refine And.intro ?_ ?_|(refine zim ?_;intro zb hc)|(refine zin ?_;intro zb)|intro j')
    all_goals try refine zbx ?_
    focus
     refine q_lp_n ((fun(k:Nat)=>p.length - k) (k+1)) (dC fL1 ?_) ⟨k+1,dC fL1 ?_⟩
     all_goals try (refine zlf ?_;repeat' first|exact zso|refine And.intro ?_ ?_|(refine zim ?_;intro zb hc)|(refine zin ?_;intro zb)|intro j')
     all_goals try refine zbx ?_
    all_goals(first|(intro i h1 h2;by_cases e:i=k;(subst e;exact ha);exact c1_2 i h1 (by omega))|omega|skip)
    all_goals trace_state
   |false=>
    have ha':(decide (p.getD k 0<p.getD (k - 1) 0)==decide ((k:Int).tmod 2=1))=false:=ha
    rw[alt_no hk c1_0 ha]
    refine dEa (And.intro fL1 (And.intro @ha' @z)) ?_
    all_goals try (refine zlf ?_;repeat' first|exact zso|refine And.intro ?_ ?_|(refine zim ?_;intro zb hc)|(refine zin ?_;intro zb)|intro j')
    all_goals try refine zbx ?_
    all_goals trace_state
  ·rw[alt_yes fun i h1 h2=>c1_2 i h1 (by omega),h]
   refine dEa fL1 ?_
   all_goals try (refine zlf ?_;repeat' first|exact zso|refine And.intro ?_ ?_|(refine zim ?_;intro zb hc)|(refine zin ?_;intro zb)|intro j')
   all_goals try refine zbx ?_
   all_goals trace_state
 ·rw[Bool.not_eq_true]at h
  have e:altB p=false:=by rw[altB,h];rfl
  rw[e]
  refine fO sg0 [2] Tryz.func53 ?_
  have cE1:= @impl_IsPerm_c
  refine dEa @h ?_
  all_goals try (refine zlf ?_;repeat' first|exact zso|refine And.intro ?_ ?_|(refine zim ?_;intro zb hc)|(refine zin ?_;intro zb)|intro j')
  all_goals try refine zbx ?_
def ivoB (p:List Int):Bool:=isPermB p&&decide (p=inv p)
theorem spec_IsInvolution_c {m0:Bool} (p:List Int) (hp:p.length≤1048576):Fun Tryz.prog 59 [(.sl (.lent m0) (List.map (PV.int .i64) (p)))] [(.bool (ivoB p))]:=by
 by_cases h:isPermB p=true
 ·obtain⟨h8,hq⟩:=isPerm_facts h
  have i1:(inv p).length=p.length:=inv_len
  rw[ivoB,h,Bool.true_and]
  refine fO sg0 [2] Tryz.func59 ?_
  have cE1:= @spec_IsPerm_c;have cE2:= @spec_l2Inverse_c;have cE3:= @spec_l2Same_c
  refine dEa @h ?_
  all_goals try (refine zlf ?_;repeat' first|exact zso|refine And.intro ?_ ?_|(refine zim ?_;intro zb hc)|(refine zin ?_;intro zb)|intro j')
  all_goals try refine zbx ?_
  all_goals trace_state
 ·rw[Bool.not_eq_true]at h
  rw[ivoB,h,Bool.false_and]
  refine fO sg0 [2] Tryz.func59 ?_
  have cE1:= @spec_IsPerm_c;have cE2:= @spec_l2Inverse_c;have cE3:= @spec_l2Same_c
  refine dEa @h ?_
  all_goals try (refine zlf ?_;repeat' first|exact zso|refine And.intro ?_ ?_|(refine zim ?_;intro zb hc)|(refine zin ?_;intro zb)|intro j')
  all_goals try refine zbx ?_
  all_goals trace_state
theorem impl_IsInvolution_c {m0:Bool} (p:List Int) (hp:p.length≤1048576):Fun Tryz.prog 52 [(.sl (.lent m0) (List.map (PV.int .i64) (p)))] [(.bool (ivoB p))]:=by
 by_cases h:isPermB p=true
 ·obtain⟨h8,hq⟩:=isPerm_facts h
  have i1:(inv p).length=p.length:=inv_len
  rw[ivoB,h,Bool.true_and]
  refine fO sg0 [2] Tryz.func52 ?_
  have cE1:= @impl_IsPerm_c;have cE2:= @impl_inverse_c;have cE3:= @slices_Equal_int_int_c
  refine dEa @h ?_
  all_goals try (refine zlf ?_;repeat' first|exact zso|refine And.intro ?_ ?_|(refine zim ?_;intro zb hc)|(refine zin ?_;intro zb)|intro j')
  all_goals try refine zbx ?_
  all_goals trace_state
 ·rw[Bool.not_eq_true]at h
  rw[ivoB,h,Bool.false_and]
  refine fO sg0 [2] Tryz.func52 ?_
  have cE1:= @impl_IsPerm_c;have cE2:= @impl_inverse_c;have cE3:= @slices_Equal_int_int_c
  refine dEa @h ?_
  all_goals try (refine zlf ?_;repeat' first|exact zso|refine And.intro ?_ ?_|(refine zim ?_;intro zb hc)|(refine zin ?_;intro zb)|intro j')
  all_goals try refine zbx ?_
  all_goals trace_state
def palB (p:List Int):Bool:=decide (p=p.reverse)
theorem spec_IsPalindromic_c {m0:Bool} (p:List Int) (hp:p.length≤1048576):Fun Tryz.prog 19 [(.sl (.lent m0) (List.map (PV.int .i64) (p)))] [(.bool (palB p))]:=by
 refine fO sg0 [2] Tryz.func19 ?_
 have cE1:= @spec_l3Reverse_c;have cE2:= @spec_l2Same_c
 have i1:p.reverse.length=p.length:=List.length_reverse
 refine dEa trivial ?_
 all_goals try (refine zlf ?_;repeat' first|exact zso|refine And.intro ?_ ?_|(refine zim ?_;intro zb hc)|(refine zin ?_;intro zb)|intro j')
 all_goals try refine zbx ?_
 all_goals(first|rfl|trace_state)
theorem impl_IsPalindromic_c {m0:Bool} (p:List Int) (hp:p.length≤1048576):Fun Tryz.prog 18 [(.sl (.lent m0) (List.map (PV.int .i64) (p)))] [(.bool (palB p))]:=by
 refine fO sg0 [2] Tryz.func18 ?_
 have cE1:= @impl_reverse_c;have cE2:= @slices_Equal_int_int_c
 have i1:p.reverse.length=p.length:=List.length_reverse
 refine dEa trivial ?_
 all_goals try (refine zlf ?_;repeat' first|exact zso|refine And.intro ?_ ?_|(refine zim ?_;intro zb hc)|(refine zin ?_;intro zb)|intro j')
 all_goals try refine zbx ?_
 all_goals(first|rfl|trace_state)
theorem blw_ok:∀n,n<6→(permL n).all (fun p=>((blwL p).all fun q=>decide (0≤invN q q.length)&&decide (invN q q.length≤invN p p.length))&&(famB p smoT==palB (rkcL ((invN p p.length).toNat+1) (blwL p))))=true:=by decide+kernel
def elG (q:List (List Int)):PV:=.sl (.lent false) (List.map (elI false) q)
theorem elG_eq {q:List (List Int)}:elG q=.sl (.lent false) (List.map (elI false) q):=_root_.id rfl
theorem mp_elG {l:List (List (List Int))} {x:List (List Int)} {r:List PV}:List.map elG l++(PV.sl (.lent false) (List.map (elI false) x)::r)=List.map elG (l++[x])++r:=by simp[elG]
instance:NDf elG:=⟨by intro a rows h;cases h⟩
theorem nr_frG {l:List (List Int)}:noRo (elG l)=true:=noRoL_map (fun _=>nr_frI) l
theorem nrL_frG {l:List (List (List Int))}:noRoL (l.map elG)=true:=noRoL_map (fun _=>nr_frG) l
attribute [go_sem] elG_eq mp_elG nrL_frG
def Good (p q:List Int) (c:List Nat):Prop:=c.Pairwise (·<·)∧(∀x∈c,x<p.length)∧∀i j,i<j→j<c.length→(q.getD i 0<q.getD j 0↔p.getD (c.getD i 0) 0<p.getD (c.getD j 0) 0)
theorem gd_l {α:Type} {a b:List α} {d:α} {i:Nat} (h:i<a.length):(a++b).getD i d=a.getD i d:=by
 rw[List.getD_eq_getElem?_getD,List.getElem?_append_left h,List.getD_eq_getElem?_getD]
theorem gd_r {α:Type} {a b:List α} {d:α} {i:Nat} (h:a.length≤i):(a++b).getD i d=b.getD (i - a.length) d:=by
 rw[List.getD_eq_getElem?_getD,List.getElem?_append_right h,List.getD_eq_getElem?_getD]
theorem gd_m {α β:Type} {f:α→β} {l:List α} {d:α} {e:β} {i:Nat} (h:i<l.length):(l.map f).getD i e=f (l.getD i d):=by
 rw[List.getD_eq_getElem?_getD,List.getElem?_map,List.getD_eq_getElem?_getD,List.getElem?_eq_getElem h];rfl
theorem gd_e {α:Type} {a:List α} {x d:α}:(a++[x]).getD a.length d=x:=by rw[gd_r (Nat.le_refl _),Nat.sub_self];rfl
theorem good_snoc {p q:List Int} {c:List Nat} {m:Nat}:Good p q (c++[m])↔Good p q c∧(∀x∈c,x<m)∧m<p.length∧∀l,l<c.length→(q.getD l 0<q.getD c.length 0↔p.getD (c.getD l 0) 0<p.getD m 0):=by
 unfold Good
 rw[List.pairwise_append]
 constructor
 ·rintro⟨⟨h1,_,h2⟩,h3,h4⟩
  refine⟨⟨h1,fun x hx=>h3 x (List.mem_append.2 (.inl hx)),fun i j hij hj=> ?_⟩,fun x hx=>h2 x hx m (by simp),h3 m (by simp),fun l hl=> ?_⟩
  ·have:=h4 i j hij (by simp;omega)
   rwa [gd_l (by omega),gd_l hj]at this
  ·have:=h4 l c.length hl (by simp)
   rwa [gd_l hl,gd_e]at this
 ·rintro⟨⟨h1,h3,h4⟩,h2,h5,h6⟩
  refine⟨⟨h1,by simp,fun x hx y hy=>by rw[List.mem_singleton]at hy;subst hy;exact h2 x hx⟩,fun x hx=> ?_,fun i j hij hj=> ?_⟩
  ·rcases List.mem_append.1 hx with g|g
   ·exact h3 x g
   ·rw[List.mem_singleton]at g;subst g;exact h5
  ·rw[List.length_append,List.length_singleton]at hj
   by_cases e:j=c.length
   ·subst e;rw[gd_l hij,gd_e];exact h6 i hij
   ·rw[gd_l (by omega),gd_l (by omega)];exact h4 i j hij (by omega)
def frN (c:List Nat):Nat:=if c.length=0 then 0 else c.getD (c.length - 1) 0+1
theorem from_cast {c:List Nat}:fromI 0 (c.map Int.ofNat)=(frN c:Int):=by
 unfold fromI frN
 rw[List.length_map]
 split
 ·rfl
 ·rw[gd_m (d:=0) (by omega)];simp
theorem frN_le {c:List Nat} (h:c.Pairwise (·<·)) {m:Nat}:frN c≤m↔∀x∈c,x<m:=by
 unfold frN
 constructor
 ·intro h1 x hx
  obtain⟨i,hi,rfl⟩:=List.getElem_of_mem hx
  rw[if_neg (by omega),List.getD_eq_getElem?_getD,List.getElem?_eq_getElem (by omega)]at h1
  by_cases e:i=c.length - 1
  ·subst e;simp at h1;omega
  ·have:=List.pairwise_iff_getElem.1 h i (c.length - 1) hi (by omega) (by omega)
   simp at h1;omega
 ·intro h1
  split
  ·omega
  ·have:=h1 _ (getD_mem (d:=0) (show c.length - 1<c.length by omega));omega
theorem fit_cast {p q:List Int} {c:List Nat} {m:Nat}:fitB 0 p q (c.map Int.ofNat) (m:Int)=true↔∀l,l<c.length→(q.getD l 0<q.getD c.length 0↔p.getD (c.getD l 0) 0<p.getD m 0):=by
 rw[fitB,fitK,List.all_eq_true,List.length_map]
 refine forall_congr' fun l=> ?_
 rw[List.mem_range]
 refine imp_congr_right fun hl=> ?_
 rw[gd_m (d:=0) hl,beq_iff_eq,show(Int.ofNat (c.getD l 0) - 0).toNat=c.getD l 0 by simp,show((m:Int) - 0).toNat=m by simp]
 exact decide_eq_decide
theorem occ_ext {p q:List Int}:∀{d:Nat} {c:List Nat},Good p q c→c.length+d=q.length→(occ 0 p q d (c.map Int.ofNat)≠[]↔∃t,t.length=d∧Good p q (c++t))
 |0,c,hc,hd=>by
  rw[occ]
  exact⟨fun _=>⟨[],rfl,by rwa [List.append_nil]⟩,fun _ h=>by cases h⟩
 |d+1,c,hc,hd=>by
  rw[occ,ne_eq,List.flatMap_eq_nil_iff]
  constructor
  ·intro h
   obtain⟨j,hj⟩:=Classical.not_forall.1 h
   rw[Classical.not_imp,List.mem_range,from_cast]at hj
   obtain⟨h1,h2⟩:=hj
   rw[show((frN c:Int)+(j:Int))=((frN c+j:Nat):Int)by omega]at h2
   have h4:fitB 0 p q (c.map Int.ofNat) ((frN c+j:Nat):Int)=true:=by
    cases e:fitB 0 p q (c.map Int.ofNat) ((frN c+j:Nat):Int)with
    |true=>rfl
    |false=>rw[e]at h2;exact absurd rfl h2
   rw[if_pos h4]at h2
   have g:Good p q (c++[frN c+j]):=good_snoc.2 ⟨hc,(frN_le hc.1).1 (by omega),by omega,fit_cast.1 h4⟩
   have:=(occ_ext (d:=d) g (by simp;omega)).1 (by rw[List.map_append];exact h2)
   obtain⟨t,ht,hg⟩:=this
   exact⟨(frN c+j)::t,by simp[ht],by rwa [List.append_assoc]at hg⟩
  ·rintro⟨t,ht,hg⟩ h
   cases t with
   |nil=>simp at ht
   |cons m t=>
    rw[show c++m::t=(c++[m])++t by simp]at hg
    have g:Good p q (c++[m]):=by
     refine⟨(List.pairwise_append.1 hg.1).1,fun x hx=>hg.2.1 x (List.mem_append.2 (.inl hx)),fun i j hij hj=> ?_⟩
     have:=hg.2.2 i j hij (by rw[List.length_append];omega)
     rwa [gd_l (a:=c++[m]) (by omega),gd_l (a:=c++[m]) hj]at this
    obtain⟨_,g2,g3,g4⟩:=good_snoc.1 g
    have g5:=(frN_le hc.1).2 g2
    have:=h (m - frN c) (List.mem_range.2 (by rw[from_cast];omega))
    rw[from_cast,show((frN c:Int)+((m - frN c:Nat):Int))=(m:Int)by omega,if_pos (fit_cast.2 g4)]at this
    exact(occ_ext (d:=d) g (by simp;omega)).2 ⟨t,by simpa using ht,hg⟩ (by rw[List.map_append];exact this)
theorem hasB_iff {p q:List Int}:hasB p q=true↔∃c,c.length=q.length∧Good p q c:=by
 have:=occ_ext (p:=p) (q:=q) (d:=q.length) (c:=[]) ⟨List.Pairwise.nil,by simp,by simp⟩ (by simp)
 rw[hasB]
 simp only[List.map_nil,List.nil_append]at this
 rw[←this]
 cases occ 0 p q q.length []<;>simp
theorem lack_iff {p:List Int} {n:Nat} {v:Int}:v∈lackL p n↔1≤v∧v≤n∧v∉p:=by
 refine⟨lackL_mem,fun⟨h1,h2,h3⟩=> ?_⟩
 rw[lackL,List.mem_filter,List.mem_map]
 refine⟨⟨(v - 1).toNat,List.mem_range.2 (by omega),by omega⟩, ?_⟩
 rw[Bool.not_eq_true',←Bool.not_eq_true,List.contains_iff_mem];exact h3
theorem lvl_all {n:Nat}:∀{k:Nat} {y:List Int},y.length=k→(∀v∈y,1≤v∧v≤(n:Int))→y.Nodup→y∈lvl n k [[]]
 |0,y,hk,_,_=>by rw[List.length_eq_zero_iff]at hk;subst hk;simp[lvl]
 |k+1,y,hk,h1,h2=>by
  have hy:y=y.take k++[y.getD k 0]:=by rw[←take_getD (by omega),List.take_of_length_le (by omega)]
  rw[hy]at h1 h2
  rw[List.nodup_append]at h2
  have ih:=lvl_all (n:=n) (k:=k) (y:=y.take k) (by simp;omega) (fun v hv=>h1 v (List.mem_append.2 (.inl hv))) h2.1
  have h4:=h1 (y.getD k 0) (by simp)
  rw[lvl_succ,List.mem_flatMap]
  refine⟨y.take k,ih, ?_⟩
  rw[extL,List.mem_map]
  exact⟨y.getD k 0,lack_iff.2 ⟨h4.1,h4.2,fun e=>h2.2.2 _ e _ (by simp) rfl⟩,hy.symm⟩
theorem permL_mem {n:Nat} {p:List Int}:p∈permL n↔permB p=true∧p.length=n:=by
 refine⟨fun h=>⟨permL_perm h,permL_row _ h⟩,fun⟨h1,h2⟩=> ?_⟩
 obtain⟨h3,h4⟩:=permB_iff.1 h1
 rw[h2]at h3
 exact lvl_all h2 h3 h4
theorem len_of_mem {α:Type} [DecidableEq α]:∀{a b:List α},a.Nodup→(∀x,x∈a→x∈b)→a.length≤b.length
 |[],_,_,_=>Nat.zero_le _
 |x::a,b,h1,h2=>by
  rw[List.nodup_cons]at h1
  have hx:=h2 x (by simp)
  have:=len_of_mem (a:=a) (b:=b.erase x) h1.2 fun y hy=>(List.mem_erase_of_ne (fun(e:y=x)=>h1.1 (by rw[←e];exact hy))).2 (h2 y (by simp[hy]))
  rw[List.length_erase_of_mem hx]at this
  have:=List.length_pos_of_mem hx
  simp only[List.length_cons];omega
theorem len_mem {α:Type} [DecidableEq α] {a b:List α} (ha:a.Nodup) (hb:b.Nodup) (h:∀x,x∈a↔x∈b):a.length=b.length:=
 Nat.le_antisymm (len_of_mem ha fun x=>(h x).1) (len_of_mem hb fun x=>(h x).2)
theorem blw_r {p q:List Int} (h:q∈blwL p):0≤invN q q.length∧invN q q.length≤invN p p.length:=by
 have hc:isPermB p=true∧p.length≤5:=by
  rw[blwL]at h;split at h
  ·assumption
  ·cases h
 have h1:=List.all_eq_true.1 (blw_ok p.length (by omega)) p (permL_mem.2 ⟨(isPerm_facts hc.1).2,rfl⟩)
 simp only[Bool.and_eq_true]at h1
 have h2:=List.all_eq_true.1 h1.1 q h
 simp only[Bool.and_eq_true,decide_eq_true_eq]at h2
 exact h2
def rkB (p:List Int):List Int:=if blwL p=[]then[]else rkcL ((invN p p.length).toNat+1) (blwL p)
theorem rkc_b {n:Nat} {L:List (List Int)}:∀{k:Nat},k≤L.length→∀i,0≤(rkcL n (L.take k)).getD i 0∧(rkcL n (L.take k)).getD i 0≤k
 |0,_,i=>by
  simp only[List.take_zero,rkcL,List.foldl_nil]
  rw[List.getD_eq_getElem?_getD,List.getElem?_replicate]
  split<;>simp
 |k+1,h,i=>by
  have ih:=rkc_b (n:=n) (L:=L) (k:=k) (by omega)
  rw[take_getD (d:=[]) (by omega),rkc_snoc]
  have h1:=ih i
  have h2:=ih (invN (L.getD k []) (L.getD k []).length).toNat
  rw[List.getD_eq_getElem?_getD,List.getElem?_set]
  split
  ·split
   ·simp only[Option.getD_some];omega
   ·simp;omega
  ·rw[←List.getD_eq_getElem?_getD];omega
theorem invN_b {p:List Int}:∀{k:Nat},k≤p.length→0≤invN p k∧invN p k≤(p.length*k:Nat)
 |0,_=>by simp[invN]
 |k+1,h=>by
  have ih:=invN_b (p:=p) (k:=k) (by omega)
  have h1:=gtC_r (v:=p.getD k 0) (l:=p.take k)
  rw[List.length_take]at h1
  rw[invN,Nat.mul_succ];omega
theorem spec_RankCounts_c {m0:Bool} (p:List Int) (hp:p.length≤1048576):Fun Tryz.prog 26 [(.sl (.lent m0) (List.map (PV.int .i64) (p)))] [(.sl .own (List.map (PV.int .i64) (rkB p)))]:=by
 obtain⟨b1,b2⟩:=blwL_f (p:=p)
 by_cases h:blwL p=[]
 ·rw[rkB,if_pos h]
  refine fO sg0 [2] Tryz.func26 ?_
  have cE1:= @spec_BelowOf_c;have cE2:= @spec_CountInversions_c
  refine dEa @h ?_
  all_goals try (refine zlf ?_;repeat' first|exact zso|refine And.intro ?_ ?_|(refine zim ?_;intro zb hc)|(refine zin ?_;intro zb)|intro j')
  all_goals try refine zbx ?_
  all_goals trace_state
 ·have hc:isPermB p=true:=by
   rw[blwL]at h;split at h
   ·rename_i g;exact g.1
   ·exact absurd rfl h
  have h8:=(isPerm_facts hc).1
  have h0:=List.length_pos_iff.2 h
  have i1:=invN_b (p:=p) (Nat.le_refl _)
  have i2:p.length*p.length≤64:=Nat.mul_le_mul h8 h8
  obtain⟨M,hM⟩:∃M:Nat,invN p p.length=(M:Int):=Int.eq_ofNat_of_zero_le i1.1
  have e:rkB p=rkcL (M+1) (blwL p):=by rw[rkB,if_neg h,hM];rfl
  have e1:((M:Int)+1).toNat=M+1:=by omega
  rw[e]
  refine fO sg0 [2] Tryz.func26 ?_
  have cE1:= @spec_BelowOf_c;have cE2:= @spec_CountInversions_c
  refine dEa (And.intro @hc (And.intro @hM @e1)) ?_
  all_goals try (refine zlf ?_;repeat' first|exact zso|refine And.intro ?_ ?_|(refine zim ?_;intro zb hc)|(refine zin ?_;intro zb)|intro j')
  all_goals try refine zbx ?_
  refine v_loopB (fun ms1 S1=>∃(k:Nat),OwnL (S1.e 3) S1.h S1.n (elI false) ((blwL p).length) (blwL p)∧OwnL (S1.e 4) S1.h S1.n (PV.int .i64) ((rkcL (M+1) ((blwL p).take k)).length) (rkcL (M+1) ((blwL p).take k))∧S1.e 5=.p (.int .i64 (k))∧(k≤(blwL p).length)∧NId (S1.e 4) (S1.e 3)∧ms1=(blwL p).length - k) ((fun(k:Nat)=>(blwL p).length - k) (0)) ?_ ⟨0,dC trivial ?_⟩
  all_goals try (refine zlf ?_;repeat' first|exact zso|refine And.intro ?_ ?_|(refine zim ?_;intro zb hc)|(refine zin ?_;intro zb)|intro j')
  all_goals try refine zbx ?_
  rintro ms1 S1 ⟨k,o1_3,o1_4,h1_5,c1_0,u1_0,hm1⟩
  obtain⟨i1_3,h1_3,b1_3,l1_3⟩:=o1_3.out
  obtain⟨i1_4,h1_4,b1_4,l1_4⟩:=o1_4.out
  have k1_0:=(u1_0).out h1_4 h1_3
  have ni1_3:=znds (x:=i1_3) (n:=S1.n)
  have ni1_4:=znds (x:=i1_4) (n:=S1.n)
  have di1_3i1_4:=zdne (x:=i1_3) (y:=i1_4)
  have fL1:=(And.intro h1_5 (And.intro h1_3 (And.intro b1_3 (And.intro h1_4 (And.intro b1_4 (And.intro ni1_3 (And.intro ni1_4 di1_3i1_4)))))))
  ·have l1:=rkc_len (n:=M+1) (L:=(blwL p).take k)
   by_cases hk:k<(blwL p).length
   ·have hm:=getD_mem (d:=[]) hk
    obtain⟨q1,q2⟩:=b2 _ hm
    obtain⟨q3,q4⟩:=blw_r hm
    have q5:=rkc_b (n:=M+1) (L:=blwL p) (k:=k) (by omega) (invN ((blwL p).getD k []) ((blwL p).getD k []).length).toNat
    have q6:rkcL (M+1) ((blwL p).take (k+1))=(rkcL (M+1) ((blwL p).take k)).set (invN ((blwL p).getD k []) ((blwL p).getD k []).length).toNat ((rkcL (M+1) ((blwL p).take k)).getD (invN ((blwL p).getD k []) ((blwL p).getD k []).length).toNat 0+1):=by
     rw[take_getD (d:=[]) hk,rkc_snoc]
    refine dEa (And.intro fL1 @q1) ?_
    all_goals try (refine zlf ?_;repeat' first|exact zso|refine And.intro ?_ ?_|(refine zim ?_;intro zb hc)|(refine zin ?_;intro zb)|intro j')
    all_goals try refine zbx ?_
    focus
     refine q_lp_n ((fun(k:Nat)=>(blwL p).length - k) (k+1)) (dC fL1 ?_) ⟨k+1,dC fL1 ?_⟩
     all_goals try (refine zlf ?_;repeat' first|exact zso|refine And.intro ?_ ?_|(refine zim ?_;intro zb hc)|(refine zin ?_;intro zb)|intro j')
     all_goals try refine zbx ?_
    all_goals(first|(rw[q6];done)|(rw[rkc_len,rkc_len];done)|(rw[rkc_len];done)|skip)
    all_goals trace_state
   ·refine dEa fL1 ?_
    all_goals try (refine zlf ?_;repeat' first|exact zso|refine And.intro ?_ ?_|(refine zim ?_;intro zb hc)|(refine zin ?_;intro zb)|intro j')
    all_goals try refine zbx ?_
    all_goals(first|(rw[List.take_of_length_le (by omega)];done)|skip)
    all_goals trace_state
  all_goals(first|(rw[rkcL];rfl)|(simp[rkcL];done)|skip)
  all_goals trace_state
theorem sumP_0 {P:List Int} {k:Bool}:sumP [] P k=P:=by cases k<;>simp[sumP]
theorem joinL_2 {P Q:List Int} {k:Bool}:joinL [P,Q] k=sumP P Q k:=by simp only[joinL,List.foldl_cons,List.foldl_nil,sumP_0]
theorem lenS_2 {P Q:List Int}:lenS [P,Q]=P.length+Q.length:=by simp[lenS]
theorem jp_y {m0 e0:Bool} (P Q:List Int) (k:Bool) (hP:isPermB P=true) (hQ:isPermB Q=true) (h:P.length+Q.length≤8):Fun Tryz.prog 108 [.sl (.lent m0) [elI e0 P,elI e0 Q],.bool k] [.sl .own (List.map (PV.int .i64) (sumP P Q k)),.bool true]:=by
 have c:=spec_JoinParts_c (m0:=m0) (e0:=e0) [P,Q] k (by simp) (fun l hl=>by
  rcases List.mem_cons.1 hl with e|hl
  ·rw[e];exact(isP_8 hP).2
  ·rw[List.mem_singleton.1 hl];exact(isP_8 hQ).2) (by rw[lenS_2];exact h)
 rw[joinL_2]at c
 exact c
theorem jp_n {m0 e0:Bool} (P Q:List Int) (k:Bool) (hP:isPermB P=true) (hQ:isPermB Q=true) (h:8<P.length+Q.length):Fun Tryz.prog 108 [.sl (.lent m0) [elI e0 P,elI e0 Q],.bool k] [.sl .own (List.map (PV.int .i64) []),.bool false]:=by
 obtain⟨p8,_⟩:=isP_8 hP
 obtain⟨q8,_⟩:=isP_8 hQ
 have i0:isPermB ([]:List Int)=true:=by decide
 have b6:∀x∈([]:List Int), -1000000≤x∧x≤1000000:=fun x hx=>by cases hx
 have b7:∀x∈P, -1000000≤x∧x≤1000000:=fun x hx=>by have:=perm_b8 hP x hx;omega
 have c1:=fun m0:Bool=>spec_l4Fit_c (m0:=m0) (m1:=e0) [] P (by decide) (by omega)
 have c2:=fun m0:Bool=>spec_l4Join_c (m0:=m0) (m1:=e0) [] P k (by decide) (by omega) b6 b7
 have c3:=fun m0:Bool=>spec_l4Fit_c (m0:=m0) (m1:=e0) P Q (by omega) (by omega)
 rw[i0,hP,show decide (([]:List Int).length+P.length≤8)=true from decide_eq_true (by simpa using p8)]at c1
 rw[hP,hQ,decide_eq_false (by omega)]at c3
 rw[sumP_0]at c2
 simp only[List.map_nil,Bool.and_true,Bool.and_false]at c1 c2 c3
 refine fO sg0 [4,5] Tryz.func108 ?_
 have cE1:= @spec_l4Fit_c;have cE2:= @spec_l4Join_c
 have cE1:= @c1;have cE2:= @c2;have cE3:= @c3
 refine dEa trivial ?_
 all_goals try (refine zlf ?_;repeat' first|exact zso|refine And.intro ?_ ?_|(refine zim ?_;intro zb hc)|(refine zin ?_;intro zb)|intro j')
 all_goals try refine zbx ?_
 refine v_loopB (fun ms1 S1=>∃(j:Nat),S1.e 0=.p (.sl (.lent m0) [elI e0 P,elI e0 Q])∧S1.e 1=.p (.bool (k))∧S1.e 7=.p (.int .i64 (j))∧OwnL (S1.e 6) S1.h S1.n (PV.int .i64) (((if j=0 then[]else P)).length) ((if j=0 then[]else P))∧(j≤1)∧ms1=2 - j) ((fun(j:Nat)=>2 - j) (0)) ?_ ⟨0,dC trivial ?_⟩
 all_goals try (refine zlf ?_;repeat' first|exact zso|refine And.intro ?_ ?_|(refine zim ?_;intro zb hc)|(refine zin ?_;intro zb)|intro j')
 all_goals try refine zbx ?_
 rintro ms1 S1 ⟨j,h1_0,h1_1,h1_7,o1_6,c1_0,hm1⟩
 obtain⟨i1_6,h1_6,b1_6,l1_6⟩:=o1_6.out
 have ni1_6:=znds (x:=i1_6) (n:=S1.n)
 have fL1:=(And.intro h1_0 (And.intro h1_1 (And.intro h1_7 (And.intro h1_6 (And.intro b1_6 ni1_6)))))
 ·by_cases hj:j=0
  ·subst hj
   have e1:(if 0=0 then([]:List Int)else P)=[]:=rfl
   have cE1:= @c1;have cE2:= @c2
   refine dEa (And.intro fL1 @e1) ?_
   all_goals try (refine zlf ?_;repeat' first|exact zso|refine And.intro ?_ ?_|(refine zim ?_;intro zb hc)|(refine zin ?_;intro zb)|intro j')
   all_goals try refine zbx ?_
   focus
    refine q_lp_n ((fun(j:Nat)=>2 - j) (1)) (dC fL1 ?_) ⟨1,dC fL1 ?_⟩
    all_goals try (refine zlf ?_;repeat' first|exact zso|refine And.intro ?_ ?_|(refine zim ?_;intro zb hc)|(refine zin ?_;intro zb)|intro j')
    all_goals try refine zbx ?_
   all_goals trace_state
  ·obtain rfl:j=1:=by omega
   have e1:(if 1=0 then([]:List Int)else P)=P:=rfl
   have cE1:= @c1;have cE2:= @c2
   refine dEa (And.intro fL1 @e1) ?_
   all_goals try (refine zlf ?_;repeat' first|exact zso|refine And.intro ?_ ?_|(refine zim ?_;intro zb hc)|(refine zin ?_;intro zb)|intro j')
   all_goals try refine zbx ?_
   all_goals trace_state
 all_goals trace_state
theorem spec_l27Short_x (b:List UInt8) (s:Cu) (hb:b.length≤1048576):∃s' p,CallT Tryz.prog false 34 [.mu true (curC b s)] [some (curC b s')] [.sl .own (List.map (PV.int .i64) p)]∧SmL p:=by
 obtain⟨x,hx⟩:∃x,bwX b s 10=x:=⟨_,rfl⟩
 by_cases h0:x=0
 ·subst h0
  obtain⟨s1,p,c1,hp⟩:=spec_l2Bent_x b (bwS b s 10) hb
  refine⟨s1,p, ?_,hp⟩
  refine fX sgCu [2] Tryz.func34 ?_
  have cM1:= @spec_l1Once_c;have cM2:= @spec_l1Below_c;have cM3:= @spec_l2Draw_c
  have cM4:= @c1
  refine dEa @hx ?_
  all_goals try (refine zlf ?_;repeat' first|exact zso|refine And.intro ?_ ?_|(refine zim ?_;intro zb hc)|(refine zin ?_;intro zb)|intro j')
  all_goals try refine zbx ?_
  all_goals trace_state
 ·have f0:(x=0)=False:=eq_false h0
  have q:=bwX_r (b:=b) (s:=bwS b s 10) (n:=5)
  obtain⟨N,hN⟩:∃N:Nat,bwX b (bwS b s 10) 5=(N:Int):=Int.eq_ofNat_of_zero_le (by omega)
  rw[hN]at q
  have nn:(1+(N:Int)).toNat=N+1:=by omega
  refine⟨(drL b (bwS b (bwS b s 10) 5) (N+1)).2,(drL b (bwS b (bwS b s 10) 5) (N+1)).1, ?_,SmL.of (drP (by omega))⟩
  refine fX sgCu [2] Tryz.func34 ?_
  have cM1:= @spec_l1Once_c;have cM2:= @spec_l1Below_c;have cM3:= @spec_l2Draw_c
  refine dEa (And.intro @hx (And.intro @f0 (And.intro @hN @nn))) ?_
  all_goals try (refine zlf ?_;repeat' first|exact zso|refine And.intro ?_ ?_|(refine zim ?_;intro zb hc)|(refine zin ?_;intro zb)|intro j')
  all_goals try refine zbx ?_
  all_goals trace_state
def smX (b:List UInt8) (s:Cu) (P:List Int):List Int×Cu:=
 let d:=drL b (bwS b s 3) (bwX b s 3).toNat
 (if P.length+d.1.length≤8 then sumP P d.1 (decide (bwX b d.2 2=0))else P,bwS b d.2 2)
def smR (b:List UInt8):Nat→Cu→List Int→List Int×Cu
 |0,s,P=>(P,s)
 |k+1,s,P=>smR b k (smX b s P).2 (smX b s P).1
theorem smX_p {b:List UInt8} {s:Cu} {P:List Int} (h:isPermB P=true):isPermB (smX b s P).1=true:=by
 have q:=bwX_r (b:=b) (s:=s) (n:=3)
 obtain⟨h8,hp⟩:=isP_8 h
 unfold smX
 simp only
 split
 ·rename_i g
  simp only[isPermB,sumP_perm hp drL_perm,sumP_len,Bool.and_true,decide_eq_true_eq];exact g
 ·exact h
theorem smR_p {b:List UInt8}:∀{k:Nat} {s:Cu} {P:List Int},isPermB P=true→isPermB (smR b k s P).1=true
 |0,_,_,h=>h
 |k+1,s,P,h=>by rw[smR];exact smR_p (smX_p h)
set_option maxHeartbeats 1600000 in
theorem spec_l4Summed_x (b:List UInt8) (s:Cu) (hb:b.length≤1048576):∃s' p,CallT Tryz.prog false 77 [.mu true (curC b s)] [some (curC b s')] [.sl (.lent false) (List.map (PV.int .i64) p)]∧SmL p:=by
 have q:=bwX_r (b:=b) (s:=s) (n:=4)
 obtain⟨N,hN⟩:∃N:Nat,bwX b s 4=(N:Int):=Int.eq_ofNat_of_zero_le (by omega)
 rw[hN]at q
 have h0:isPermB (drL b (bwS b s 4) N).1=true:=drP (by omega)
 generalize hP:(drL b (bwS b s 4) N).1=P0 at*
 generalize hS:(drL b (bwS b s 4) N).2=s0 at*
 obtain⟨R,hR⟩:∃R,smR b 3 s0 P0=R:=⟨_,rfl⟩
 refine⟨R.2,R.1, ?_,SmL.of (by rw[←hR];exact smR_p h0)⟩
 refine fX sgCu [2] Tryz.func77 ?_
 have cE1:= @spec_JoinParts_c;have cM1:= @spec_l1Below_c;have cM2:= @spec_l2Draw_c;have cM3:= @spec_l1Once_c
 refine dEa (And.intro @hN (And.intro @hP (And.intro @hS @Int.toNat_natCast))) ?_
 all_goals try (refine zlf ?_;repeat' first|exact zso|refine And.intro ?_ ?_|(refine zim ?_;intro zb hc)|(refine zin ?_;intro zb)|intro j')
 all_goals try refine zbx ?_
 refine v_loopB (fun ms1 S1=>∃(k:Nat) (c:Cu) (P:List Int) (z:Bool) (id:Nat),S1.e 0=.ptr 0 0∧S1.h 0=.live true (curC b c)∧0<S1.n∧S1.e 3=AV.ref id 0 P.length∧S1.e 4=.p (.int .i64 (k))∧(k≤3)∧(isPermB P=true)∧(smR b (3 - k) c P=R)∧(0<id∧id<S1.n∧S1.h id=(bif z then Blk.froz false (List.map (PV.int .i64) P)else Blk.live false (List.map (PV.int .i64) P)))∧ms1=3 - k) ((fun(k:Nat) (c:Cu) (P:List Int) (z:Bool) (id:Nat)=>3 - k) (0) (s0) (P0) (false) (1025)) ?_ ⟨0,s0,P0,false,1025,dC trivial ?_⟩
 all_goals try (refine zlf ?_;repeat' first|exact zso|refine And.intro ?_ ?_|(refine zim ?_;intro zb hc)|(refine zin ?_;intro zb)|intro j')
 all_goals try refine zbx ?_
 rintro ms1 S1 ⟨k,c,P,z,id,h1_0,b1_0,l1_0,h1_3,h1_4,c1_0,c1_1,c1_2,c1_3,hm1⟩
 have n0:=znds (x:=0) (n:=S1.n)
 have fL1:=(And.intro h1_0 (And.intro b1_0 (And.intro h1_3 (And.intro h1_4 n0))))
 ·obtain⟨j0,j1,j2⟩:=c1_3
  obtain⟨p8,_⟩:=isP_8 c1_1
  have n4:=znds j1
  have n5:=zdne (show ¬id=0 by omega)
  have q3:=bwX_r (b:=b) (s:=c) (n:=3)
  obtain⟨M,hM⟩:∃M:Nat,bwX b c 3=(M:Int):=Int.eq_ofNat_of_zero_le (by omega)
  rw[hM]at q3
  have g1:isPermB (drL b (bwS b c 3) M).1=true:=drP (by omega)
  have g2:=(isP_8 g1).1
  by_cases hk:k<3
  ·have g3:smR b (3 - k) c P=smR b (3 - (k+1)) (smX b c P).2 (smX b c P).1:=by rw[show 3 - k=(3 - (k+1))+1 by omega];rfl
   have g5:(smX b c P).2=bwS b (drL b (bwS b c 3) M).2 2:=by unfold smX;rw[hM,Int.toNat_natCast]
   have g6:(smX b c P).1=if P.length+(drL b (bwS b c 3) M).1.length≤8 then sumP P (drL b (bwS b c 3) M).1 (decide (bwX b (drL b (bwS b c 3) M).2 2=0))else P:=by unfold smX;rw[hM,Int.toNat_natCast]
   rw[g3,g5,g6]at c1_2
   by_cases h8:P.length+(drL b (bwS b c 3) M).1.length≤8
   ·rw[if_pos h8]at c1_2
    have cj:=fun m0 e0:Bool=>jp_y (m0:=m0) (e0:=e0) P (drL b (bwS b c 3) M).1 (decide (bwX b (drL b (bwS b c 3) M).2 2=0)) c1_1 g1 h8
    have g7:isPermB (sumP P (drL b (bwS b c 3) M).1 (decide (bwX b (drL b (bwS b c 3) M).2 2=0)))=true:=by
     simp only[isPermB,sumP_perm (isP_8 c1_1).2 (isP_8 g1).2,sumP_len,Bool.and_true,decide_eq_true_eq];exact h8
    cases z
    all_goals
     simp only[cond_true,cond_false]at j2
     have cE1:= @cj
     refine dEa (And.intro fL1 (And.intro @j2 (And.intro @n4 (And.intro @n5 (And.intro @hM @Int.toNat_natCast))))) ?_
     all_goals try (refine zlf ?_;repeat' first|exact zso|refine And.intro ?_ ?_|(refine zim ?_;intro zb hc)|(refine zin ?_;intro zb)|intro j')
     all_goals try refine zbx ?_
     focus
      refine q_lp_n ((fun(k:Nat) (c:Cu) (P:List Int) (z:Bool) (id:Nat)=>3 - k) (k+1) (bwS b (drL b (bwS b c 3) M).2 2) (sumP P (drL b (bwS b c 3) M).1 (decide (bwX b (drL b (bwS b c 3) M).2 2=0))) (false) (S1.n+2560)) (dC fL1 ?_) ⟨k+1,bwS b (drL b (bwS b c 3) M).2 2,sumP P (drL b (bwS b c 3) M).1 (decide (bwX b (drL b (bwS b c 3) M).2 2=0)),false,S1.n+2560,dC fL1 ?_⟩
      all_goals try (refine zlf ?_;repeat' first|exact zso|refine And.intro ?_ ?_|(refine zim ?_;intro zb hc)|(refine zin ?_;intro zb)|intro j')
      all_goals try refine zbx ?_
     all_goals trace_state
   ·rw[if_neg h8]at c1_2
    have cj:=fun m0 e0:Bool=>jp_n (m0:=m0) (e0:=e0) P (drL b (bwS b c 3) M).1 (decide (bwX b (drL b (bwS b c 3) M).2 2=0)) c1_1 g1 (by omega)
    cases z
    all_goals
     simp only[cond_true,cond_false]at j2
     have cE1:= @cj
     refine dEa (And.intro fL1 (And.intro @j2 (And.intro @n4 (And.intro @n5 (And.intro @hM @Int.toNat_natCast))))) ?_
     all_goals try (refine zlf ?_;repeat' first|exact zso|refine And.intro ?_ ?_|(refine zim ?_;intro zb hc)|(refine zin ?_;intro zb)|intro j')
     all_goals try refine zbx ?_
     focus
      refine q_lp_n ((fun(k:Nat) (c:Cu) (P:List Int) (z:Bool) (id:Nat)=>3 - k) (k+1) (bwS b (drL b (bwS b c 3) M).2 2) (P) (true) (id)) (dC fL1 ?_) ⟨k+1,bwS b (drL b (bwS b c 3) M).2 2,P,true,id,dC fL1 ?_⟩
      all_goals try (refine zlf ?_;repeat' first|exact zso|refine And.intro ?_ ?_|(refine zim ?_;intro zb hc)|(refine zin ?_;intro zb)|intro j')
      all_goals try refine zbx ?_
     all_goals((repeat' split)<;>first|rfl|exact j2|(exfalso;omega)|skip)
     all_goals trace_state
  ·obtain rfl:k=3:=by omega
   have g4:(P,c)=R:=c1_2
   subst g4
   cases z
   ·have cE1:= @spec_JoinParts_c
    refine dEa (And.intro fL1 (And.intro @j2 (And.intro @n4 @n5))) ?_
    all_goals try (refine zlf ?_;repeat' first|exact zso|refine And.intro ?_ ?_|(refine zim ?_;intro zb hc)|(refine zin ?_;intro zb)|intro j')
    all_goals try refine zbx ?_
    all_goals trace_state
   ·have cE1:= @spec_JoinParts_c
    refine dEa (And.intro fL1 (And.intro @j2 (And.intro @n4 @n5))) ?_
    all_goals try (refine zlf ?_;repeat' first|exact zso|refine And.intro ?_ ?_|(refine zim ?_;intro zb hc)|(refine zin ?_;intro zb)|intro j')
    all_goals try refine zbx ?_
    all_goals trace_state
 all_goals trace_state
theorem spec_l4Bent_x (b:List UInt8) (s:Cu) (hb:b.length≤1048576):∃s' p,CallT Tryz.prog false 36 [.mu true (curC b s)] [some (curC b s')] [.sl (.lent false) (List.map (PV.int .i64) p)]∧SmL p:=by
 obtain⟨x,hx⟩:∃x,bwX b s 3=x:=⟨_,rfl⟩
 by_cases h0:x=0
 ·subst h0
  obtain⟨s1,p,c1,hp⟩:=spec_l2Bent_x b (bwS b s 3) hb
  refine⟨s1,p, ?_,hp⟩
  refine fX sgCu [2] Tryz.func36 ?_
  have cM1:= @spec_l1Once_c
  have cM2:= @c1
  refine dEa @hx ?_
  all_goals try (refine zlf ?_;repeat' first|exact zso|refine And.intro ?_ ?_|(refine zim ?_;intro zb hc)|(refine zin ?_;intro zb)|intro j')
  all_goals try refine zbx ?_
  all_goals trace_state
 ·have f0:(x=0)=False:=eq_false h0
  obtain⟨s1,p,c1,hp⟩:=spec_l4Summed_x b (bwS b s 3) hb
  refine⟨s1,p, ?_,hp⟩
  refine fX sgCu [2] Tryz.func36 ?_
  have cM1:= @spec_l1Once_c
  have cM2:= @c1
  refine dEa (And.intro @hx @f0) ?_
  all_goals try (refine zlf ?_;repeat' first|exact zso|refine And.intro ?_ ?_|(refine zim ?_;intro zb hc)|(refine zin ?_;intro zb)|intro j')
  all_goals try refine zbx ?_
  all_goals trace_state
theorem spec_DrawIsSkewMerged_x (b:List UInt8) (hb:b.length≤1048576):∃p,Fun Tryz.prog 7 [.sl (.lent false) (b.map u8P)] [.sl (.lent false) (List.map (PV.int .i64) p)]∧SmL p:=by
 obtain⟨s1,p,c1,hp⟩:=spec_l4Bent_x b ⟨0,newH b (min b.length 4000)⟩ hb
 refine⟨p, ?_,hp⟩
 refine fO sgCu [2] Tryz.func7 ?_
 have cE1:= @spec_l1New_c
 have cM1:= @c1
 refine dEa trivial ?_
 all_goals try (refine zlf ?_;repeat' first|exact zso|refine And.intro ?_ ?_|(refine zim ?_;intro zb hc)|(refine zin ?_;intro zb)|intro j')
 all_goals try refine zbx ?_
theorem spec_DrawRankCounts_x (b:List UInt8) (hb:b.length≤1048576):∃p,Fun Tryz.prog 5 [.sl (.lent false) (b.map u8P)] [.sl .own (List.map (PV.int .i64) p)]∧SmL p:=by
 obtain⟨s1,p,c1,hp⟩:=spec_l27Short_x b ⟨0,newH b (min b.length 4000)⟩ hb
 refine⟨p, ?_,hp⟩
 refine fO sgCu [2] Tryz.func5 ?_
 have cE1:= @spec_l1New_c
 have cM1:= @c1
 refine dEa trivial ?_
 all_goals try (refine zlf ?_;repeat' first|exact zso|refine And.intro ?_ ?_|(refine zim ?_;intro zb hc)|(refine zin ?_;intro zb)|intro j')
 all_goals try refine zbx ?_
theorem spec_DrawReducedWords_x (b:List UInt8) (hb:b.length≤1048576):∃p,Fun Tryz.prog 6 [.sl (.lent false) (b.map u8P)] [.sl .own (List.map (PV.int .i64) p)]∧SmL p:=by
 obtain⟨s1,p,c1,hp⟩:=spec_l27Short_x b ⟨0,newH b (min b.length 4000)⟩ hb
 refine⟨p, ?_,hp⟩
 refine fO sgCu [2] Tryz.func6 ?_
 have cE1:= @spec_l1New_c
 have cM1:= @c1
 refine dEa trivial ?_
 all_goals try (refine zlf ?_;repeat' first|exact zso|refine And.intro ?_ ?_|(refine zim ?_;intro zb hc)|(refine zin ?_;intro zb)|intro j')
 all_goals try refine zbx ?_
theorem spec_DrawIsVexillary_x (b:List UInt8) (hb:b.length≤1048576):∃p,Fun Tryz.prog 11 [.sl (.lent false) (b.map u8P)] [.sl .own (List.map (PV.int .i64) p)]∧SmL p:=by
 obtain⟨s1,p,c1,hp⟩:=spec_l2Bent_x b ⟨0,newH b (min b.length 4000)⟩ hb
 refine⟨p, ?_,hp⟩
 refine fO sgCu [2] Tryz.func11 ?_
 have cE1:= @spec_l1New_c
 have cM1:= @c1
 refine dEa trivial ?_
 all_goals try (refine zlf ?_;repeat' first|exact zso|refine And.intro ?_ ?_|(refine zim ?_;intro zb hc)|(refine zin ?_;intro zb)|intro j')
 all_goals try refine zbx ?_
theorem spec_DrawFamiliesText_x (b:List UInt8) (hb:b.length≤1048576):∃p,Fun Tryz.prog 10 [.sl (.lent false) (b.map u8P)] [.sl .own (List.map (PV.int .i64) p)]∧p.length≤1048576:=by
 obtain⟨s1,p,c1,hp⟩:=spec_l5Bent_x b ⟨0,newH b (min b.length 4000)⟩ hb
 refine⟨p, ?_,hp⟩
 refine fO sgCu [2] Tryz.func10 ?_
 have cE1:= @spec_l1New_c
 have cM1:= @c1
 refine dEa trivial ?_
 all_goals try (refine zlf ?_;repeat' first|exact zso|refine And.intro ?_ ?_|(refine zim ?_;intro zb hc)|(refine zin ?_;intro zb)|intro j')
 all_goals try refine zbx ?_
theorem rkB_len {p:List Int}:(rkB p).length≤65:=by
 unfold rkB;split
 ·simp
 ·rename_i h
  have hc:isPermB p=true:=by
   rw[blwL]at h;split at h
   ·rename_i g;exact g.1
   ·exact absurd rfl h
  have h8:=(isP_8 hc).1
  have i1:=invN_b (p:=p) (Nat.le_refl _)
  have i2:p.length*p.length≤64:=Nat.mul_le_mul h8 h8
  rw[rkc_len];omega
theorem spec_DrawIsPalindromic_x (b:List UInt8) (hb:b.length≤1048576):∃p,Fun Tryz.prog 8 [.sl (.lent false) (b.map u8P)] [.sl .own (List.map (PV.int .i64) p)]∧p.length≤66:=by
 obtain⟨s1,p,c1,hp⟩:=spec_l27Short_x b ⟨0,newH b (min b.length 4000)⟩ hb
 have h1:=hp.len
 have h2:=rkB_len (p:=p)
 obtain⟨x,hx⟩:∃x,bwX b s1 6=x:=⟨_,rfl⟩
 by_cases h0:x=0
 ·subst h0
  refine⟨rkB p++[bwX b (bwS b s1 6) 3], ?_,by simp;omega⟩
  refine fO sgCu [2] Tryz.func8 ?_
  have cE1:= @spec_l1New_c;have cE2:= @spec_RankCounts_c;have cM1:= @spec_l1Once_c;have cM2:= @spec_l1Below_c
  have cM3:= @c1
  refine dEa @hx ?_
  all_goals try (refine zlf ?_;repeat' first|exact zso|refine And.intro ?_ ?_|(refine zim ?_;intro zb hc)|(refine zin ?_;intro zb)|intro j')
  all_goals try refine zbx ?_
  all_goals(first|(exact List.take_of_length_le (by simp))|skip)
  all_goals trace_state
 ·have f0:(x=0)=False:=eq_false h0
  refine⟨rkB p, ?_,by omega⟩
  refine fO sgCu [2] Tryz.func8 ?_
  have cE1:= @spec_l1New_c;have cE2:= @spec_RankCounts_c;have cM1:= @spec_l1Once_c;have cM2:= @spec_l1Below_c
  have cM3:= @c1
  refine dEa (And.intro @hx @f0) ?_
  all_goals try (refine zlf ?_;repeat' first|exact zso|refine And.intro ?_ ?_|(refine zim ?_;intro zb hc)|(refine zin ?_;intro zb)|intro j')
  all_goals try refine zbx ?_
  all_goals trace_state
def dwL (b:List UInt8) (s:Cu) (n:Int):Nat→List Int×Cu
 |0=>([],s)
 |k+1=>((dwL b s n k).1++[1+bwX b (dwL b s n k).2 (n - 1)],bwS b (dwL b s n k).2 (n - 1))
theorem dwL_f {b:List UInt8} {s:Cu} {n:Int} (hn:n≤5):∀{k:Nat},(dwL b s n k).1.length=k∧∀x∈(dwL b s n k).1,0≤x∧x≤10
 |0=>by simp[dwL]
 |k+1=>by
  obtain⟨h1,h2⟩:=dwL_f (b:=b) (s:=s) (n:=n) hn (k:=k)
  have q:=bwX_r (b:=b) (s:=(dwL b s n k).2) (n:=n - 1)
  rw[dwL]
  refine⟨by simp[h1],fun x hx=> ?_⟩
  rcases List.mem_append.1 hx with g|g
  ·exact h2 x g
  ·rw[List.mem_singleton]at g;omega
set_option maxHeartbeats 4000000 in
theorem spec_l27Draw_x (b:List UInt8) (s:Cu) (hb:b.length≤1048576):∃s' n w,CallT Tryz.prog false 39 [.mu true (curC b s)] [some (curC b s')] [.int .i64 n,.sl .own (List.map (PV.int .i64) w)]∧w.length≤9∧∀x∈w, -1≤x∧x≤10:=by
 have q:=bwX_r (b:=b) (s:=s) (n:=5)
 generalize hn:1+bwX b s 5=n at*
 have q2:=bwX_r (b:=b) (s:=bwS b s 5) (n:=8)
 obtain⟨C,hC⟩:∃C:Nat,bwX b (bwS b s 5) 8=(C:Int):=Int.eq_ofNat_of_zero_le (by omega)
 rw[hC]at q2
 generalize hs0:bwS b (bwS b s 5) 8=s0 at*
 obtain⟨K,hK⟩:∃K:Nat,K=if 1<n then C else 0:=⟨_,rfl⟩
 have kc:K≤C:=by rw[hK];split<;>omega
 obtain⟨w1,w2⟩:=dwL_f (b:=b) (s:=s0) (n:=n) (by omega) (k:=K)
 obtain⟨x,hx⟩:∃x,bwX b (dwL b s0 n K).2 12=x:=⟨_,rfl⟩
 by_cases h0:x=0
 ·subst h0
  have q3:=bwX_r (b:=b) (s:=bwS b (dwL b s0 n K).2 12) (n:=8)
  refine⟨bwS b (bwS b (dwL b s0 n K).2 12) 8,n,(dwL b s0 n K).1++[bwX b (bwS b (dwL b s0 n K).2 12) 8 - 1], ?_,by simp;omega,fun y hy=> ?_⟩
  ·refine fX sgCu [2,3] Tryz.func39 ?_
   have cM1:= @spec_l1Below_c;have cM2:= @spec_l1Once_c
   refine dEa (And.intro @hn (And.intro @hC @hs0)) ?_
   all_goals try (refine zlf ?_;repeat' first|exact zso|refine And.intro ?_ ?_|(refine zim ?_;intro zb hc)|(refine zin ?_;intro zb)|intro j')
   all_goals try refine zbx ?_
   refine v_loopB (fun ms1 S1=>∃(k:Nat),S1.e 0=.ptr 0 0∧S1.h 0=.live true (curC b (dwL b s0 n k).2)∧0<S1.n∧S1.e 4=.p (.int .i64 (n))∧OwnL (S1.e 5) S1.h S1.n (PV.int .i64) (((dwL b s0 n k).1).length) ((dwL b s0 n k).1)∧S1.e 6=.p (.int .i64 (C))∧S1.e 7=.p (.int .i64 (k))∧(k≤K)∧NId (S1.e 5) (.ref 0 0 0)∧ms1=K - k) ((fun(k:Nat)=>K - k) (0)) ?_ ⟨0,dC trivial ?_⟩
   all_goals try (refine zlf ?_;repeat' first|exact zso|refine And.intro ?_ ?_|(refine zim ?_;intro zb hc)|(refine zin ?_;intro zb)|intro j')
   all_goals try refine zbx ?_
   rintro ms1 S1 ⟨k,h1_0,b1_0,l1_0,h1_4,o1_5,h1_6,h1_7,c1_0,u1_0,hm1⟩
   obtain⟨i1_5,h1_5,b1_5,l1_5⟩:=o1_5.out
   have k1_0:=(u1_0).out h1_5 rfl
   have ni1_5:=znds (x:=i1_5) (n:=S1.n)
   have n0:=znds (x:=0) (n:=S1.n)
   have di1_50:=zdne (x:=i1_5) (y:=0)
   have fL1:=(And.intro h1_0 (And.intro b1_0 (And.intro h1_4 (And.intro h1_6 (And.intro h1_7 (And.intro h1_5 (And.intro b1_5 (And.intro ni1_5 (And.intro n0 di1_50)))))))))
   ·have w3:=(dwL_f (b:=b) (s:=s0) (n:=n) (by omega) (k:=k)).1
    by_cases hk:k<K
    ·have hn1:1<n:=by
      by_cases g:1<n
      ·exact g
      ·rw[if_neg g]at hK;omega
     have qk:=bwX_r (b:=b) (s:=(dwL b s0 n k).2) (n:=n - 1)
     refine dEa fL1 ?_
     all_goals try (refine zlf ?_;repeat' first|exact zso|refine And.intro ?_ ?_|(refine zim ?_;intro zb hc)|(refine zin ?_;intro zb)|intro j')
     all_goals try refine zbx ?_
     focus
      refine q_lp_n ((fun(k:Nat)=>K - k) (k+1)) (dC fL1 ?_) ⟨k+1,dC fL1 ?_⟩
      all_goals try (refine zlf ?_;repeat' first|exact zso|refine And.intro ?_ ?_|(refine zim ?_;intro zb hc)|(refine zin ?_;intro zb)|intro j')
      all_goals try refine zbx ?_
     all_goals(first|(rw[w3,(dwL_f (b:=b) (s:=s0) (n:=n) (by omega) (k:=k+1)).1];done)|skip)
     all_goals trace_state
    ·obtain rfl:k=K:=by omega
     have g:¬((k:Int)<C∧1<n):=fun g=>by rw[if_pos g.2]at hK;omega
     by_cases g1:(k:Int)<C
     ·have g2:(1<n)=False:=eq_false fun h=>g ⟨g1,h⟩
      refine dEa (And.intro fL1 (And.intro @hx @g2)) ?_
      all_goals try (refine zlf ?_;repeat' first|exact zso|refine And.intro ?_ ?_|(refine zim ?_;intro zb hc)|(refine zin ?_;intro zb)|intro j')
      all_goals try refine zbx ?_
      all_goals(first|(exact List.take_of_length_le (by simp))|skip)
      all_goals trace_state
     ·have g2:((k:Int)<C)=False:=eq_false g1
      refine dEa (And.intro fL1 (And.intro @hx @g2)) ?_
      all_goals try (refine zlf ?_;repeat' first|exact zso|refine And.intro ?_ ?_|(refine zim ?_;intro zb hc)|(refine zin ?_;intro zb)|intro j')
      all_goals try refine zbx ?_
      all_goals(first|(exact List.take_of_length_le (by simp))|skip)
      all_goals trace_state
   all_goals trace_state
  ·rcases List.mem_append.1 hy with g|g
   ·have:=w2 y g;omega
   ·rw[List.mem_singleton]at g;omega
 ·have f0:(x=0)=False:=eq_false h0
  refine⟨bwS b (dwL b s0 n K).2 12,n,(dwL b s0 n K).1, ?_,by omega,fun y hy=>by have:=w2 y hy;omega⟩
  refine fX sgCu [2,3] Tryz.func39 ?_
  have cM1:= @spec_l1Below_c;have cM2:= @spec_l1Once_c
  refine dEa (And.intro @hn (And.intro @hC @hs0)) ?_
  all_goals try (refine zlf ?_;repeat' first|exact zso|refine And.intro ?_ ?_|(refine zim ?_;intro zb hc)|(refine zin ?_;intro zb)|intro j')
  all_goals try refine zbx ?_
  refine v_loopB (fun ms2 S2=>∃(k:Nat),S2.e 0=.ptr 0 0∧S2.h 0=.live true (curC b (dwL b s0 n k).2)∧0<S2.n∧S2.e 4=.p (.int .i64 (n))∧OwnL (S2.e 5) S2.h S2.n (PV.int .i64) (((dwL b s0 n k).1).length) ((dwL b s0 n k).1)∧S2.e 6=.p (.int .i64 (C))∧S2.e 7=.p (.int .i64 (k))∧(k≤K)∧NId (S2.e 5) (.ref 0 0 0)∧ms2=K - k) ((fun(k:Nat)=>K - k) (0)) ?_ ⟨0,dC trivial ?_⟩
  all_goals try (refine zlf ?_;repeat' first|exact zso|refine And.intro ?_ ?_|(refine zim ?_;intro zb hc)|(refine zin ?_;intro zb)|intro j')
  all_goals try refine zbx ?_
  rintro ms2 S2 ⟨k,h2_0,b2_0,l2_0,h2_4,o2_5,h2_6,h2_7,c2_0,u2_0,hm2⟩
  obtain⟨i2_5,h2_5,b2_5,l2_5⟩:=o2_5.out
  have k2_0:=(u2_0).out h2_5 rfl
  have ni2_5:=znds (x:=i2_5) (n:=S2.n)
  have n0:=znds (x:=0) (n:=S2.n)
  have di2_50:=zdne (x:=i2_5) (y:=0)
  have fL2:=(And.intro h2_0 (And.intro b2_0 (And.intro h2_4 (And.intro h2_6 (And.intro h2_7 (And.intro h2_5 (And.intro b2_5 (And.intro ni2_5 (And.intro n0 di2_50)))))))))
  ·have w3:=(dwL_f (b:=b) (s:=s0) (n:=n) (by omega) (k:=k)).1
   by_cases hk:k<K
   ·have hn1:1<n:=by
     by_cases g:1<n
     ·exact g
     ·rw[if_neg g]at hK;omega
    have qk:=bwX_r (b:=b) (s:=(dwL b s0 n k).2) (n:=n - 1)
    refine dEa fL2 ?_
    all_goals try (refine zlf ?_;repeat' first|exact zso|refine And.intro ?_ ?_|(refine zim ?_;intro zb hc)|(refine zin ?_;intro zb)|intro j')
    all_goals try refine zbx ?_
    focus
     refine q_lp_n ((fun(k:Nat)=>K - k) (k+1)) (dC fL2 ?_) ⟨k+1,dC fL2 ?_⟩
     all_goals try (refine zlf ?_;repeat' first|exact zso|refine And.intro ?_ ?_|(refine zim ?_;intro zb hc)|(refine zin ?_;intro zb)|intro j')
     all_goals try refine zbx ?_
    all_goals(first|(rw[w3,(dwL_f (b:=b) (s:=s0) (n:=n) (by omega) (k:=k+1)).1];done)|skip)
    all_goals trace_state
   ·obtain rfl:k=K:=by omega
    have g:¬((k:Int)<C∧1<n):=fun g=>by rw[if_pos g.2]at hK;omega
    by_cases g1:(k:Int)<C
    ·have g2:(1<n)=False:=eq_false fun h=>g ⟨g1,h⟩
     refine dEa (And.intro fL2 (And.intro @hx (And.intro @f0 @g2))) ?_
     all_goals try (refine zlf ?_;repeat' first|exact zso|refine And.intro ?_ ?_|(refine zim ?_;intro zb hc)|(refine zin ?_;intro zb)|intro j')
     all_goals try refine zbx ?_
     all_goals trace_state
    ·have g2:((k:Int)<C)=False:=eq_false g1
     refine dEa (And.intro fL2 (And.intro @hx (And.intro @f0 @g2))) ?_
     all_goals try (refine zlf ?_;repeat' first|exact zso|refine And.intro ?_ ?_|(refine zim ?_;intro zb hc)|(refine zin ?_;intro zb)|intro j')
     all_goals try refine zbx ?_
     all_goals trace_state
  all_goals trace_state
def hbW1 (w:List Int) (x:Int):List Int:=if x=0 then(w.set 2 (w.getD 0 0)).set 1 (w.getD 0 0+1)else w
def hbW2 (w:List Int) (x:Int):List Int:=if x=0 then((w.set 0 9223372036854775807).set 1 (-9223372036854775808)).set 2 9223372036854775807 else w
set_option maxHeartbeats 4000000 in
theorem spec_DrawHasBraid_x (b:List UInt8) (hb:b.length≤1048576):∃p,Fun Tryz.prog 9 [.sl (.lent false) (b.map u8P)] [.sl .own (List.map (PV.int .i64) p)]∧p.length≤9∧∀x∈p, -9223372036854775808≤x∧x≤9223372036854775807:=by
 obtain⟨s1,n,w,c1,h1,h2⟩:=spec_l27Draw_x b ⟨0,newH b (min b.length 4000)⟩ hb
 by_cases hl:2<w.length
 ·have w0:=h2 _ (getD_mem (l:=w) (i:=0) (d:=0) (by omega))
  have s3:∀{l:List Int} {i:Nat} {v y:Int},(∀y∈l, -9223372036854775808≤y∧y≤9223372036854775807)→ -9223372036854775808≤v∧v≤9223372036854775807→y∈l.set i v→ -9223372036854775808≤y∧y≤9223372036854775807:=fun a c e=>by
   rcases List.mem_or_eq_of_mem_set e with g|g
   ·exact a _ g
   ·rw[g];exact c
  have r0:∀y∈w, -9223372036854775808≤y∧y≤9223372036854775807:=fun y hy=>by have:=h2 y hy;omega
  obtain⟨x,hx⟩:∃x,bwX b s1 3=x:=⟨_,rfl⟩
  obtain⟨y,hy⟩:∃y,bwX b (bwS b s1 3) 14=y:=⟨_,rfl⟩
  have r1:∀z∈hbW1 w x, -9223372036854775808≤z∧z≤9223372036854775807:=fun z hz=>by
   unfold hbW1 at hz;split at hz
   ·exact s3 (fun y hy=>s3 r0 (by omega) hy) (by omega) hz
   ·exact r0 z hz
  have r2:∀z∈hbW2 (hbW1 w x) y, -9223372036854775808≤z∧z≤9223372036854775807:=fun z hz=>by
   unfold hbW2 at hz;split at hz
   ·exact s3 (fun y hy=>s3 (fun y hy=>s3 r1 (by omega) hy) (by omega) hy) (by omega) hz
   ·exact r1 z hz
  have l1:(hbW1 w x).length=w.length:=by unfold hbW1;split<;>simp
  have l2:(hbW2 (hbW1 w x) y).length=w.length:=by unfold hbW2;split<;>simp[l1]
  refine⟨hbW2 (hbW1 w x) y, ?_,by omega,r2⟩
  have q1:∀u v:Int,((w.set 2 u).set 1 v).getD 0 0=w.getD 0 0:=fun u v=>by
   rw[List.getD_eq_getElem?_getD,List.getElem?_set_ne (by decide),List.getElem?_set_ne (by decide),←List.getD_eq_getElem?_getD]
  by_cases hx0:x=0
  ·have e1:hbW1 w x=(w.set 2 (w.getD 0 0)).set 1 (w.getD 0 0+1):=if_pos hx0
   have e1l:((w.set 2 (w.getD 0 0)).set 1 (w.getD 0 0+1)).length=w.length:=by simp
   rw[e1]
   have x1:(List.set w 2 (w.getD 0 0)).getD 0 0=w.getD 0 0:=by rw[List.getD_eq_getElem?_getD,List.getElem?_set_ne (by decide),←List.getD_eq_getElem?_getD]
   by_cases hy0:y=0
   ·have e2:hbW2 ((w.set 2 (w.getD 0 0)).set 1 (w.getD 0 0+1)) y=((((w.set 2 (w.getD 0 0)).set 1 (w.getD 0 0+1)).set 0 9223372036854775807).set 1 (-9223372036854775808)).set 2 9223372036854775807:=if_pos hy0
    have x2:(((w.set 2 (w.getD 0 0)).set 1 (w.getD 0 0+1)).set 0 9223372036854775807).getD 0 0=9223372036854775807:=by
     rw[List.getD_eq_getElem?_getD,List.getElem?_set_self (by simp;omega)];rfl
    rw[e2]
    subst hx0;subst hy0
    refine fO sgCu [2] Tryz.func9 ?_
    have cE1:= @spec_l1New_c;have cM1:= @spec_l1Once_c
    have cM2:= @c1
    refine dEa (And.intro @hx (And.intro @hy (And.intro @x1 @x2))) ?_
    all_goals try (refine zlf ?_;repeat' first|exact zso|refine And.intro ?_ ?_|(refine zim ?_;intro zb hc)|(refine zin ?_;intro zb)|intro j')
    all_goals try refine zbx ?_
    all_goals(first|(rw[x2];exact List.take_of_length_le (by simp))|(exact List.take_of_length_le (by simp))|skip)
    all_goals trace_state
   ·have f1:(y=0)=False:=eq_false hy0
    have e2:hbW2 ((w.set 2 (w.getD 0 0)).set 1 (w.getD 0 0+1)) y=(w.set 2 (w.getD 0 0)).set 1 (w.getD 0 0+1):=if_neg hy0
    rw[e2]
    subst hx0
    refine fO sgCu [2] Tryz.func9 ?_
    have cE1:= @spec_l1New_c;have cM1:= @spec_l1Once_c
    have cM2:= @c1
    refine dEa (And.intro @hx (And.intro @hy (And.intro @f1 @x1))) ?_
    all_goals try (refine zlf ?_;repeat' first|exact zso|refine And.intro ?_ ?_|(refine zim ?_;intro zb hc)|(refine zin ?_;intro zb)|intro j')
    all_goals try refine zbx ?_
    all_goals trace_state
  ·have f0:(x=0)=False:=eq_false hx0
   have e1:hbW1 w x=w:=if_neg hx0
   rw[e1]
   by_cases hy0:y=0
   ·have e2:hbW2 w y=((w.set 0 9223372036854775807).set 1 (-9223372036854775808)).set 2 9223372036854775807:=if_pos hy0
    have x2:(w.set 0 9223372036854775807).getD 0 0=9223372036854775807:=by
     rw[List.getD_eq_getElem?_getD,List.getElem?_set_self (by omega)];rfl
    rw[e2]
    subst hy0
    refine fO sgCu [2] Tryz.func9 ?_
    have cE1:= @spec_l1New_c;have cM1:= @spec_l1Once_c
    have cM2:= @c1
    refine dEa (And.intro @hx (And.intro @hy (And.intro @f0 @x2))) ?_
    all_goals try (refine zlf ?_;repeat' first|exact zso|refine And.intro ?_ ?_|(refine zim ?_;intro zb hc)|(refine zin ?_;intro zb)|intro j')
    all_goals try refine zbx ?_
    all_goals(first|(rw[x2];exact List.take_of_length_le (by simp))|(exact List.take_of_length_le (by simp))|skip)
    all_goals trace_state
   ·have f1:(y=0)=False:=eq_false hy0
    have e2:hbW2 w y=w:=if_neg hy0
    rw[e2]
    refine fO sgCu [2] Tryz.func9 ?_
    have cE1:= @spec_l1New_c;have cM1:= @spec_l1Once_c
    have cM2:= @c1
    refine dEa (And.intro @hx (And.intro @hy (And.intro @f0 @f1))) ?_
    all_goals try (refine zlf ?_;repeat' first|exact zso|refine And.intro ?_ ?_|(refine zim ?_;intro zb hc)|(refine zin ?_;intro zb)|intro j')
    all_goals try refine zbx ?_
    all_goals trace_state
 ·refine⟨w, ?_,h1,fun y hy=>by have:=h2 y hy;omega⟩
  have f0:((2:Int)<(w.length:Int))=False:=eq_false (by omega)
  refine fO sgCu [2] Tryz.func9 ?_
  have cE1:= @spec_l1New_c;have cM1:= @spec_l1Once_c
  have cM2:= @c1
  refine dEa @f0 ?_
  all_goals try (refine zlf ?_;repeat' first|exact zso|refine And.intro ?_ ?_|(refine zim ?_;intro zb hc)|(refine zin ?_;intro zb)|intro j')
  all_goals try refine zbx ?_
  all_goals trace_state
def srtB (l:List Int):Bool:=(List.range l.length).all fun i=>decide (i=0)||decide (l.getD (i - 1) 0≤l.getD i 0)
theorem srtB_iff {l:List Int}:srtB l=true↔∀i,i<l.length→0<i→l.getD (i - 1) 0≤l.getD i 0:=by
 simp only[srtB,List.all_eq_true,List.mem_range,Bool.or_eq_true,decide_eq_true_eq]
 constructor
 ·intro h i hi h0;rcases h i hi with h|h
  ·omega
  ·exact h
 ·intro h i hi
  by_cases h0:i=0
  ·exact .inl h0
  ·exact .inr (h i hi (by omega))
def rowB (n:Nat) (r:List Int):Bool:=decide (r.length=n)&&decide (1≤r.length)&&decide (r.length≤3)&&r.all fun x=>decide (-1≤x)&&decide (x≤1)
def gridB (m:List (List Int)):Bool:=decide (1≤m.length)&&decide (m.length≤3)&&m.all (rowB (m.getD 0 []).length)
theorem all_at {α:Type} {l:List α} {p:α→Bool} {k:Nat} {d:α} (h:k<l.length) (hf:p (l.getD k d)=false):l.all p=false:=by
 rw[List.all_eq_false];exact⟨l.getD k d,getD_mem h,by rw[hf];decide⟩
theorem all_succ {α:Type} {l:List α} {p:α→Bool} {k:Nat} {d:α} (h:k<l.length) (hf:p (l.getD k d)=true) (ht:(l.take k).all p=true):(l.take (k+1)).all p=true:=by
 rw[take_getD (d:=d) h,List.all_append,ht,List.all_cons,hf];rfl
theorem grid_bad {m:List (List Int)} {k:Nat} (h:k<m.length) (hf:rowB (m.getD 0 []).length (m.getD k [])=false):gridB m=false:=by
 rw[gridB,all_at h hf,Bool.and_false]
theorem spec_IsGrid_c {e0 m0:Bool} (m:List (List Int)) (hm:m.length≤1099511627776) (hl:∀l∈m,l.length≤1099511627776):Fun Tryz.prog 67 [(.sl (.lent m0) (List.map (elI e0) (m)))] [(.bool (gridB m))]:=by
 refine fO sg0 [2] Tryz.func67 ?_
 have cE1:= @spec_l1In_c;have cD1:=zdh [false,false,false,false,false,false,false,false,false,false,false,false,false,false,false,false,true,false,false] []
 refine dE trivial ?_
 all_goals try (refine zlf ?_;repeat' first|exact zso|refine And.intro ?_ ?_|(refine zim ?_;intro zb hc)|(refine zin ?_;intro zb)|intro j')
 all_goals try refine zbx ?_
 refine v_loopB (fun ms1 S1=>∃(k:Nat),S1.e 0=.p (.sl (.lent m0) (List.map (elI e0) (m)))∧S1.e 3=.p (.int .i64 (k))∧(k≤m.length)∧((m.take k).all (rowB (m.getD 0 []).length)=true)∧ms1=m.length - k) ((fun(k:Nat)=>m.length - k) (0)) ?_ ⟨0,dI trivial ?_⟩
 all_goals try (refine zlf ?_;repeat' first|exact zso|refine And.intro ?_ ?_|(refine zim ?_;intro zb hc)|(refine zin ?_;intro zb)|intro j')
 all_goals try refine zbx ?_
 rintro ms1 S1 ⟨k,h1_0,h1_3,c1_0,c1_1,hm1⟩
 have fL1:=(And.intro h1_0 h1_3)
 refine dE fL1 ?_
 all_goals try (refine zlf ?_;repeat' first|exact zso|refine And.intro ?_ ?_|(refine zim ?_;intro zb hc)|(refine zin ?_;intro zb)|intro j')
 all_goals try refine zbx ?_
 all_goals try have hk:=hl (m.getD k []) (getD_mem (by omega))
 all_goals try exact zaut
 ·rw[grid_bad (by omega:k<m.length)]
  rw[rowB]
  rcases hc with hc|hc
  ·rw[decide_eq_false (by omega:¬1≤(m.getD k []).length)];simp
  ·rw[decide_eq_false (by omega:¬(m.getD k []).length≤3)];simp
 ·refine v_loopB (fun ms2 S2=>∃(c:Nat),S2.e 0=.p (.sl (.lent m0) (List.map (elI e0) (m)))∧S2.e 3=.p (.int .i64 (k))∧S2.e 4=.p (.int .i64 (c))∧(c≤(m.getD k []).length)∧(((m.getD k []).take c).all (fun x=>decide (-1≤x)&&decide (x≤1))=true)∧S1.n≤S2.n∧ms2=(m.getD k []).length - c) ((fun(c:Nat)=>(m.getD k []).length - c) (0)) ?_ ⟨0,dIa fL1 ?_⟩
  all_goals try (refine zlf ?_;repeat' first|exact zso|refine And.intro ?_ ?_|(refine zim ?_;intro zb hc)|(refine zin ?_;intro zb)|intro j')
  all_goals try refine zbx ?_
  rintro ms2 S2 ⟨c,h2_0,h2_3,h2_4,c2_0,c2_1,u2_0,hm2⟩
  have fL2:=(And.intro h2_0 (And.intro h2_3 h2_4))
  refine dEa fL2 ?_
  all_goals try (refine zlf ?_;repeat' first|exact zso|refine And.intro ?_ ?_|(refine zim ?_;intro zb hc)|(refine zin ?_;intro zb)|intro j')
  all_goals try refine zbx ?_
  ·rw[grid_bad (by omega:k<m.length)]
   rw[rowB,all_at (d:=0) (by omega:c<(m.getD k []).length)]
   ·simp
   ·rcases hc with hc|hc
    ·rw[decide_eq_false (by omega)];rfl
    ·rw[decide_eq_false (by omega:¬_≤(1:Int))];simp
  ·focus
    refine q_lp_n ((fun(c:Nat)=>(m.getD k []).length - c) (c+1)) (dC fL2 ?_) ⟨c+1,dC fL2 ?_⟩
    all_goals try (refine zlf ?_;repeat' first|exact zso|refine And.intro ?_ ?_|(refine zim ?_;intro zb hc)|(refine zin ?_;intro zb)|intro j')
    all_goals try refine zbx ?_
   exact all_succ (d:=0) (by omega) (by rw[decide_eq_true (by omega),decide_eq_true (by omega)];rfl) c2_1
  ·focus
    refine q_lp_n ((fun(k:Nat)=>m.length - k) (k+1)) (dC fL2 ?_) ⟨k+1,dC fL2 ?_⟩
    all_goals try (refine zlf ?_;repeat' first|exact zso|refine And.intro ?_ ?_|(refine zim ?_;intro zb hc)|(refine zin ?_;intro zb)|intro j')
    all_goals try refine zbx ?_
   refine all_succ (d:=[]) (by omega) ?_ c1_1
   rw[List.take_of_length_le (by omega)]at c2_1
   rw[rowB,c2_1,decide_eq_true (by omega),decide_eq_true (by omega),decide_eq_true (by omega)];rfl
 ·rw[grid_bad (by omega:k<m.length)]
  rw[rowB,decide_eq_false (by omega)];simp
 ·rw[List.take_of_length_le (by omega)]at c1_1
  rw[gridB,c1_1,Bool.and_true];congr 1<;>(rw[decide_eq_decide];omega)
def prtI (l:List Int) (x:Int):Int:=rkI l x l.length - 1
theorem prt_b {l:List Int} {x:Int}:0≤prtI l x∧prtI l x≤l.length:=by have:=rkI_b (l:=l) (x:=x) (k:=l.length);unfold prtI;omega
theorem spec_l32Part_c {m0:Bool} (l:List Int) (x:Int) (hl:l.length≤1048576):Fun Tryz.prog 107 [(.sl (.lent m0) (List.map (PV.int .i64) (l))),(.int .i64 (x))] [(.int .i64 (prtI l x))]:=by
 refine fO sg0 [4] Tryz.func107 ?_
 have cE1:= @spec_l1Bit_c
 refine dEa trivial ?_
 all_goals try (refine zlf ?_;repeat' first|exact zso|refine And.intro ?_ ?_|(refine zim ?_;intro zb hc)|(refine zin ?_;intro zb)|intro j')
 all_goals try refine zbx ?_
 refine v_loopB (fun ms1 S1=>∃(k:Nat),S1.e 0=.p (.sl (.lent m0) (List.map (PV.int .i64) (l)))∧S1.e 1=.p (.int .i64 (x))∧S1.e 6=.p (.int .i64 (k))∧S1.e 5=.p (.int .i64 (rkI l x k - 1))∧(k≤l.length)∧ms1=l.length - k) ((fun(k:Nat)=>l.length - k) (0)) ?_ ⟨0,dIa trivial ?_⟩
 all_goals try (refine zlf ?_;repeat' first|exact zso|refine And.intro ?_ ?_|(refine zim ?_;intro zb hc)|(refine zin ?_;intro zb)|intro j')
 all_goals try refine zbx ?_
 rintro ms1 S1 ⟨k,h1_0,h1_1,h1_6,h1_5,c1_0,hm1⟩
 have fL1:=(And.intro h1_0 (And.intro h1_1 (And.intro h1_6 h1_5)))
 have b1:=rkI_b (l:=l) (x:=x) (k:=k)
 have b2:bitI (decide (l.getD k 0<x))≤1∧0≤bitI (decide (l.getD k 0<x)):=by unfold bitI;split<;>omega
 refine dEa fL1 ?_
 all_goals try (refine zlf ?_;repeat' first|exact zso|refine And.intro ?_ ?_|(refine zim ?_;intro zb hc)|(refine zin ?_;intro zb)|intro j')
 all_goals try refine zbx ?_
 ·focus
   refine q_lp_n ((fun(k:Nat)=>l.length - k) (k+1)) (dC fL1 ?_) ⟨k+1,dC fL1 ?_⟩
   all_goals try (refine zlf ?_;repeat' first|exact zso|refine And.intro ?_ ?_|(refine zim ?_;intro zb hc)|(refine zin ?_;intro zb)|intro j')
   all_goals try refine zbx ?_
  rw[rkI_succ (by omega)];omega
 ·obtain rfl:k=l.length:=by omega
  rfl
def fG (m:List (List Int)) (cs rs p:List Int) (k:Nat):Int:=(m.getD ((m.length:Int) - 1 - prtI rs (p.getD k 0)).toNat []).getD (prtI cs ((k:Int)+1)).toNat 0
def fS (cs rs p:List Int) (i k:Nat):Prop:=prtI cs ((i:Int)+1)=prtI cs ((k:Int)+1)∧prtI rs (p.getD i 0)=prtI rs (p.getD k 0)
def okK (p:List Int) (m:List (List Int)) (cs rs:List Int) (k:Nat):Prop:=fG m cs rs p k≠0∧∀i,i<k→fS cs rs p i k→(p.getD i 0<p.getD k 0↔fG m cs rs p k=1)
noncomputable instance {p:List Int} {m:List (List Int)} {cs rs:List Int} {k:Nat}:Decidable (okK p m cs rs k):=Classical.propDecidable _
noncomputable def gfB (p:List Int) (m:List (List Int)) (cs rs:List Int):Bool:=decide (∀k,k<p.length→okK p m cs rs k)
theorem gfB_t {p:List Int} {m:List (List Int)} {cs rs:List Int} (h:∀k,k<p.length→okK p m cs rs k):true=gfB p m cs rs:=by unfold gfB;exact(decide_eq_true h).symm
theorem gfB_f {p:List Int} {m:List (List Int)} {cs rs:List Int} {k:Nat} (hk:k<p.length) (h:¬okK p m cs rs k):false=gfB p m cs rs:=by unfold gfB;exact(decide_eq_false fun q=>h (q k hk)).symm
theorem grid_rows {m:List (List Int)} (h:gridB m=true):1≤m.length∧m.length≤3∧1≤(m.getD 0 []).length∧(m.getD 0 []).length≤3∧∀r,r<m.length→(m.getD r []).length=(m.getD 0 []).length:=by
 simp only[gridB,Bool.and_eq_true,decide_eq_true_eq,List.all_eq_true]at h
 obtain⟨⟨h1,h2⟩,h3⟩:=h
 have h4:∀r,r<m.length→(m.getD r []).length=(m.getD 0 []).length∧1≤(m.getD r []).length∧(m.getD r []).length≤3:=fun r hr=>by
  have:=h3 _ (getD_mem (d:=[]) hr)
  simp only[rowB,Bool.and_eq_true,decide_eq_true_eq]at this
  omega
 have h5:=h4 0 (by omega)
 exact⟨h1,h2,h5.2.1,h5.2.2,fun r hr=>(h4 r hr).1⟩
theorem spec_l32Fits_c {m0 e1 m1 m2 m3:Bool} (p:List Int) (m:List (List Int)) (cs:List Int) (rs:List Int) (hp:isPermB p=true) (hm:gridB m=true) (h1:(cs.length:Int)=(m.getD 0 []).length - 1) (h2:(rs.length:Int)=m.length - 1):Fun Tryz.prog 69 [(.sl (.lent m0) (List.map (PV.int .i64) (p))),(.sl (.lent m1) (List.map (elI e1) (m))),(.sl (.lent m2) (List.map (PV.int .i64) (cs))),(.sl (.lent m3) (List.map (PV.int .i64) (rs)))] [(.bool (gfB p m cs rs))]:=by
 refine fO sg0 [8] Tryz.func69 ?_
 have cE1:= @spec_l32Part_c;have cD1:=zdh [false,false,false,true,false,false,false,false,false,false,false,false,true,false,false,false,false,false,false,false,false,false,false,false,false,false,false,false,false,false] [(3,4),(12,13)]
 have hl:=(isPerm_facts hp).1
 have hb:=perm_b8 hp
 obtain⟨g1,g2,g3,g4,g5⟩:=grid_rows hm
 refine dEa trivial ?_
 all_goals try (refine zlf ?_;repeat' first|exact zso|refine And.intro ?_ ?_|(refine zim ?_;intro zb hc;repeat (have zc:=zb.1;replace zb:=zb.2))|(refine zin ?_;intro zb)|intro j')
 all_goals try refine zbx ?_
 refine v_loopB (fun ms1 S1=>∃(k:Nat),S1.e 0=.p (.sl (.lent m0) (List.map (PV.int .i64) (p)))∧S1.e 1=.p (.sl (.lent m1) (List.map (elI e1) (m)))∧S1.e 2=.p (.sl (.lent m2) (List.map (PV.int .i64) (cs)))∧S1.e 3=.p (.sl (.lent m3) (List.map (PV.int .i64) (rs)))∧S1.e 9=.p (.int .i64 (k))∧(k≤p.length)∧(∀j,j<k→okK p m cs rs j)∧ms1=p.length - k) ((fun(k:Nat)=>p.length - k) (0)) ?_ ⟨0,dIa trivial ?_⟩
 all_goals try (refine zlf ?_;repeat' first|exact zso|refine And.intro ?_ ?_|(refine zim ?_;intro zb hc;repeat (have zc:=zb.1;replace zb:=zb.2))|(refine zin ?_;intro zb)|intro j')
 all_goals try refine zbx ?_
 rintro ms1 S1 ⟨k,h1_0,h1_1,h1_2,h1_3,h1_9,c1_0,c1_1,hm1⟩
 have fL1:=(And.intro h1_0 (And.intro h1_1 (And.intro h1_2 (And.intro h1_3 h1_9))))
 have b1:=prt_b (l:=cs) (x:=(k:Int)+1)
 have b2:=prt_b (l:=rs) (x:=p.getD k 0)
 have b3:=g5 ((m.length:Int) - 1 - prtI rs (p.getD k 0)).toNat (by omega)
 have e0:(m.getD ((m.length:Int) - 1 - prtI rs (p.getD k 0)).toNat []).getD (prtI cs ((k:Int)+1)).toNat 0=fG m cs rs p k:=rfl
 refine dEa (And.intro fL1 @e0) ?_
 all_goals try (refine zlf ?_;repeat' first|exact zso|refine And.intro ?_ ?_|(refine zim ?_;intro zb hc;repeat (have zc:=zb.1;replace zb:=zb.2))|(refine zin ?_;intro zb)|intro j')
 all_goals try refine zbx ?_
 ·exact gfB_f (k:=k) (by assumption) fun h=>h.1 hc
 ·have c0:=hc
  have c1:k<p.length:=by assumption
  refine v_loopB (fun ms2 S2=>∃(i:Nat),S2.e 0=.p (.sl (.lent m0) (List.map (PV.int .i64) (p)))∧S2.e 1=.p (.sl (.lent m1) (List.map (elI e1) (m)))∧S2.e 2=.p (.sl (.lent m2) (List.map (PV.int .i64) (cs)))∧S2.e 3=.p (.sl (.lent m3) (List.map (PV.int .i64) (rs)))∧S2.e 9=.p (.int .i64 (k))∧S2.e 10=.p (.int .i64 (prtI cs ((k:Int)+1)))∧S2.e 11=.p (.int .i64 (prtI rs (p.getD k 0)))∧S2.e 12=.p (.int .i64 (fG m cs rs p k))∧S2.e 13=.p (.int .i64 (i))∧(i≤k)∧(∀j,j<i→fS cs rs p j k→(p.getD j 0<p.getD k 0↔fG m cs rs p k=1))∧S1.n≤S2.n∧ms2=k - i) ((fun(i:Nat)=>k - i) (0)) ?_ ⟨0,dIa fL1 ?_⟩
  all_goals try (refine zlf ?_;repeat' first|exact zso|refine And.intro ?_ ?_|(refine zim ?_;intro zb hc;repeat (have zc:=zb.1;replace zb:=zb.2))|(refine zin ?_;intro zb)|intro j')
  all_goals try refine zbx ?_
  rintro ms2 S2 ⟨i,h2_0,h2_1,h2_2,h2_3,h2_9,h2_10,h2_11,h2_12,h2_13,c2_0,c2_1,u2_0,hm2⟩
  have fL2:=(And.intro h2_0 (And.intro h2_1 (And.intro h2_2 (And.intro h2_3 (And.intro h2_9 (And.intro h2_10 (And.intro h2_11 (And.intro h2_12 h2_13))))))))
  refine dEa fL2 ?_
  all_goals try (refine zlf ?_;repeat' first|exact zso|refine And.intro ?_ ?_|(refine zim ?_;intro zb hc;repeat (have zc:=zb.1;replace zb:=zb.2))|(refine zin ?_;intro zb)|intro j')
  all_goals try refine zbx ?_
  ·refine gfB_f (k:=k) c1 fun h=> ?_
   have:=h.2 i (by assumption) ⟨by assumption,by assumption⟩
   rw[beq_eq_false_iff_ne]at hc
   exact hc (decide_eq_decide.2 this)
  ·focus
    refine q_lp_n ((fun(i:Nat)=>k - i) (i+1)) (dC fL2 ?_) ⟨i+1,dC fL2 ?_⟩
    all_goals try (refine zlf ?_;repeat' first|exact zso|refine And.intro ?_ ?_|(refine zim ?_;intro zb hc;repeat (have zc:=zb.1;replace zb:=zb.2))|(refine zin ?_;intro zb)|intro j')
    all_goals try refine zbx ?_
   intro j hj hs
   by_cases e:j=i
   ·subst e;exact decide_eq_decide.1 (beq_iff_eq.1 hc)
   ·exact c2_1 j (by omega) hs
  ·focus
    refine q_lp_n ((fun(i:Nat)=>k - i) (i+1)) (dC fL2 ?_) ⟨i+1,dC fL2 ?_⟩
    all_goals try (refine zlf ?_;repeat' first|exact zso|refine And.intro ?_ ?_|(refine zim ?_;intro zb hc;repeat (have zc:=zb.1;replace zb:=zb.2))|(refine zin ?_;intro zb)|intro j')
    all_goals try refine zbx ?_
   intro j hj hs
   by_cases e:j=i
   ·subst e;exact absurd hs.2 hc
   ·exact c2_1 j (by omega) hs
  ·focus
    refine q_lp_n ((fun(i:Nat)=>k - i) (i+1)) (dC fL2 ?_) ⟨i+1,dC fL2 ?_⟩
    all_goals try (refine zlf ?_;repeat' first|exact zso|refine And.intro ?_ ?_|(refine zim ?_;intro zb hc;repeat (have zc:=zb.1;replace zb:=zb.2))|(refine zin ?_;intro zb)|intro j')
    all_goals try refine zbx ?_
   intro j hj hs
   by_cases e:j=i
   ·subst e;exact absurd hs.1 hc
   ·exact c2_1 j (by omega) hs
  ·focus
    refine q_lp_n ((fun(k:Nat)=>p.length - k) (k+1)) (dC fL2 ?_) ⟨k+1,dC fL2 ?_⟩
    all_goals try (refine zlf ?_;repeat' first|exact zso|refine And.intro ?_ ?_|(refine zim ?_;intro zb hc;repeat (have zc:=zb.1;replace zb:=zb.2))|(refine zin ?_;intro zb)|intro j')
    all_goals try refine zbx ?_
   intro j hj
   by_cases e:j=k
   ·subst e;exact⟨c0,fun i hi hs=>c2_1 i (by omega) hs⟩
   ·exact c1_1 j (by omega)
 ·exact gfB_t fun j hj=>c1_1 j (by omega)
end Go.Gl
