/-
  What the functions compute, and what the law asks of it: texts joined. Conditions: those that each lemma names.
-/
import Derived.Test.YtbppfpdgahopeaaGreatDoorA0
import Derived.Test.YtbppfpdgahopeaaGreatDoorGlC
import Derived.Shelf.Strings.Builder1
import Derived.Shelf.Strings.Builder2
import Derived.Shelf.Strings.OnBuilder
import Derived.Shelf.Small.Bits
import Derived.Shelf.Strconv.Itoa0
import Derived.Shelf.Strconv.Itoa1
import Derived.Shelf.LaysM
import Derived.Shelf.Strconv.Itoa2
import Derived.Shelf.Strconv.Itoa3
import Derived.Shelf.Slices.Turned
import Derived.Shelf.Slices.Reverse
import Derived.Shelf.Slices.Equal
import Derived.Ground.Names2Prog
import Derived.Shelf.Slices.Clone
import Derived.Shelf.Slices.SearchI
import Derived.Shelf.Slices.Cells
import Derived.Ground.SlgnProg
import Derived.Shelf.SlicesE.Clone
import Derived.Shelf.Spec.SlicesGrow
import Derived.Ground.Names8Prog
import Derived.Test.YtbppfpdgahopeaaGreatDoorProg
import Derived.Lib.Join
set_option linter.unusedSimpArgs false
set_option linter.unusedVariables false
set_option maxRecDepth 20000
set_option linter.unusedSectionVars false
namespace Go.Gl
open Go Go.Proofs
variable [Amb]
theorem spec_l1In_c (a b c:Int):Fun Tryz.prog 65 [(.int .i64 (a)),(.int .i64 (b)),(.int .i64 (c))] [(.bool ((decide (b≤a)&&decide (a≤c))))]:=by
 refine fO sg0 [6] Tryz.func65 ?_
 refine dE trivial ?_
 all_goals try (refine zlf ?_;repeat' first|exact zso|refine And.intro ?_ ?_|(refine zim ?_;intro zb hc)|(refine zin ?_;intro zb)|intro j')
 all_goals try refine zbx ?_
def bitI (b:Bool):Int:=if b then 1 else 0
theorem bitI_r (b:Bool):0≤bitI b∧bitI b≤1:=by cases b<;>decide
theorem spec_l1Bit_c (b:Bool):Fun Tryz.prog 68 [(.bool (b))] [(.int .i64 (bitI b))]:=by
 refine fO sg0 [2] Tryz.func68 ?_
 refine dE trivial ?_
 all_goals try (refine zlf ?_;repeat' first|exact zso|refine And.intro ?_ ?_|(refine zim ?_;intro zb hc)|(refine zin ?_;intro zb)|intro j')
 all_goals try refine zbx ?_
 all_goals simp[bitI,hc]
theorem spec_l1Max_c (a b:Int):Fun Tryz.prog 121 [(.int .i64 (a)),(.int .i64 (b))] [(.int .i64 (max a b))]:=by
 refine fO sg0 [4] Tryz.func121 ?_
 refine dE trivial ?_
 all_goals try (refine zlf ?_;repeat' first|exact zso|refine And.intro ?_ ?_|(refine zim ?_;intro zb hc)|(refine zin ?_;intro zb)|intro j')
 all_goals try refine zbx ?_
 all_goals omega
theorem drop_at {s:List UInt8} {k:Nat} (h:k<s.length):s.drop k=s.getD k 0::s.drop (k+1):=by
 rw[List.drop_eq_getElem_cons h,List.getD_eq_getElem?_getD,List.getElem?_eq_getElem h];rfl
theorem dropI_at {s:List Int} {k:Nat} (h:k<s.length):s.drop k=s.getD k 0::s.drop (k+1):=by
 rw[List.drop_eq_getElem_cons h,List.getD_eq_getElem?_getD,List.getElem?_eq_getElem h];rfl
end Go.Gl
namespace Go.Gl
open Go Go.Proofs
variable [Amb] [NoQ]
def permGo (n:Int):List Int→List Int→Bool
 |_,[]=>true
 |seen,v::p=>decide (1≤v)&&decide (v≤n)&& !(seen.contains v)&&permGo n (seen++[v]) p
def permB (p:List Int):Bool:=permGo p.length [] p
def isPermB (p:List Int):Bool:=decide (p.length≤8)&&permB p
theorem contains_take {l:List Int} {k:Nat} {x:Int} (h:k<l.length):(l.take (k+1)).contains x=((l.take k).contains x||decide (x=l.getD k 0)):=by
 rw[List.take_add_one,List.getD_eq_getElem?_getD,List.getElem?_eq_getElem h]
 simp only[Option.toList_some,Option.getD_some,List.contains_append]
 congr 1
 simp[List.contains_cons]
theorem contains_at {l:List Int} {k:Nat} (h:k<l.length):l.contains (l.getD k 0)=true:=by
 rw[List.getD_eq_getElem?_getD,List.getElem?_eq_getElem h];simp
theorem permGo_step {n:Int} {p:List Int} {k:Nat} (h:k<p.length):permGo n (p.take k) (p.drop k)=(decide (1≤p.getD k 0)&&decide (p.getD k 0≤n)&& !((p.take k).contains (p.getD k 0))&&permGo n (p.take (k+1)) (p.drop (k+1))):=by
 rw[dropI_at h,permGo]
 congr 2
 rw[List.take_add_one,List.getD_eq_getElem?_getD,List.getElem?_eq_getElem h];rfl
theorem spec_l2Has_c {m0:Bool} (l:List Int) (x:Int) (hl:l.length≤1099511627776):Fun Tryz.prog 66 [(.sl (.lent m0) (List.map (PV.int .i64) (l))),(.int .i64 (x))] [(.bool (l.contains x))]:=by
 refine fO sg0 [4] Tryz.func66 ?_
 refine dE trivial ?_
 all_goals try (refine zlf ?_;repeat' first|exact zso|refine And.intro ?_ ?_|(refine zim ?_;intro zb hc)|(refine zin ?_;intro zb)|intro j')
 all_goals try refine zbx ?_
 refine v_loopB (fun ms1 S1=>∃(k:Nat),S1.e 0=.p (.sl (.lent m0) (List.map (PV.int .i64) (l)))∧S1.e 1=.p (.int .i64 (x))∧S1.e 5=.p (.int .i64 (k))∧(k≤l.length)∧((l.take k).contains x=false)∧ms1=l.length - k) ((fun(k:Nat)=>l.length - k) (0)) ?_ ⟨0,dIa trivial ?_⟩
 all_goals try (refine zlf ?_;repeat' first|exact zso|refine And.intro ?_ ?_|(refine zim ?_;intro zb hc)|(refine zin ?_;intro zb)|intro j')
 all_goals try refine zbx ?_
 rintro ms1 S1 ⟨k,h1_0,h1_1,h1_5,c1_0,c1_1,hm1⟩
 have fL1:=(And.intro h1_0 (And.intro h1_1 h1_5))
 refine dEa fL1 ?_
 all_goals try (refine zlf ?_;repeat' first|exact zso|refine And.intro ?_ ?_|(refine zim ?_;intro zb hc)|(refine zin ?_;intro zb)|intro j')
 all_goals try refine zbx ?_
 ·rw[←hc,contains_at (by omega)]
 ·focus
   refine q_lp_n ((fun(k:Nat)=>l.length - k) (k+1)) (dC fL1 ?_) ⟨k+1,dC fL1 ?_⟩
   all_goals try (refine zlf ?_;repeat' first|exact zso|refine And.intro ?_ ?_|(refine zim ?_;intro zb hc)|(refine zin ?_;intro zb)|intro j')
   all_goals try refine zbx ?_
  rw[contains_take (by omega),c1_1,Bool.false_or];exact decide_eq_false (fun e=>hc e.symm)
 ·rw[←c1_1,List.take_of_length_le (by omega)]
theorem spec_IsPerm_c {m0:Bool} (p:List Int) (hl:p.length≤1048576):Fun Tryz.prog 24 [(.sl (.lent m0) (List.map (PV.int .i64) (p)))] [(.bool (isPermB p))]:=by
 refine fO sg0 [2] Tryz.func24 ?_
 have cE1:= @spec_l1In_c;have cE2:= @spec_l2Has_c;have cD1:=zdh [false,false,false,false,false,false,true,false,false,false,false,false,false,false,false,false,true,false] []
 refine dE trivial ?_
 all_goals try (refine zlf ?_;repeat' first|exact zso|refine And.intro ?_ ?_|(refine zim ?_;intro zb hc)|(refine zin ?_;intro zb)|intro j')
 all_goals try refine zbx ?_
 refine v_loopB (fun ms1 S1=>∃(k:Nat),S1.e 0=.p (.sl (.lent m0) (List.map (PV.int .i64) (p)))∧S1.e 3=.p (.int .i64 (k))∧(k≤p.length)∧(p.length≤8→permB p=permGo p.length (p.take k) (p.drop k))∧ms1=p.length - k) ((fun(k:Nat)=>p.length - k) (0)) ?_ ⟨0,dIa trivial ?_⟩
 all_goals try (refine zlf ?_;repeat' first|exact zso|refine And.intro ?_ ?_|(refine zim ?_;intro zb hc)|(refine zin ?_;intro zb)|intro j')
 all_goals try refine zbx ?_
 rintro ms1 S1 ⟨k,h1_0,h1_3,c1_0,c1_1,hm1⟩
 have fL1:=(And.intro h1_0 h1_3)
 refine dEa fL1 ?_
 all_goals try (refine zlf ?_;repeat' first|exact zso|refine And.intro ?_ ?_|(refine zim ?_;intro zb hc)|(refine zin ?_;intro zb)|intro j')
 all_goals try refine zbx ?_
 all_goals try (have c2:=c1_1 (by omega);rw[permGo_step (by omega)]at c2)
 ·simp only[isPermB,c2,hc];simp
 ·focus
   refine q_lp_n ((fun(k:Nat)=>p.length - k) (k+1)) (dC fL1 ?_) ⟨k+1,dC fL1 ?_⟩
   all_goals try (refine zlf ?_;repeat' first|exact zso|refine And.intro ?_ ?_|(refine zim ?_;intro zb hc)|(refine zin ?_;intro zb)|intro j')
   all_goals try refine zbx ?_
  intro h;rw[c2,hc,decide_eq_true (by omega),decide_eq_true (by omega)];rfl
 ·simp only[isPermB,c2]
  rcases hc with hc|hc
  ·rw[decide_eq_false (by omega:¬1≤p.getD k 0)];simp
  ·rw[decide_eq_false (by omega:¬p.getD k 0≤(p.length:Int))];simp
 ·rw[isPermB,decide_eq_false (by omega)];rfl
 ·by_cases h8:p.length≤8
  ·rw[isPermB,c1_1 h8,List.drop_of_length_le (by omega),permGo,Bool.and_true];congr 1;simp only[eq_iff_iff];omega
  ·rw[isPermB,decide_eq_false h8,decide_eq_false (by omega)];rfl
 ·rfl
theorem impl_isPerm_c {m0:Bool} (p:List Int) (hl:p.length≤1048576):Fun Tryz.prog 84 [(.sl (.lent m0) (List.map (PV.int .i64) (p)))] [(.bool (permB p))]:=by
 refine fO sg0 [2] Tryz.func84 ?_
 refine dEa trivial ?_
 all_goals try (refine zlf ?_;repeat' first|exact zso|refine And.intro ?_ ?_|(refine zim ?_;intro zb hc)|(refine zin ?_;intro zb)|intro j')
 all_goals try refine zbx ?_
 refine v_loopB (fun ms1 S1=>∃(k:Nat) (seen:List Bool),S1.e 0=.p (.sl (.lent m0) (List.map (PV.int .i64) (p)))∧S1.e 10=.p (.sl (.lent m0) (List.map (PV.int .i64) (p)))∧OwnL (S1.e 3) S1.h S1.n PV.bool ((seen).length) (seen)∧S1.e 11=.p (.int .i64 (p.length))∧S1.e 12=.p (.int .i64 (k))∧(k≤p.length)∧(seen.length=p.length+1)∧(permB p=permGo p.length (p.take k) (p.drop k))∧(∀v:Nat,1≤v→v≤p.length→seen.getD v false=(p.take k).contains (v:Int))∧ms1=p.length - k) ((fun(k:Nat) (seen:List Bool)=>p.length - k) (0) (List.replicate (p.length+1) false)) ?_ ⟨0,List.replicate (p.length+1) false,dI trivial ?_⟩
 all_goals try (refine zlf ?_;repeat' first|exact zso|refine And.intro ?_ ?_|(refine zim ?_;intro zb hc)|(refine zin ?_;intro zb)|intro j')
 all_goals try refine zbx ?_
 rintro ms1 S1 ⟨k,seen,h1_0,h1_10,o1_3,h1_11,h1_12,c1_0,c1_1,c1_2,c1_3,hm1⟩
 obtain⟨i1_3,h1_3,b1_3,l1_3⟩:=o1_3.out
 have ni1_3:=znds (x:=i1_3) (n:=S1.n)
 have fL1:=(And.intro h1_0 (And.intro h1_10 (And.intro h1_11 (And.intro h1_12 (And.intro h1_3 (And.intro b1_3 ni1_3))))))
 refine dE fL1 ?_
 all_goals try (refine zlf ?_;repeat' first|exact zso|refine And.intro ?_ ?_|(refine zim ?_;intro zb hc)|(refine zin ?_;intro zb)|intro j')
 all_goals try refine zbx ?_
 all_goals try rw[permGo_step (by omega)]at c1_2
 all_goals try exact zaut
 ·rw[c1_2,←show((p.getD k 0).toNat:Int)=p.getD k 0 by omega,←c1_3 _ (by omega) (by omega),hc];simp
 ·focus
   refine q_lp_n ((fun(k:Nat) (seen:List Bool)=>p.length - k) (k+1) (seen.set (p.getD k 0).toNat true)) (dC fL1 ?_) ⟨k+1,seen.set (p.getD k 0).toNat true,dC fL1 ?_⟩
   all_goals try (refine zlf ?_;repeat' first|exact zso|refine And.intro ?_ ?_|(refine zim ?_;intro zb hc)|(refine zin ?_;intro zb)|intro j')
   all_goals try refine zbx ?_
  ·rw[c1_2,decide_eq_true (by omega),decide_eq_true (by omega),←show((p.getD k 0).toNat:Int)=p.getD k 0 by omega,←c1_3 _ (by omega) (by omega),hc];rfl
  ·intro v h1 h2
   rw[contains_take (by omega),←c1_3 v h1 h2,List.getD_eq_getElem?_getD,List.getElem?_set]
   by_cases e:(p.getD k 0).toNat=v
   ·rw[if_pos e,if_pos (by omega),decide_eq_true (by omega)];simp
   ·rw[if_neg e,decide_eq_false (by omega),Bool.or_false,List.getD_eq_getElem?_getD]
 ·rw[c1_2,decide_eq_false (by omega:¬p.getD k 0≤(p.length:Int))];simp
 ·rw[c1_2,decide_eq_false (by omega:¬1≤p.getD k 0)];simp
 ·rw[c1_2,List.drop_of_length_le (by omega)];rfl
 ·intro v h1 h2;rw[List.getD_eq_getElem?_getD,List.getElem?_replicate];split<;>rfl
theorem impl_IsPerm_c {m0:Bool} (p:List Int) (hl:p.length≤1048576):Fun Tryz.prog 37 [(.sl (.lent m0) (List.map (PV.int .i64) (p)))] [(.bool (isPermB p))]:=by
 refine fO sg0 [2] Tryz.func37 ?_
 have cE1:= @impl_isPerm_c
 refine dEa trivial ?_
 all_goals try (refine zlf ?_;repeat' first|exact zso|refine And.intro ?_ ?_|(refine zim ?_;intro zb hc)|(refine zin ?_;intro zb)|intro j')
 all_goals try refine zbx ?_
 ·rw[isPermB,decide_eq_true (by omega),Bool.true_and]
 ·rw[isPermB,decide_eq_false (by omega)];rfl
def cntLt (v:Int):List Int→Int
 |[]=>0
 |w::p=>bitI (decide (w<v))+cntLt v p
def codeGo:List Int→List Int
 |[]=>[]
 |v::p=>cntLt v p::codeGo p
theorem codeGo_length:∀p:List Int,(codeGo p).length=p.length
 |[]=>rfl
 |_::p=>by simp[codeGo,codeGo_length p]
theorem cntLt_le (v:Int):∀p:List Int,0≤cntLt v p∧cntLt v p≤p.length
 |[]=>by simp[cntLt]
 |w::p=>by
  have:=cntLt_le v p;have:=bitI_r (decide (w<v))
  simp only[cntLt,List.length_cons];omega
theorem codeGo_at:∀(p:List Int) (k:Nat),0≤(codeGo p).getD k 0∧(codeGo p).getD k 0≤p.length
 |[],k=>by simp[codeGo]
 |v::p,0=>by have:=cntLt_le v p;simp only[codeGo,List.getD_cons_zero,List.length_cons];omega
 |v::p,k+1=>by have:=codeGo_at p k;simp only[codeGo,List.getD_cons_succ,List.length_cons];omega
theorem spec_CodeOf_c {m0:Bool} (p:List Int) (hl:p.length≤1048576):Fun Tryz.prog 35 [(.sl (.lent m0) (List.map (PV.int .i64) (p)))] [(.sl .own (List.map (PV.int .i64) ((if isPermB p then codeGo p else[]))))]:=by
 refine fO sg0 [2] Tryz.func35 ?_
 have cE1:= @spec_l1Bit_c;have cE2:= @spec_IsPerm_c;have cD1:=zdh [false,false,false,false,false,false,false,false,false,false,true,false,false] [(0,10)]
 refine dE trivial ?_
 all_goals try (refine zlf ?_;repeat' first|exact zso|refine And.intro ?_ ?_|(refine zim ?_;intro zb hc;repeat (have zc:=zb.1;replace zb:=zb.2))|(refine zin ?_;intro zb)|intro j')
 all_goals try refine zbx ?_
 refine v_loopB (fun ms1 S1=>∃(k:Nat) (out:List Int),S1.e 0=.p (.sl (.lent m0) (List.map (PV.int .i64) (p)))∧OwnL (S1.e 3) S1.h S1.n (PV.int .i64) ((out).length) (out)∧S1.e 4=.p (.int .i64 (k))∧(k≤p.length)∧(0<k→isPermB p=true)∧(codeGo p=out++codeGo (p.drop k))∧(out.length=k)∧ms1=p.length - k) ((fun(k:Nat) (out:List Int)=>p.length - k) (0) ([])) ?_ ⟨0,[],dIa trivial ?_⟩
 all_goals try (refine zlf ?_;repeat' first|exact zso|refine And.intro ?_ ?_|(refine zim ?_;intro zb hc;repeat (have zc:=zb.1;replace zb:=zb.2))|(refine zin ?_;intro zb)|intro j')
 all_goals try refine zbx ?_
 rintro ms1 S1 ⟨k,out,h1_0,o1_3,h1_4,c1_0,c1_1,c1_2,c1_3,hm1⟩
 obtain⟨i1_3,h1_3,b1_3,l1_3⟩:=o1_3.out
 have ni1_3:=znds (x:=i1_3) (n:=S1.n)
 have fL1:=(And.intro h1_0 (And.intro h1_4 (And.intro h1_3 (And.intro b1_3 ni1_3))))
 refine dEa fL1 ?_
 all_goals try (refine zlf ?_;repeat' first|exact zso|refine And.intro ?_ ?_|(refine zim ?_;intro zb hc;repeat (have zc:=zb.1;replace zb:=zb.2))|(refine zin ?_;intro zb)|intro j')
 all_goals try refine zbx ?_
 ·refine v_loopB (fun ms2 S2=>∃(i:Nat) (n:Int),S2.e 0=.p (.sl (.lent m0) (List.map (PV.int .i64) (p)))∧S2.e 3=.ref i1_3 0 (out).length∧S2.h i1_3=.live false (List.map (PV.int .i64) (out))∧S2.e 4=.p (.int .i64 (k))∧S2.e 5=.p (.int .i64 (n))∧S2.e 6=.p (.int .i64 (i))∧(k<i)∧(i≤p.length)∧(0≤n)∧(n≤i)∧(n+cntLt (p.getD k 0) (p.drop i)=cntLt (p.getD k 0) (p.drop (k+1)))∧S1.n≤S2.n∧ms2=p.length - i) ((fun(i:Nat) (n:Int)=>p.length - i) (k+1) (0)) ?_ ⟨k+1,0,dI fL1 ?_⟩
  all_goals try (refine zlf ?_;repeat' first|exact zso|refine And.intro ?_ ?_|(refine zim ?_;intro zb hc;repeat (have zc:=zb.1;replace zb:=zb.2))|(refine zin ?_;intro zb)|intro j')
  all_goals try refine zbx ?_
  rintro ms2 S2 ⟨i,n,h2_0,h2_3,b2_3,h2_4,h2_5,h2_6,c2_0,c2_1,c2_2,c2_3,c2_4,u2_0,hm2⟩
  have ni1_3:=znds (x:=i1_3) (n:=S2.n)
  have fL2:=(And.intro h2_0 (And.intro h2_3 (And.intro b2_3 (And.intro h2_4 (And.intro h2_5 (And.intro h2_6 ni1_3))))))
  refine dE fL2 ?_
  all_goals try (refine zlf ?_;repeat' first|exact zso|refine And.intro ?_ ?_|(refine zim ?_;intro zb hc;repeat (have zc:=zb.1;replace zb:=zb.2))|(refine zin ?_;intro zb)|intro j')
  all_goals try refine zbx ?_
  all_goals have hb:=bitI_r (decide (p.getD i 0<p.getD k 0))
  all_goals try exact zaut
  ·focus
    refine q_lp_n ((fun(i:Nat) (n:Int)=>p.length - i) (i+1) (n+bitI (decide (p.getD i 0<p.getD k 0)))) (dC fL2 ?_) ⟨i+1,n+bitI (decide (p.getD i 0<p.getD k 0)),dC fL2 ?_⟩
    all_goals try (refine zlf ?_;repeat' first|exact zso|refine And.intro ?_ ?_|(refine zim ?_;intro zb hc;repeat (have zc:=zb.1;replace zb:=zb.2))|(refine zin ?_;intro zb)|intro j')
    all_goals try refine zbx ?_
   rw[←c2_4,dropI_at hc,cntLt,Int.add_assoc]
  ·focus
    refine q_lp_n ((fun(k:Nat) (out:List Int)=>p.length - k) (k+1) (out++[n])) (dC fL2 ?_) ⟨k+1,out++[n],dC fL2 ?_⟩
    all_goals try (refine zlf ?_;repeat' first|exact zso|refine And.intro ?_ ?_|(refine zim ?_;intro zb hc;repeat (have zc:=zb.1;replace zb:=zb.2))|(refine zin ?_;intro zb)|intro j')
    all_goals try refine zbx ?_
   ·intro _;assumption
   ·rw[c1_2,dropI_at (by omega),codeGo,←c2_4,List.drop_of_length_le (by omega:p.length≤i),cntLt,Int.add_zero]
 ·have:k=0:=by
   rcases Nat.eq_zero_or_pos k with h|h
   ·exact h
   ·rw[c1_1 h]at hc;cases hc
  rw[List.eq_nil_of_length_eq_zero (by omega:out.length=0)];simp[hc]
 ·have hp:isPermB p=true:=by
   rcases Nat.eq_zero_or_pos k with h|h
   ·rw[List.eq_nil_of_length_eq_zero (by omega:p.length=0)];rfl
   ·exact c1_1 h
  rw[if_pos hp,c1_2,List.drop_of_length_le (by omega),codeGo,List.append_nil]
theorem impl_code_c {m0:Bool} (p:List Int) (hl:p.length≤1048576):Fun Tryz.prog 95 [(.sl (.lent m0) (List.map (PV.int .i64) (p)))] [(.sl .own (List.map (PV.int .i64) (codeGo p)))]:=by
 refine fO sg0 [2] Tryz.func95 ?_
 refine dEa trivial ?_
 all_goals try (refine zlf ?_;repeat' first|exact zso|refine And.intro ?_ ?_|(refine zim ?_;intro zb hc;repeat (have zc:=zb.1;replace zb:=zb.2))|(refine zin ?_;intro zb)|intro j')
 all_goals try refine zbx ?_
 refine v_loopB (fun ms1 S1=>∃(k:Nat) (out:List Int),S1.e 0=.p (.sl (.lent m0) (List.map (PV.int .i64) (p)))∧S1.e 10=.p (.sl (.lent m0) (List.map (PV.int .i64) (p)))∧S1.e 11=.p (.int .i64 (p.length))∧OwnL (S1.e 3) S1.h S1.n (PV.int .i64) ((out).length) (out)∧S1.e 12=.p (.int .i64 (k))∧(k≤p.length)∧(codeGo p=out++codeGo (p.drop k))∧(out.length=k)∧ms1=p.length - k) ((fun(k:Nat) (out:List Int)=>p.length - k) (0) ([])) ?_ ⟨0,[],dIa trivial ?_⟩
 all_goals try (refine zlf ?_;repeat' first|exact zso|refine And.intro ?_ ?_|(refine zim ?_;intro zb hc;repeat (have zc:=zb.1;replace zb:=zb.2))|(refine zin ?_;intro zb)|intro j')
 all_goals try refine zbx ?_
 rintro ms1 S1 ⟨k,out,h1_0,h1_10,h1_11,o1_3,h1_12,c1_0,c1_1,c1_2,hm1⟩
 obtain⟨i1_3,h1_3,b1_3,l1_3⟩:=o1_3.out
 have ni1_3:=znds (x:=i1_3) (n:=S1.n)
 have fL1:=(And.intro h1_0 (And.intro h1_10 (And.intro h1_11 (And.intro h1_12 (And.intro h1_3 (And.intro b1_3 ni1_3))))))
 refine dEa fL1 ?_
 all_goals try (refine zlf ?_;repeat' first|exact zso|refine And.intro ?_ ?_|(refine zim ?_;intro zb hc;repeat (have zc:=zb.1;replace zb:=zb.2))|(refine zin ?_;intro zb)|intro j')
 all_goals try refine zbx ?_
 ·refine v_loopB (fun ms2 S2=>∃(i:Nat) (n:Int),S2.e 0=.p (.sl (.lent m0) (List.map (PV.int .i64) (p)))∧S2.e 10=.p (.sl (.lent m0) (List.map (PV.int .i64) (p)))∧S2.e 11=.p (.int .i64 (p.length))∧S2.e 3=.ref i1_3 0 (out).length∧S2.h i1_3=.live false (List.map (PV.int .i64) (out))∧S2.e 12=.p (.int .i64 (k))∧S2.e 5=.p (.int .i64 (p.getD k 0))∧S2.e 6=.p (.int .i64 (n))∧S2.e 20=.p (.sl (.lent m0) (List.map (PV.int .i64) (p.drop (k+1))))∧S2.e 21=.p (.int .i64 ((p.drop (k+1)).length))∧S2.e 22=.p (.int .i64 (i))∧(i≤(p.drop (k+1)).length)∧(0≤n)∧(n≤i)∧(n+cntLt (p.getD k 0) ((p.drop (k+1)).drop i)=cntLt (p.getD k 0) (p.drop (k+1)))∧S1.n≤S2.n∧ms2=(p.drop (k+1)).length - i) ((fun(i:Nat) (n:Int)=>(p.drop (k+1)).length - i) (0) (0)) ?_ ⟨0,0,dI fL1 ?_⟩
  all_goals try (refine zlf ?_;repeat' first|exact zso|refine And.intro ?_ ?_|(refine zim ?_;intro zb hc;repeat (have zc:=zb.1;replace zb:=zb.2))|(refine zin ?_;intro zb)|intro j')
  all_goals try refine zbx ?_
  rintro ms2 S2 ⟨i,n,h2_0,h2_10,h2_11,h2_3,b2_3,h2_12,h2_5,h2_6,h2_20,h2_21,h2_22,c2_0,c2_1,c2_2,c2_3,u2_0,hm2⟩
  have ni1_3:=znds (x:=i1_3) (n:=S2.n)
  have fL2:=(And.intro h2_0 (And.intro h2_10 (And.intro h2_11 (And.intro h2_3 (And.intro b2_3 (And.intro h2_12 (And.intro h2_5 (And.intro h2_6 (And.intro h2_20 (And.intro h2_21 (And.intro h2_22 ni1_3)))))))))))
  refine dE fL2 ?_
  all_goals try (refine zlf ?_;repeat' first|exact zso|refine And.intro ?_ ?_|(refine zim ?_;intro zb hc;repeat (have zc:=zb.1;replace zb:=zb.2))|(refine zin ?_;intro zb)|intro j')
  all_goals try refine zbx ?_
  all_goals have hd:(p.drop (k+1)).length=p.length - (k+1):=by simp
  all_goals try exact zaut
  ·focus
    refine q_lp_n ((fun(i:Nat) (n:Int)=>(p.drop (k+1)).length - i) (i+1) (n+1)) (dC fL2 ?_) ⟨i+1,n+1,dC fL2 ?_⟩
    all_goals try (refine zlf ?_;repeat' first|exact zso|refine And.intro ?_ ?_|(refine zim ?_;intro zb hc;repeat (have zc:=zb.1;replace zb:=zb.2))|(refine zin ?_;intro zb)|intro j')
    all_goals try refine zbx ?_
   rw[←c2_3,dropI_at (by assumption:i<(p.drop (k+1)).length),cntLt,bitI,decide_eq_true hc,if_pos rfl,Int.add_assoc]
  ·focus
    refine q_lp_n ((fun(i:Nat) (n:Int)=>(p.drop (k+1)).length - i) (i+1) (n)) (dC fL2 ?_) ⟨i+1,n,dC fL2 ?_⟩
    all_goals try (refine zlf ?_;repeat' first|exact zso|refine And.intro ?_ ?_|(refine zim ?_;intro zb hc;repeat (have zc:=zb.1;replace zb:=zb.2))|(refine zin ?_;intro zb)|intro j')
    all_goals try refine zbx ?_
   rw[←c2_3,dropI_at (by assumption:i<(p.drop (k+1)).length),cntLt,bitI,decide_eq_false (by omega),if_neg (by decide),Int.zero_add]
  ·focus
    refine q_lp_n ((fun(k:Nat) (out:List Int)=>p.length - k) (k+1) (out++[n])) (dC fL2 ?_) ⟨k+1,out++[n],dC fL2 ?_⟩
    all_goals try (refine zlf ?_;repeat' first|exact zso|refine And.intro ?_ ?_|(refine zim ?_;intro zb hc;repeat (have zc:=zb.1;replace zb:=zb.2))|(refine zin ?_;intro zb)|intro j')
    all_goals try refine zbx ?_
   rw[c1_1,dropI_at (by omega:k<p.length),codeGo,←c2_3,List.drop_of_length_le (by omega:(p.drop (k+1)).length≤i),cntLt,Int.add_zero]
 ·rw[c1_1,List.drop_of_length_le (by omega),codeGo,List.append_nil]
def idL (n:Nat):List Int:=(List.range n).map fun i:Nat=>(i:Int)+1
theorem idL_succ {n:Nat}:idL (n+1)=idL n++[(n:Int)+1]:=by simp[idL,List.range_succ]
theorem idL_len {n:Nat}:(idL n).length=n:=by simp[idL]
theorem impl_identity_c (n:Int) (h0:0≤n) (h1:n≤1099511627776):Fun Tryz.prog 176 [(.int .i64 (n))] [(.sl .own (List.map (PV.int .i64) (idL n.toNat)))]:=by
 refine fO sg0 [2] Tryz.func176 ?_
 refine dE trivial ?_
 all_goals try (refine zlf ?_;repeat' first|exact zso|refine And.intro ?_ ?_|(refine zim ?_;intro zb hc)|(refine zin ?_;intro zb)|intro j')
 all_goals try refine zbx ?_
 refine v_loopB (fun ms1 S1=>∃(k:Nat),S1.e 0=.p (.int .i64 (n))∧OwnL (S1.e 3) S1.h S1.n (PV.int .i64) ((idL k).length) (idL k)∧S1.e 6=.p (.int .i64 (n))∧S1.e 7=.p (.int .i64 (k))∧((k:Int)≤n)∧ms1=n.toNat - k) ((fun(k:Nat)=>n.toNat - k) (0)) ?_ ⟨0,dI trivial ?_⟩
 all_goals try (refine zlf ?_;repeat' first|exact zso|refine And.intro ?_ ?_|(refine zim ?_;intro zb hc)|(refine zin ?_;intro zb)|intro j')
 all_goals try refine zbx ?_
 rintro ms1 S1 ⟨k,h1_0,o1_3,h1_6,h1_7,c1_0,hm1⟩
 obtain⟨i1_3,h1_3,b1_3,l1_3⟩:=o1_3.out
 have ni1_3:=znds (x:=i1_3) (n:=S1.n)
 have fL1:=(And.intro h1_0 (And.intro h1_6 (And.intro h1_7 (And.intro h1_3 (And.intro b1_3 ni1_3)))))
 refine dE fL1 ?_
 all_goals try (refine zlf ?_;repeat' first|exact zso|refine And.intro ?_ ?_|(refine zim ?_;intro zb hc)|(refine zin ?_;intro zb)|intro j')
 all_goals try refine zbx ?_
 all_goals have hl:=idL_len (n:=k)
 all_goals try exact zaut
 ·focus
   refine q_lp_n ((fun(k:Nat)=>n.toNat - k) (k+1)) (dC fL1 ?_) ⟨k+1,dC fL1 ?_⟩
   all_goals try (refine zlf ?_;repeat' first|exact zso|refine And.intro ?_ ?_|(refine zim ?_;intro zb hc)|(refine zin ?_;intro zb)|intro j')
   all_goals try refine zbx ?_
  all_goals simp[idL_succ,idL_len]
 ·rw[show k=n.toNat by omega]
theorem spec_IdentityPerm_c (n:Int) (h0:0≤n) (h1:n≤8):Fun Tryz.prog 123 [(.int .i64 (n))] [(.sl .own (List.map (PV.int .i64) (idL n.toNat)))]:=by
 refine fO sg0 [2] Tryz.func123 ?_
 refine dE trivial ?_
 all_goals try (refine zlf ?_;repeat' first|exact zso|refine And.intro ?_ ?_|(refine zim ?_;intro zb hc)|(refine zin ?_;intro zb)|intro j')
 all_goals try refine zbx ?_
 refine v_loopB (fun ms1 S1=>∃(k:Nat),S1.e 0=.p (.int .i64 (n))∧OwnL (S1.e 3) S1.h S1.n (PV.int .i64) ((idL k).length) (idL k)∧S1.e 4=.p (.int .i64 ((k+1)))∧((k:Int)≤n)∧ms1=n.toNat - k) ((fun(k:Nat)=>n.toNat - k) (0)) ?_ ⟨0,dI trivial ?_⟩
 all_goals try (refine zlf ?_;repeat' first|exact zso|refine And.intro ?_ ?_|(refine zim ?_;intro zb hc)|(refine zin ?_;intro zb)|intro j')
 all_goals try refine zbx ?_
 rintro ms1 S1 ⟨k,h1_0,o1_3,h1_4,c1_0,hm1⟩
 obtain⟨i1_3,h1_3,b1_3,l1_3⟩:=o1_3.out
 have ni1_3:=znds (x:=i1_3) (n:=S1.n)
 have fL1:=(And.intro h1_0 (And.intro h1_4 (And.intro h1_3 (And.intro b1_3 ni1_3))))
 refine dE fL1 ?_
 all_goals try (refine zlf ?_;repeat' first|exact zso|refine And.intro ?_ ?_|(refine zim ?_;intro zb hc)|(refine zin ?_;intro zb)|intro j')
 all_goals try refine zbx ?_
 all_goals have hl:=idL_len (n:=k)
 all_goals try exact zaut
 ·focus
   refine q_lp_n ((fun(k:Nat)=>n.toNat - k) (k+1)) (dC fL1 ?_) ⟨k+1,dC fL1 ?_⟩
   all_goals try (refine zlf ?_;repeat' first|exact zso|refine And.intro ?_ ?_|(refine zim ?_;intro zb hc)|(refine zin ?_;intro zb)|intro j')
   all_goals try refine zbx ?_
  all_goals simp[idL_succ,idL_len]
 ·rw[show k=n.toNat by omega]
end Go.Gl
namespace Go.Proofs
open Go.Shelf
def Tryz.lays156_ren:Go.Shelf.Ren:=⟨fun|156=>51|165=>105|166=>106|169=>107|240=>146|241=>147|276=>179|277=>180|n=>n,fun|31=>36|9=>9|3=>3|4=>4|0=>0|20=>20|72=>61|76=>65|70=>59|37=>27|75=>64|127=>88|164=>110|5=>5|80=>67|n=>n,fun|n=>n⟩
theorem Tryz.lays156:Go.Proofs.Lays.n156 Tryz.prog Tryz.lays156_ren:={
 mixed:=by kernel_rfl
 f156:=Tryz.func51.trans (congrArg some (by kernel_rfl))
 f165:=Tryz.func105.trans (congrArg some (by kernel_rfl))
 f166:=Tryz.func106.trans (congrArg some (by kernel_rfl))
 f169:=Tryz.func107.trans (congrArg some (by kernel_rfl))
 f240:=Tryz.func146.trans (congrArg some (by kernel_rfl))
 f241:=Tryz.func147.trans (congrArg some (by kernel_rfl))
 f276:=Tryz.func179.trans (congrArg some (by kernel_rfl))
 f277:=Tryz.func180.trans (congrArg some (by kernel_rfl))
 t0:=Tryz.underlying0
 a0:=Tryz.isAgg0
 z0:=Tryz.sizeOf0
 v0:=Tryz.zeroValue0
 t3:=Tryz.underlying3
 a3:=Tryz.isAgg3
 z3:=Tryz.sizeOf3
 v3:=Tryz.zeroValue3
 t4:=Tryz.underlying4
 a4:=Tryz.isAgg4
 z4:=Tryz.sizeOf4
 v4:=Tryz.zeroValue4
 t9:=Tryz.underlying9
 a9:=Tryz.isAgg9
 z9:=Tryz.sizeOf9
 v9:=Tryz.zeroValue9
 t20:=Tryz.underlying20
 a20:=Tryz.isAgg20
 z20:=Tryz.sizeOf20
 v20:=Tryz.zeroValue20
 t31:=Tryz.underlying36
 a31:=Tryz.isAgg36
 z31:=Tryz.sizeOf36
 v31:=Tryz.zeroValue36
 t37:=Tryz.underlying27
 a37:=Tryz.isAgg27
 z37:=Tryz.sizeOf27
 v37:=Tryz.zeroValue27
 t70:=Tryz.underlying59
 a70:=Tryz.isAgg59
 z70:=Tryz.sizeOf59
 v70:=Tryz.zeroValue59
 t72:=Tryz.underlying61
 a72:=Tryz.isAgg61
 z72:=Tryz.sizeOf61
 v72:=Tryz.zeroValue61
 t75:=Tryz.underlying64
 a75:=Tryz.isAgg64
 z75:=Tryz.sizeOf64
 v75:=Tryz.zeroValue64
 t76:=Tryz.underlying65
 a76:=Tryz.isAgg65
 z76:=Tryz.sizeOf65
 v76:=Tryz.zeroValue65
 t127:=Tryz.underlying88
 a127:=Tryz.isAgg88
 z127:=Tryz.sizeOf88
 v127:=Tryz.zeroValue88
 t164:=Tryz.underlying110
 a164:=Tryz.isAgg110
 z164:=Tryz.sizeOf110
 v164:=Tryz.zeroValue110}
theorem Tryz.Builder_Extra_156:Builder.Extra Tryz.prog Tryz.lays156_ren:={
 sizeBuilder:=by kernel_rfl
 liesBuilder:=by kernel_rfl
 t5:=Tryz.underlying5
 a5:=Tryz.isAgg5
 z5:=Tryz.sizeOf5
 v5:=Tryz.zeroValue5
 infoByte:=by kernel_rfl
 cellsByte:=by kernel_rfl
 sizeByte:=by kernel_rfl
 neB5:=by decide}
open Go.RowKit in
theorem Tryz.strings_Join_none (a:Option Addr) (c:Nat) (sep:ByteArray) (w:World):
  Calls Tryz.prog 51 #[.slice a 0 c,.string sep] w fun e w'=>e=.returned (.string ⟨#[]⟩)∧w'=w:=Any.strings_Join_none Tryz.lays156 Tryz.Builder_Extra_156 a c sep w
open Go.RowKit in
theorem Tryz.strings_Join (bk o c:Nat) (xs:List ByteArray) (sep:ByteArray) (w:World) (hcells:∀(j:Nat) x,xs[j]? =some x→w.cell? ⟨bk,o+j,none⟩=some (.string x)) (hbk:bk<w.heap.size) (hN:xs.length≤140737488355328) (hcap:xs.length≤c) (hlen:(Lib.join (xs.map (·.data.toList)) sep.data.toList).length≤140737488355328):
  Calls Tryz.prog 51 #[.slice (some ⟨bk,o,none⟩) xs.length c,.string sep] w fun e w'=>e=.returned (.string ⟨(Lib.join (xs.map (·.data.toList)) sep.data.toList).toArray⟩)∧Below w.heap.size w w':=Any.strings_Join Tryz.lays156 Tryz.Builder_Extra_156 bk o c xs sep w hcells hbk hN hcap hlen
def Tryz.laysM171_ren:Go.Shelf.Ren:=⟨fun|171=>88|243=>130|246=>171|283=>195|284=>196|285=>197|286=>198|129=>209|317=>215|318=>216|319=>217|320=>218|337=>226|338=>227|n=>n,fun|3=>3|9=>9|2=>2|4=>4|171=>121|0=>0|53=>122|37=>27|5=>5|173=>125|212=>140|51=>137|20=>20|213=>141|46=>114|232=>152|233=>153|n=>n,fun|17=>1|18=>2|19=>3|n=>n⟩
theorem Tryz.laysM171:Go.Proofs.LaysM.n171 Tryz.prog Tryz.laysM171_ren:={
 mixed:=by kernel_rfl
 f129:=Tryz.func209.trans (congrArg some (by kernel_rfl))
 f171:=Tryz.func88.trans (congrArg some (by kernel_rfl))
 f243:=Tryz.func130.trans (congrArg some (by kernel_rfl))
 f246:=Tryz.func171.trans (congrArg some (by kernel_rfl))
 f283:=Tryz.func195.trans (congrArg some (by kernel_rfl))
 f284:=Tryz.func196.trans (congrArg some (by kernel_rfl))
 f285:=Tryz.func197.trans (congrArg some (by kernel_rfl))
 f286:=Tryz.func198.trans (congrArg some (by kernel_rfl))
 f317:=Tryz.func215.trans (congrArg some (by kernel_rfl))
 f318:=Tryz.func216.trans (congrArg some (by kernel_rfl))
 f319:=Tryz.func217.trans (congrArg some (by kernel_rfl))
 f320:=Tryz.func218.trans (congrArg some (by kernel_rfl))
 f337:=Tryz.func226.trans (congrArg some (by kernel_rfl))
 f338:=Tryz.func227.trans (congrArg some (by kernel_rfl))
 t0:=Tryz.underlying0
 a0:=Tryz.isAgg0
 z0:=Tryz.sizeOf0
 v0:=Tryz.zeroValue0
 t2:=Tryz.underlying2
 a2:=Tryz.isAgg2
 z2:=Tryz.sizeOf2
 v2:=Tryz.zeroValue2
 t3:=Tryz.underlying3
 a3:=Tryz.isAgg3
 z3:=Tryz.sizeOf3
 v3:=Tryz.zeroValue3
 t4:=Tryz.underlying4
 a4:=Tryz.isAgg4
 z4:=Tryz.sizeOf4
 v4:=Tryz.zeroValue4
 t5:=Tryz.underlying5
 a5:=Tryz.isAgg5
 z5:=Tryz.sizeOf5
 v5:=Tryz.zeroValue5
 t9:=Tryz.underlying9
 a9:=Tryz.isAgg9
 z9:=Tryz.sizeOf9
 v9:=Tryz.zeroValue9
 t20:=Tryz.underlying20
 a20:=Tryz.isAgg20
 z20:=Tryz.sizeOf20
 v20:=Tryz.zeroValue20
 t37:=Tryz.underlying27
 a37:=Tryz.isAgg27
 z37:=Tryz.sizeOf27
 v37:=Tryz.zeroValue27
 t46:=Tryz.underlying114
 a46:=Tryz.isAgg114
 z46:=Tryz.sizeOf114
 v46:=Tryz.zeroValue114
 t51:=Tryz.underlying137
 a51:=Tryz.isAgg137
 z51:=Tryz.sizeOf137
 v51:=Tryz.zeroValue137
 t53:=Tryz.underlying122
 a53:=Tryz.isAgg122
 z53:=Tryz.sizeOf122
 v53:=Tryz.zeroValue122
 t171:=Tryz.underlying121
 a171:=Tryz.isAgg121
 z171:=Tryz.sizeOf121
 v171:=Tryz.zeroValue121
 t173:=Tryz.underlying125
 a173:=Tryz.isAgg125
 z173:=Tryz.sizeOf125
 v173:=Tryz.zeroValue125
 t212:=Tryz.underlying140
 a212:=Tryz.isAgg140
 z212:=Tryz.sizeOf140
 v212:=Tryz.zeroValue140
 t213:=Tryz.underlying141
 a213:=Tryz.isAgg141
 z213:=Tryz.sizeOf141
 t232:=Tryz.underlying152
 a232:=Tryz.isAgg152
 z232:=Tryz.sizeOf152
 v232:=Tryz.zeroValue152
 t233:=Tryz.underlying153
 a233:=Tryz.isAgg153
 z233:=Tryz.sizeOf153
 v233:=Tryz.zeroValue153
 g17:=by kernel_rfl
 g18:=by kernel_rfl
 g19:=by kernel_rfl
 i0:=by kernel_rfl
 i2:=by kernel_rfl
 i3:=by kernel_rfl
 i4:=by kernel_rfl
 i5:=by kernel_rfl
 i9:=by kernel_rfl
 i20:=by kernel_rfl
 i37:=by kernel_rfl
 i46:=by kernel_rfl
 i51:=by kernel_rfl
 i53:=by kernel_rfl
 i171:=by kernel_rfl
 i173:=by kernel_rfl
 i212:=by kernel_rfl
 i232:=by kernel_rfl
 i233:=by kernel_rfl
 m17:=by kernel_rfl
 m18:=by kernel_rfl
 m19:=by kernel_rfl}
open Go.RowKit Go.Sort Go.Lib in
theorem Tryz.strconv_Itoa (n:Int) (h0: -9223372036854775808≤n) (h1:n≤9223372036854775807) (w:World) (htab:Lib.TabIs Tryz.prog w "internal/strconv.uint64pow10" .u64 Lib.pow10Tab):
  Calls Tryz.prog 88 #[.int .i64 n] w fun e w'=>e=.returned (.string ⟨(Lib.itoa n).toArray⟩)∧∃k os,w'=grow (w.drewN k) os:=Any.strconv_Itoa Tryz.laysM171 n h0 h1 w htab
def Tryz.lays171_ren:Go.Shelf.Ren:=⟨fun|171=>88|243=>130|246=>171|283=>195|284=>196|285=>197|286=>198|129=>209|317=>215|318=>216|319=>217|320=>218|337=>226|338=>227|n=>n,fun|3=>3|9=>9|2=>2|4=>4|171=>121|0=>0|53=>122|37=>27|5=>5|173=>125|212=>140|51=>137|20=>20|213=>141|46=>114|232=>152|233=>153|n=>n,fun|17=>1|18=>2|19=>3|n=>n⟩
theorem Tryz.lays171:Go.Proofs.Lays.n171 Tryz.prog Tryz.lays171_ren:={
 mixed:=by kernel_rfl
 f129:=Tryz.func209.trans (congrArg some (by kernel_rfl))
 f171:=Tryz.func88.trans (congrArg some (by kernel_rfl))
 f243:=Tryz.func130.trans (congrArg some (by kernel_rfl))
 f246:=Tryz.func171.trans (congrArg some (by kernel_rfl))
 f283:=Tryz.func195.trans (congrArg some (by kernel_rfl))
 f284:=Tryz.func196.trans (congrArg some (by kernel_rfl))
 f285:=Tryz.func197.trans (congrArg some (by kernel_rfl))
 f286:=Tryz.func198.trans (congrArg some (by kernel_rfl))
 f317:=Tryz.func215.trans (congrArg some (by kernel_rfl))
 f318:=Tryz.func216.trans (congrArg some (by kernel_rfl))
 f319:=Tryz.func217.trans (congrArg some (by kernel_rfl))
 f320:=Tryz.func218.trans (congrArg some (by kernel_rfl))
 f337:=Tryz.func226.trans (congrArg some (by kernel_rfl))
 f338:=Tryz.func227.trans (congrArg some (by kernel_rfl))
 t0:=Tryz.underlying0
 a0:=Tryz.isAgg0
 z0:=Tryz.sizeOf0
 v0:=Tryz.zeroValue0
 t2:=Tryz.underlying2
 a2:=Tryz.isAgg2
 z2:=Tryz.sizeOf2
 v2:=Tryz.zeroValue2
 t3:=Tryz.underlying3
 a3:=Tryz.isAgg3
 z3:=Tryz.sizeOf3
 v3:=Tryz.zeroValue3
 t4:=Tryz.underlying4
 a4:=Tryz.isAgg4
 z4:=Tryz.sizeOf4
 v4:=Tryz.zeroValue4
 t5:=Tryz.underlying5
 a5:=Tryz.isAgg5
 z5:=Tryz.sizeOf5
 v5:=Tryz.zeroValue5
 t9:=Tryz.underlying9
 a9:=Tryz.isAgg9
 z9:=Tryz.sizeOf9
 v9:=Tryz.zeroValue9
 t20:=Tryz.underlying20
 a20:=Tryz.isAgg20
 z20:=Tryz.sizeOf20
 v20:=Tryz.zeroValue20
 t37:=Tryz.underlying27
 a37:=Tryz.isAgg27
 z37:=Tryz.sizeOf27
 v37:=Tryz.zeroValue27
 t46:=Tryz.underlying114
 a46:=Tryz.isAgg114
 z46:=Tryz.sizeOf114
 v46:=Tryz.zeroValue114
 t51:=Tryz.underlying137
 a51:=Tryz.isAgg137
 z51:=Tryz.sizeOf137
 v51:=Tryz.zeroValue137
 t53:=Tryz.underlying122
 a53:=Tryz.isAgg122
 z53:=Tryz.sizeOf122
 v53:=Tryz.zeroValue122
 t171:=Tryz.underlying121
 a171:=Tryz.isAgg121
 z171:=Tryz.sizeOf121
 v171:=Tryz.zeroValue121
 t173:=Tryz.underlying125
 a173:=Tryz.isAgg125
 z173:=Tryz.sizeOf125
 v173:=Tryz.zeroValue125
 t212:=Tryz.underlying140
 a212:=Tryz.isAgg140
 z212:=Tryz.sizeOf140
 v212:=Tryz.zeroValue140
 t213:=Tryz.underlying141
 a213:=Tryz.isAgg141
 z213:=Tryz.sizeOf141
 t232:=Tryz.underlying152
 a232:=Tryz.isAgg152
 z232:=Tryz.sizeOf152
 v232:=Tryz.zeroValue152
 t233:=Tryz.underlying153
 a233:=Tryz.isAgg153
 z233:=Tryz.sizeOf153
 v233:=Tryz.zeroValue153
 g17:=by kernel_rfl
 g18:=by kernel_rfl
 g19:=by kernel_rfl}
open Go.RowKit Go.Sort Go.Lib in
theorem Tryz.strconv_Itoa_small (i:Nat) (hi:i<100) (w:World):
  Calls Tryz.prog 88 #[.int .i64 i] w fun e w'=>e=.returned (.string ⟨(Lib.decDigits i).toArray⟩)∧w'=w:=Any.strconv_Itoa_small Tryz.lays171 i hi w
def Tryz.laysNm215_ren:Go.Shelf.Ren:=⟨fun|15=>132|n=>n,fun|22=>22|3=>3|4=>4|n=>n,fun|n=>n⟩
theorem Tryz.laysNm215:Go.Proofs.Lays2.n15 Tryz.prog Tryz.laysNm215_ren:={
 mixed:=by kernel_rfl
 f15:=Tryz.func132.trans (congrArg some (by kernel_rfl))
 t3:=Tryz.underlying3
 a3:=Tryz.isAgg3
 z3:=Tryz.sizeOf3
 v3:=Tryz.zeroValue3
 t4:=Tryz.underlying4
 a4:=Tryz.isAgg4
 z4:=Tryz.sizeOf4
 v4:=Tryz.zeroValue4
 t22:=Tryz.underlying22
 a22:=Tryz.isAgg22
 z22:=Tryz.sizeOf22
 v22:=Tryz.zeroValue22
 i3:=by kernel_rfl}
open Go.RowKit Go.Lib in
theorem Tryz.slices_Clone_int (b off n c:Nat) (zs:List Int) (w:World) (hz:n≤zs.length) (hbig:n*8≤140737488355328) (hc:∀j,j<zs.length→w.cell? ⟨b,off+j,none⟩=some (.int .i64 (zs.getD j 0))):
  Calls Tryz.prog 132 #[.slice (some ⟨b,off,none⟩) n c] w fun e w'=>∃v',e=.returned v'∧w'.ownsRow w.heap.size 3 1 v' n ((zs.take n).map (Value.int .i64))∧v'≠ .slice none 0 0∧Below w.heap.size w w':=Any.slices_Clone_int Tryz.laysNm215 b off n c zs w hz hbig hc
open Go.RowKit Go.Lib in
theorem Tryz.slices_Clone_int_nil (n c:Nat) (w:World):
  Calls Tryz.prog 132 #[.slice none n c] w fun e w'=>e=.returned (.slice none 0 0)∧w'=w:=Any.slices_Clone_int_nil Tryz.laysNm215 n c w
open Go.RowKit Go.Lib in
theorem Tryz.slices_Clone_int_zero (a:Addr) (c:Nat) (w:World):
  Calls Tryz.prog 132 #[.slice (some a) 0 c] w fun e w'=>∃v',e=.returned v'∧w'.ownsRow w.heap.size 3 1 v' 0 []∧v'≠ .slice none 0 0∧Below w.heap.size w w':=Any.slices_Clone_int_zero Tryz.laysNm215 a c w
def Tryz.laysGrow_ren:Go.Shelf.Ren:=⟨fun|4=>225|n=>n,fun|22=>22|25=>3|3=>3|4=>4|9=>9|20=>20|0=>0|n=>n,fun|n=>n⟩
theorem Tryz.laysGrow:Go.Proofs.Lays8.n4 Tryz.prog Tryz.laysGrow_ren:={
 mixed:=by kernel_rfl
 f4:=⟨Tryz.f225.name,by decide,Tryz.func225.trans (congrArg some (by kernel_rfl))⟩
 t0:=Tryz.underlying0
 a0:=Tryz.isAgg0
 z0:=Tryz.sizeOf0
 v0:=Tryz.zeroValue0
 t3:=Tryz.underlying3
 a3:=Tryz.isAgg3
 z3:=Tryz.sizeOf3
 v3:=Tryz.zeroValue3
 t4:=Tryz.underlying4
 a4:=Tryz.isAgg4
 z4:=Tryz.sizeOf4
 v4:=Tryz.zeroValue4
 t9:=Tryz.underlying9
 a9:=Tryz.isAgg9
 z9:=Tryz.sizeOf9
 v9:=Tryz.zeroValue9
 t20:=Tryz.underlying20
 a20:=Tryz.isAgg20
 z20:=Tryz.sizeOf20
 v20:=Tryz.zeroValue20
 t22:=Tryz.underlying22
 a22:=Tryz.isAgg22
 z22:=Tryz.sizeOf22
 v22:=Tryz.zeroValue22}
open Go.RowKit Go.Lib in
theorem Tryz.slices_Grow_room (base:Option Addr) (l c n:Nat) (w:World) (hlc:l≤c) (hc63:c≤9223372036854775807) (hn63:n≤9223372036854775807) (hroom:l+n≤c):
  Calls Tryz.prog 225 #[.slice base l c,.int .i64 n] w fun e w'=>e=.returned (.slice base l c)∧w'=w:=Any8.slices_Grow_room Tryz.laysGrow base l c n w hlc hc63 hn63 hroom
end Go.Proofs
namespace Go.Gl
open Go Go.Proofs
variable [Amb] [NoQ]
theorem slices_Clone_c {m0:Bool} (l:List Int) (hl:l.length≤1099511627776):
  Fun Tryz.prog 132 [.sl (.lent m0) (List.map (.int .i64) l)] [.sl .own (List.map (.int .i64) l)]:=by
 refine Fun.of_row 3 Tryz.func132 rfl rfl nrL_int (by intro x hx;rw[List.mem_map]at hx;obtain⟨_,_,rfl⟩:=hx;rfl) ?_
 intro w F G vs _ hv
 simp only[RepL]at hv
 obtain⟨a,vs1,rfl,ha,rfl⟩:=hv
 have e1:(l.map (PV.int .i64)).map pvV=l.map (Value.int .i64):=by simp[Function.comp_def,pvV,plV]
 simp only[RepP]at ha
 obtain⟨a,cap,rfl,h1,h2,ho,h3⟩:=ha
 rw[e1,List.length_map]at*
 by_cases hn:a=none
 ·subst hn
  have hl0:l=[]:=by
   rcases h3 with h3|⟨B,off,h3,_⟩
   ·simpa using h3
   ·cases h3
  subst hl0
  exact(Tryz.slices_Clone_int_nil _ _ w).mono fun e w' h=>⟨_,h.1,⟨by simp,.inl ⟨rfl,rfl⟩⟩,h.2▸Go.RowKit.Below.refl _ _⟩
 ·obtain⟨ad,rfl⟩:∃ad,a=some ad:=by cases a with|none=>exact absurd rfl hn|some ad=>exact⟨ad,rfl⟩
  by_cases hl0:l=[]
  ·subst hl0
   exact(Tryz.slices_Clone_int_zero ad cap w).mono fun e w' ⟨v,hv,hr,_,hw⟩=>⟨v,hv,hr,hw⟩
  ·rcases h3 with h3|⟨B,off,h3,_,_,hc⟩
   ·simp at h3;exact absurd h3 hl0
   ·cases h3
    rw[RepC_iff]at hc
    have:=Tryz.slices_Clone_int B off l.length cap l w (Nat.le_refl _) (by omega) (fun j hj=>by
     obtain⟨u,hu,_,hr⟩:=hc j (.int .i64 (l.getD j 0)) (by rw[List.getElem?_map,List.getD_eq_getElem?_getD,List.getElem?_eq_getElem hj];rfl)
     rw[repP_i hr]at hu;exact hu)
    rw[List.take_length]at this
    exact this.mono fun e w' ⟨v,hv,hr,_,hw⟩=>⟨v,hv,hr,hw⟩
def markL (n:Nat) (k:Int):List Int:=(List.range n).map fun i:Nat=>k+(i:Int)
theorem markL_length {n:Nat} {k:Int}:(markL n k).length=n:=by simp[markL]
theorem take_succ_iff {a b:List Int} {k:Nat} (ha:k<a.length) (hb:k<b.length):a.take (k+1)=b.take (k+1)↔a.take k=b.take k∧a.getD k 0=b.getD k 0:=by
 rw[List.take_add_one,List.take_add_one,List.getD_eq_getElem?_getD,List.getD_eq_getElem?_getD,List.getElem?_eq_getElem ha,List.getElem?_eq_getElem hb]
 simp only[Option.toList_some,Option.getD_some]
 constructor
 ·intro h
  have:=List.append_inj h (by simp;omega)
  exact⟨this.1,by simpa using this.2⟩
 ·rintro⟨h1,h2⟩;rw[h1,h2]
theorem laws_eqIntS_c {m0 m1:Bool} (a b:List Int) (ha:a.length≤1099511627776) (hb:b.length≤1099511627776):Fun Tryz.prog 8 [(.sl (.lent m0) (List.map (PV.int .i64) (a))),(.sl (.lent m1) (List.map (PV.int .i64) (b)))] [(.bool (decide (a=b)))]:=by
 refine fO sg0 [4] Tryz.func8 ?_
 refine dE trivial ?_
 all_goals try (refine zlf ?_;repeat' first|exact zso|refine And.intro ?_ ?_|(refine zim ?_;intro zb hc)|(refine zin ?_;intro zb)|intro j')
 all_goals try refine zbx ?_
 ·rw[decide_eq_false];intro e;subst e;exact hc rfl
 refine v_loopB (fun ms1 S1=>∃(k:Nat),S1.e 0=.p (.sl (.lent m0) (List.map (PV.int .i64) (a)))∧S1.e 1=.p (.sl (.lent m1) (List.map (PV.int .i64) (b)))∧S1.e 5=.p (.int .i64 (k))∧(k≤a.length)∧(a.take k=b.take k)∧ms1=a.length - k) ((fun(k:Nat)=>a.length - k) (0)) ?_ ⟨0,dIa trivial ?_⟩
 all_goals try (refine zlf ?_;repeat' first|exact zso|refine And.intro ?_ ?_|(refine zim ?_;intro zb hc)|(refine zin ?_;intro zb)|intro j')
 all_goals try refine zbx ?_
 rintro ms1 S1 ⟨k,h1_0,h1_1,h1_5,c1_0,c1_1,hm1⟩
 have fL1:=(And.intro h1_0 (And.intro h1_1 h1_5))
 refine dEa fL1 ?_
 all_goals try (refine zlf ?_;repeat' first|exact zso|refine And.intro ?_ ?_|(refine zim ?_;intro zb hc)|(refine zin ?_;intro zb)|intro j')
 all_goals try refine zbx ?_
 ·rw[decide_eq_false];intro e;subst e;exact hc rfl
 ·focus
   refine q_lp_n ((fun(k:Nat)=>a.length - k) (k+1)) (dC fL1 ?_) ⟨k+1,dC fL1 ?_⟩
   all_goals try (refine zlf ?_;repeat' first|exact zso|refine And.intro ?_ ?_|(refine zim ?_;intro zb hc)|(refine zin ?_;intro zb)|intro j')
   all_goals try refine zbx ?_
  rw[take_succ_iff (by omega) (by omega)];exact⟨c1_1,hc⟩
 ·rw[decide_eq_true]
  rw[List.take_of_length_le (by omega),List.take_of_length_le (by omega)]at c1_1;exact c1_1
theorem set_take' {α:Type} {c:List α} {i:Nat} {x:α} (h:i<c.length):(c.set i x).take (i+1)=c.take i++[x]:=by
 rw[List.take_add_one,List.take_set_of_le (Nat.le_refl _),List.getElem?_set_self h];rfl
theorem take_getD {α:Type} {l:List α} {i:Nat} {d:α} (h:i<l.length):l.take (i+1)=l.take i++[l.getD i d]:=by
 rw[List.take_add_one,List.getD_eq_getElem?_getD,List.getElem?_eq_getElem h];rfl
theorem laws_toIntS_c {m0:Bool} (l:List Int) (hl:l.length≤1099511627776):Fun Tryz.prog 6 [(.sl (.lent m0) (List.map (PV.int .i64) (l)))] [(.sl .own (List.map (PV.int .i64) (l)))]:=by
 refine fO sg0 [2] Tryz.func6 ?_
 refine dEa trivial ?_
 all_goals try (refine zlf ?_;repeat' first|exact zso|refine And.intro ?_ ?_|(refine zim ?_;intro zb hc)|(refine zin ?_;intro zb)|intro j')
 all_goals try refine zbx ?_
 refine v_loopB (fun ms1 S1=>∃(i:Nat) (c:List Int),S1.e 0=.p (.sl (.lent m0) (List.map (PV.int .i64) (l)))∧OwnL (S1.e 3) S1.h S1.n (PV.int .i64) ((c).length) (c)∧S1.e 4=.p (.int .i64 (i))∧(i≤l.length)∧(c.length=l.length)∧(c.take i=l.take i)∧ms1=l.length - i) ((fun(i:Nat) (c:List Int)=>l.length - i) (0) (List.replicate l.length 0)) ?_ ⟨0,List.replicate l.length 0,dIa trivial ?_⟩
 all_goals try (refine zlf ?_;repeat' first|exact zso|refine And.intro ?_ ?_|(refine zim ?_;intro zb hc)|(refine zin ?_;intro zb)|intro j')
 all_goals try refine zbx ?_
 rintro ms1 S1 ⟨i,c,h1_0,o1_3,h1_4,c1_0,c1_1,c1_2,hm1⟩
 obtain⟨i1_3,h1_3,b1_3,l1_3⟩:=o1_3.out
 have ni1_3:=znds (x:=i1_3) (n:=S1.n)
 have fL1:=(And.intro h1_0 (And.intro h1_4 (And.intro h1_3 (And.intro b1_3 ni1_3))))
 refine dEa fL1 ?_
 all_goals try (refine zlf ?_;repeat' first|exact zso|refine And.intro ?_ ?_|(refine zim ?_;intro zb hc)|(refine zin ?_;intro zb)|intro j')
 all_goals try refine zbx ?_
 ·focus
   refine q_lp_n ((fun(i:Nat) (c:List Int)=>l.length - i) (i+1) (c.set i (l.getD i 0))) (dC fL1 ?_) ⟨i+1,c.set i (l.getD i 0),dC fL1 ?_⟩
   all_goals try (refine zlf ?_;repeat' first|exact zso|refine And.intro ?_ ?_|(refine zim ?_;intro zb hc)|(refine zin ?_;intro zb)|intro j')
   all_goals try refine zbx ?_
  rw[set_take' (by omega),c1_2,take_getD hc]
 ·rw[List.take_of_length_le (by omega),List.take_of_length_le (by omega)]at c1_2;rw[c1_2]
theorem mk_take {n:Nat} {k:Int}:List.take n (markL n k)=markL n k:=by
 rw[List.take_of_length_le];simp[markL_length]
attribute [go_sem] mk_take markL_length List.not_mem_nil List.mem_cons or_false
theorem dropL_at {α:Type} {l:List (List α)} {i:Nat} (h:i<l.length):l.drop i=l.getD i []::l.drop (i+1):=by
 rw[List.drop_eq_getElem_cons h,List.getD_eq_getElem?_getD,List.getElem?_eq_getElem h];rfl
theorem getD_mem {α:Type} {l:List α} {i:Nat} {d:α} (h:i<l.length):l.getD i d∈l:=by
 rw[List.getD_eq_getElem?_getD,List.getElem?_eq_getElem h];exact List.getElem_mem h
theorem tk1 {α:Type} {l:List α} {x:α}:List.take (l.length+1) (l++[x])=l++[x]:=List.take_of_length_le (by simp)
def mkLL:List Nat→Int→List (List Int)
 |[],_=>[]
 |n::ns,k=>markL n k::mkLL ns (k+n)
theorem mkLL_len:∀{ns:List Nat} {k:Int},(mkLL ns k).length=ns.length
 |[],_=>rfl
 |_::ns,_=>by simp only[mkLL,List.length_cons,mkLL_len]
theorem mkLL_take {L:List (List Int)} {k:Int}:List.take L.length (mkLL (L.map List.length) k)=mkLL (L.map List.length) k:=by
 rw[List.take_of_length_le];rw[mkLL_len,List.length_map];exact Nat.le_refl _
attribute [go_sem] mkLL_take mkLL_len
theorem permGo_iff {n:Int}:∀{p seen:List Int},permGo n seen p=true↔(∀v∈p,1≤v∧v≤n)∧p.Nodup∧∀v∈p,v∉seen
 |[],seen=>by simp[permGo]
 |v::p,seen=>by
  rw[permGo,Bool.and_eq_true,permGo_iff]
  simp only[Bool.and_eq_true,decide_eq_true_eq,Bool.not_eq_true',List.nodup_cons,List.mem_append,List.mem_singleton]
  constructor
  ·rintro⟨⟨⟨h1,h2⟩,h3⟩,h4,h5,h6⟩
   have h3':v∉seen:=fun h=>by rw[←List.contains_iff_mem]at h;rw[h]at h3;cases h3
   refine⟨fun x hx=> ?_,⟨fun hv=>h6 v hv (.inr rfl),h5⟩,fun x hx=> ?_⟩
   ·rcases List.mem_cons.1 hx with rfl|hx
    ·exact⟨h1,h2⟩
    ·exact h4 x hx
   ·rcases List.mem_cons.1 hx with rfl|hx
    ·exact h3'
    ·exact fun hs=>h6 x hx (.inl hs)
  ·rintro⟨h1,⟨h2,h3⟩,h4⟩
   have h5:=h1 v (by simp)
   refine⟨⟨⟨h5.1,h5.2⟩, ?_⟩,fun x hx=>h1 x (by simp[hx]),h3,fun x hx=> ?_⟩
   ·rw[←Bool.not_eq_true,List.contains_iff_mem];exact h4 v (by simp)
   ·rintro(hs|rfl)
    ·exact h4 x (by simp[hx]) hs
    ·exact h2 hx
theorem permB_iff {p:List Int}:permB p=true↔(∀v∈p,1≤v∧v≤p.length)∧p.Nodup:=by
 rw[permB,permGo_iff];simp
theorem len_two {α:Type} (p:α→Bool):∀(l:List α),l.length=(l.filter p).length+(l.filter fun x=> !p x).length
 |[]=>rfl
 |x::l=>by
  have:=len_two p l
  rw[List.filter_cons,List.filter_cons]
  cases p x<;>simp<;>omega
theorem nodup_le:∀{n:Nat} {l:List Int} {a:Int},l.Nodup→(∀x∈l,a<x∧x≤a+n)→l.length≤n
 |0,l,a,_,hb=>by
  cases l with
  |nil=>simp
  |cons x l=>have:=hb x (by simp);omega
 |n+1,l,a,hn,hb=>by
  have h1:(l.filter fun x=>decide (x≠a+(n+1:Nat))).length≤n:=nodup_le (a:=a) (List.Nodup.sublist List.filter_sublist hn) fun x hx=>by
   simp only[List.mem_filter,decide_eq_true_eq]at hx
   have:=hb x hx.1
   refine⟨this.1, ?_⟩
   have h2:=hx.2
   push_cast at h2 this ⊢
   omega
  have h2:l.length≤(l.filter fun x=>decide (x≠a+(n+1:Nat))).length+1:=by
   have h3:=len_two (fun x=>decide (x≠a+(n+1:Nat))) l
   have h4:(l.filter fun x=> !decide (x≠a+(n+1:Nat))).length≤1:=by
    have h5:(l.filter fun x=> !decide (x≠a+(n+1:Nat))).Nodup:=List.Nodup.sublist List.filter_sublist hn
    have h6:∀x∈l.filter (fun x=> !decide (x≠a+(n+1:Nat))),x=a+(n+1:Nat):=fun x hx=>by
     simp only[List.mem_filter]at hx;simpa using hx.2
    revert h5 h6
    generalize l.filter (fun x=> !decide (x≠a+(n+1:Nat)))=q
    intro h5 h6
    match q,h5,h6 with
    |[],_,_=>simp
    |[x],_,_=>simp
    |x::y::r,h5,h6=>
     have e1:=h6 x (by simp)
     have e2:=h6 y (by simp)
     simp only[List.nodup_cons,List.mem_cons,not_or]at h5
     exact absurd (e1.trans e2.symm) h5.1.1
   omega
  omega
theorem perm_mem {p:List Int} (h:permB p=true) {v:Int} (h1:1≤v) (h2:v≤p.length):v∈p:=by
 obtain⟨q1,q2⟩:=permB_iff.1 h
 by_cases hm:v∈p
 ·exact hm
 ·exfalso
  have:=nodup_le (n:=p.length) (a:=0) (l:=v::p) (List.nodup_cons.2 ⟨hm,q2⟩) fun x hx=>by
   rcases List.mem_cons.1 hx with rfl|hx
   ·omega
   ·have:=q1 x hx;omega
  simp at this;omega
theorem perm_inj {p:List Int} (h:permB p=true) {i j:Nat} (hi:i<p.length) (hj:j<p.length) (e:p.getD i 0=p.getD j 0):i=j:=by
 obtain⟨q1,q2⟩:=permB_iff.1 h
 rw[List.getD_eq_getElem?_getD,List.getElem?_eq_getElem hi,List.getD_eq_getElem?_getD,List.getElem?_eq_getElem hj]at e
 exact(List.getElem_inj q2).1 e
def gtC (v:Int):List Int→Int
 |[]=>0
 |w::l=>bitI (decide (v<w))+gtC v l
def invN (p:List Int):Nat→Int
 |0=>0
 |k+1=>invN p k+gtC (p.getD k 0) (p.take k)
theorem gtC_snoc {v x:Int}:∀{l:List Int},gtC v (l++[x])=gtC v l+bitI (decide (v<x))
 |[]=>by simp[gtC]
 |w::l=>by rw[List.cons_append,gtC,gtC,gtC_snoc];omega
theorem gtC_r {v:Int}:∀{l:List Int},0≤gtC v l∧gtC v l≤l.length
 |[]=>by simp[gtC]
 |w::l=>by have:=gtC_r (v:=v) (l:=l);have:=bitI_r (decide (v<w));rw[gtC,List.length_cons];omega
theorem invN_b {p:List Int}:∀{k:Nat},k≤p.length→0≤invN p k∧invN p k≤(p.length*k:Nat)
 |0,_=>by simp[invN]
 |k+1,h=>by
  have ih:=invN_b (p:=p) (k:=k) (by omega)
  have h1:=gtC_r (v:=p.getD k 0) (l:=p.take k)
  rw[List.length_take]at h1
  rw[invN,Nat.mul_succ];omega
theorem spec_CountInversions_c {m0:Bool} (p:List Int) (hp:p.length≤1048576):Fun Tryz.prog 28 [(.sl (.lent m0) (List.map (PV.int .i64) (p)))] [(.int .i64 ((if isPermB p then invN p p.length else -1)))]:=by
 by_cases h:isPermB p=true
 ·rw[if_pos h]
  have h8:p.length≤8:=by simp[isPermB]at h;exact h.1
  have hb:∀k,0≤invN p k∧invN p k≤8*(k:Int):=fun k=>by
   induction k with
   |zero=>simp[invN]
   |succ k ih=>
    have:=gtC_r (v:=p.getD k 0) (l:=p.take k)
    rw[List.length_take]at this
    rw[invN];omega
  refine fO sg0 [2] Tryz.func28 ?_
  have cE1:= @spec_l1Bit_c;have cE2:= @spec_IsPerm_c;have cD1:=zdh [false,false,false,false,false,false,false,false,false,false,true,false,false] [(0,10)]
  refine dEa @h ?_
  all_goals try (refine zlf ?_;repeat' first|exact zso|refine And.intro ?_ ?_|(refine zim ?_;intro zb hc)|(refine zin ?_;intro zb)|intro j')
  all_goals try refine zbx ?_
  refine v_loopB (fun ms1 S1=>∃(k:Nat),S1.e 0=.p (.sl (.lent m0) (List.map (PV.int .i64) (p)))∧S1.e 3=.p (.int .i64 (invN p k))∧S1.e 4=.p (.int .i64 (k))∧(k≤p.length)∧ms1=p.length - k) ((fun(k:Nat)=>p.length - k) (0)) ?_ ⟨0,dC trivial ?_⟩
  all_goals try (refine zlf ?_;repeat' first|exact zso|refine And.intro ?_ ?_|(refine zim ?_;intro zb hc)|(refine zin ?_;intro zb)|intro j')
  all_goals try refine zbx ?_
  rintro ms1 S1 ⟨k,h1_0,h1_3,h1_4,c1_0,hm1⟩
  have fL1:=(And.intro h1_0 (And.intro h1_3 h1_4))
  ·have b1:=hb k
   refine dEa fL1 ?_
   all_goals try (refine zlf ?_;repeat' first|exact zso|refine And.intro ?_ ?_|(refine zim ?_;intro zb hc)|(refine zin ?_;intro zb)|intro j')
   all_goals try refine zbx ?_
   ·refine v_loopB (fun ms2 S2=>∃(i:Nat),S2.e 0=.p (.sl (.lent m0) (List.map (PV.int .i64) (p)))∧S2.e 3=.p (.int .i64 ((invN p k+gtC (p.getD k 0) (p.take i))))∧S2.e 4=.p (.int .i64 (k))∧S2.e 5=.p (.int .i64 (i))∧(i≤k)∧(k<p.length)∧S1.n≤S2.n∧ms2=k - i) ((fun(i:Nat)=>k - i) (0)) ?_ ⟨0,dC fL1 ?_⟩
    all_goals try (refine zlf ?_;repeat' first|exact zso|refine And.intro ?_ ?_|(refine zim ?_;intro zb hc)|(refine zin ?_;intro zb)|intro j')
    all_goals try refine zbx ?_
    rintro ms2 S2 ⟨i,h2_0,h2_3,h2_4,h2_5,c2_0,c2_1,u2_0,hm2⟩
    have fL2:=(And.intro h2_0 (And.intro h2_3 (And.intro h2_4 h2_5)))
    ·have b2:=gtC_r (v:=p.getD k 0) (l:=p.take i)
     have b3:=bitI_r (decide (p.getD k 0<p.getD i 0))
     rw[List.length_take]at b2
     refine dEa fL2 ?_
     all_goals try (refine zlf ?_;repeat' first|exact zso|refine And.intro ?_ ?_|(refine zim ?_;intro zb hc)|(refine zin ?_;intro zb)|intro j')
     all_goals try refine zbx ?_
     ·focus
       refine q_lp_n ((fun(i:Nat)=>k - i) (i+1)) (dC fL2 ?_) ⟨i+1,dC fL2 ?_⟩
       all_goals try (refine zlf ?_;repeat' first|exact zso|refine And.intro ?_ ?_|(refine zim ?_;intro zb hc)|(refine zin ?_;intro zb)|intro j')
       all_goals try refine zbx ?_
      rw[take_getD (d:=0) (by omega),gtC_snoc];omega
     ·focus
       refine q_lp_n ((fun(k:Nat)=>p.length - k) (k+1)) (dC fL2 ?_) ⟨k+1,dC fL2 ?_⟩
       all_goals try (refine zlf ?_;repeat' first|exact zso|refine And.intro ?_ ?_|(refine zim ?_;intro zb hc)|(refine zin ?_;intro zb)|intro j')
       all_goals try refine zbx ?_
      obtain rfl:i=k:=by omega
      rfl
    ·simp[gtC]
   ·obtain rfl:k=p.length:=by omega
    rfl
 ·rw[if_neg h]
  rw[Bool.not_eq_true]at h
  refine fO sg0 [2] Tryz.func28 ?_
  have cE1:= @spec_l1Bit_c;have cE2:= @spec_IsPerm_c;have cD1:=zdh [false,false,false,false,false,false,false,false,false,false,true,false,false] [(0,10)]
  refine dEa @h ?_
  all_goals try (refine zlf ?_;repeat' first|exact zso|refine And.intro ?_ ?_|(refine zim ?_;intro zb hc)|(refine zin ?_;intro zb)|intro j')
  all_goals try refine zbx ?_
theorem cntLt_countP {v:Int}:∀{l:List Int},cntLt v l=(l.countP (fun w=>decide (w<v)):Int)
 |[]=>rfl
 |w::l=>by
  rw[cntLt,cntLt_countP,List.countP_cons]
  by_cases h:w<v
  ·rw[decide_eq_true h,if_pos rfl,bitI,if_pos rfl];omega
  ·rw[decide_eq_false h,if_neg (by decide),bitI,if_neg (by decide)];omega
theorem cnt_app {v:Int} {a b:List Int}:cntLt v (a++b)=cntLt v a+cntLt v b:=by
 rw[cntLt_countP,cntLt_countP,cntLt_countP,List.countP_append];omega
def sumI:List Int→Int
 |[]=>0
 |x::l=>x+sumI l
theorem invN_cons {v:Int} {p:List Int}:∀{k:Nat},k≤p.length→invN (v::p) (k+1)=cntLt v (p.take k)+invN p k
 |0,_=>by simp[invN,gtC,cntLt]
 |k+1,h=>by
  show invN (v::p) (k+1)+gtC ((v::p).getD (k+1) 0) ((v::p).take (k+1))=cntLt v (p.take (k+1))+(invN p k+gtC (p.getD k 0) (p.take k))
  rw[invN_cons (k:=k) (by omega),take_getD (l:=p) (i:=k) (d:=0) (by omega),cnt_app,List.getD_cons_succ,List.take_succ_cons,gtC,cntLt,cntLt];omega
theorem inv_code:∀{p:List Int},sumI (codeGo p)=invN p p.length
 |[]=>rfl
 |v::p=>by rw[codeGo,sumI,inv_code,List.length_cons,invN_cons (Nat.le_refl _),List.take_length]
theorem sumI_snoc {x:Int}:∀{l:List Int},sumI (l++[x])=sumI l+x
 |[]=>by simp[sumI]
 |w::l=>by rw[List.cons_append,sumI,sumI,sumI_snoc];omega
theorem strings_Join_c {m0:Bool} (l:List (List UInt8)) (sep:List UInt8) (h1:l.length≤1099511627776) (h2:(Lib.join l sep).length≤1099511627776):
  Fun Tryz.prog 51 [.sl (.lent m0) (List.map .str l),.str sep] [.str (Lib.join l sep)]:=by
 refine Fun.of_plain Tryz.func51 rfl rfl rfl ?_
 intro w F G vs _ hv
 simp only[RepL]at hv
 obtain⟨a,vs1,rfl,ha,b,vs2,rfl,hb,rfl⟩:=hv
 have hb:=repP_str hb
 subst hb
 have e1:(l.map fun s=>(⟨s.toArray⟩:ByteArray)).map (·.data.toList)=l:=by simp[Function.comp_def]
 by_cases hl:l=[]
 ·subst hl
  obtain⟨a',cap,rfl⟩:=repP_nil ha
  exact(Tryz.strings_Join_none a' cap _ w).mono fun e w' h=>⟨h.1.trans (by simp[Lib.join]),h.2▸Go.RowKit.Below.refl _ _⟩
 ·obtain⟨B,off,cap,rfl,hc1,_,hB,hcells⟩:=rep_strs ha hl
  have:=Tryz.strings_Join B off cap (l.map fun s=>(⟨s.toArray⟩:ByteArray)) ⟨sep.toArray⟩ w hcells hB (by simp;omega) (by simpa using hc1) (by rw[e1];simp only;simpa using(by omega:(Lib.join l sep).length≤140737488355328))
  rw[e1,List.length_map]at this
  simpa using this
theorem permGo_mem {n:Int}:∀{p seen:List Int},permGo n seen p=true→∀v∈p,1≤v∧v≤n
 |[],_,_,v,h=>by simp at h
 |w::p,seen,h,v,hv=>by
  simp only[permGo,Bool.and_eq_true,decide_eq_true_eq]at h
  rcases List.mem_cons.1 hv with rfl|hv
  ·exact⟨h.1.1.1,h.1.1.2⟩
  ·exact permGo_mem h.2 v hv
theorem perm_at {p:List Int} (h:permB p=true) {i:Nat} (hi:i<p.length):1≤p.getD i 0∧p.getD i 0≤p.length:=by
 have:=permGo_mem h (p.getD i 0) (by rw[List.getD_eq_getElem?_getD,List.getElem?_eq_getElem hi];simp)
 exact this
theorem isPerm_facts {p:List Int} (h:isPermB p=true):p.length≤8∧permB p=true:=by
 simp only[isPermB,Bool.and_eq_true,decide_eq_true_eq]at h;exact h
def chI (v:Int):UInt8:=UInt8.ofNat (48+v).toNat
def dgN:Nat→Nat→List UInt8→List UInt8
 |0,_,acc=>acc
 |f+1,m,acc=>if m=0 then acc else dgN f (m/10) (chI ((m % 10:Nat):Int)::acc)
theorem dgN_step {f m:Nat} {acc:List UInt8} (h:m≠0):dgN (f+1) m acc=dgN f (m/10) (chI ((m % 10:Nat):Int)::acc):=by rw[dgN,if_neg h]
theorem dgN_fuel:∀{f g m:Nat} {acc:List UInt8},m<2^f→m<2^g→dgN f m acc=dgN g m acc
 |0,0,m,acc,_,_=>rfl
 |0,g+1,m,acc,h,_=>by
  have:m=0:=by simp at h;omega
  subst this;rw[dgN,dgN,if_pos rfl]
 |f+1,0,m,acc,_,h=>by
  have:m=0:=by simp at h;omega
  subst this;rw[dgN,dgN,if_pos rfl]
 |f+1,g+1,m,acc,h,h'=>by
  rw[dgN,dgN]
  split
  ·rfl
  ·exact dgN_fuel (by rw[Nat.pow_succ]at h;omega) (by rw[Nat.pow_succ]at h';omega)
def digs (m:Nat) (acc:List UInt8):List UInt8:=dgN 64 m acc
theorem digs_0 {acc:List UInt8}:digs 0 acc=acc:=by rw[digs,dgN,if_pos rfl]
theorem digs_step {m:Nat} {acc:List UInt8} (h:m≠0) (hb:m<9223372036854775809):digs m acc=digs (m/10) (chI ((m % 10:Nat):Int)::acc):=by
 rw[digs,dgN_step h,digs];exact dgN_fuel (by omega) (by omega)
def fmtI (n:Int):List UInt8:=if n=0 then[48]else if n<0 then 45::digs n.natAbs []else digs n.natAbs []
theorem fmtI_small {n:Int} (h0:1≤n) (h1:n≤9):fmtI n=[chI n]:=by
 rw[fmtI,if_neg (by omega),if_neg (by omega),digs_step (by omega) (by omega),show n.natAbs/10=0 by omega,digs_0]
 congr 2;omega
theorem w_conv2 {P:Program} {sg:FuncId→List Bool} {h:Nat→Blk} {k:Nat} {ρ:Operand→AV} {C:R→Prop} {t t':TypeId} {x:Operand}:opB P sg ρ h k (.convert t t' x) C=convW P t t' k h (ρ x) C:=_root_.id rfl
attribute [local go_sem ↓] w_conv2
theorem tdm10 (x:Int):x=10*x.tdiv 10+x.tmod 10∧(0≤x→0≤x.tmod 10∧x.tmod 10≤9)∧(x≤0→ -9≤x.tmod 10∧x.tmod 10≤0):=by
 refine⟨by have:=Int.mul_tdiv_add_tmod x 10;omega,fun h=> ?_,fun h=> ?_⟩
 ·rw[Int.tmod_eq_emod_of_nonneg h];omega
 ·have e:x.tmod 10= -((-x).tmod 10):=by rw[Int.neg_tmod,Int.neg_neg]
  rw[e,Int.tmod_eq_emod_of_nonneg (by omega)];omega
theorem pow_step {a b l:Nat} (h:10*b≤a) (hb:a*10^l≤9223372036854775808):b*10^(l+1)≤9223372036854775808:=by
 refine Nat.le_trans ?_ hb
 rw[Nat.pow_succ,Nat.mul_comm (10^l) 10,←Nat.mul_assoc,Nat.mul_comm b 10]
 exact Nat.mul_le_mul_right _ h
theorem ten19:(10:Nat)^19=10000000000000000000:=by decide
theorem spec_FormatInt_c (n:Int) (h0: -9223372036854775808≤n) (h1:n≤9223372036854775807):Fun Tryz.prog 27 [(.int .i64 (n))] [(.str (fmtI n))]:=by
 refine fO sg0 [2] Tryz.func27 ?_
 have u3:(Tryz.prog.underlying 3).isSome=true:=by kernel_rfl
 refine dE trivial ?_
 all_goals try (refine zlf ?_;repeat' first|exact zso|refine And.intro ?_ ?_|(refine zim ?_;intro zb hc)|(refine zin ?_;intro zb)|intro j')
 all_goals try refine zbx ?_
 ·rw[hc];rfl
 ·refine v_loopB (fun ms1 S1=>∃(x:Int) (s:List UInt8),S1.e 0=.p (.int .i64 (x))∧S1.e 3=.p (.bool (decide (n<0)))∧S1.e 4=.p (.str (s))∧(-9223372036854775808≤x)∧(x≤9223372036854775807)∧(digs x.natAbs s=digs n.natAbs [])∧(x.natAbs*10^s.length≤9223372036854775808)∧(s.length≤19)∧(n<0→x≤0)∧(0<n→0≤x)∧ms1=x.natAbs) ((fun(x:Int) (s:List UInt8)=>x.natAbs) (n) ([])) ?_ ⟨n,[],dI trivial ?_⟩
  all_goals try (refine zlf ?_;repeat' first|exact zso|refine And.intro ?_ ?_|(refine zim ?_;intro zb hc)|(refine zin ?_;intro zb)|intro j')
  all_goals try refine zbx ?_
  rintro ms1 S1 ⟨x,s,h1_0,h1_3,h1_4,c1_0,c1_1,c1_2,c1_3,c1_4,c1_5,c1_6,hm1⟩
  have fL1:=(And.intro h1_0 (And.intro h1_3 h1_4))
  have t1:=tdm10 x
  have t2:x≠0→s.length≤18:=fun hx=>by
   by_cases h:s.length≤18
   ·exact h
   ·have h2:s.length=19:=by omega
    rw[h2,ten19]at c1_3;omega
  refine dE (And.intro fL1 @u3) ?_
  all_goals try (refine zlf ?_;repeat' first|exact zso|refine And.intro ?_ ?_|(refine zim ?_;intro zb hc)|(refine zin ?_;intro zb)|intro j')
  all_goals try refine zbx ?_
  all_goals try (rw[n_i64];omega)
  all_goals try (rw[n_u8];omega)
  all_goals try exact zaut
  ·focus
    refine q_lp_n ((fun(x:Int) (s:List UInt8)=>x.natAbs) (x.tdiv 10) (chI (0 - x.tmod 10)::s)) (dC fL1 ?_) ⟨x.tdiv 10,chI (0 - x.tmod 10)::s,dC fL1 ?_⟩
    all_goals try (refine zlf ?_;repeat' first|exact zso|refine And.intro ?_ ?_|(refine zim ?_;intro zb hc)|(refine zin ?_;intro zb)|intro j')
    all_goals try refine zbx ?_
   all_goals try omega
   ·rw[←c1_2,digs_step (m:=x.natAbs) (by omega) (by omega)]
    have e1:x.natAbs/10=(x.tdiv 10).natAbs:=by omega
    have e2:((x.natAbs % 10:Nat):Int)=0 - x.tmod 10:=by omega
    rw[e1,e2]
   ·exact pow_step (by omega) c1_3
  ·focus
    refine q_lp_n ((fun(x:Int) (s:List UInt8)=>x.natAbs) (x.tdiv 10) (chI (x.tmod 10)::s)) (dC fL1 ?_) ⟨x.tdiv 10,chI (x.tmod 10)::s,dC fL1 ?_⟩
    all_goals try (refine zlf ?_;repeat' first|exact zso|refine And.intro ?_ ?_|(refine zim ?_;intro zb hc)|(refine zin ?_;intro zb)|intro j')
    all_goals try refine zbx ?_
   all_goals try omega
   ·rw[←c1_2,digs_step (m:=x.natAbs) (by omega) (by omega)]
    have e1:x.natAbs/10=(x.tdiv 10).natAbs:=by omega
    have e2:((x.natAbs % 10:Nat):Int)=x.tmod 10:=by omega
    rw[e1,e2]
   ·exact pow_step (by omega) c1_3
  ·obtain rfl:x=0:=by omega
   rw[fmtI,if_neg (by omega),if_pos (by omega),←c1_2,Int.natAbs_zero,digs_0]
  ·obtain rfl:x=0:=by omega
   rw[fmtI,if_neg (by omega),if_neg (by omega),←c1_2,Int.natAbs_zero,digs_0]
theorem join_step {l:List (List UInt8)} {sep:List UInt8} {k:Nat} (hk:k<l.length):Lib.join (l.take (k+1)) sep=(if k=0 then[]else Lib.join (l.take k) sep++sep)++l.getD k []:=by
 match l,k,hk with
 |x::r,0,_=>simp[Lib.join_one]
 |x::r,k+1,hk=>
  have hk':k<r.length:=by simpa using hk
  rw[List.take_succ_cons,List.take_succ_cons,Lib.join_cons,Lib.join_cons,Lib.joinTail_take_succ sep r k (r.getD k []) (by rw[List.getD_eq_getElem?_getD,List.getElem?_eq_getElem hk'];rfl)]
  simp
theorem join_take_le {l:List (List UInt8)} {sep:List UInt8} {k:Nat}:(Lib.join (l.take k) sep).length≤(Lib.join l sep).length:=by
 match l,k with
 |[],k=>simp
 |x::r,0=>simp[Lib.join_nil]
 |x::r,k+1=>
  rw[List.take_succ_cons,Lib.join_cons,Lib.join_cons,List.length_append,List.length_append]
  have:=Lib.joinTail_take_le sep r k
  omega
theorem join_len_le {n:Nat} {sep:List UInt8}:∀{l:List (List UInt8)},(∀x∈l,x.length≤n)→(Lib.join l sep).length≤l.length*(n+sep.length):=by
 intro l
 have key:∀{l:List (List UInt8)},(∀x∈l,x.length≤n)→(Lib.joinTail sep l).length≤l.length*(n+sep.length):=by
  intro l
  induction l with
  |nil=>intro _;simp[Lib.joinTail]
  |cons x r ih=>
   intro h
   have h1:=ih fun y hy=>h y (by simp[hy])
   have h2:=h x (by simp)
   have e:(Lib.joinTail sep (x::r))=sep++x++Lib.joinTail sep r:=by simp[Lib.joinTail]
   rw[e,List.length_append,List.length_append,List.length_cons,Nat.succ_mul];omega
 cases l with
 |nil=>intro _;simp[Lib.join_nil]
 |cons x r=>
  intro h
  have h1:=key (l:=r) fun y hy=>h y (by simp[hy])
  have h2:=h x (by simp)
  rw[Lib.join_cons,List.length_append,List.length_cons,Nat.succ_mul];omega
theorem u8s_fold {s:List UInt8}:List.map (fun b:UInt8=>PV.int .u8 (b.toNat:Int)) s=List.map u8P s:=_root_.id rfl
attribute [local go_sem] u8s_fold
theorem spec_Join_c {m0:Bool} (l:List (List UInt8)) (sep:List UInt8) (h1:l.length≤1099511627776) (h2:(Lib.join l sep).length≤1099511627776):Fun Tryz.prog 59 [(.sl (.lent m0) (List.map PV.str (l))),(.str (sep))] [(.str (Lib.join l sep))]:=by
 refine fO sg0 [4] Tryz.func59 ?_
 refine dE trivial ?_
 all_goals try (refine zlf ?_;repeat' first|exact zso|refine And.intro ?_ ?_|(refine zim ?_;intro zb hc)|(refine zin ?_;intro zb)|intro j')
 all_goals try refine zbx ?_
 refine v_loopB (fun ms1 S1=>∃(k:Nat),S1.e 0=.p (.sl (.lent m0) (List.map PV.str (l)))∧S1.e 1=.p (.str (sep))∧OwnL (S1.e 5) S1.h S1.n u8P ((Lib.join (l.take k) sep).length) (Lib.join (l.take k) sep)∧S1.e 6=.p (.int .i64 (k))∧(k≤l.length)∧ms1=l.length - k) ((fun(k:Nat)=>l.length - k) (0)) ?_ ⟨0,dIa trivial ?_⟩
 all_goals try (refine zlf ?_;repeat' first|exact zso|refine And.intro ?_ ?_|(refine zim ?_;intro zb hc)|(refine zin ?_;intro zb)|intro j')
 all_goals try refine zbx ?_
 rintro ms1 S1 ⟨k,h1_0,h1_1,o1_5,h1_6,c1_0,hm1⟩
 obtain⟨i1_5,h1_5,b1_5,l1_5⟩:=o1_5.out
 have ni1_5:=znds (x:=i1_5) (n:=S1.n)
 have fL1:=(And.intro h1_0 (And.intro h1_1 (And.intro h1_6 (And.intro h1_5 (And.intro b1_5 ni1_5)))))
 have b2:=join_take_le (l:=l) (sep:=sep) (k:=k+1)
 have b1:k<l.length→0<k→(Lib.join (l.take k) sep).length+(sep.length+(l.getD k []).length)≤1099511627776:=fun h h0=>by
  rw[join_step h,if_neg (by omega)]at b2;simp only[List.length_append]at b2;omega
 have b0:k<l.length→k=0→(Lib.join (l.take k) sep).length+(l.getD k []).length≤1099511627776:=fun h h0=>by
  subst h0;rw[join_step h,if_pos rfl]at b2;simp[Lib.join_nil]at b2 ⊢;omega
 refine dEa (And.intro fL1 (And.intro @c_la @Nat.add_assoc)) ?_
 all_goals try (refine zlf ?_;repeat' first|exact zso|refine And.intro ?_ ?_|(refine zim ?_;intro zb hc)|(refine zin ?_;intro zb)|intro j')
 all_goals try refine zbx ?_
 ·focus
   refine q_lp_n ((fun(k:Nat)=>l.length - k) (k+1)) (dC fL1 ?_) ⟨k+1,dC fL1 ?_⟩
   all_goals try (refine zlf ?_;repeat' first|exact zso|refine And.intro ?_ ?_|(refine zim ?_;intro zb hc)|(refine zin ?_;intro zb)|intro j')
   all_goals try refine zbx ?_
  all_goals(rw[join_step (by omega),if_neg (by omega)];simp only[List.length_append,List.append_assoc,Nat.add_assoc])
 ·focus
   refine q_lp_n ((fun(k:Nat)=>l.length - k) (k+1)) (dC fL1 ?_) ⟨k+1,dC fL1 ?_⟩
   all_goals try (refine zlf ?_;repeat' first|exact zso|refine And.intro ?_ ?_|(refine zim ?_;intro zb hc)|(refine zin ?_;intro zb)|intro j')
   all_goals try refine zbx ?_
  all_goals(obtain rfl:k=0:=by omega)
  all_goals(rw[join_step (by omega),if_pos rfl];simp[Lib.join_nil])
 ·rw[List.take_of_length_le (by omega)]
def txtP (p:List Int):List UInt8:=if isPermB p=true then(if p=[]then[45]else p.map chI)else[]
theorem txtP_len (p:List Int):(txtP p).length≤8:=by
 unfold txtP;split
 ·rename_i h
  have:=(isPerm_facts h).1
  split<;>simp;omega
 ·simp
theorem spec_PermText_c {m0:Bool} (p:List Int) (hl:p.length≤1048576):Fun Tryz.prog 58 [(.sl (.lent m0) (List.map (PV.int .i64) (p)))] [(.str (txtP p))]:=by
 refine fO sg0 [2] Tryz.func58 ?_
 have cE1:= @spec_IsPerm_c;have cE2:= @spec_FormatInt_c
 refine dEa trivial ?_
 all_goals try (refine zlf ?_;repeat' first|exact zso|refine And.intro ?_ ?_|(refine zim ?_;intro zb hc;repeat (have zc:=zb.1;replace zb:=zb.2))|(refine zin ?_;intro zb)|intro j')
 all_goals try refine zbx ?_
 ·rw[txtP,if_neg (by rw[hc];decide)]
 ·rw[txtP,if_pos (by assumption),if_pos (List.eq_nil_of_length_eq_zero (by omega))]
 ·have hp:isPermB p=true:=by assumption
  have hn:¬(p.length:Int)=0:=by assumption
  have pf:=isPerm_facts hp
  refine v_loopB (fun ms1 S1=>∃(k:Nat),S1.e 0=.p (.sl (.lent m0) (List.map (PV.int .i64) (p)))∧S1.e 3=.p (.str ((p.take k).map chI))∧S1.e 4=.p (.int .i64 (k))∧(k≤p.length)∧ms1=p.length - k) ((fun(k:Nat)=>p.length - k) (0)) ?_ ⟨0,dIa trivial ?_⟩
  all_goals try (refine zlf ?_;repeat' first|exact zso|refine And.intro ?_ ?_|(refine zim ?_;intro zb hc;repeat (have zc:=zb.1;replace zb:=zb.2))|(refine zin ?_;intro zb)|intro j')
  all_goals try refine zbx ?_
  rintro ms1 S1 ⟨k,h1_0,h1_3,h1_4,c1_0,hm1⟩
  have fL1:=(And.intro h1_0 (And.intro h1_3 h1_4))
  have q:k<p.length→1≤p.getD k 0∧p.getD k 0≤8:=fun h=>by have:=perm_at pf.2 h;omega
  refine dEa fL1 ?_
  all_goals try (refine zlf ?_;repeat' first|exact zso|refine And.intro ?_ ?_|(refine zim ?_;intro zb hc;repeat (have zc:=zb.1;replace zb:=zb.2))|(refine zin ?_;intro zb)|intro j')
  all_goals try refine zbx ?_
  ·rw[fmtI_small (q (by omega)).1 (by have:=(q (by omega)).2;omega)];simp;omega
  ·focus
    refine q_lp_n ((fun(k:Nat)=>p.length - k) (k+1)) (dC fL1 ?_) ⟨k+1,dC fL1 ?_⟩
    all_goals try (refine zlf ?_;repeat' first|exact zso|refine And.intro ?_ ?_|(refine zim ?_;intro zb hc;repeat (have zc:=zb.1;replace zb:=zb.2))|(refine zin ?_;intro zb)|intro j')
    all_goals try refine zbx ?_
   rw[fmtI_small (q (by omega)).1 (by have:=(q (by omega)).2;omega),take_getD (d:=0) (by omega),List.map_append];rfl
  ·rw[txtP,if_pos hp,if_neg (fun e=>hn (by rw[e];rfl)),List.take_of_length_le (by omega)]
theorem impl_PermText_c {m0:Bool} (p:List Int) (hl:p.length≤1048576):Fun Tryz.prog 57 [(.sl (.lent m0) (List.map (PV.int .i64) (p)))] [(.str (txtP p))]:=by
 refine fO sg0 [2] Tryz.func57 ?_
 have cE1:= @impl_IsPerm_c
 refine dEa trivial ?_
 all_goals try (refine zlf ?_;repeat' first|exact zso|refine And.intro ?_ ?_|(refine zim ?_;intro zb hc;repeat (have zc:=zb.1;replace zb:=zb.2))|(refine zin ?_;intro zb)|intro j')
 all_goals try refine zbx ?_
 ·rw[txtP,if_neg (by rw[hc];decide)]
 ·rw[txtP,if_pos (by assumption),if_pos (List.eq_nil_of_length_eq_zero (by omega))]
 ·have hp:isPermB p=true:=by assumption
  have hn:¬(p.length:Int)=0:=by assumption
  have pf:=isPerm_facts hp
  refine v_loopB (fun ms1 S1=>∃(k:Nat),S1.e 13=.p (.sl (.lent m0) (List.map (PV.int .i64) (p)))∧S1.e 14=.p (.int .i64 (p.length))∧OwnL (S1.e 3) S1.h S1.n u8P (((p.take k).map chI).length) ((p.take k).map chI)∧S1.e 15=.p (.int .i64 (k))∧(k≤p.length)∧ms1=p.length - k) ((fun(k:Nat)=>p.length - k) (0)) ?_ ⟨0,dI trivial ?_⟩
  all_goals try (refine zlf ?_;repeat' first|exact zso|refine And.intro ?_ ?_|(refine zim ?_;intro zb hc;repeat (have zc:=zb.1;replace zb:=zb.2))|(refine zin ?_;intro zb)|intro j')
  all_goals try refine zbx ?_
  rintro ms1 S1 ⟨k,h1_13,h1_14,o1_3,h1_15,c1_0,hm1⟩
  obtain⟨i1_3,h1_3,b1_3,l1_3⟩:=o1_3.out
  have ni1_3:=znds (x:=i1_3) (n:=S1.n)
  have fL1:=(And.intro h1_13 (And.intro h1_14 (And.intro h1_15 (And.intro h1_3 (And.intro b1_3 ni1_3)))))
  have q:k<p.length→1≤p.getD k 0∧p.getD k 0≤8:=fun h=>by have:=perm_at pf.2 h;omega
  have u3:(Tryz.prog.underlying 3).isSome=true:=by kernel_rfl
  refine dE (And.intro fL1 @u3) ?_
  all_goals try (refine zlf ?_;repeat' first|exact zso|refine And.intro ?_ ?_|(refine zim ?_;intro zb hc;repeat (have zc:=zb.1;replace zb:=zb.2))|(refine zin ?_;intro zb)|intro j')
  all_goals try refine zbx ?_
  all_goals try have q1:=q (by omega)
  all_goals try (rw[n_u8];omega)
  all_goals try exact zaut
  ·focus
    refine q_lp_n ((fun(k:Nat)=>p.length - k) (k+1)) (dC fL1 ?_) ⟨k+1,dC fL1 ?_⟩
    all_goals try (refine zlf ?_;repeat' first|exact zso|refine And.intro ?_ ?_|(refine zim ?_;intro zb hc;repeat (have zc:=zb.1;replace zb:=zb.2))|(refine zin ?_;intro zb)|intro j')
    all_goals try refine zbx ?_
   rw[u8_app (by omega) (by omega),take_getD (d:=0) (by omega)];simp only[List.map_append,List.map_cons,List.map_nil];rfl
  ·rw[txtP,if_pos hp,if_neg (fun e=>hn (by rw[e];rfl)),List.take_of_length_le (by omega)]
end Go.Gl
namespace Go.Gl
open Go Go.Proofs
variable [Amb] [NoQ]
def flK (f:Nat→Bool):Nat→List Int
 |0=>[]
 |k+1=>flK f k++if f k=true then[(k:Int)+1]else[]
theorem flK_len {f:Nat→Bool}:∀{k:Nat},(flK f k).length≤k∧∀x∈flK f k,1≤x∧x≤k
 |0=>by simp[flK]
 |k+1=>by
  obtain⟨h1,h2⟩:=flK_len (f:=f) (k:=k)
  rw[flK]
  refine⟨by split<;>simp<;>omega,fun x hx=> ?_⟩
  rcases List.mem_append.1 hx with g|g
  ·have:=h2 x g;omega
  ·split at g
   ·rw[List.mem_singleton]at g;omega
   ·cases g
def dsB (p:List Int) (k:Nat):Bool:=decide (k+1<p.length)&&decide (p.getD (k+1) 0<p.getD k 0)
def dsL (p:List Int):List Int:=if isPermB p=true then flK (dsB p) p.length else[]
theorem dsL_f {p:List Int}:(dsL p).length≤8∧∀x∈dsL p,1≤x∧x≤8:=by
 unfold dsL;split
 ·rename_i h
  have h8:=(isPerm_facts h).1
  obtain⟨h1,h2⟩:=flK_len (f:=dsB p) (k:=p.length)
  exact⟨by omega,fun x hx=>by have:=h2 x hx;omega⟩
 ·simp
theorem ds_last {p:List Int} {k:Nat} (h:p.length≤k+1):flK (dsB p) (k+1)=flK (dsB p) k:=by
 rw[flK,dsB,decide_eq_false (by omega)];simp
theorem impl_DescentsOf_1_c (k:Int) (p:List Int) (m1:Bool) (h0:0≤k) (h1:k<p.length) (h8:p.length≤8):Fun Tryz.prog 87 [(.int .i64 (k)),(.pc [.sl (.lent m1) (List.map (PV.int .i64) p)])] [(.bool (dsB p k.toNat))]:=by
 refine fO sg0 [3] Tryz.func87 ?_
 obtain⟨K,rfl⟩:=Int.eq_ofNat_of_zero_le h0
 have e1:((K:Int)+1).toNat=K+1:=by omega
 by_cases h:K+1<p.length
 ·have e:dsB p (K:Int).toNat=decide (p.getD (K+1) 0<p.getD K 0):=by rw[dsB,Int.toNat_natCast,decide_eq_true h,Bool.true_and]
  rw[e]
  refine dEa @e1 ?_
  all_goals try (refine zlf ?_;repeat' first|exact zso|refine And.intro ?_ ?_|(refine zim ?_;intro zb hc)|(refine zin ?_;intro zb)|intro j')
  all_goals try refine zbx ?_
  all_goals trace_state
 ·have e:dsB p (K:Int).toNat=false:=by rw[dsB,Int.toNat_natCast,decide_eq_false h,Bool.false_and]
  rw[e]
  refine dEa @e1 ?_
  all_goals try (refine zlf ?_;repeat' first|exact zso|refine And.intro ?_ ?_|(refine zim ?_;intro zb hc)|(refine zin ?_;intro zb)|intro j')
  all_goals try refine zbx ?_
  all_goals trace_state
theorem impl_listed_c {m0:Bool} (p:List Int) (g:FuncId) (caps:List PV) (f:Nat→Bool) (hl:p.length≤1048576) (hf:isPermB p=true→∀k:Nat,k<p.length→Fun Tryz.prog g (.int .i64 k::caps.map PV.cell) [.bool (f k)]):Fun Tryz.prog 86 [(.sl (.lent m0) (List.map (PV.int .i64) (p))),(.fn g [] caps)] [(.sl .own (List.map (PV.int .i64) ((if isPermB p=true then flK f p.length else[]))))]:=by
 by_cases h:isPermB p=true
 ·have h8:=(isPerm_facts h).1
  rw[if_pos h]
  refine fO sg0 [4] Tryz.func86 ?_
  have cE1:= @impl_IsPerm_c
  refine dEa @h ?_
  all_goals try (refine zlf ?_;repeat' first|exact zso|refine And.intro ?_ ?_|(refine zim ?_;intro zb hc)|(refine zin ?_;intro zb)|intro j')
  all_goals try refine zbx ?_
  refine v_loopB (fun ms1 S1=>∃(k:Nat),S1.e 0=.p (.sl (.lent m0) (List.map (PV.int .i64) (p)))∧S1.e 1=.p (.fn g [] caps)∧OwnL (S1.e 5) S1.h S1.n (PV.int .i64) ((flK f k).length) (flK f k)∧S1.e 12=.p (.int .i64 (p.length))∧S1.e 13=.p (.int .i64 (k))∧(k≤p.length)∧ms1=p.length - k) ((fun(k:Nat)=>p.length - k) (0)) ?_ ⟨0,dC trivial ?_⟩
  all_goals try (refine zlf ?_;repeat' first|exact zso|refine And.intro ?_ ?_|(refine zim ?_;intro zb hc)|(refine zin ?_;intro zb)|intro j')
  all_goals try refine zbx ?_
  rintro ms1 S1 ⟨k,h1_0,h1_1,o1_5,h1_12,h1_13,c1_0,hm1⟩
  obtain⟨i1_5,h1_5,b1_5,l1_5⟩:=o1_5.out
  have ni1_5:=znds (x:=i1_5) (n:=S1.n)
  have fL1:=(And.intro h1_0 (And.intro h1_1 (And.intro h1_12 (And.intro h1_13 (And.intro h1_5 (And.intro b1_5 ni1_5))))))
  ·have l1:=(flK_len (f:=f) (k:=k)).1
   by_cases hk:k<p.length
   ·have c9:=hf h k hk
    cases hb:f k with
    |true=>
     have e:flK f (k+1)=flK f k++[(k:Int)+1]:=by rw[flK,hb];rfl
     have cE1:= @c9;have cE2:= @impl_IsPerm_c
     refine dEa (And.intro fL1 @hb) ?_
     all_goals try (refine zlf ?_;repeat' first|exact zso|refine And.intro ?_ ?_|(refine zim ?_;intro zb hc)|(refine zin ?_;intro zb)|intro j')
     all_goals try refine zbx ?_
     focus
      refine q_lp_n ((fun(k:Nat)=>p.length - k) (k+1)) (dC fL1 ?_) ⟨k+1,dC fL1 ?_⟩
      all_goals try (refine zlf ?_;repeat' first|exact zso|refine And.intro ?_ ?_|(refine zim ?_;intro zb hc)|(refine zin ?_;intro zb)|intro j')
      all_goals try refine zbx ?_
     all_goals(first|(rw[e];done)|(rw[e,List.length_append];rfl)|skip)
     all_goals trace_state
    |false=>
     have e:flK f (k+1)=flK f k:=by rw[flK,hb];simp
     have cE1:= @c9;have cE2:= @impl_IsPerm_c
     refine dEa (And.intro fL1 @hb) ?_
     all_goals try (refine zlf ?_;repeat' first|exact zso|refine And.intro ?_ ?_|(refine zim ?_;intro zb hc)|(refine zin ?_;intro zb)|intro j')
     all_goals try refine zbx ?_
     focus
      refine q_lp_n ((fun(k:Nat)=>p.length - k) (k+1)) (dC fL1 ?_) ⟨k+1,dC fL1 ?_⟩
      all_goals try (refine zlf ?_;repeat' first|exact zso|refine And.intro ?_ ?_|(refine zim ?_;intro zb hc)|(refine zin ?_;intro zb)|intro j')
      all_goals try refine zbx ?_
     all_goals(first|(rw[e];done)|skip)
     all_goals trace_state
   ·obtain rfl:k=p.length:=by omega
    have cE1:= @impl_IsPerm_c;have cE2:=trivial
    refine dEa fL1 ?_
    all_goals try (refine zlf ?_;repeat' first|exact zso|refine And.intro ?_ ?_|(refine zim ?_;intro zb hc)|(refine zin ?_;intro zb)|intro j')
    all_goals try refine zbx ?_
    all_goals trace_state
  all_goals trace_state
 ·rw[if_neg h]
  rw[Bool.not_eq_true]at h
  refine fO sg0 [4] Tryz.func86 ?_
  have cE1:= @impl_IsPerm_c
  refine dEa @h ?_
  all_goals try (refine zlf ?_;repeat' first|exact zso|refine And.intro ?_ ?_|(refine zim ?_;intro zb hc)|(refine zin ?_;intro zb)|intro j')
  all_goals try refine zbx ?_
  all_goals trace_state
theorem impl_DescentsOf_c {m0:Bool} (p:List Int) (hl:p.length≤1048576):Fun Tryz.prog 40 [(.sl (.lent m0) (List.map (PV.int .i64) (p)))] [(.sl .own (List.map (PV.int .i64) (dsL p)))]:=by
 have c1:=fun m0:Bool=>impl_listed_c (m0:=m0) p 87 [.pc [.sl (.lent m0) (List.map (PV.int .i64) p)]] (dsB p) hl (fun h k hk=>by
  have:=impl_DescentsOf_1_c (k:Int) p m0 (by omega) (by omega) (isPerm_facts h).1
  rw[Int.toNat_natCast]at this;exact this)
 rw[dsL]
 refine fO sg0 [2] Tryz.func40 ?_
 have cE1:= @impl_listed_c
 have cE1:= @c1
 refine dEa trivial ?_
 all_goals try (refine zlf ?_;repeat' first|exact zso|refine And.intro ?_ ?_|(refine zim ?_;intro zb hc)|(refine zin ?_;intro zb)|intro j')
 all_goals try refine zbx ?_
 all_goals trace_state
theorem spec_DescentsOf_c {m0:Bool} (p:List Int) (hl:p.length≤1048576):Fun Tryz.prog 26 [(.sl (.lent m0) (List.map (PV.int .i64) (p)))] [(.sl .own (List.map (PV.int .i64) (dsL p)))]:=by
 by_cases h:isPermB p=true
 ·have h8:=(isPerm_facts h).1
  rw[dsL,if_pos h]
  refine fO sg0 [2] Tryz.func26 ?_
  have cE1:= @spec_IsPerm_c
  refine dEa trivial ?_
  all_goals try (refine zlf ?_;repeat' first|exact zso|refine And.intro ?_ ?_|(refine zim ?_;intro zb hc)|(refine zin ?_;intro zb)|intro j')
  all_goals try refine zbx ?_
  refine v_loopB (fun ms1 S1=>∃(k:Nat),S1.e 0=.p (.sl (.lent m0) (List.map (PV.int .i64) (p)))∧OwnL (S1.e 3) S1.h S1.n (PV.int .i64) ((flK (dsB p) k).length) (flK (dsB p) k)∧S1.e 4=.p (.int .i64 (k))∧(k≤p.length)∧(k=0∨k+1≤p.length)∧ms1=p.length - k) ((fun(k:Nat)=>p.length - k) (0)) ?_ ⟨0,dC trivial ?_⟩
  all_goals try (refine zlf ?_;repeat' first|exact zso|refine And.intro ?_ ?_|(refine zim ?_;intro zb hc)|(refine zin ?_;intro zb)|intro j')
  all_goals try refine zbx ?_
  rintro ms1 S1 ⟨k,h1_0,o1_3,h1_4,c1_0,c1_1,hm1⟩
  obtain⟨i1_3,h1_3,b1_3,l1_3⟩:=o1_3.out
  have ni1_3:=znds (x:=i1_3) (n:=S1.n)
  have fL1:=(And.intro h1_0 (And.intro h1_4 (And.intro h1_3 (And.intro b1_3 ni1_3))))
  ·have l1:=(flK_len (f:=dsB p) (k:=k)).1
   by_cases hk:k+1<p.length
   ·by_cases hb:p.getD (k+1) 0<p.getD k 0
    ·have e:flK (dsB p) (k+1)=flK (dsB p) k++[(k:Int)+1]:=by rw[flK,dsB,decide_eq_true hk,decide_eq_true hb];rfl
     refine dEa (And.intro fL1 (And.intro @h @hb)) ?_
     all_goals try (refine zlf ?_;repeat' first|exact zso|refine And.intro ?_ ?_|(refine zim ?_;intro zb hc)|(refine zin ?_;intro zb)|intro j')
     all_goals try refine zbx ?_
     focus
      refine q_lp_n ((fun(k:Nat)=>p.length - k) (k+1)) (dC fL1 ?_) ⟨k+1,dC fL1 ?_⟩
      all_goals try (refine zlf ?_;repeat' first|exact zso|refine And.intro ?_ ?_|(refine zim ?_;intro zb hc)|(refine zin ?_;intro zb)|intro j')
      all_goals try refine zbx ?_
     all_goals(first|(rw[e];done)|(rw[e,List.length_append];rfl)|skip)
     all_goals trace_state
    ·have e:flK (dsB p) (k+1)=flK (dsB p) k:=by rw[flK,dsB,decide_eq_false hb];simp
     have hb':(p.getD (k+1) 0<p.getD k 0)=False:=eq_false hb
     refine dEa (And.intro fL1 (And.intro @h @hb')) ?_
     all_goals try (refine zlf ?_;repeat' first|exact zso|refine And.intro ?_ ?_|(refine zim ?_;intro zb hc)|(refine zin ?_;intro zb)|intro j')
     all_goals try refine zbx ?_
     focus
      refine q_lp_n ((fun(k:Nat)=>p.length - k) (k+1)) (dC fL1 ?_) ⟨k+1,dC fL1 ?_⟩
      all_goals try (refine zlf ?_;repeat' first|exact zso|refine And.intro ?_ ?_|(refine zim ?_;intro zb hc)|(refine zin ?_;intro zb)|intro j')
      all_goals try refine zbx ?_
     all_goals(first|(rw[e];done)|skip)
     all_goals trace_state
   ·have e:flK (dsB p) p.length=flK (dsB p) k:=by
     by_cases g:p.length=k
     ·rw[g]
     ·rw[show p.length=k+1 by omega];exact ds_last (by omega)
    refine dEa fL1 ?_
    all_goals try (refine zlf ?_;repeat' first|exact zso|refine And.intro ?_ ?_|(refine zim ?_;intro zb hc)|(refine zin ?_;intro zb)|intro j')
    all_goals try refine zbx ?_
    all_goals(first|(rw[e];done)|skip)
    all_goals trace_state
  all_goals trace_state
 ·have e:dsL p=[]:=if_neg h
  rw[e]
  rw[Bool.not_eq_true]at h
  refine fO sg0 [2] Tryz.func26 ?_
  have cE1:= @spec_IsPerm_c
  refine dEa trivial ?_
  all_goals try (refine zlf ?_;repeat' first|exact zso|refine And.intro ?_ ?_|(refine zim ?_;intro zb hc)|(refine zin ?_;intro zb)|intro j')
  all_goals try refine zbx ?_
  refine v_loopB (fun ms2 S2=>∃(u:Nat),S2.e 0=.p (.sl (.lent m0) (List.map (PV.int .i64) (p)))∧OwnL (S2.e 3) S2.h S2.n (PV.int .i64) ((([]:List Int)).length) (([]:List Int))∧S2.e 4=.p (.int .i64 (0))∧ms2=u) ((fun(u:Nat)=>u) (0)) ?_ ⟨0,dC trivial ?_⟩
  all_goals try (refine zlf ?_;repeat' first|exact zso|refine And.intro ?_ ?_|(refine zim ?_;intro zb hc)|(refine zin ?_;intro zb)|intro j')
  all_goals try refine zbx ?_
  rintro ms2 S2 ⟨u,h2_0,o2_3,h2_4,hm2⟩
  obtain⟨i2_3,h2_3,b2_3,l2_3⟩:=o2_3.out
  have ni2_3:=znds (x:=i2_3) (n:=S2.n)
  have fL2:=(And.intro h2_0 (And.intro h2_4 (And.intro h2_3 (And.intro b2_3 ni2_3))))
  ·refine dEa (And.intro fL2 @h) ?_
   all_goals try (refine zlf ?_;repeat' first|exact zso|refine And.intro ?_ ?_|(refine zim ?_;intro zb hc)|(refine zin ?_;intro zb)|intro j')
   all_goals try refine zbx ?_
   all_goals trace_state
  all_goals trace_state
def mjL (l:List Int):Nat→Int
 |0=>0
 |k+1=>mjL l k+l.getD k 0
theorem mjL_b {l:List Int} (h:∀x∈l,1≤x∧x≤8):∀{k:Nat},k≤l.length→0≤mjL l k∧mjL l k≤8*k
 |0,_=>by simp[mjL]
 |k+1,hk=>by
  have h1:=mjL_b h (k:=k) (by omega)
  have h2:=h _ (getD_mem (l:=l) (i:=k) (d:=0) (by omega))
  rw[mjL];omega
def mjR (p:List Int):Int:=if isPermB p=true then mjL (dsL p) (dsL p).length else -1
theorem mjR_b {p:List Int}: -1≤mjR p∧mjR p≤64:=by
 unfold mjR;split
 ·obtain⟨h1,h2⟩:=dsL_f (p:=p)
  have:=mjL_b h2 (Nat.le_refl _);omega
 ·omega
theorem impl_MajorOf_c {m0:Bool} (p:List Int) (hl:p.length≤1048576):Fun Tryz.prog 43 [(.sl (.lent m0) (List.map (PV.int .i64) (p)))] [(.int .i64 (mjR p))]:=by
 by_cases h:isPermB p=true
 ·obtain⟨h1,h2⟩:=dsL_f (p:=p)
  rw[mjR,if_pos h]
  generalize hL:dsL p=L at*
  refine fO sg0 [2] Tryz.func43 ?_
  have cE1:= @impl_IsPerm_c;have cE2:= @impl_DescentsOf_c
  refine dEa (And.intro @h @hL) ?_
  all_goals try (refine zlf ?_;repeat' first|exact zso|refine And.intro ?_ ?_|(refine zim ?_;intro zb hc)|(refine zin ?_;intro zb)|intro j')
  all_goals try refine zbx ?_
  refine v_loopB (fun ms1 S1=>∃(k:Nat),S1.e 3=.p (.int .i64 (mjL L k))∧OwnL (S1.e 10) S1.h S1.n (PV.int .i64) ((L).length) (L)∧S1.e 11=.p (.int .i64 (L.length))∧S1.e 12=.p (.int .i64 (k))∧(k≤L.length)∧ms1=L.length - k) ((fun(k:Nat)=>L.length - k) (0)) ?_ ⟨0,dC trivial ?_⟩
  all_goals try (refine zlf ?_;repeat' first|exact zso|refine And.intro ?_ ?_|(refine zim ?_;intro zb hc)|(refine zin ?_;intro zb)|intro j')
  all_goals try refine zbx ?_
  rintro ms1 S1 ⟨k,h1_3,o1_10,h1_11,h1_12,c1_0,hm1⟩
  obtain⟨i1_10,h1_10,b1_10,l1_10⟩:=o1_10.out
  have ni1_10:=znds (x:=i1_10) (n:=S1.n)
  have fL1:=(And.intro h1_3 (And.intro h1_11 (And.intro h1_12 (And.intro h1_10 (And.intro b1_10 ni1_10)))))
  ·have b1:=mjL_b h2 c1_0
   by_cases hk:k<L.length
   ·have b2:=h2 _ (getD_mem (l:=L) (i:=k) (d:=0) hk)
    refine dEa fL1 ?_
    all_goals try (refine zlf ?_;repeat' first|exact zso|refine And.intro ?_ ?_|(refine zim ?_;intro zb hc)|(refine zin ?_;intro zb)|intro j')
    all_goals try refine zbx ?_
    focus
     refine q_lp_n ((fun(k:Nat)=>L.length - k) (k+1)) (dC fL1 ?_) ⟨k+1,dC fL1 ?_⟩
     all_goals try (refine zlf ?_;repeat' first|exact zso|refine And.intro ?_ ?_|(refine zim ?_;intro zb hc)|(refine zin ?_;intro zb)|intro j')
     all_goals try refine zbx ?_
    all_goals trace_state
   ·obtain rfl:k=L.length:=by omega
    refine dEa fL1 ?_
    all_goals try (refine zlf ?_;repeat' first|exact zso|refine And.intro ?_ ?_|(refine zim ?_;intro zb hc)|(refine zin ?_;intro zb)|intro j')
    all_goals try refine zbx ?_
    all_goals trace_state
  all_goals trace_state
 ·rw[mjR,if_neg h]
  rw[Bool.not_eq_true]at h
  refine fO sg0 [2] Tryz.func43 ?_
  have cE1:= @impl_IsPerm_c;have cE2:= @impl_DescentsOf_c
  refine dEa @h ?_
  all_goals try (refine zlf ?_;repeat' first|exact zso|refine And.intro ?_ ?_|(refine zim ?_;intro zb hc)|(refine zin ?_;intro zb)|intro j')
  all_goals try refine zbx ?_
  all_goals trace_state
theorem spec_MajorOf_c {m0:Bool} (p:List Int) (hl:p.length≤1048576):Fun Tryz.prog 29 [(.sl (.lent m0) (List.map (PV.int .i64) (p)))] [(.int .i64 (mjR p))]:=by
 by_cases h:isPermB p=true
 ·obtain⟨h1,h2⟩:=dsL_f (p:=p)
  rw[mjR,if_pos h]
  generalize hL:dsL p=L at*
  refine fO sg0 [2] Tryz.func29 ?_
  have cE1:= @spec_IsPerm_c;have cE2:= @spec_DescentsOf_c
  refine dEa (And.intro @h @hL) ?_
  all_goals try (refine zlf ?_;repeat' first|exact zso|refine And.intro ?_ ?_|(refine zim ?_;intro zb hc)|(refine zin ?_;intro zb)|intro j')
  all_goals try refine zbx ?_
  refine v_loopB (fun ms1 S1=>∃(k:Nat),S1.e 3=.p (.int .i64 (mjL L k))∧OwnL (S1.e 4) S1.h S1.n (PV.int .i64) ((L).length) (L)∧S1.e 5=.p (.int .i64 (k))∧(k≤L.length)∧ms1=L.length - k) ((fun(k:Nat)=>L.length - k) (0)) ?_ ⟨0,dC trivial ?_⟩
  all_goals try (refine zlf ?_;repeat' first|exact zso|refine And.intro ?_ ?_|(refine zim ?_;intro zb hc)|(refine zin ?_;intro zb)|intro j')
  all_goals try refine zbx ?_
  rintro ms1 S1 ⟨k,h1_3,o1_4,h1_5,c1_0,hm1⟩
  obtain⟨i1_4,h1_4,b1_4,l1_4⟩:=o1_4.out
  have ni1_4:=znds (x:=i1_4) (n:=S1.n)
  have fL1:=(And.intro h1_3 (And.intro h1_5 (And.intro h1_4 (And.intro b1_4 ni1_4))))
  ·have b1:=mjL_b h2 c1_0
   by_cases hk:k<L.length
   ·have b2:=h2 _ (getD_mem (l:=L) (i:=k) (d:=0) hk)
    refine dEa fL1 ?_
    all_goals try (refine zlf ?_;repeat' first|exact zso|refine And.intro ?_ ?_|(refine zim ?_;intro zb hc)|(refine zin ?_;intro zb)|intro j')
    all_goals try refine zbx ?_
    focus
     refine q_lp_n ((fun(k:Nat)=>L.length - k) (k+1)) (dC fL1 ?_) ⟨k+1,dC fL1 ?_⟩
     all_goals try (refine zlf ?_;repeat' first|exact zso|refine And.intro ?_ ?_|(refine zim ?_;intro zb hc)|(refine zin ?_;intro zb)|intro j')
     all_goals try refine zbx ?_
    all_goals trace_state
   ·obtain rfl:k=L.length:=by omega
    refine dEa fL1 ?_
    all_goals try (refine zlf ?_;repeat' first|exact zso|refine And.intro ?_ ?_|(refine zim ?_;intro zb hc)|(refine zin ?_;intro zb)|intro j')
    all_goals try refine zbx ?_
    all_goals trace_state
  all_goals trace_state
 ·rw[mjR,if_neg h]
  rw[Bool.not_eq_true]at h
  refine fO sg0 [2] Tryz.func29 ?_
  have cE1:= @spec_IsPerm_c;have cE2:= @spec_DescentsOf_c
  refine dEa @h ?_
  all_goals try (refine zlf ?_;repeat' first|exact zso|refine And.intro ?_ ?_|(refine zim ?_;intro zb hc)|(refine zin ?_;intro zb)|intro j')
  all_goals try refine zbx ?_
  all_goals trace_state
theorem codeGo_gd:∀{p:List Int} {i:Nat},i<p.length→(codeGo p).getD i 0=cntLt (p.getD i 0) (p.drop (i+1))
 |[],_,h=>by simp at h
 |_::_,0,_=>rfl
 |_::p,i+1,h=>codeGo_gd (p:=p) (by simpa using h)
theorem sumI_tk {l:List Int} {k:Nat} (h:k<l.length):sumI (l.take (k+1))=sumI (l.take k)+l.getD k 0:=by rw[take_getD (d:=0) h,sumI_snoc]
theorem sumI_nn {l:List Int} {B:Nat} (h:∀x∈l,0≤x∧x≤B):∀{k:Nat},k≤l.length→0≤sumI (l.take k)∧sumI (l.take k)≤(B*k:Nat)
 |0,_=>by simp[sumI]
 |k+1,hk=>by
  have h1:=sumI_nn h (k:=k) (by omega)
  have h2:=h _ (getD_mem (l:=l) (i:=k) (d:=0) (by omega))
  rw[sumI_tk (by omega),Nat.mul_succ];omega
theorem cntLt_tk {v:Int} {l:List Int} {k:Nat} (h:k<l.length):cntLt v (l.take (k+1))=cntLt v (l.take k)+bitI (decide (l.getD k 0<v)):=by
 rw[take_getD (d:=0) h,cnt_app];simp[cntLt]
theorem impl_inversions_c {m0:Bool} (p:List Int) (h8:p.length≤8):Fun Tryz.prog 89 [(.sl (.lent m0) (List.map (PV.int .i64) (p)))] [(.int .i64 (invN p p.length))]:=by
 refine fO sg0 [2] Tryz.func89 ?_
 have hb:∀x∈codeGo p,0≤x∧x≤(8:Nat):=fun x hx=>by
  obtain⟨i,hi,rfl⟩:=List.getElem_of_mem hx
  have:=codeGo_at p i
  rw[List.getD_eq_getElem?_getD,List.getElem?_eq_getElem hi]at this
  simp only[Option.getD_some]at this;omega
 have hq:=codeGo_length p
 rw[←inv_code]
 refine dEa trivial ?_
 all_goals try (refine zlf ?_;repeat' first|exact zso|refine And.intro ?_ ?_|(refine zim ?_;intro zb hc)|(refine zin ?_;intro zb)|intro j')
 all_goals try refine zbx ?_
 refine v_loopB (fun ms1 S1=>∃(i:Nat),S1.e 0=.p (.sl (.lent m0) (List.map (PV.int .i64) (p)))∧S1.e 3=.p (.int .i64 (sumI ((codeGo p).take i)))∧S1.e 8=.p (.sl (.lent m0) (List.map (PV.int .i64) (p)))∧S1.e 9=.p (.int .i64 (p.length))∧S1.e 10=.p (.int .i64 (i))∧(i≤p.length)∧ms1=p.length - i) ((fun(i:Nat)=>p.length - i) (0)) ?_ ⟨0,dC trivial ?_⟩
 all_goals try (refine zlf ?_;repeat' first|exact zso|refine And.intro ?_ ?_|(refine zim ?_;intro zb hc)|(refine zin ?_;intro zb)|intro j')
 all_goals try refine zbx ?_
 rintro ms1 S1 ⟨i,h1_0,h1_3,h1_8,h1_9,h1_10,c1_0,hm1⟩
 have fL1:=(And.intro h1_0 (And.intro h1_3 (And.intro h1_8 (And.intro h1_9 h1_10))))
 ·have b1:=sumI_nn hb (k:=i) (by omega)
  by_cases hi:i<p.length
  ·have e1:((i:Int)+1).toNat=i+1:=by omega
   have e2:(p.drop (i+1)).length=p.length - (i+1):=List.length_drop
   have e3:=sumI_tk (l:=codeGo p) (k:=i) (by omega)
   rw[codeGo_gd hi]at e3
   generalize hD:p.drop (i+1)=D at*
   refine dEa (And.intro fL1 (And.intro @e1 @hD)) ?_
   all_goals try (refine zlf ?_;repeat' first|exact zso|refine And.intro ?_ ?_|(refine zim ?_;intro zb hc)|(refine zin ?_;intro zb)|intro j')
   all_goals try refine zbx ?_
   refine v_loopB (fun ms2 S2=>∃(j:Nat),S2.e 0=.p (.sl (.lent m0) (List.map (PV.int .i64) (p)))∧S2.e 3=.p (.int .i64 ((sumI ((codeGo p).take i)+cntLt (p.getD i 0) (D.take j))))∧S2.e 8=.p (.sl (.lent m0) (List.map (PV.int .i64) (p)))∧S2.e 9=.p (.int .i64 (p.length))∧S2.e 10=.p (.int .i64 (i))∧S2.e 5=.p (.int .i64 ((p.getD i 0)))∧S2.e 18=.p (.sl (.lent m0) (List.map (PV.int .i64) (D)))∧S2.e 19=.p (.int .i64 (D.length))∧S2.e 20=.p (.int .i64 (j))∧(j≤D.length)∧S1.n≤S2.n∧ms2=D.length - j) ((fun(j:Nat)=>D.length - j) (0)) ?_ ⟨0,dC fL1 ?_⟩
   all_goals try (refine zlf ?_;repeat' first|exact zso|refine And.intro ?_ ?_|(refine zim ?_;intro zb hc)|(refine zin ?_;intro zb)|intro j')
   all_goals try refine zbx ?_
   rintro ms2 S2 ⟨j,h2_0,h2_3,h2_8,h2_9,h2_10,h2_5,h2_18,h2_19,h2_20,c2_0,u2_0,hm2⟩
   have fL2:=(And.intro h2_0 (And.intro h2_3 (And.intro h2_8 (And.intro h2_9 (And.intro h2_10 (And.intro h2_5 (And.intro h2_18 (And.intro h2_19 h2_20))))))))
   ·have b2:=cntLt_le (p.getD i 0) (D.take j)
    rw[List.length_take]at b2
    by_cases hj:j<D.length
    ·have e4:=cntLt_tk (v:=p.getD i 0) hj
     by_cases hv:D.getD j 0<p.getD i 0
     ·rw[decide_eq_true hv]at e4
      refine dEa (And.intro fL2 @hv) ?_
      all_goals try (refine zlf ?_;repeat' first|exact zso|refine And.intro ?_ ?_|(refine zim ?_;intro zb hc)|(refine zin ?_;intro zb)|intro j')
      all_goals try refine zbx ?_
      focus
       refine q_lp_n ((fun(j:Nat)=>D.length - j) (j+1)) (dC fL2 ?_) ⟨j+1,dC fL2 ?_⟩
       all_goals try (refine zlf ?_;repeat' first|exact zso|refine And.intro ?_ ?_|(refine zim ?_;intro zb hc)|(refine zin ?_;intro zb)|intro j')
       all_goals try refine zbx ?_
      all_goals(first|(rw[e4];simp only[bitI,if_true];omega)|skip)
      all_goals trace_state
     ·rw[decide_eq_false hv]at e4
      have hv':(D.getD j 0<p.getD i 0)=False:=eq_false hv
      refine dEa (And.intro fL2 @hv') ?_
      all_goals try (refine zlf ?_;repeat' first|exact zso|refine And.intro ?_ ?_|(refine zim ?_;intro zb hc)|(refine zin ?_;intro zb)|intro j')
      all_goals try refine zbx ?_
      focus
       refine q_lp_n ((fun(j:Nat)=>D.length - j) (j+1)) (dC fL2 ?_) ⟨j+1,dC fL2 ?_⟩
       all_goals try (refine zlf ?_;repeat' first|exact zso|refine And.intro ?_ ?_|(refine zim ?_;intro zb hc)|(refine zin ?_;intro zb)|intro j')
       all_goals try refine zbx ?_
      all_goals(first|(rw[e4];simp[bitI];done)|skip)
      all_goals trace_state
    ·have e5:D.take j=D:=List.take_of_length_le (by omega)
     refine dEa (And.intro fL2 @e5) ?_
     all_goals try (refine zlf ?_;repeat' first|exact zso|refine And.intro ?_ ?_|(refine zim ?_;intro zb hc)|(refine zin ?_;intro zb)|intro j')
     all_goals try refine zbx ?_
     focus
      refine q_lp_n ((fun(i:Nat)=>p.length - i) (i+1)) (dC fL2 ?_) ⟨i+1,dC fL2 ?_⟩
      all_goals try (refine zlf ?_;repeat' first|exact zso|refine And.intro ?_ ?_|(refine zim ?_;intro zb hc)|(refine zin ?_;intro zb)|intro j')
      all_goals try refine zbx ?_
     all_goals(first|(rw[e3];done)|(rw[e5,e3];done)|skip)
     all_goals trace_state
   all_goals(first|(simp[cntLt];done)|skip)
   all_goals trace_state
  ·have e6:(codeGo p).take i=codeGo p:=List.take_of_length_le (by omega)
   refine dEa (And.intro fL1 @e6) ?_
   all_goals try (refine zlf ?_;repeat' first|exact zso|refine And.intro ?_ ?_|(refine zim ?_;intro zb hc)|(refine zin ?_;intro zb)|intro j')
   all_goals try refine zbx ?_
   all_goals(first|(rw[e6];done)|skip)
   all_goals trace_state
 all_goals trace_state
theorem impl_CountInversions_c {m0:Bool} (p:List Int) (hl:p.length≤1048576):Fun Tryz.prog 42 [(.sl (.lent m0) (List.map (PV.int .i64) (p)))] [(.int .i64 ((if isPermB p then invN p p.length else -1)))]:=by
 by_cases h:isPermB p=true
 ·have h8:=(isPerm_facts h).1
  have e:(if isPermB p then invN p p.length else -1)=invN p p.length:=if_pos h
  rw[e]
  refine fO sg0 [2] Tryz.func42 ?_
  have cE1:= @impl_IsPerm_c;have cE2:= @impl_inversions_c
  refine dEa @h ?_
  all_goals try (refine zlf ?_;repeat' first|exact zso|refine And.intro ?_ ?_|(refine zim ?_;intro zb hc)|(refine zin ?_;intro zb)|intro j')
  all_goals try refine zbx ?_
  all_goals trace_state
 ·have e:(if isPermB p then invN p p.length else -1)= -1:=if_neg h
  rw[e]
  rw[Bool.not_eq_true]at h
  refine fO sg0 [2] Tryz.func42 ?_
  have cE1:= @impl_IsPerm_c;have cE2:= @impl_inversions_c
  refine dEa @h ?_
  all_goals try (refine zlf ?_;repeat' first|exact zso|refine And.intro ?_ ?_|(refine zim ?_;intro zb hc)|(refine zin ?_;intro zb)|intro j')
  all_goals try refine zbx ?_
  all_goals trace_state
def cyI (p:List Int):Nat→List Bool→Nat→List Bool
 |0,v,_=>v
 |d+1,v,x=>if v.getD x false=true then v else cyI p d (v.set x true) (p.getD x 0 - 1).toNat
def cyK (p:List Int):Nat→List Bool×Int
 |0=>(List.replicate p.length false,0)
 |k+1=>if(cyK p k).1.getD k false=true then cyK p k else(cyI p p.length (cyK p k).1 k,(cyK p k).2+1)
def fls (v:List Bool):Nat:=v.countP fun b=> !b
theorem fls_set:∀{v:List Bool} {x:Nat},x<v.length→v.getD x false=false→fls (v.set x true)+1=fls v
 |b::v,0,_,h=>by
  simp only[List.getD_cons_zero]at h;subst h
  simp[fls]
 |b::v,x+1,hx,h=>by
  have:=fls_set (v:=v) (x:=x) (by simpa using hx) (by simpa using h)
  simp only[fls,List.set_cons_succ,List.countP_cons]at this ⊢;omega
theorem fls_le {v:List Bool}:fls v≤v.length:=List.countP_le_length
theorem cyI_on {p:List Int} {d:Nat} {v:List Bool} {x:Nat} (h:v.getD x false=true):cyI p d v x=v:=by
 cases d with
 |zero=>rfl
 |succ d=>rw[cyI,if_pos h]
theorem cyI_len {p:List Int}:∀{d:Nat} {v:List Bool} {x:Nat},(cyI p d v x).length=v.length
 |0,_,_=>rfl
 |d+1,v,x=>by rw[cyI];split;rfl;rw[cyI_len,List.length_set]
theorem cyK_f {p:List Int}:∀{k:Nat},(cyK p k).1.length=p.length∧0≤(cyK p k).2∧(cyK p k).2≤k
 |0=>by simp[cyK]
 |k+1=>by
  obtain⟨h1,h2,h3⟩:=cyK_f (p:=p) (k:=k)
  rw[cyK];split
  ·exact⟨h1,h2,by omega⟩
  ·exact⟨by rw[cyI_len,h1],by simp only;omega,by simp only;omega⟩
def cyR (p:List Int):Int:=if isPermB p=true then(cyK p p.length).2 else -1
theorem cyR_b {p:List Int}: -1≤cyR p∧cyR p≤8:=by
 unfold cyR;split
 ·rename_i h
  have h8:=(isPerm_facts h).1
  obtain⟨_,h2,h3⟩:=cyK_f (p:=p) (k:=p.length);omega
 ·omega
set_option maxHeartbeats 1600000 in
theorem impl_CountCycles_c {m0:Bool} (p:List Int) (hl:p.length≤1048576):Fun Tryz.prog 44 [(.sl (.lent m0) (List.map (PV.int .i64) (p)))] [(.int .i64 (cyR p))]:=by
 by_cases h:isPermB p=true
 ·obtain⟨h8,hq⟩:=isPerm_facts h
  rw[cyR,if_pos h]
  refine fO sg0 [2] Tryz.func44 ?_
  have cE1:= @impl_IsPerm_c
  refine dEa @h ?_
  all_goals try (refine zlf ?_;repeat' first|exact zso|refine And.intro ?_ ?_|(refine zim ?_;intro zb hc)|(refine zin ?_;intro zb)|intro j')
  all_goals try refine zbx ?_
  refine v_loopB (fun ms1 S1=>∃(k:Nat),S1.e 0=.p (.sl (.lent m0) (List.map (PV.int .i64) (p)))∧OwnL (S1.e 3) S1.h S1.n PV.bool (((cyK p k).1).length) ((cyK p k).1)∧S1.e 4=.p (.int .i64 ((cyK p k).2))∧S1.e 14=.p (.int .i64 (p.length))∧S1.e 15=.p (.int .i64 (k))∧(k≤p.length)∧ms1=p.length - k) ((fun(k:Nat)=>p.length - k) (0)) ?_ ⟨0,dC trivial ?_⟩
  all_goals try (refine zlf ?_;repeat' first|exact zso|refine And.intro ?_ ?_|(refine zim ?_;intro zb hc)|(refine zin ?_;intro zb)|intro j')
  all_goals try refine zbx ?_
  rintro ms1 S1 ⟨k,h1_0,o1_3,h1_4,h1_14,h1_15,c1_0,hm1⟩
  obtain⟨i1_3,h1_3,b1_3,l1_3⟩:=o1_3.out
  have ni1_3:=znds (x:=i1_3) (n:=S1.n)
  have fL1:=(And.intro h1_0 (And.intro h1_4 (And.intro h1_14 (And.intro h1_15 (And.intro h1_3 (And.intro b1_3 ni1_3))))))
  ·obtain⟨q1,q2,q3⟩:=cyK_f (p:=p) (k:=k)
   by_cases hk:k<p.length
   ·have e0:cyK p (k+1)=if(cyK p k).1.getD k false=true then cyK p k else(cyI p p.length (cyK p k).1 k,(cyK p k).2+1):=rfl
    have e1:(cyK p (k+1)).1=cyI p p.length (cyK p k).1 k:=by
     rw[e0];split
     ·rename_i g;exact(cyI_on g).symm
     ·rfl
    have e2:(cyK p (k+1)).2=if(cyK p k).1.getD k false=true then(cyK p k).2 else(cyK p k).2+1:=by rw[e0];split<;>rfl
    generalize hV:(cyK p k).1=V at*
    generalize hC:(cyK p k).2=C at*
    obtain⟨T,hT⟩:∃T,cyI p p.length V k=T:=⟨_,rfl⟩
    rw[hT]at e1
    have hT8:T.length=p.length:=by rw[←hT,cyI_len,q1]
    have fle:=fls_le (v:=V)
    cases hb:V.getD k false with
    |true=>
     rw[hb,if_pos rfl]at e2
     rw[cyI_on hb]at hT
     refine dEa (And.intro fL1 @hb) ?_
     all_goals try (refine zlf ?_;repeat' first|exact zso|refine And.intro ?_ ?_|(refine zim ?_;intro zb hc)|(refine zin ?_;intro zb)|intro j')
     all_goals try refine zbx ?_
     refine v_loopB (fun ms2 S2=>∃(u:Nat),S2.e 0=.p (.sl (.lent m0) (List.map (PV.int .i64) (p)))∧OwnL (S2.e 3) S2.h S2.n PV.bool ((V).length) (V)∧S2.e 4=.p (.int .i64 (C))∧S2.e 14=.p (.int .i64 (p.length))∧S2.e 15=.p (.int .i64 (k))∧S2.e 5=.p (.int .i64 (k))∧S2.e 6=.p (.int .i64 (k))∧S1.n≤S2.n∧ms2=u) ((fun(u:Nat)=>u) (0)) ?_ ⟨0,dC fL1 ?_⟩
     all_goals try (refine zlf ?_;repeat' first|exact zso|refine And.intro ?_ ?_|(refine zim ?_;intro zb hc)|(refine zin ?_;intro zb)|intro j')
     all_goals try refine zbx ?_
     rintro ms2 S2 ⟨u,h2_0,o2_3,h2_4,h2_14,h2_15,h2_5,h2_6,u2_0,hm2⟩
     obtain⟨i2_3,h2_3,b2_3,l2_3⟩:=o2_3.out
     have ni2_3:=znds (x:=i2_3) (n:=S2.n)
     have fL2:=(And.intro h2_0 (And.intro h2_4 (And.intro h2_14 (And.intro h2_15 (And.intro h2_5 (And.intro h2_6 (And.intro h2_3 (And.intro b2_3 ni2_3))))))))
     ·refine dEa (And.intro fL2 @hb) ?_
      all_goals try (refine zlf ?_;repeat' first|exact zso|refine And.intro ?_ ?_|(refine zim ?_;intro zb hc)|(refine zin ?_;intro zb)|intro j')
      all_goals try refine zbx ?_
      focus
       refine q_lp_n ((fun(k:Nat)=>p.length - k) (k+1)) (dC fL2 ?_) ⟨k+1,dC fL2 ?_⟩
       all_goals try (refine zlf ?_;repeat' first|exact zso|refine And.intro ?_ ?_|(refine zim ?_;intro zb hc)|(refine zin ?_;intro zb)|intro j')
       all_goals try refine zbx ?_
      all_goals(first|(rw[e1,←hT];done)|(rw[e2];done)|(rw[e1,hT8,q1];done)|skip)
      all_goals trace_state
     all_goals trace_state
    |false=>
     rw[hb,if_neg (by decide)]at e2
     refine dEa (And.intro fL1 @hb) ?_
     all_goals try (refine zlf ?_;repeat' first|exact zso|refine And.intro ?_ ?_|(refine zim ?_;intro zb hc)|(refine zin ?_;intro zb)|intro j')
     all_goals try refine zbx ?_
     refine v_loopB (fun ms3 S3=>∃(d:Nat) (v:List Bool) (x:Nat),S3.e 0=.p (.sl (.lent m0) (List.map (PV.int .i64) (p)))∧OwnL (S3.e 3) S3.h S3.n PV.bool ((v).length) (v)∧S3.e 4=.p (.int .i64 ((C+1)))∧S3.e 14=.p (.int .i64 (p.length))∧S3.e 15=.p (.int .i64 (k))∧S3.e 5=.p (.int .i64 (k))∧S3.e 6=.p (.int .i64 (x))∧(v.length=p.length)∧(x<p.length)∧(cyI p d v x=T)∧(fls v≤d)∧S1.n≤S3.n∧ms3=d) ((fun(d:Nat) (v:List Bool) (x:Nat)=>d) (p.length) (V) (k)) ?_ ⟨p.length,V,k,dC fL1 ?_⟩
     all_goals try (refine zlf ?_;repeat' first|exact zso|refine And.intro ?_ ?_|(refine zim ?_;intro zb hc)|(refine zin ?_;intro zb)|intro j')
     all_goals try refine zbx ?_
     rintro ms3 S3 ⟨d,v,x,h3_0,o3_3,h3_4,h3_14,h3_15,h3_5,h3_6,c3_0,c3_1,c3_2,c3_3,u3_0,hm3⟩
     obtain⟨i3_3,h3_3,b3_3,l3_3⟩:=o3_3.out
     have ni3_3:=znds (x:=i3_3) (n:=S3.n)
     have fL3:=(And.intro h3_0 (And.intro h3_4 (And.intro h3_14 (And.intro h3_15 (And.intro h3_5 (And.intro h3_6 (And.intro h3_3 (And.intro b3_3 ni3_3))))))))
     ·have x1:=(permB_iff.1 hq).1 _ (getD_mem (l:=p) (i:=x) (d:=0) (by omega))
      cases hv:v.getD x false with
      |true=>
       rw[cyI_on hv]at c3_2
       refine dEa (And.intro fL3 @hv) ?_
       all_goals try (refine zlf ?_;repeat' first|exact zso|refine And.intro ?_ ?_|(refine zim ?_;intro zb hc)|(refine zin ?_;intro zb)|intro j')
       all_goals try refine zbx ?_
       focus
        refine q_lp_n ((fun(k:Nat)=>p.length - k) (k+1)) (dC fL3 ?_) ⟨k+1,dC fL3 ?_⟩
        all_goals try (refine zlf ?_;repeat' first|exact zso|refine And.intro ?_ ?_|(refine zim ?_;intro zb hc)|(refine zin ?_;intro zb)|intro j')
        all_goals try refine zbx ?_
       all_goals(first|(rw[e1,←c3_2];done)|(rw[e2];done)|(rw[e1,hT8,c3_0];done)|skip)
       all_goals trace_state
      |false=>
       have x2:=fls_set (by omega) hv
       obtain⟨d,rfl⟩:∃e,d=e+1:=⟨d - 1,by omega⟩
       rw[cyI,if_neg (by rw[hv];decide)]at c3_2
       refine dEa (And.intro fL3 @hv) ?_
       all_goals try (refine zlf ?_;repeat' first|exact zso|refine And.intro ?_ ?_|(refine zim ?_;intro zb hc)|(refine zin ?_;intro zb)|intro j')
       all_goals try refine zbx ?_
       focus
        refine q_lp_n ((fun(d:Nat) (v:List Bool) (x:Nat)=>d) (d) (v.set x true) ((p.getD x 0 - 1).toNat)) (dC fL3 ?_) ⟨d,v.set x true,(p.getD x 0 - 1).toNat,dC fL3 ?_⟩
        all_goals try (refine zlf ?_;repeat' first|exact zso|refine And.intro ?_ ?_|(refine zim ?_;intro zb hc)|(refine zin ?_;intro zb)|intro j')
        all_goals try refine zbx ?_
       all_goals trace_state
     all_goals trace_state
   ·obtain rfl:k=p.length:=by omega
    refine dEa fL1 ?_
    all_goals try (refine zlf ?_;repeat' first|exact zso|refine And.intro ?_ ?_|(refine zim ?_;intro zb hc)|(refine zin ?_;intro zb)|intro j')
    all_goals try refine zbx ?_
    all_goals trace_state
  all_goals(first|(simp[cyK];done)|skip)
  all_goals trace_state
 ·rw[cyR,if_neg h]
  rw[Bool.not_eq_true]at h
  refine fO sg0 [2] Tryz.func44 ?_
  have cE1:= @impl_IsPerm_c
  refine dEa @h ?_
  all_goals try (refine zlf ?_;repeat' first|exact zso|refine And.intro ?_ ?_|(refine zim ?_;intro zb hc)|(refine zin ?_;intro zb)|intro j')
  all_goals try refine zbx ?_
  all_goals trace_state
set_option maxHeartbeats 1600000 in
theorem spec_CountCycles_c {m0:Bool} (p:List Int) (hl:p.length≤1048576):Fun Tryz.prog 30 [(.sl (.lent m0) (List.map (PV.int .i64) (p)))] [(.int .i64 (cyR p))]:=by
 by_cases h:isPermB p=true
 ·obtain⟨h8,hq⟩:=isPerm_facts h
  rw[cyR,if_pos h]
  refine fO sg0 [2] Tryz.func30 ?_
  have cE1:= @spec_IsPerm_c
  refine dEa @h ?_
  all_goals try (refine zlf ?_;repeat' first|exact zso|refine And.intro ?_ ?_|(refine zim ?_;intro zb hc)|(refine zin ?_;intro zb)|intro j')
  all_goals try refine zbx ?_
  refine v_loopB (fun ms1 S1=>∃(k:Nat),S1.e 0=.p (.sl (.lent m0) (List.map (PV.int .i64) (p)))∧S1.e 3=.p (.int .i64 ((cyK p k).2))∧OwnL (S1.e 4) S1.h S1.n PV.bool (((cyK p k).1).length) ((cyK p k).1)∧S1.e 5=.p (.int .i64 (k))∧(k≤p.length)∧ms1=p.length - k) ((fun(k:Nat)=>p.length - k) (0)) ?_ ⟨0,dC trivial ?_⟩
  all_goals try (refine zlf ?_;repeat' first|exact zso|refine And.intro ?_ ?_|(refine zim ?_;intro zb hc)|(refine zin ?_;intro zb)|intro j')
  all_goals try refine zbx ?_
  rintro ms1 S1 ⟨k,h1_0,h1_3,o1_4,h1_5,c1_0,hm1⟩
  obtain⟨i1_4,h1_4,b1_4,l1_4⟩:=o1_4.out
  have ni1_4:=znds (x:=i1_4) (n:=S1.n)
  have fL1:=(And.intro h1_0 (And.intro h1_3 (And.intro h1_5 (And.intro h1_4 (And.intro b1_4 ni1_4)))))
  ·obtain⟨q1,q2,q3⟩:=cyK_f (p:=p) (k:=k)
   by_cases hk:k<p.length
   ·have e0:cyK p (k+1)=if(cyK p k).1.getD k false=true then cyK p k else(cyI p p.length (cyK p k).1 k,(cyK p k).2+1):=rfl
    have e1:(cyK p (k+1)).1=cyI p p.length (cyK p k).1 k:=by
     rw[e0];split
     ·rename_i g;exact(cyI_on g).symm
     ·rfl
    have e2:(cyK p (k+1)).2=if(cyK p k).1.getD k false=true then(cyK p k).2 else(cyK p k).2+1:=by rw[e0];split<;>rfl
    generalize hV:(cyK p k).1=V at*
    generalize hC:(cyK p k).2=C at*
    obtain⟨T,hT⟩:∃T,cyI p p.length V k=T:=⟨_,rfl⟩
    rw[hT]at e1
    have hT8:T.length=p.length:=by rw[←hT,cyI_len,q1]
    have fle:=fls_le (v:=V)
    cases hb:V.getD k false with
    |true=>
     rw[hb,if_pos rfl]at e2
     rw[cyI_on hb]at hT
     refine dEa (And.intro fL1 @hb) ?_
     all_goals try (refine zlf ?_;repeat' first|exact zso|refine And.intro ?_ ?_|(refine zim ?_;intro zb hc)|(refine zin ?_;intro zb)|intro j')
     all_goals try refine zbx ?_
     focus
      refine q_lp_n ((fun(k:Nat)=>p.length - k) (k+1)) (dC fL1 ?_) ⟨k+1,dC fL1 ?_⟩
      all_goals try (refine zlf ?_;repeat' first|exact zso|refine And.intro ?_ ?_|(refine zim ?_;intro zb hc)|(refine zin ?_;intro zb)|intro j')
      all_goals try refine zbx ?_
     all_goals(first|(rw[e1,←hT];done)|(rw[e2];done)|(rw[e1,hT8,q1];done)|skip)
     all_goals trace_state
    |false=>
     rw[hb,if_neg (by decide)]at e2
     refine dEa (And.intro fL1 @hb) ?_
     all_goals try (refine zlf ?_;repeat' first|exact zso|refine And.intro ?_ ?_|(refine zim ?_;intro zb hc)|(refine zin ?_;intro zb)|intro j')
     all_goals try refine zbx ?_
     refine v_loopB (fun ms3 S3=>∃(d:Nat) (v:List Bool) (x:Nat),S3.e 0=.p (.sl (.lent m0) (List.map (PV.int .i64) (p)))∧OwnL (S3.e 4) S3.h S3.n PV.bool ((v).length) (v)∧S3.e 3=.p (.int .i64 ((C+1)))∧S3.e 5=.p (.int .i64 (k))∧S3.e 6=.p (.int .i64 (x))∧(v.length=p.length)∧(x<p.length)∧(cyI p d v x=T)∧(fls v≤d)∧S1.n≤S3.n∧ms3=d) ((fun(d:Nat) (v:List Bool) (x:Nat)=>d) (p.length) (V) (k)) ?_ ⟨p.length,V,k,dC fL1 ?_⟩
     all_goals try (refine zlf ?_;repeat' first|exact zso|refine And.intro ?_ ?_|(refine zim ?_;intro zb hc)|(refine zin ?_;intro zb)|intro j')
     all_goals try refine zbx ?_
     rintro ms3 S3 ⟨d,v,x,h3_0,o3_4,h3_3,h3_5,h3_6,c3_0,c3_1,c3_2,c3_3,u3_0,hm3⟩
     obtain⟨i3_4,h3_4,b3_4,l3_4⟩:=o3_4.out
     have ni3_4:=znds (x:=i3_4) (n:=S3.n)
     have fL3:=(And.intro h3_0 (And.intro h3_3 (And.intro h3_5 (And.intro h3_6 (And.intro h3_4 (And.intro b3_4 ni3_4))))))
     ·have x1:=(permB_iff.1 hq).1 _ (getD_mem (l:=p) (i:=x) (d:=0) (by omega))
      cases hv:v.getD x false with
      |true=>
       rw[cyI_on hv]at c3_2
       refine dEa (And.intro fL3 @hv) ?_
       all_goals try (refine zlf ?_;repeat' first|exact zso|refine And.intro ?_ ?_|(refine zim ?_;intro zb hc)|(refine zin ?_;intro zb)|intro j')
       all_goals try refine zbx ?_
       focus
        refine q_lp_n ((fun(k:Nat)=>p.length - k) (k+1)) (dC fL3 ?_) ⟨k+1,dC fL3 ?_⟩
        all_goals try (refine zlf ?_;repeat' first|exact zso|refine And.intro ?_ ?_|(refine zim ?_;intro zb hc)|(refine zin ?_;intro zb)|intro j')
        all_goals try refine zbx ?_
       all_goals(first|(rw[e1,←c3_2];done)|(rw[e2];done)|(rw[e1,hT8,c3_0];done)|skip)
       all_goals trace_state
      |false=>
       have x2:=fls_set (by omega) hv
       obtain⟨d,rfl⟩:∃e,d=e+1:=⟨d - 1,by omega⟩
       rw[cyI,if_neg (by rw[hv];decide)]at c3_2
       refine dEa (And.intro fL3 @hv) ?_
       all_goals try (refine zlf ?_;repeat' first|exact zso|refine And.intro ?_ ?_|(refine zim ?_;intro zb hc)|(refine zin ?_;intro zb)|intro j')
       all_goals try refine zbx ?_
       focus
        refine q_lp_n ((fun(d:Nat) (v:List Bool) (x:Nat)=>d) (d) (v.set x true) ((p.getD x 0 - 1).toNat)) (dC fL3 ?_) ⟨d,v.set x true,(p.getD x 0 - 1).toNat,dC fL3 ?_⟩
        all_goals try (refine zlf ?_;repeat' first|exact zso|refine And.intro ?_ ?_|(refine zim ?_;intro zb hc)|(refine zin ?_;intro zb)|intro j')
        all_goals try refine zbx ?_
       all_goals trace_state
     all_goals trace_state
   ·obtain rfl:k=p.length:=by omega
    refine dEa fL1 ?_
    all_goals try (refine zlf ?_;repeat' first|exact zso|refine And.intro ?_ ?_|(refine zim ?_;intro zb hc)|(refine zin ?_;intro zb)|intro j')
    all_goals try refine zbx ?_
    all_goals trace_state
  all_goals(first|(simp[cyK];done)|skip)
  all_goals trace_state
 ·rw[cyR,if_neg h]
  rw[Bool.not_eq_true]at h
  refine fO sg0 [2] Tryz.func30 ?_
  have cE1:= @spec_IsPerm_c
  refine dEa @h ?_
  all_goals try (refine zlf ?_;repeat' first|exact zso|refine And.intro ?_ ?_|(refine zim ?_;intro zb hc)|(refine zin ?_;intro zb)|intro j')
  all_goals try refine zbx ?_
  all_goals trace_state
def idxG {α:Type} (p:α→Bool):List α→Nat→Int
 |[],_=> -1
 |x::l,i=>if p x then i else idxG p l (i+1)
theorem idxG_any {α:Type} {p:α→Bool}:∀{l:List α} {i:Nat},decide (0≤idxG p l i)=l.any p
 |[],_=>rfl
 |x::l,i=>by
  rw[idxG,List.any_cons]
  split
  ·rename_i h;rw[h,Bool.true_or];exact decide_eq_true (by omega)
  ·rename_i h;rw[idxG_any,Bool.eq_false_iff.2 h,Bool.false_or]
theorem slices_IndexFunc_LLint_int_c {e0 m0:Bool} (l:List (List Int)) (g:FuncId) (caps:List PV) (p:List Int→Bool) (hl:l.length≤1099511627776) (hp:∀x∈l,Fun Tryz.prog g (.sl (.lent e0) (List.map (PV.int .i64) x)::caps.map PV.cell) [.bool (p x)]):Fun Tryz.prog 174 [(.sl (.lent m0) (List.map (elI e0) (l))),(.fn g [] caps)] [(.int .i64 (idxG p l 0))]:=by
 refine fO sg0 [4] Tryz.func174 ?_
 refine dE trivial ?_
 all_goals try (refine zlf ?_;repeat' first|exact zso|refine And.intro ?_ ?_|(refine zim ?_;intro zb hc)|(refine zin ?_;intro zb)|intro j')
 all_goals try refine zbx ?_
 refine v_loopB (fun ms1 S1=>∃(k:Nat),S1.e 0=.p (.sl (.lent m0) (List.map (elI e0) (l)))∧S1.e 1=.p (.fn g [] caps)∧S1.e 7=.p (.int .i64 (l.length))∧S1.e 8=.p (.int .i64 (k))∧(k≤l.length)∧(idxG p l 0=idxG p (l.drop k) k)∧ms1=l.length - k) ((fun(k:Nat)=>l.length - k) (0)) ?_ ⟨0,dIa trivial ?_⟩
 all_goals try (refine zlf ?_;repeat' first|exact zso|refine And.intro ?_ ?_|(refine zim ?_;intro zb hc)|(refine zin ?_;intro zb)|intro j')
 all_goals try refine zbx ?_
 rintro ms1 S1 ⟨k,h1_0,h1_1,h1_7,h1_8,c1_0,c1_1,hm1⟩
 have fL1:=(And.intro h1_0 (And.intro h1_1 (And.intro h1_7 h1_8)))
 have cE1:= @hp
 refine dEa fL1 ?_
 all_goals try (refine zlf ?_;repeat' first|exact zso|refine And.intro ?_ ?_|(refine zim ?_;intro zb hc)|(refine zin ?_;intro zb)|intro j')
 all_goals try refine zbx ?_
 ·exact getD_mem hc
 ·rw[c1_1,dropL_at (by omega),idxG,if_pos hc]
 ·focus
   refine q_lp_n ((fun(k:Nat)=>l.length - k) (k+1)) (dC fL1 ?_) ⟨k+1,dC fL1 ?_⟩
   all_goals try (refine zlf ?_;repeat' first|exact zso|refine And.intro ?_ ?_|(refine zim ?_;intro zb hc)|(refine zin ?_;intro zb)|intro j')
   all_goals try refine zbx ?_
  rw[c1_1,dropL_at (by omega),idxG,if_neg (by rw[hc];decide)]
 ·rw[c1_1,List.drop_of_length_le (by omega),idxG]
theorem slices_ContainsFunc_LLint_int_c {e0 m0:Bool} (l:List (List Int)) (g:FuncId) (caps:List PV) (p:List Int→Bool) (hl:l.length≤1099511627776) (hp:∀x∈l,Fun Tryz.prog g (.sl (.lent e0) (List.map (PV.int .i64) x)::caps.map PV.cell) [.bool (p x)]):Fun Tryz.prog 137 [(.sl (.lent m0) (List.map (elI e0) (l))),(.fn g [] caps)] [(.bool (l.any p))]:=by
 refine fO sg0 [4] Tryz.func137 ?_
 have cE1:= @slices_IndexFunc_LLint_int_c
 have cE1:=(fun m0=>slices_IndexFunc_LLint_int_c (m0:=m0) l g caps p hl hp);have cE2:= @slices_IndexFunc_LLint_int_c
 refine dE trivial ?_
 all_goals try (refine zlf ?_;repeat' first|exact zso|refine And.intro ?_ ?_|(refine zim ?_;intro zb hc)|(refine zin ?_;intro zb)|intro j')
 all_goals try refine zbx ?_
 rw[idxG_any]
end Go.Gl
