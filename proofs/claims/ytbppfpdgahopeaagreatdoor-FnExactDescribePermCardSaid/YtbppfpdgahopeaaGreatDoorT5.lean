/-
  What the functions compute, and what the law asks of it: texts joined. Conditions: those that each lemma names.
-/
import Derived.Test.YtbppfpdgahopeaaGreatDoorT4
import Derived.Test.YtbppfpdgahopeaaGreatDoorT1
import Derived.Test.YtbppfpdgahopeaaGreatDoorT2
import Derived.Test.YtbppfpdgahopeaaGreatDoorT3
import Derived.Test.YtbppfpdgahopeaaGreatDoorGlC
import Derived.Lib.ItoaLen
import Derived.Lib.AppendIntMem
set_option linter.unusedSimpArgs false
set_option linter.unusedVariables false
set_option maxRecDepth 20000
set_option linter.unusedSectionVars false
namespace Go.Gl
open Go Go.Proofs
variable [Amb] [NoQ]
theorem nine:∀d,d≤8→9^d≤43046721:=by decide
set_option maxHeartbeats 1600000 in
theorem impl_roots_c:∀(d:Nat) {m0:Bool} (p:List Int),d≤8→isPermB p=true→p.length≤d→Fun Tryz.prog 138 [.sl (.lent m0) (List.map (PV.int .i64) p)] [.sl .own (List.map (elI false) (rtL d p))]:=by
 intro d
 induction d with
 |zero=>
  intro m0 p hd hp hl
  rw[rtL_few (by omega)]
  refine fO sg0 [2] Tryz.func138 ?_
  have cE1:= @impl_split_c
  refine dEa trivial ?_
  all_goals try (refine zlf ?_;repeat' first|exact zso|refine And.intro ?_ ?_|(refine zim ?_;intro zb hc)|(refine zin ?_;intro zb)|intro j')
  all_goals try refine zbx ?_
  all_goals trace_state
 |succ d ih=>
  intro m0 p hd hp hl
  by_cases h2:p.length<2
  ·rw[rtL_few h2]
   refine fO sg0 [2] Tryz.func138 ?_
   have cE1:= @impl_split_c
   refine dEa trivial ?_
   all_goals try (refine zlf ?_;repeat' first|exact zso|refine And.intro ?_ ?_|(refine zim ?_;intro zb hc)|(refine zin ?_;intro zb)|intro j')
   all_goals try refine zbx ?_
   all_goals trace_state
  ·have hf:=spl_f hp (by omega)
   obtain⟨n1,n2⟩:=spl_n hp
   have e:rtL (d+1) p=(splL p).1::(splL p).2.flatMap (rtL d):=by rw[rtL,if_neg h2]
   have h9:=nine d (by omega)
   rw[e]
   refine fO sg0 [2] Tryz.func138 ?_
   have cE1:= @impl_split_c
   have cE1:= @ih;have cE2:= @impl_split_c
   refine dEa @hp ?_
   all_goals try (refine zlf ?_;repeat' first|exact zso|refine And.intro ?_ ?_|(refine zim ?_;intro zb hc)|(refine zin ?_;intro zb)|intro j')
   all_goals try refine zbx ?_
   refine v_loopB (fun ms1 S1=>∃(k:Nat),OwnL (S1.e 4) S1.h S1.n (elI false) (((splL p).1::((splL p).2.take k).flatMap (rtL d)).length) ((splL p).1::((splL p).2.take k).flatMap (rtL d))∧S1.e 16=.p (.sl (.lent false) (List.map (elI false) ((splL p).2)))∧S1.e 17=.p (.int .i64 ((splL p).2.length))∧S1.e 18=.p (.int .i64 (k))∧(k≤(splL p).2.length)∧ms1=(splL p).2.length - k) ((fun(k:Nat)=>(splL p).2.length - k) (0)) ?_ ⟨0,dC trivial ?_⟩
   all_goals try (refine zlf ?_;repeat' first|exact zso|refine And.intro ?_ ?_|(refine zim ?_;intro zb hc)|(refine zin ?_;intro zb)|intro j')
   all_goals try refine zbx ?_
   rintro ms1 S1 ⟨k,o1_4,h1_16,h1_17,h1_18,c1_0,hm1⟩
   obtain⟨i1_4,h1_4,b1_4,l1_4⟩:=o1_4.out
   have ni1_4:=znds (x:=i1_4) (n:=S1.n)
   have fL1:=(And.intro h1_16 (And.intro h1_17 (And.intro h1_18 (And.intro h1_4 (And.intro b1_4 ni1_4)))))
   ·have g1:=flat_ln (L:=(splL p).2.take k) (f:=rtL d) (n:=9^d) fun q hq=>rtL_len (hf q (List.mem_of_mem_take hq)).1
    have g2:=Nat.mul_le_mul_right (9^d) (show((splL p).2.take k).length≤8 by rw[List.length_take];omega)
    by_cases hk:k<(splL p).2.length
    ·obtain⟨q1,q2⟩:=hf _ (getD_mem (d:=[]) hk)
     have q3:=rtL_len (d:=d) q1
     have q4:((splL p).2.take (k+1)).flatMap (rtL d)=((splL p).2.take k).flatMap (rtL d)++rtL d ((splL p).2.getD k []):=by
      rw[take_getD (d:=[]) hk,List.flatMap_append];simp
     have cE1:= @ih;have cE2:= @impl_split_c
     refine dEa (And.intro fL1 @q1) ?_
     all_goals try (refine zlf ?_;repeat' first|exact zso|refine And.intro ?_ ?_|(refine zim ?_;intro zb hc)|(refine zin ?_;intro zb)|intro j')
     all_goals try refine zbx ?_
     focus
      refine q_lp_n ((fun(k:Nat)=>(splL p).2.length - k) (k+1)) (dC fL1 ?_) ⟨k+1,dC fL1 ?_⟩
      all_goals try (refine zlf ?_;repeat' first|exact zso|refine And.intro ?_ ?_|(refine zim ?_;intro zb hc)|(refine zin ?_;intro zb)|intro j')
      all_goals try refine zbx ?_
     all_goals(first|(rw[q4,List.length_append];omega)|(rw[q4];done)|skip)
     all_goals trace_state
    ·have cE1:= @impl_split_c;have cE2:=trivial
     refine dEa fL1 ?_
     all_goals try (refine zlf ?_;repeat' first|exact zso|refine And.intro ?_ ?_|(refine zim ?_;intro zb hc)|(refine zin ?_;intro zb)|intro j')
     all_goals try refine zbx ?_
     rw[List.take_of_length_le (by omega)]
   all_goals trace_state
 all_goals trace_state
def sepB (p:List Int):Bool:=isPermB p&& !((rtL 8 p).any fun q=>decide ((2:Int)<(q.length:Int)))
theorem impl_IsSeparable_1_c {m0:Bool} (q:List Int) (hq:q.length≤1048576):Fun Tryz.prog 139 [(.sl (.lent m0) (List.map (PV.int .i64) (q)))] [(.bool (decide ((2:Int)<(q.length:Int))))]:=by
 refine fO sg0 [2] Tryz.func139 ?_
 refine dEa trivial ?_
 all_goals try (refine zlf ?_;repeat' first|exact zso|refine And.intro ?_ ?_|(refine zim ?_;intro zb hc)|(refine zin ?_;intro zb)|intro j')
 all_goals try refine zbx ?_
theorem impl_IsSeparable_c {m0:Bool} (p:List Int) (hp:p.length≤1048576):Fun Tryz.prog 97 [(.sl (.lent m0) (List.map (PV.int .i64) (p)))] [(.bool (sepB p))]:=by
 by_cases h:isPermB p=true
 ·obtain⟨h8,_⟩:=isPerm_facts h
  have b1:=rtL_len (d:=8) h
  have b2:=rtL_row (d:=8) h
  have c1:=fun(e0 m0:Bool)=>slices_ContainsFunc_LLint_int_c (e0:=e0) (m0:=m0) (rtL 8 p) 139 [] (fun q=>decide ((2:Int)<(q.length:Int))) (by omega) (fun q hq=>impl_IsSeparable_1_c (m0:=e0) q (by have:=b2 q hq;omega))
  have c2:=fun(m0:Bool)=>impl_roots_c 8 (m0:=m0) p (by decide) h h8
  rw[sepB,h,Bool.true_and]
  refine fO sg0 [2] Tryz.func97 ?_
  have cE1:= @impl_IsPerm_c;have cE2:= @slices_ContainsFunc_LLint_int_c;have cE3:= @impl_IsSeparable_1_c
  have cE1:= @c1;have cE2:= @c2;have cE3:= @impl_IsPerm_c;have cE4:= @slices_ContainsFunc_LLint_int_c;have cE5:= @impl_IsSeparable_1_c
  refine dEa @h ?_
  all_goals try (refine zlf ?_;repeat' first|exact zso|refine And.intro ?_ ?_|(refine zim ?_;intro zb hc)|(refine zin ?_;intro zb)|intro j')
  all_goals try refine zbx ?_
  all_goals trace_state
 ·rw[Bool.not_eq_true]at h
  rw[sepB,h,Bool.false_and]
  refine fO sg0 [2] Tryz.func97 ?_
  have cE1:= @impl_IsPerm_c;have cE2:= @slices_ContainsFunc_LLint_int_c;have cE3:= @impl_IsSeparable_1_c
  refine dEa @h ?_
  all_goals try (refine zlf ?_;repeat' first|exact zso|refine And.intro ?_ ?_|(refine zim ?_;intro zb hc)|(refine zin ?_;intro zb)|intro j')
  all_goals try refine zbx ?_
  all_goals trace_state
def sgRt:FuncId→List Bool:=fun f=>if f=164 then[false,true]else if f=118 then[true]else[]
theorem sgRt_eq {f:FuncId}:sgRt f=if f=164 then[false,true]else if f=118 then[true]else[]:=_root_.id rfl
theorem way_sgRt:wayE sgRt=false∧wayN sgRt=false∧wayS sgRt=false∧wayZ sgRt=false∧wayM sgRt=false:=⟨rfl,rfl,rfl,rfl,rfl⟩
attribute [go_sem] sgRt_eq way_sgRt
set_option maxHeartbeats 1600000 in
theorem spec_l6Roots_c:∀(d:Nat) {m0:Bool} (p:List Int) (out:List (List Int)),d≤8→isPermB p=true→p.length≤d→(∀l∈out,l.length≤8)→out.length+9^d≤1000000000→
  CallT Tryz.prog true 164 [.pv (.sl (.lent m0) (List.map (PV.int .i64) p)),.mu false (List.map (elI false) out)] [none,none] [.sl .own (List.map (elI false) (rsL d p out))]:=by
 intro d
 induction d with
 |zero=>
  intro m0 p out hd hp hl hr ho
  rw[show rsL 0 p out=out from rfl]
  refine CallT.of (sg:=sgRt) (ts:=[4]) mo Tryz.func164 rfl rfl rfl rfl (by kernel_rfl) (by simp only[go_sem]) rfl rfl ?_
  have cE1:= @spec_l6Split_c;have cM1:= @spec_l3Put_c
  refine dTa trivial ?_
  all_goals try (refine zlf ?_;repeat' first|exact zso|refine And.intro ?_ ?_|(refine zim ?_;intro zb hc)|(refine zin ?_;intro zb)|intro j')
  all_goals try refine zbx ?_
  all_goals trace_state
 |succ d ih=>
  intro m0 p out hd hp hl hr ho
  by_cases h2:p.length<2
  ·have e:rsL (d+1) p out=out:=by rw[rsL,if_pos h2]
   rw[e]
   refine CallT.of (sg:=sgRt) (ts:=[4]) mo Tryz.func164 rfl rfl rfl rfl (by kernel_rfl) (by simp only[go_sem]) rfl rfl ?_
   have cE1:= @spec_l6Split_c;have cM1:= @spec_l3Put_c
   refine dTa trivial ?_
   all_goals try (refine zlf ?_;repeat' first|exact zso|refine And.intro ?_ ?_|(refine zim ?_;intro zb hc)|(refine zin ?_;intro zb)|intro j')
   all_goals try refine zbx ?_
   all_goals trace_state
  ·have hf:=spl_f hp (by omega)
   obtain⟨n1,n2⟩:=spl_n hp
   have e:rsL (d+1) p out=rsK d (splL p).2 (putP out (splL p).1):=by rw[rsL,if_neg h2];rfl
   have h9:=nine d (by omega)
   have h10:9^(d+1)=9*9^d:=by rw[Nat.pow_succ,Nat.mul_comm]
   have h11:0<9^d:=Nat.pow_pos (by decide)
   have p1:=putP_le (L:=out) (p:=(splL p).1)
   have p2:∀l∈putP out (splL p).1,l.length≤8:=fun l hl=>by
    rcases putP_mem.1 hl with g|g
    ·rw[g];exact n2
    ·exact hr l g
   have hr':∀l∈out,l.length≤1048576:=fun l hl=>by have:=hr l hl;omega
   rw[e]
   refine CallT.of (sg:=sgRt) (ts:=[4]) mo Tryz.func164 rfl rfl rfl rfl (by kernel_rfl) (by simp only[go_sem]) rfl rfl ?_
   have cE1:= @spec_l6Split_c;have cM1:= @spec_l3Put_c
   refine dTa @hp ?_
   all_goals try (refine zlf ?_;repeat' first|exact zso|refine And.intro ?_ ?_|(refine zim ?_;intro zb hc)|(refine zin ?_;intro zb)|intro j')
   all_goals try refine zbx ?_
   refine v_loopB (fun ms1 S1=>∃(k:Nat),S1.e 0=.p (.sl (.lent m0) (List.map (PV.int .i64) (p)))∧OwnM (S1.e 1) S1.h S1.n (elI false) ((rsK d ((splL p).2.take k) (putP out (splL p).1)).length) (rsK d ((splL p).2.take k) (putP out (splL p).1))∧PtrL (S1.e 5) S1.h S1.n (.live false [.sl (.lent false) (List.map (PV.int .i64) (splL p).1),.sl (.lent false) (List.map (elI false) (splL p).2)])∧S1.e 6=.p (.int .i64 (k))∧(k≤(splL p).2.length)∧NId (asR (S1.e 5)) (S1.e 1)∧ms1=(splL p).2.length - k) ((fun(k:Nat)=>(splL p).2.length - k) (0)) ?_ ⟨0,dC trivial ?_⟩
   all_goals try (refine zlf ?_;repeat' first|exact zso|refine And.intro ?_ ?_|(refine zim ?_;intro zb hc)|(refine zin ?_;intro zb)|intro j')
   all_goals try refine zbx ?_
   rintro ms1 S1 ⟨k,h1_0,o1_1,o1_5,h1_6,c1_0,u1_0,hm1⟩
   obtain⟨i1_1,mm1_1,h1_1,b1_1,l1_1⟩:=o1_1.out
   obtain⟨i1_5,h1_5,b1_5,l1_5⟩:=o1_5.out
   have k1_0:=(u1_0).out (asR_eq h1_5) h1_1
   have ni1_1:=znds (x:=i1_1) (n:=S1.n)
   have ni1_5:=znds (x:=i1_5) (n:=S1.n)
   have di1_1i1_5:=zdne (x:=i1_1) (y:=i1_5)
   have fL1:=(And.intro h1_0 (And.intro h1_6 (And.intro h1_1 (And.intro b1_1 (And.intro h1_5 (And.intro b1_5 (And.intro ni1_1 (And.intro ni1_5 di1_1i1_5))))))))
   ·obtain⟨g1,g2⟩:=rsK_len (d:=d) (L:=(splL p).2.take k) (o:=putP out (splL p).1) (fun q hq=>(hf q (List.mem_of_mem_take hq)).1) p2
    have g3:=Nat.mul_le_mul_right (9^d) (show((splL p).2.take k).length≤8 by rw[List.length_take];omega)
    by_cases hk:k<(splL p).2.length
    ·obtain⟨q1,q2⟩:=hf _ (getD_mem (d:=[]) hk)
     have q4:rsK d ((splL p).2.take (k+1)) (putP out (splL p).1)=rsL d ((splL p).2.getD k []) (rsK d ((splL p).2.take k) (putP out (splL p).1)):=by
      rw[take_getD (d:=[]) hk,rsK_snoc]
     have g5:=Nat.mul_le_mul_right (9^d) (show((splL p).2.take k).length≤7 by rw[List.length_take];omega)
     have cM2:= @ih
     refine dTa (And.intro fL1 (And.intro @q1 @tk1)) ?_
     all_goals try (refine zlf ?_;repeat' first|exact zso|refine And.intro ?_ ?_|(refine zim ?_;intro zb hc)|(refine zin ?_;intro zb)|intro j')
     all_goals try refine zbx ?_
     focus
      refine q_lp_n ((fun(k:Nat)=>(splL p).2.length - k) (k+1)) (dC fL1 ?_) ⟨k+1,dC fL1 ?_⟩
      all_goals try (refine zlf ?_;repeat' first|exact zso|refine And.intro ?_ ?_|(refine zim ?_;intro zb hc)|(refine zin ?_;intro zb)|intro j')
      all_goals try refine zbx ?_
     all_goals(first|(rw[q4];done)|skip)
     all_goals trace_state
    ·have cM2:=trivial
     refine dTa fL1 ?_
     all_goals try (refine zlf ?_;repeat' first|exact zso|refine And.intro ?_ ?_|(refine zim ?_;intro zb hc)|(refine zin ?_;intro zb)|intro j')
     all_goals try refine zbx ?_
     rw[List.take_of_length_le (by omega)]
   all_goals trace_state
theorem spec_RootsIn_c {m0:Bool} (p:List Int) (hp:p.length≤1048576):Fun Tryz.prog 125 [(.sl (.lent m0) (List.map (PV.int .i64) (p)))] [(.sl .own (List.map (elI false) ((if isPermB p=true then rsL 8 p []else[]))))]:=by
 by_cases h:isPermB p=true
 ·obtain⟨h8,_⟩:=isPerm_facts h
  have c1:=fun(m0:Bool)=>spec_l6Roots_c 8 (m0:=m0) p [] (by decide) h h8 (fun l hl=>by cases hl) (by decide)
  simp only[List.map_nil]at c1
  rw[if_pos h]
  refine fO sgRt [2] Tryz.func125 ?_
  have cE1:= @spec_IsPerm_c
  have cM1:= @c1
  refine dEa @h ?_
  all_goals try (refine zlf ?_;repeat' first|exact zso|refine And.intro ?_ ?_|(refine zim ?_;intro zb hc)|(refine zin ?_;intro zb)|intro j')
  all_goals try refine zbx ?_
  all_goals trace_state
 ·rw[if_neg h]
  rw[Bool.not_eq_true]at h
  refine fO sgRt [2] Tryz.func125 ?_
  have cE1:= @spec_IsPerm_c
  refine dEa @h ?_
  all_goals try (refine zlf ?_;repeat' first|exact zso|refine And.intro ?_ ?_|(refine zim ?_;intro zb hc)|(refine zin ?_;intro zb)|intro j')
  all_goals try refine zbx ?_
  all_goals trace_state
theorem sep_x {p:List Int}:∃X,(if isPermB p=true then rsL 8 p []else[])=X∧X.length≤43046721∧(∀q∈X,q.length≤8)∧(∀q∈X,2<q.length→sepB p=false)∧((∀q∈X,¬2<q.length)→sepB p=isPermB p):=by
 refine⟨_,rfl, ?_⟩
 by_cases h:isPermB p=true
 ·rw[if_pos h]
  have hm:∀x,x∈rsL 8 p []↔x∈rtL 8 p:=fun x=>by rw[rsL_mem];simp
  refine⟨by have:=rsL_len (d:=8) (out:=[]) h;simpa using this,rsL_row h (fun l hl=>by cases hl),fun q hq h2=> ?_,fun h2=> ?_⟩
  ·rw[sepB,Bool.and_eq_false_iff]
   refine .inr ?_
   rw[Bool.not_eq_false',List.any_eq_true]
   exact⟨q,(hm q).1 hq,decide_eq_true (by omega)⟩
  ·rw[sepB]
   have:((rtL 8 p).any fun q=>decide ((2:Int)<(q.length:Int)))=false:=by
    rw[←Bool.not_eq_true,List.any_eq_true]
    rintro⟨q,hq,g⟩
    have:=h2 q ((hm q).2 hq)
    have:=of_decide_eq_true g
    omega
   rw[this];simp
 ·rw[if_neg h]
  rw[Bool.not_eq_true]at h
  refine⟨by simp,fun q hq=>(by cases hq),fun q hq=>(by cases hq),fun _=> ?_⟩
  rw[sepB,h];rfl
theorem spec_IsSeparable_c {m0:Bool} (p:List Int) (hp:p.length≤1048576):Fun Tryz.prog 76 [(.sl (.lent m0) (List.map (PV.int .i64) (p)))] [(.bool (sepB p))]:=by
 refine fO sg0 [2] Tryz.func76 ?_
 have cE1:= @spec_RootsIn_c;have cE2:= @spec_IsPerm_c
 obtain⟨X,x0,x1,x2,x3,x4⟩:=sep_x (p:=p)
 refine dEa @x0 ?_
 all_goals try (refine zlf ?_;repeat' first|exact zso|refine And.intro ?_ ?_|(refine zim ?_;intro zb hc)|(refine zin ?_;intro zb)|intro j')
 all_goals try refine zbx ?_
 refine v_loopB (fun ms1 S1=>∃(k:Nat),S1.e 0=.p (.sl (.lent m0) (List.map (PV.int .i64) (p)))∧OwnL (S1.e 3) S1.h S1.n (elI false) ((X).length) (X)∧S1.e 4=.p (.int .i64 (k))∧(k≤X.length)∧(∀q∈X.take k,¬2<q.length)∧ms1=X.length - k) ((fun(k:Nat)=>X.length - k) (0)) ?_ ⟨0,dC trivial ?_⟩
 all_goals try (refine zlf ?_;repeat' first|exact zso|refine And.intro ?_ ?_|(refine zim ?_;intro zb hc)|(refine zin ?_;intro zb)|intro j')
 all_goals try refine zbx ?_
 rintro ms1 S1 ⟨k,h1_0,o1_3,h1_4,c1_0,c1_1,hm1⟩
 obtain⟨i1_3,h1_3,b1_3,l1_3⟩:=o1_3.out
 have ni1_3:=znds (x:=i1_3) (n:=S1.n)
 have fL1:=(And.intro h1_0 (And.intro h1_4 (And.intro h1_3 (And.intro b1_3 ni1_3))))
 by_cases hk:k<X.length
 ·by_cases hd:2<(X.getD k []).length
  ·rw[x3 _ (getD_mem hk) hd]
   refine dEa fL1 ?_
   all_goals try (refine zlf ?_;repeat' first|exact zso|refine And.intro ?_ ?_|(refine zim ?_;intro zb hc)|(refine zin ?_;intro zb)|intro j')
   all_goals try refine zbx ?_
   all_goals trace_state
  ·refine dEa fL1 ?_
   all_goals try (refine zlf ?_;repeat' first|exact zso|refine And.intro ?_ ?_|(refine zim ?_;intro zb hc)|(refine zin ?_;intro zb)|intro j')
   all_goals try refine zbx ?_
   focus
    refine q_lp_n ((fun(k:Nat)=>X.length - k) (k+1)) (dC fL1 ?_) ⟨k+1,dC fL1 ?_⟩
    all_goals try (refine zlf ?_;repeat' first|exact zso|refine And.intro ?_ ?_|(refine zim ?_;intro zb hc)|(refine zin ?_;intro zb)|intro j')
    all_goals try refine zbx ?_
   all_goals(first|(intro q hq;rw[take_getD (d:=[]) hk]at hq;rcases List.mem_append.1 hq with g|g;exact c1_1 q g;rw[List.mem_singleton]at g;subst g;exact hd)|skip)
   all_goals trace_state
 ·rw[List.take_of_length_le (by omega)]at c1_1
  rw[x4 c1_1]
  refine dEa fL1 ?_
  all_goals try (refine zlf ?_;repeat' first|exact zso|refine And.intro ?_ ?_|(refine zim ?_;intro zb hc)|(refine zin ?_;intro zb)|intro j')
  all_goals try refine zbx ?_
  all_goals trace_state
theorem impl_IsSimple_c {m0:Bool} (p:List Int) (hl:p.length≤1048576):Fun Tryz.prog 96 [(.sl (.lent m0) (List.map (PV.int .i64) (p)))] [(.bool ((isPermB p&&isSimB p)))]:=by
 refine fO sg0 [2] Tryz.func96 ?_
 have cE1:= @impl_IsPerm_c;have cE2:= @impl_isSimple_c
 by_cases hp:isPermB p=true
 ·have h8:=(isP_8 hp).1
  have hb:=perm_bd hp
  refine dEa (And.intro @hp @Bool.true_and) ?_
  all_goals try (refine zlf ?_;repeat' first|exact zso|refine And.intro ?_ ?_|(refine zim ?_;intro zb hc)|(refine zin ?_;intro zb)|intro j')
  all_goals try refine zbx ?_
  all_goals trace_state
 ·rw[Bool.not_eq_true]at hp
  refine dEa (And.intro @hp @Bool.false_and) ?_
  all_goals try (refine zlf ?_;repeat' first|exact zso|refine And.intro ?_ ?_|(refine zim ?_;intro zb hc)|(refine zin ?_;intro zb)|intro j')
  all_goals try refine zbx ?_
  all_goals trace_state
def fmW:Nat→List UInt8
 |0=>[115,105,109,112,108,101]
 |1=>[115,101,112,97,114,97,98,108,101]
 |2=>[108,97,121,101,114,101,100]
 |3=>[115,109,111,111,116,104]
 |4=>[118,101,120,105,108,108,97,114,121]
 |5=>[99,111,109,109,117,116,97,116,105,118,101]
 |6=>[109,101,114,103,101,100]
 |7=>[105,110,118,111,108,117,116,105,111,110]
 |_=>[97,108,116,101,114,110,97,116,105,110,103]
def fmP (p:List Int):Nat→Bool
 |0=>isPermB p&&isSimB p
 |1=>sepB p
 |2=>layB p
 |3=>famB p smoT
 |4=>famB p vexT
 |5=>famB p comT
 |6=>famB p skmT
 |7=>ivoB p
 |_=>altB p
def adS (L:List (List UInt8)) (b:Bool) (w:List UInt8):List (List UInt8):=if b=true then L++[w]else L
def fmN (p:List Int):Nat→List (List UInt8)
 |0=>[]
 |k+1=>adS (fmN p k) (fmP p k) (fmW k)
def fmT (p:List Int):List UInt8:=if isPermB p=true then(if fmN p 9=[]then[45]else Lib.join (fmN p 9) [32])else[]
theorem adS_len {L:List (List UInt8)} {b:Bool} {w:List UInt8}:(adS L b w).length≤L.length+1:=by unfold adS;split<;>simp
theorem fmN_len {p:List Int}:∀{k:Nat},(fmN p k).length≤k∧∀w∈fmN p k,w.length≤11
 |0=>by simp[fmN]
 |k+1=>by
  obtain⟨h1,h2⟩:=fmN_len (p:=p) (k:=k)
  have h3:(fmW k).length≤11:=by
   match k with
   |0|1|2|3|4|5|6|7=>decide
   |n+8=>exact Nat.le_of_ble_eq_true rfl
  rw[fmN]
  refine⟨Nat.le_trans adS_len (by omega),fun w hw=> ?_⟩
  unfold adS at hw;split at hw
  ·rcases List.mem_append.1 hw with q|q
   ·exact h2 w q
   ·rw[List.mem_singleton.1 q];exact h3
  ·exact h2 w hw
theorem fmJ_len {p:List Int}:(Lib.join (fmN p 9) [32]).length≤108:=by
 obtain⟨h1,h2⟩:=fmN_len (p:=p) (k:=9)
 have:=join_len_le (sep:=[32]) h2
 have h3:=Nat.mul_le_mul_right (11+([32]:List UInt8).length) h1
 exact Nat.le_trans this h3
def sgAd:FuncId→List Bool:=fun f=>if f=74 then[true]else[]
theorem sgAd_eq {f:FuncId}:sgAd f=if f=74 then[true]else[]:=_root_.id rfl
theorem way_sgAd:wayE sgAd=false∧wayN sgAd=false∧wayS sgAd=false∧wayZ sgAd=false∧wayM sgAd=false:=⟨rfl,rfl,rfl,rfl,rfl⟩
attribute [go_sem] sgAd_eq way_sgAd
theorem spec_l29Add_c (L:List (List UInt8)) (b:Bool) (w:List UInt8) (hL:L.length≤1000):CallT Tryz.prog true 74 [.mu false (List.map PV.str (L)),.pv (.bool (b)),.pv (.str (w))] [none,none,none] [(.sl .own (List.map PV.str (adS L b w)))]:=by
 refine fX sgAd [6] Tryz.func74 ?_
 cases b with
 |true=>
  have e:adS L true w=L++[w]:=rfl
  rw[e]
  refine dTa trivial ?_
  all_goals try (refine zlf ?_;repeat' first|exact zso|refine And.intro ?_ ?_|(refine zim ?_;intro zb hc)|(refine zin ?_;intro zb)|intro j')
  all_goals try refine zbx ?_
  all_goals trace_state
 |false=>
  have e:adS L false w=L:=rfl
  rw[e]
  refine dTa trivial ?_
  all_goals try (refine zlf ?_;repeat' first|exact zso|refine And.intro ?_ ?_|(refine zim ?_;intro zb hc)|(refine zin ?_;intro zb)|intro j')
  all_goals try refine zbx ?_
  all_goals trace_state
set_option maxHeartbeats 8000000 in
set_option maxHeartbeats 8000000 in
theorem spec_FamiliesText_c {m0:Bool} (p:List Int) (hp:p.length≤1048576):Fun Tryz.prog 36 [(.sl (.lent m0) (List.map (PV.int .i64) (p)))] [(.str (fmT p))]:=by
 by_cases h:isPermB p=true
 ·have n1:=fmN_len (p:=p) (k:=1)
  have n2:=fmN_len (p:=p) (k:=2)
  have n3:=fmN_len (p:=p) (k:=3)
  have n4:=fmN_len (p:=p) (k:=4)
  have n5:=fmN_len (p:=p) (k:=5)
  have n6:=fmN_len (p:=p) (k:=6)
  have n7:=fmN_len (p:=p) (k:=7)
  have n8:=fmN_len (p:=p) (k:=8)
  have n9:=fmN_len (p:=p) (k:=9)
  have nj:=fmJ_len (p:=p)
  have a0:=spec_l29Add_c [] (isPermB p&&isSimB p) [115,105,109,112,108,101] (by decide)
  have a1:=spec_l29Add_c (fmN p 1) (sepB p) [115,101,112,97,114,97,98,108,101] (by omega)
  have a2:=spec_l29Add_c (fmN p 2) (layB p) [108,97,121,101,114,101,100] (by omega)
  have a3:=spec_l29Add_c (fmN p 3) (famB p smoT) [115,109,111,111,116,104] (by omega)
  have a4:=spec_l29Add_c (fmN p 4) (famB p vexT) [118,101,120,105,108,108,97,114,121] (by omega)
  have a5:=spec_l29Add_c (fmN p 5) (famB p comT) [99,111,109,109,117,116,97,116,105,118,101] (by omega)
  have a6:=spec_l29Add_c (fmN p 6) (famB p skmT) [109,101,114,103,101,100] (by omega)
  have a7:=spec_l29Add_c (fmN p 7) (ivoB p) [105,110,118,111,108,117,116,105,111,110] (by omega)
  have a8:=spec_l29Add_c (fmN p 8) (altB p) [97,108,116,101,114,110,97,116,105,110,103] (by omega)
  rw[show adS [] (isPermB p&&isSimB p) [115,105,109,112,108,101]=fmN p 1 from rfl]at a0
  rw[show adS (fmN p 1) (sepB p) [115,101,112,97,114,97,98,108,101]=fmN p 2 from rfl]at a1
  rw[show adS (fmN p 2) (layB p) [108,97,121,101,114,101,100]=fmN p 3 from rfl]at a2
  rw[show adS (fmN p 3) (famB p smoT) [115,109,111,111,116,104]=fmN p 4 from rfl]at a3
  rw[show adS (fmN p 4) (famB p vexT) [118,101,120,105,108,108,97,114,121]=fmN p 5 from rfl]at a4
  rw[show adS (fmN p 5) (famB p comT) [99,111,109,109,117,116,97,116,105,118,101]=fmN p 6 from rfl]at a5
  rw[show adS (fmN p 6) (famB p skmT) [109,101,114,103,101,100]=fmN p 7 from rfl]at a6
  rw[show adS (fmN p 7) (ivoB p) [105,110,118,111,108,117,116,105,111,110]=fmN p 8 from rfl]at a7
  rw[show adS (fmN p 8) (altB p) [97,108,116,101,114,110,97,116,105,110,103]=fmN p 9 from rfl]at a8
  have e:fmT p=if fmN p 9=[]then[45]else Lib.join (fmN p 9) [32]:=by rw[fmT,if_pos h]
  rw[e]
  have cp:=fun m0:Bool=>spec_IsPerm_c (m0:=m0) p hp
  rw[h]at cp
  simp only[List.map_nil]at a0
  refine fO sgAd [2] Tryz.func36 ?_
  have cE1:= @spec_IsPerm_c;have cE2:= @spec_IsSimple_c;have cE3:= @spec_IsSeparable_c;have cE4:= @spec_IsLayered_c;have cE5:= @spec_IsSmooth_c;have cE6:= @spec_IsVexillary_c
  have cE7:= @spec_IsCommutative_c;have cE8:= @spec_IsSkewMerged_c;have cE9:= @spec_IsInvolution_c;have cE10:= @spec_IsAlternating_c;have cE11:= @spec_Join_c;have cM1:= @spec_l29Add_c
  have cE1:= @cp;have cM1:= @a0;have cM2:= @a1;have cM3:= @a2;have cM4:= @a3;have cM5:= @a4
  have cM6:= @a5;have cM7:= @a6;have cM8:= @a7;have cM9:= @a8
  refine dEa trivial ?_
  all_goals try (refine zlf ?_;repeat' first|exact zso|refine And.intro ?_ ?_|(refine zim ?_;intro zb hc)|(refine zin ?_;intro zb)|intro j')
  all_goals try refine zbx ?_
  ·rw[if_pos (List.eq_nil_of_length_eq_zero (by omega))]
  ·rw[if_neg (fun e=>hc (by rw[e];rfl))]
  all_goals trace_state
 ·have e:fmT p=[]:=by rw[fmT,if_neg h]
  rw[e]
  rw[Bool.not_eq_true]at h
  refine fO sgAd [2] Tryz.func36 ?_
  have cE1:= @spec_IsPerm_c;have cE2:= @spec_IsSimple_c;have cE3:= @spec_IsSeparable_c;have cE4:= @spec_IsLayered_c;have cE5:= @spec_IsSmooth_c;have cE6:= @spec_IsVexillary_c
  have cE7:= @spec_IsCommutative_c;have cE8:= @spec_IsSkewMerged_c;have cE9:= @spec_IsInvolution_c;have cE10:= @spec_IsAlternating_c;have cE11:= @spec_Join_c;have cM1:= @spec_l29Add_c
  refine dEa @h ?_
  all_goals try (refine zlf ?_;repeat' first|exact zso|refine And.intro ?_ ?_|(refine zim ?_;intro zb hc)|(refine zin ?_;intro zb)|intro j')
  all_goals try refine zbx ?_
  all_goals trace_state
def fmG:Nat→FuncId
 |0=>96
 |1=>97
 |2=>98
 |3=>99
 |4=>100
 |5=>101
 |6=>102
 |7=>103
 |_=>104
def fmCs:List PV:=[.str (fmW 0),.fn (fmG 0) [] [],.str (fmW 1),.fn (fmG 1) [] [],.str (fmW 2),.fn (fmG 2) [] [],.str (fmW 3),.fn (fmG 3) [] [],.str (fmW 4),.fn (fmG 4) [] [],.str (fmW 5),.fn (fmG 5) [] [],.str (fmW 6),.fn (fmG 6) [] [],.str (fmW 7),.fn (fmG 7) [] [],.str (fmW 8),.fn (fmG 8) [] []]
theorem fmCs_len:fmCs.length=18:=rfl
theorem fm_at {k:Nat} (hk:k<9):List.take 2 (List.drop (k*2) fmCs)=[.str (fmW k),.fn (fmG k) [] []]:=by
 obtain rfl|rfl|rfl|rfl|rfl|rfl|rfl|rfl|rfl:k=0∨k=1∨k=2∨k=3∨k=4∨k=5∨k=6∨k=7∨k=8:=by omega
 all_goals rfl
theorem pt_fm:pairT Tryz.prog 58=true:=by kernel_rfl
theorem ck_nilf:PV.cellOk .nilf=true:=_root_.id rfl
theorem ce_nilf:PV.cell .nilf=.nilf:=_root_.id rfl
theorem ce_fn {f:FuncId} {a b:List PV}:PV.cell (.fn f a b)=.fn f a b:=_root_.id rfl
attribute [local go_sem] pt_fm ck_nilf ce_nilf ce_fn
theorem fm_call {m0:Bool} {k:Nat} (hk:k<9) (p:List Int) (hp:p.length≤1048576):Fun Tryz.prog (fmG k) [.sl (.lent m0) (List.map (PV.int .i64) p)] [.bool (fmP p k)]:=by
 obtain rfl|rfl|rfl|rfl|rfl|rfl|rfl|rfl|rfl:k=0∨k=1∨k=2∨k=3∨k=4∨k=5∨k=6∨k=7∨k=8:=by omega
 ·exact impl_IsSimple_c p hp
 ·exact impl_IsSeparable_c p hp
 ·exact impl_IsLayered_c p hp
 ·exact impl_IsSmooth_c p hp
 ·exact impl_IsVexillary_c p hp
 ·exact impl_IsCommutative_c p hp
 ·exact impl_IsSkewMerged_c p hp
 ·exact impl_IsInvolution_c p hp
 ·exact impl_IsAlternating_c p hp
theorem impl_FamiliesText_c {m0:Bool} (p:List Int) (hp:p.length≤1048576):Fun Tryz.prog 50 [(.sl (.lent m0) (List.map (PV.int .i64) (p)))] [(.str (fmT p))]:=by
 by_cases h:isPermB p=true
 ·have e:fmT p=if fmN p 9=[]then[45]else Lib.join (fmN p 9) [32]:=by rw[fmT,if_pos h]
  have nj:=fmJ_len (p:=p)
  rw[e]
  refine fO sg0 [2] Tryz.func50 ?_
  have cE1:= @impl_IsPerm_c;have cE2:= @impl_IsSimple_c;have cE3:= @impl_IsSeparable_c;have cE4:= @impl_IsLayered_c;have cE5:= @impl_IsSmooth_c;have cE6:= @impl_IsVexillary_c
  have cE7:= @impl_IsCommutative_c;have cE8:= @impl_IsSkewMerged_c;have cE9:= @impl_IsInvolution_c;have cE10:= @impl_IsAlternating_c;have cE11:= @strings_Join_c
  refine dEa @h ?_
  all_goals try (refine zlf ?_;repeat' first|exact zso|refine And.intro ?_ ?_|(refine zim ?_;intro zb hc)|(refine zin ?_;intro zb)|intro j')
  all_goals try refine zbx ?_
  refine v_loopB (fun ms1 S1=>∃(k:Nat),S1.e 0=.p (.sl (.lent m0) (List.map (PV.int .i64) (p)))∧OwnL (S1.e 4) S1.h S1.n PV.str ((fmN p k).length) (fmN p k)∧PrsL (S1.e 21) S1.h S1.n (9) (fmCs)∧S1.e 22=.p (.int .i64 (9))∧S1.e 23=.p (.int .i64 (k))∧(k≤9)∧NId (asR (S1.e 21)) (S1.e 4)∧ms1=9 - k) ((fun(k:Nat)=>9 - k) (0)) ?_ ⟨0,dC trivial ?_⟩
  all_goals try (refine zlf ?_;repeat' first|exact zso|refine And.intro ?_ ?_|(refine zim ?_;intro zb hc)|(refine zin ?_;intro zb)|intro j')
  all_goals try refine zbx ?_
  rintro ms1 S1 ⟨k,h1_0,o1_4,o1_21,h1_22,h1_23,c1_0,u1_0,hm1⟩
  obtain⟨i1_4,h1_4,b1_4,l1_4⟩:=o1_4.out
  obtain⟨i1_21,h1_21,b1_21,l1_21⟩:=o1_21.out
  have k1_0:=(u1_0).out (asR_ep h1_21) h1_4
  have ni1_4:=znds (x:=i1_4) (n:=S1.n)
  have ni1_21:=znds (x:=i1_21) (n:=S1.n)
  have di1_4i1_21:=zdne (x:=i1_4) (y:=i1_21)
  have fL1:=(And.intro h1_0 (And.intro h1_22 (And.intro h1_23 (And.intro h1_4 (And.intro b1_4 (And.intro h1_21 (And.intro b1_21 (And.intro ni1_4 (And.intro ni1_21 di1_4i1_21)))))))))
  ·obtain⟨n1,_⟩:=fmN_len (p:=p) (k:=k)
   by_cases hk:k<9
   ·have e1:=fm_at hk
    have c9:=fun m0:Bool=>fm_call (m0:=m0) hk p hp
    cases hb:fmP p k with
    |true=>
     have e2:fmN p (k+1)=fmN p k++[fmW k]:=by rw[fmN,hb];rfl
     have cE1:= @c9;have cE2:= @impl_IsPerm_c;have cE3:= @impl_IsSimple_c;have cE4:= @impl_IsSeparable_c;have cE5:= @impl_IsLayered_c;have cE6:= @impl_IsSmooth_c
     have cE7:= @impl_IsVexillary_c;have cE8:= @impl_IsCommutative_c;have cE9:= @impl_IsSkewMerged_c;have cE10:= @impl_IsInvolution_c;have cE11:= @impl_IsAlternating_c;have cE12:= @strings_Join_c
     refine dEa (And.intro fL1 (And.intro @e1 (And.intro @fmCs_len @hb))) ?_
     all_goals try (refine zlf ?_;repeat' first|exact zso|refine And.intro ?_ ?_|(refine zim ?_;intro zb hc)|(refine zin ?_;intro zb)|intro j')
     all_goals try refine zbx ?_
     focus
      refine q_lp_n ((fun(k:Nat)=>9 - k) (k+1)) (dC fL1 ?_) ⟨k+1,dC fL1 ?_⟩
      all_goals try (refine zlf ?_;repeat' first|exact zso|refine And.intro ?_ ?_|(refine zim ?_;intro zb hc)|(refine zin ?_;intro zb)|intro j')
      all_goals try refine zbx ?_
     all_goals(first|(rw[e2];done)|(rw[e2,List.length_append];rfl)|skip)
     all_goals trace_state
    |false=>
     have e2:fmN p (k+1)=fmN p k:=by rw[fmN,hb];rfl
     have cE1:= @c9;have cE2:= @impl_IsPerm_c;have cE3:= @impl_IsSimple_c;have cE4:= @impl_IsSeparable_c;have cE5:= @impl_IsLayered_c;have cE6:= @impl_IsSmooth_c
     have cE7:= @impl_IsVexillary_c;have cE8:= @impl_IsCommutative_c;have cE9:= @impl_IsSkewMerged_c;have cE10:= @impl_IsInvolution_c;have cE11:= @impl_IsAlternating_c;have cE12:= @strings_Join_c
     refine dEa (And.intro fL1 (And.intro @e1 (And.intro @fmCs_len @hb))) ?_
     all_goals try (refine zlf ?_;repeat' first|exact zso|refine And.intro ?_ ?_|(refine zim ?_;intro zb hc)|(refine zin ?_;intro zb)|intro j')
     all_goals try refine zbx ?_
     focus
      refine q_lp_n ((fun(k:Nat)=>9 - k) (k+1)) (dC fL1 ?_) ⟨k+1,dC fL1 ?_⟩
      all_goals try (refine zlf ?_;repeat' first|exact zso|refine And.intro ?_ ?_|(refine zim ?_;intro zb hc)|(refine zin ?_;intro zb)|intro j')
      all_goals try refine zbx ?_
     all_goals(first|(rw[e2];done)|skip)
     all_goals trace_state
   ·obtain rfl:k=9:=by omega
    have cE1:= @impl_IsPerm_c;have cE2:= @impl_IsSimple_c;have cE3:= @impl_IsSeparable_c;have cE4:= @impl_IsLayered_c;have cE5:= @impl_IsSmooth_c;have cE6:= @impl_IsVexillary_c
    have cE7:= @impl_IsCommutative_c;have cE8:= @impl_IsSkewMerged_c;have cE9:= @impl_IsInvolution_c;have cE10:= @impl_IsAlternating_c;have cE11:= @strings_Join_c;have cE12:=trivial
    refine dEa fL1 ?_
    all_goals try (refine zlf ?_;repeat' first|exact zso|refine And.intro ?_ ?_|(refine zim ?_;intro zb hc)|(refine zin ?_;intro zb)|intro j')
    all_goals try refine zbx ?_
    ·rw[if_pos (List.eq_nil_of_length_eq_zero (by omega))]
    ·rw[if_neg (fun e=>hc (by rw[e];rfl))]
    all_goals trace_state
  all_goals trace_state
 ·have e:fmT p=[]:=by rw[fmT,if_neg h]
  rw[e]
  rw[Bool.not_eq_true]at h
  refine fO sg0 [2] Tryz.func50 ?_
  have cE1:= @impl_IsPerm_c;have cE2:= @impl_IsSimple_c;have cE3:= @impl_IsSeparable_c;have cE4:= @impl_IsLayered_c;have cE5:= @impl_IsSmooth_c;have cE6:= @impl_IsVexillary_c
  have cE7:= @impl_IsCommutative_c;have cE8:= @impl_IsSkewMerged_c;have cE9:= @impl_IsInvolution_c;have cE10:= @impl_IsAlternating_c;have cE11:= @strings_Join_c
  refine dEa @h ?_
  all_goals try (refine zlf ?_;repeat' first|exact zso|refine And.intro ?_ ?_|(refine zim ?_;intro zb hc)|(refine zin ?_;intro zb)|intro j')
  all_goals try refine zbx ?_
  all_goals trace_state
end Go.Gl
namespace Go.Gl
open Go Go.Proofs
variable [Amb] [NoQ]
@[reducible] def ambAt (w:World) (g:Nat):Amb:=⟨fun B=>if B=g then w.heap[B]? else none,false⟩
theorem ambAt_ok {w:World} {g B:Nat} {o:Obj} (h:(ambAt w g).tb B=some o):w.heap[B]? =some o:=by
 have h:(if B=g then w.heap[B]? else none)=some o:=h
 split at h
 ·exact h
 ·cases h
class TabA [Amb]:Prop where
 has:∀w:World,(∀B o,Amb.tb B=some o→w.heap[B]? =some o)→Lib.TabIs Tryz.prog w "internal/strconv.uint64pow10" .u64 Lib.pow10Tab
theorem ambAt_tab {w:World} {g:Nat} (hg:Tryz.prog.globalNamed "internal/strconv.uint64pow10" =some g) (h:Lib.TabIs Tryz.prog w "internal/strconv.uint64pow10" .u64 Lib.pow10Tab): @TabA (ambAt w g):= @TabA.mk (ambAt w g) (fun w' hw=>by
 unfold Lib.TabIs World.var? at h ⊢
 rw[hg,Option.bind_some]at h ⊢
 cases e:w.heap[g]? with
 |none=>rw[e]at h;cases h
 |some o=>rw[hw g o (show(if g=g then w.heap[g]? else none)=some o by rw[if_pos rfl];exact e)];rw[e]at h;exact h)
variable [TabA]
theorem digs_dec:∀(m:Nat) (acc:List UInt8),m≠0→m<9223372036854775809→digs m acc=Lib.decDigits m++acc:=by
 intro m
 induction m using Nat.strongRecOn with
 |_ m ih=>
  intro acc h hb
  rw[digs_step h hb,Lib.decDigits]
  have e:chI ((m % 10:Nat):Int)=UInt8.ofNat (48+m % 10):=by unfold chI;congr 1
  split
  ·rw[show m/10=0 by omega,digs_0,e,show m % 10=m by omega];rfl
  ·rw[ih (m/10) (by omega) _ (by omega) (by omega),e,List.append_assoc];rfl
theorem fmtI_itoa {n:Int} (h0: -9223372036854775808≤n) (h1:n≤9223372036854775807):Lib.itoa n=fmtI n:=by
 unfold Lib.itoa fmtI
 by_cases hz:n=0
 ·subst hz;rw[if_neg (by omega),if_pos rfl,Lib.decDigits,dif_pos (by omega)];rfl
 ·rw[if_neg hz]
  by_cases hn:n<0
  ·rw[if_pos hn,if_pos hn,digs_dec _ _ (by omega) (by omega),List.append_nil]
  ·rw[if_neg hn,if_neg hn,digs_dec _ _ (by omega) (by omega),List.append_nil,show n.toNat=n.natAbs by omega]
theorem fmtI_len {n:Int} (h0: -9223372036854775808≤n) (h1:n≤9223372036854775807):(fmtI n).length≤21:=by
 rw[←fmtI_itoa h0 h1];exact Lib.itoa_length_le n h0 h1
theorem strconv_Itoa_c (n:Int) (h0: -9223372036854775808≤n) (h1:n≤9223372036854775807):Fun Tryz.prog 88 [.int .i64 n] [.str (fmtI n)]:=by
 refine Fun.of_plain Tryz.func88 rfl rfl rfl ?_
 intro w F G vs hamb hv
 simp only[RepL]at hv
 obtain⟨a,vs1,rfl,ha,rfl⟩:=hv
 have ha:=repP_i ha
 subst ha
 refine(Tryz.strconv_Itoa n h0 h1 w (TabA.has w hamb)).mono fun e w' h=> ?_
 obtain⟨he,k,os,hw⟩:=h
 subst hw
 exact⟨by rw[he,fmtI_itoa h0 h1],Lib.below_grow _ _ (Nat.le_refl _) k os⟩
theorem impl_FormatInt_c (n:Int) (h0: -9223372036854775808≤n) (h1:n≤9223372036854775807):Fun Tryz.prog 41 [(.int .i64 (n))] [(.str (fmtI n))]:=by
 refine fO sg0 [2] Tryz.func41 ?_
 have cE1:= @strconv_Itoa_c
 refine dEa trivial ?_
 all_goals try (refine zlf ?_;repeat' first|exact zso|refine And.intro ?_ ?_|(refine zim ?_;intro zb hc)|(refine zin ?_;intro zb)|intro j')
 all_goals try refine zbx ?_
def fmtL (l:List Int):List (List UInt8):=l.map fmtI
theorem fmtL_take {l:List Int} {k:Nat}:fmtL (l.take k)=(fmtL l).take k:=by simp[fmtL,List.map_take]
def numT (l:List Int):List UInt8:=if l=[]then[45]else Lib.join (fmtL l) [44]
theorem fmtL_len {l:List Int} (hb:∀x∈l, -9223372036854775808≤x∧x≤9223372036854775807):(Lib.join (fmtL l) [44]).length≤l.length*22:=by
 have:=join_len_le (n:=21) (sep:=[44]) (l:=fmtL l) (fun x hx=>by
  obtain⟨y,hy,rfl⟩:=List.mem_map.1 hx
  exact fmtI_len (hb y hy).1 (hb y hy).2)
 simpa[fmtL]using this
theorem numT_len {l:List Int} (hb:∀x∈l, -9223372036854775808≤x∧x≤9223372036854775807):(numT l).length≤l.length*22+1:=by
 unfold numT;split
 ·simp
 ·have:=fmtL_len hb;omega
theorem spec_l35Text_c {m0:Bool} (l:List Int) (hl:l.length≤1048576) (hb:∀x∈l, -9223372036854775808≤x∧x≤9223372036854775807):Fun Tryz.prog 60 [(.sl (.lent m0) (List.map (PV.int .i64) (l)))] [(.str (Lib.join (fmtL l) [44]))]:=by
 refine fO sg0 [2] Tryz.func60 ?_
 have cE1:= @spec_FormatInt_c;have cE2:= @spec_Join_c
 have b9:=fmtL_len hb
 have b8:(fmtL l).length=l.length:=by simp[fmtL]
 refine dE trivial ?_
 all_goals try (refine zlf ?_;repeat' first|exact zso|refine And.intro ?_ ?_|(refine zim ?_;intro zb hc)|(refine zin ?_;intro zb)|intro j')
 all_goals try refine zbx ?_
 refine v_loopB (fun ms1 S1=>∃(k:Nat),S1.e 0=.p (.sl (.lent m0) (List.map (PV.int .i64) (l)))∧OwnL (S1.e 3) S1.h S1.n PV.str ((fmtL (l.take k)).length) (fmtL (l.take k))∧S1.e 4=.p (.int .i64 (k))∧(k≤l.length)∧ms1=l.length - k) ((fun(k:Nat)=>l.length - k) (0)) ?_ ⟨0,dIa trivial ?_⟩
 all_goals try (refine zlf ?_;repeat' first|exact zso|refine And.intro ?_ ?_|(refine zim ?_;intro zb hc)|(refine zin ?_;intro zb)|intro j')
 all_goals try refine zbx ?_
 rintro ms1 S1 ⟨k,h1_0,o1_3,h1_4,c1_0,hm1⟩
 obtain⟨i1_3,h1_3,b1_3,l1_3⟩:=o1_3.out
 have ni1_3:=znds (x:=i1_3) (n:=S1.n)
 have fL1:=(And.intro h1_0 (And.intro h1_4 (And.intro h1_3 (And.intro b1_3 ni1_3))))
 have b7:(fmtL (l.take k)).length=k:=by simp[fmtL];omega
 have b6:=join_take_le (l:=fmtL l) (sep:=[44]) (k:=k)
 rw[←fmtL_take]at b6
 have q:k<l.length→ -9223372036854775808≤l.getD k 0∧l.getD k 0≤9223372036854775807:=fun h=>hb _ (getD_mem h)
 refine dEa fL1 ?_
 all_goals try (refine zlf ?_;repeat' first|exact zso|refine And.intro ?_ ?_|(refine zim ?_;intro zb hc)|(refine zin ?_;intro zb)|intro j')
 all_goals try refine zbx ?_
 ·focus
   refine q_lp_n ((fun(k:Nat)=>l.length - k) (k+1)) (dC fL1 ?_) ⟨k+1,dC fL1 ?_⟩
   all_goals try (refine zlf ?_;repeat' first|exact zso|refine And.intro ?_ ?_|(refine zim ?_;intro zb hc)|(refine zin ?_;intro zb)|intro j')
   all_goals try refine zbx ?_
  all_goals simp[fmtL,take_getD (d:=0) (show k<l.length by omega)]
 all_goals(rw[List.take_of_length_le (by omega)])
theorem numT_nil {l:List Int} (h:(l.length:Int)=0):numT l=[45]:=by rw[numT,if_pos (List.eq_nil_of_length_eq_zero (by omega))]
theorem numT_cons {l:List Int} (h:¬(l.length:Int)=0):numT l=Lib.join (fmtL l) [44]:=by rw[numT,if_neg (by rintro rfl;exact h rfl)]
theorem spec_NumbersText_c {m0:Bool} (l:List Int) (hl:l.length≤1048576) (hb:∀x∈l, -9223372036854775808≤x∧x≤9223372036854775807):Fun Tryz.prog 17 [(.sl (.lent m0) (List.map (PV.int .i64) (l)))] [(.str (numT l))]:=by
 refine fO sg0 [2] Tryz.func17 ?_
 have cE1:= @spec_l35Text_c
 refine dEa trivial ?_
 all_goals try (refine zlf ?_;repeat' first|exact zso|refine And.intro ?_ ?_|(refine zim ?_;intro zb hc)|(refine zin ?_;intro zb)|intro j')
 all_goals try refine zbx ?_
 ·rw[numT_nil hc]
 ·rw[numT_cons hc]
theorem impl_NumbersText_c {m0:Bool} (l:List Int) (hl:l.length≤1048576) (hb:∀x∈l, -9223372036854775808≤x∧x≤9223372036854775807):Fun Tryz.prog 16 [(.sl (.lent m0) (List.map (PV.int .i64) (l)))] [(.str (numT l))]:=by
 refine fO sg0 [2] Tryz.func16 ?_
 have cE1:= @impl_FormatInt_c;have cE2:= @strings_Join_c
 have b9:=fmtL_len hb
 have b8:(fmtL l).length=l.length:=by simp[fmtL]
 refine dEa trivial ?_
 all_goals try (refine zlf ?_;repeat' first|exact zso|refine And.intro ?_ ?_|(refine zim ?_;intro zb hc)|(refine zin ?_;intro zb)|intro j')
 all_goals try refine zbx ?_
 ·rw[numT_nil hc]
 ·have hn:=hc
  rw[numT_cons hc]
  refine v_loopB (fun ms1 S1=>∃(k:Nat),S1.e 10=.p (.sl (.lent m0) (List.map (PV.int .i64) (l)))∧OwnL (S1.e 3) S1.h S1.n PV.str ((fmtL (l.take k)).length) (fmtL (l.take k))∧S1.e 11=.p (.int .i64 (l.length))∧S1.e 12=.p (.int .i64 (k))∧(k≤l.length)∧ms1=l.length - k) ((fun(k:Nat)=>l.length - k) (0)) ?_ ⟨0,dIa trivial ?_⟩
  all_goals try (refine zlf ?_;repeat' first|exact zso|refine And.intro ?_ ?_|(refine zim ?_;intro zb hc)|(refine zin ?_;intro zb)|intro j')
  all_goals try refine zbx ?_
  rintro ms1 S1 ⟨k,h1_10,o1_3,h1_11,h1_12,c1_0,hm1⟩
  obtain⟨i1_3,h1_3,b1_3,l1_3⟩:=o1_3.out
  have ni1_3:=znds (x:=i1_3) (n:=S1.n)
  have fL1:=(And.intro h1_10 (And.intro h1_11 (And.intro h1_12 (And.intro h1_3 (And.intro b1_3 ni1_3)))))
  have b7:(fmtL (l.take k)).length=k:=by simp[fmtL];omega
  have b6:=join_take_le (l:=fmtL l) (sep:=[44]) (k:=k)
  rw[←fmtL_take]at b6
  have q:k<l.length→ -9223372036854775808≤l.getD k 0∧l.getD k 0≤9223372036854775807:=fun h=>hb _ (getD_mem h)
  refine dEa fL1 ?_
  all_goals try (refine zlf ?_;repeat' first|exact zso|refine And.intro ?_ ?_|(refine zim ?_;intro zb hc)|(refine zin ?_;intro zb)|intro j')
  all_goals try refine zbx ?_
  ·focus
    refine q_lp_n ((fun(k:Nat)=>l.length - k) (k+1)) (dC fL1 ?_) ⟨k+1,dC fL1 ?_⟩
    all_goals try (refine zlf ?_;repeat' first|exact zso|refine And.intro ?_ ?_|(refine zim ?_;intro zb hc)|(refine zin ?_;intro zb)|intro j')
    all_goals try refine zbx ?_
   all_goals simp[fmtL,take_getD (d:=0) (show k<l.length by omega)]
  all_goals(rw[List.take_of_length_le (by omega)])
end Go.Gl
namespace Go.Gl
open Go Go.Proofs
variable [Amb] [NoQ]
variable [TabA]
def daT (t:List UInt8):List UInt8:=if t=[]then[45]else t
theorem daT_len {t:List UInt8}:(daT t).length≤t.length+1:=by unfold daT;split<;>simp
theorem impl_orDash_c (t:List UInt8) (ht:t.length≤1099511627776):Fun Tryz.prog 38 [(.str (t))] [(.str (daT t))]:=by
 refine fO sg0 [2] Tryz.func38 ?_
 by_cases h:t=[]
 ·have e:daT t=[45]:=if_pos h
  rw[e]
  subst h
  refine dEa trivial ?_
  all_goals try (refine zlf ?_;repeat' first|exact zso|refine And.intro ?_ ?_|(refine zim ?_;intro zb hc)|(refine zin ?_;intro zb)|intro j')
  all_goals try refine zbx ?_
  all_goals trace_state
 ·have e:daT t=t:=if_neg h
  rw[e]
  refine dEa trivial ?_
  all_goals try (refine zlf ?_;repeat' first|exact zso|refine And.intro ?_ ?_|(refine zim ?_;intro zb hc)|(refine zin ?_;intro zb)|intro j')
  all_goals try refine zbx ?_
  all_goals(first|(exact absurd hc h)|skip)
  all_goals trace_state
def dpW (p:List Int):List (List UInt8):=[[116,114,101,101],daT (trR p),[100,101,115,99,101,110,116,115],numT (dsL p),[105,110,118,101,114,115,105,111,110,115],fmtI (invN p p.length),[109,97,106,111,114],fmtI (mjR p),[99,121,99,108,101,115],fmtI (cyR p),[117,112],fmtI (upB' p),[100,111,119,110],fmtI (dnB' p),[115,116,97,99,107],fmtI (tmR skF p),[112,111,112],fmtI (tmR ppF p),[99,111,100,101],numT (codeGo p),fmT p]
def dpT (p:List Int):List UInt8:=if isPermB p=true then Lib.join (dpW p) [32]else[]
omit [TabA]in
theorem dp_b {p:List Int} (h:isPermB p=true):(0≤invN p p.length∧invN p p.length≤64)∧(-1≤upB' p∧upB' p≤8)∧(-1≤dnB' p∧dnB' p≤8)∧(∀x∈dsL p, -9223372036854775808≤x∧x≤9223372036854775807)∧(codeGo p).length≤8∧∀x∈codeGo p, -9223372036854775808≤x∧x≤9223372036854775807:=by
 obtain⟨h8,hq⟩:=isPerm_facts h
 refine⟨?_, ?_, ?_,fun x hx=>by have:=dsL_f.2 x hx;omega,by rw[codeGo_length];exact h8,fun x hx=> ?_⟩
 ·have h1:=invN_b (p:=p) (k:=p.length) (Nat.le_refl _)
  have i2:p.length*p.length≤64:=Nat.mul_le_mul h8 h8
  omega
 ·have:=luI_b h8
  rw[upB',if_pos h];omega
 ·have:=luI_b (p:=p.reverse) (by rw[List.length_reverse];exact h8)
  rw[dnB',if_pos h];omega
 ·obtain⟨i,hi,rfl⟩:=List.getElem_of_mem hx
  have:=codeGo_at p i
  rw[List.getD_eq_getElem?_getD,List.getElem?_eq_getElem hi]at this
  simp only[Option.getD_some]at this;omega
theorem dp_l {p:List Int} (h:isPermB p=true):(numT (dsL p)).length≤177∧(numT (codeGo p)).length≤177∧(fmtI (invN p p.length)).length≤21∧(fmtI (mjR p)).length≤21∧(fmtI (cyR p)).length≤21∧(fmtI (upB' p)).length≤21∧(fmtI (dnB' p)).length≤21∧(fmtI (tmR skF p)).length≤21∧(fmtI (tmR ppF p)).length≤21∧(fmT p).length≤108∧(daT (trR p)).length≤1300000001:=by
 obtain⟨i1,i2,i3,i4,i5,i6⟩:=dp_b h
 have m1:=mjR_b (p:=p)
 have m2:=cyR_b (p:=p)
 have m3:=tmR_b (f:=skF) (p:=p)
 have m4:=tmR_b (f:=ppF) (p:=p)
 have n1:=numT_len i4
 have n2:=numT_len i6
 have n3:=(dsL_f (p:=p)).1
 have t1:=trR_len (p:=p)
 have t2:=daT_len (t:=trR p)
 refine⟨by omega,by omega,fmtI_len (by omega) (by omega),fmtI_len (by omega) (by omega),fmtI_len (by omega) (by omega),fmtI_len (by omega) (by omega),fmtI_len (by omega) (by omega),fmtI_len (by omega) (by omega),fmtI_len (by omega) (by omega), ?_,by omega⟩
 rw[fmT,if_pos h]
 split
 ·exact(by decide:([45]:List UInt8).length≤108)
 ·exact fmJ_len
theorem dp_j {p:List Int} (h:isPermB p=true):(Lib.join (dpW p) [32]).length≤1099511627776:=by
 obtain⟨l1,l2,l3,l4,l5,l6,l7,l8,l9,l10,l11⟩:=dp_l h
 have:=join_len_le (sep:=[32]) (n:=1300000001) (l:=dpW p) fun x hx=>by
  simp only[dpW,List.mem_cons,List.not_mem_nil,or_false]at hx
  rcases hx with rfl|rfl|rfl|rfl|rfl|rfl|rfl|rfl|rfl|rfl|rfl|rfl|rfl|rfl|rfl|rfl|rfl|rfl|rfl|rfl|rfl<;>first|omega|(simp only[List.length_cons,List.length_nil];omega)
 have e:(dpW p).length=21:=rfl
 rw[e]at this
 simp only[List.length_singleton]at this;omega
set_option maxHeartbeats 8000000 in
theorem impl_DescribePerm_c {m0:Bool} (p:List Int) (hl:p.length≤1048576):Fun Tryz.prog 7 [(.sl (.lent m0) (List.map (PV.int .i64) (p)))] [(.str (dpT p))]:=by
 by_cases h:isPermB p=true
 ·obtain⟨i1,i2,i3,i4,i5,i6⟩:=dp_b h
  have m1:=mjR_b (p:=p)
  have m2:=cyR_b (p:=p)
  have m3:=tmR_b (f:=skF) (p:=p)
  have m4:=tmR_b (f:=ppF) (p:=p)
  have n3:=(dsL_f (p:=p)).1
  have t1:=trR_len (p:=p)
  have j1:=dp_j h
  have f1:(if isPermB p=true then invN p p.length else -1)=invN p p.length:=if_pos h
  have f2:coL p=codeGo p:=if_pos h
  have e:dpT p=Lib.join (dpW p) [32]:=if_pos h
  have cj:=fun m0:Bool=>strings_Join_c (m0:=m0) (dpW p) [32] (by rw[show(dpW p).length=21 from rfl];decide) j1
  simp only[dpW,List.map_cons,List.map_nil]at cj
  rw[e,dpW]
  refine fO sg0 [2] Tryz.func7 ?_
  have cE1:= @impl_IsPerm_c;have cE2:= @impl_TreeText_c;have cE3:= @impl_orDash_c;have cE4:= @impl_DescentsOf_c;have cE5:= @impl_NumbersText_c;have cE6:= @impl_CountInversions_c
  have cE7:= @impl_FormatInt_c;have cE8:= @impl_MajorOf_c;have cE9:= @impl_CountCycles_c;have cE10:= @impl_LongestUp_c;have cE11:= @impl_LongestDown_c;have cE12:= @impl_StackTimes_c
  have cE13:= @impl_PopTimes_c;have cE14:= @impl_CodeOf_c;have cE15:= @impl_FamiliesText_c;have cE16:= @strings_Join_c
  have cE1:= @cj;have cE2:= @impl_IsPerm_c;have cE3:= @impl_TreeText_c;have cE4:= @impl_orDash_c;have cE5:= @impl_DescentsOf_c;have cE6:= @impl_NumbersText_c
  have cE7:= @impl_CountInversions_c;have cE8:= @impl_FormatInt_c;have cE9:= @impl_MajorOf_c;have cE10:= @impl_CountCycles_c;have cE11:= @impl_LongestUp_c;have cE12:= @impl_LongestDown_c
  have cE13:= @impl_StackTimes_c;have cE14:= @impl_PopTimes_c;have cE15:= @impl_CodeOf_c;have cE16:= @impl_FamiliesText_c
  refine dEa (And.intro @h (And.intro @f1 @f2)) ?_
  all_goals try (refine zlf ?_;repeat' first|exact zso|refine And.intro ?_ ?_|(refine zim ?_;intro zb hc)|(refine zin ?_;intro zb)|intro j')
  all_goals try refine zbx ?_
  all_goals trace_state
 ·have e:dpT p=[]:=if_neg h
  rw[e]
  rw[Bool.not_eq_true]at h
  refine fO sg0 [2] Tryz.func7 ?_
  have cE1:= @impl_IsPerm_c;have cE2:= @impl_TreeText_c;have cE3:= @impl_orDash_c;have cE4:= @impl_DescentsOf_c;have cE5:= @impl_NumbersText_c;have cE6:= @impl_CountInversions_c
  have cE7:= @impl_FormatInt_c;have cE8:= @impl_MajorOf_c;have cE9:= @impl_CountCycles_c;have cE10:= @impl_LongestUp_c;have cE11:= @impl_LongestDown_c;have cE12:= @impl_StackTimes_c
  have cE13:= @impl_PopTimes_c;have cE14:= @impl_CodeOf_c;have cE15:= @impl_FamiliesText_c;have cE16:= @strings_Join_c
  refine dEa @h ?_
  all_goals try (refine zlf ?_;repeat' first|exact zso|refine And.intro ?_ ?_|(refine zim ?_;intro zb hc)|(refine zin ?_;intro zb)|intro j')
  all_goals try refine zbx ?_
  all_goals trace_state
set_option maxHeartbeats 8000000 in
theorem spec_DescribePerm_c {m0:Bool} (p:List Int) (hl:p.length≤1048576):Fun Tryz.prog 5 [(.sl (.lent m0) (List.map (PV.int .i64) (p)))] [(.str (dpT p))]:=by
 by_cases h:isPermB p=true
 ·obtain⟨i1,i2,i3,i4,i5,i6⟩:=dp_b h
  obtain⟨l1,l2,l3,l4,l5,l6,l7,l8,l9,l10,l11⟩:=dp_l h
  have m1:=mjR_b (p:=p)
  have m2:=cyR_b (p:=p)
  have m3:=tmR_b (f:=skF) (p:=p)
  have m4:=tmR_b (f:=ppF) (p:=p)
  have n3:=(dsL_f (p:=p)).1
  have t1:=trR_len (p:=p)
  have f1:(if isPermB p=true then invN p p.length else -1)=invN p p.length:=if_pos h
  have f2:(if isPermB p=true then codeGo p else[])=codeGo p:=if_pos h
  have e:dpT p=Lib.join (dpW p) [32]:=if_pos h
  rw[e,dpW]
  simp only[Lib.join_cons,Lib.joinTail,List.map_cons,List.map_nil,List.flatten_cons,List.flatten_nil,List.append_nil]
  by_cases h0:trR p=[]
  ·have f3:daT (trR p)=[45]:=if_pos h0
   rw[f3]
   refine fO sg0 [2] Tryz.func5 ?_
   have cE1:= @spec_IsPerm_c;have cE2:= @spec_TreeText_c;have cE3:= @spec_DescentsOf_c;have cE4:= @spec_NumbersText_c;have cE5:= @spec_CountInversions_c;have cE6:= @spec_FormatInt_c
   have cE7:= @spec_MajorOf_c;have cE8:= @spec_CountCycles_c;have cE9:= @spec_LongestUp_c;have cE10:= @spec_LongestDown_c;have cE11:= @spec_StackTimes_c;have cE12:= @spec_PopTimes_c
   have cE13:= @spec_CodeOf_c;have cE14:= @spec_FamiliesText_c
   refine dEa (And.intro @h (And.intro @f1 (And.intro @f2 @h0))) ?_
   all_goals try (refine zlf ?_;repeat' first|exact zso|refine And.intro ?_ ?_|(refine zim ?_;intro zb hc)|(refine zin ?_;intro zb)|intro j')
   all_goals try refine zbx ?_
   all_goals trace_state
  ·have f3:daT (trR p)=trR p:=if_neg h0
   have f4:(trR p=[])=False:=eq_false h0
   rw[f3]
   refine fO sg0 [2] Tryz.func5 ?_
   have cE1:= @spec_IsPerm_c;have cE2:= @spec_TreeText_c;have cE3:= @spec_DescentsOf_c;have cE4:= @spec_NumbersText_c;have cE5:= @spec_CountInversions_c;have cE6:= @spec_FormatInt_c
   have cE7:= @spec_MajorOf_c;have cE8:= @spec_CountCycles_c;have cE9:= @spec_LongestUp_c;have cE10:= @spec_LongestDown_c;have cE11:= @spec_StackTimes_c;have cE12:= @spec_PopTimes_c
   have cE13:= @spec_CodeOf_c;have cE14:= @spec_FamiliesText_c
   refine dEa (And.intro @h (And.intro @f1 (And.intro @f2 @f4))) ?_
   all_goals try (refine zlf ?_;repeat' first|exact zso|refine And.intro ?_ ?_|(refine zim ?_;intro zb hc)|(refine zin ?_;intro zb)|intro j')
   all_goals try refine zbx ?_
   all_goals trace_state
 ·have e:dpT p=[]:=if_neg h
  rw[e]
  rw[Bool.not_eq_true]at h
  refine fO sg0 [2] Tryz.func5 ?_
  have cE1:= @spec_IsPerm_c;have cE2:= @spec_TreeText_c;have cE3:= @spec_DescentsOf_c;have cE4:= @spec_NumbersText_c;have cE5:= @spec_CountInversions_c;have cE6:= @spec_FormatInt_c
  have cE7:= @spec_MajorOf_c;have cE8:= @spec_CountCycles_c;have cE9:= @spec_LongestUp_c;have cE10:= @spec_LongestDown_c;have cE11:= @spec_StackTimes_c;have cE12:= @spec_PopTimes_c
  have cE13:= @spec_CodeOf_c;have cE14:= @spec_FamiliesText_c
  refine dEa @h ?_
  all_goals try (refine zlf ?_;repeat' first|exact zso|refine And.intro ?_ ?_|(refine zim ?_;intro zb hc)|(refine zin ?_;intro zb)|intro j')
  all_goals try refine zbx ?_
  all_goals trace_state
end Go.Gl
namespace Go.Gl
open Go Go.Proofs
variable [Amb] [NoQ]
variable [TabA]
theorem laws_FnExactDescribePerm_c (a:List Int):Fun Tryz.prog 3 [(.sl (.lent true) (List.map (PV.int .i64) (a)))] [(.bool (true))]:=by
 by_cases h1:a.length≤1048576
 ·refine fO sg0 [2] Tryz.func3 ?_
  have cE1:= @laws_toIntS_c;have cE2:= @spec_DescribePerm_c;have cE3:= @impl_DescribePerm_c;have cE4:= @laws_eqIntS_c
  refine dEa trivial ?_
  all_goals try (refine zlf ?_;repeat' first|exact zso|refine And.intro ?_ ?_|(refine zim ?_;intro zb hc)|(refine zin ?_;intro zb)|intro j')
  all_goals try refine zbx ?_
 ·refine fO sg0 [2] Tryz.func3 ?_
  have cE1:= @laws_toIntS_c;have cE2:= @spec_DescribePerm_c;have cE3:= @impl_DescribePerm_c;have cE4:= @laws_eqIntS_c
  have c1:decide ((1048576:Int)<a.length)=true:=decide_eq_true (by omega)
  refine dE @c1 ?_
  all_goals try (refine zlf ?_;repeat' first|exact zso|refine And.intro ?_ ?_|(refine zim ?_;intro zb hc)|(refine zin ?_;intro zb)|intro j')
  all_goals try refine zbx ?_
end Go.Gl
