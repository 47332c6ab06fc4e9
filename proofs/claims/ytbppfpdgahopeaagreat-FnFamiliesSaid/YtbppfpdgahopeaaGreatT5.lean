/-
  What the functions compute, and what the law asks of it: texts joined. Conditions: those that each lemma names.
-/
import Derived.Test.YtbppfpdgahopeaaGreatT2
import Derived.Test.YtbppfpdgahopeaaGreatT3
import Derived.Test.YtbppfpdgahopeaaGreatT4
import Derived.Test.YtbppfpdgahopeaaGreatT1
set_option linter.unusedSimpArgs false
set_option linter.unusedVariables false
set_option maxRecDepth 20000
set_option linter.unusedSectionVars false
namespace Go.Gl
open Go Go.Proofs
variable [Amb] [NoQ]
def layB (p:List Int):Bool:=isPermB p&&(sumPt p).all dnB
theorem sum_few {p:List Int} (hp:isPermB p=true):(sumPt p).length≤8∧∀q∈sumPt p,isPermB q=true:=⟨(sumPt_f hp).2.2.1,fun q hq=>((sumPt_f hp).2.2.2 q hq).1⟩
theorem impl_IsLayered_1_c {m0:Bool} (q:List Int) (hq:isPermB q=true):Fun Tryz.prog 93 [(.sl (.lent m0) (List.map (PV.int .i64) (q)))] [(.bool (!(dnB q)))]:=by
 refine fO sg0 [2] Tryz.func93 ?_
 have cE1:= @impl_isFalling_c
 refine dEa trivial ?_
 all_goals try (refine zlf ?_;repeat' first|exact zso|refine And.intro ?_ ?_|(refine zim ?_;intro zb hc)|(refine zin ?_;intro zb)|intro j')
 all_goals try refine zbx ?_
theorem impl_IsLayered_c {m0:Bool} (p:List Int) (hp:p.length≤1048576):Fun Tryz.prog 51 [(.sl (.lent m0) (List.map (PV.int .i64) (p)))] [(.bool (layB p))]:=by
 by_cases h:isPermB p=true
 ·obtain⟨h8,_⟩:=isPerm_facts h
  have hb:=perm_b8 h
  obtain⟨s1,s2⟩:=sum_few h
  have e1:(spG shI p p.length).1=sumPt p:=rfl
  have e2:layB p= !((sumPt p).any fun q=> !(dnB q)):=by
   rw[layB,h,Bool.true_and,List.not_any_eq_all_not];simp
  have c1:=fun(e0 m0:Bool)=>slices_ContainsFunc_LLint_int_c (e0:=e0) (m0:=m0) (sumPt p) 93 [] (fun q=> !(dnB q)) (by omega) (fun q hq=>impl_IsLayered_1_c (m0:=e0) q (s2 q hq))
  rw[e2]
  refine fO sg0 [2] Tryz.func51 ?_
  have cE1:= @impl_IsPerm_c;have cE2:= @impl_sumParts_c;have cE3:= @slices_ContainsFunc_LLint_int_c;have cE4:= @impl_IsLayered_1_c
  have cE1:= @c1;have cE2:= @impl_IsPerm_c;have cE3:= @impl_sumParts_c;have cE4:= @slices_ContainsFunc_LLint_int_c;have cE5:= @impl_IsLayered_1_c
  refine dEa (And.intro @h @e1) ?_
  all_goals try (refine zlf ?_;repeat' first|exact zso|refine And.intro ?_ ?_|(refine zim ?_;intro zb hc)|(refine zin ?_;intro zb)|intro j')
  all_goals try refine zbx ?_
  all_goals trace_state
 ·rw[Bool.not_eq_true]at h
  have e:layB p=false:=by rw[layB,h];rfl
  rw[e]
  refine fO sg0 [2] Tryz.func51 ?_
  have cE1:= @impl_IsPerm_c;have cE2:= @impl_sumParts_c;have cE3:= @slices_ContainsFunc_LLint_int_c;have cE4:= @impl_IsLayered_1_c
  refine dEa @h ?_
  all_goals try (refine zlf ?_;repeat' first|exact zso|refine And.intro ?_ ?_|(refine zim ?_;intro zb hc)|(refine zin ?_;intro zb)|intro j')
  all_goals try refine zbx ?_
theorem spec_IsLayered_c {m0:Bool} (p:List Int) (hp:p.length≤1048576):Fun Tryz.prog 58 [(.sl (.lent m0) (List.map (PV.int .i64) (p)))] [(.bool (layB p))]:=by
 by_cases h:isPermB p=true
 ·obtain⟨h8,hq⟩:=isPerm_facts h
  obtain⟨s1,s2⟩:=sum_few h
  have e1:(spG ptI p p.length).1=sumPt p:=sumPt_pt hq
  refine fO sg0 [2] Tryz.func58 ?_
  have cE1:= @spec_SumParts_n_c;have cE2:= @spec_SumParts_c;have cE3:= @spec_l3Reverse_c;have cE4:= @spec_IdentityPerm_c;have cE5:= @spec_l2Same_c;have cE6:= @spec_IsPerm_c
  have cD1:=zdh [false,false,false,false,true,false,false,false,false,false,true,true,false] [(4,5),(4,6),(4,7),(4,8),(4,9)]
  have cE1:= @spec_SumParts_c;have cE2:= @spec_l3Reverse_c;have cE3:= @spec_IdentityPerm_c;have cE4:= @spec_l2Same_c;have cE5:= @spec_IsPerm_c;have cE6:=trivial
  refine dEa (And.intro @h @e1) ?_
  all_goals try (refine zlf ?_;repeat' first|exact zso|refine And.intro ?_ ?_|(refine zim ?_;intro zb hc)|(refine zin ?_;intro zb)|intro j')
  all_goals try refine zbx ?_
  refine v_loopB (fun ms1 S1=>∃(k:Nat),S1.e 0=.p (.sl (.lent m0) (List.map (PV.int .i64) (p)))∧OwnL (S1.e 3) S1.h S1.n (elI false) ((sumPt p).length) (sumPt p)∧S1.e 4=.p (.int .i64 (k))∧(k≤(sumPt p).length)∧(∀q∈(sumPt p).take k,dnB q=true)∧ms1=(sumPt p).length - k) ((fun(k:Nat)=>(sumPt p).length - k) (0)) ?_ ⟨0,dC trivial ?_⟩
  all_goals try (refine zlf ?_;repeat' first|exact zso|refine And.intro ?_ ?_|(refine zim ?_;intro zb hc)|(refine zin ?_;intro zb)|intro j')
  all_goals try refine zbx ?_
  rintro ms1 S1 ⟨k,h1_0,o1_3,h1_4,c1_0,c1_1,hm1⟩
  obtain⟨i1_3,h1_3,b1_3,l1_3⟩:=o1_3.out
  have ni1_3:=znds (x:=i1_3) (n:=S1.n)
  have fL1:=(And.intro h1_0 (And.intro h1_4 (And.intro h1_3 (And.intro b1_3 ni1_3))))
  by_cases hk:k<(sumPt p).length
  ·have r1:=s2 _ (getD_mem (d:=[]) hk)
   obtain⟨r2,r3⟩:=isPerm_facts r1
   have r4:((sumPt p).getD k []).reverse.length=((sumPt p).getD k []).length:=List.length_reverse
   have r5:(idL ((sumPt p).getD k []).length).length=((sumPt p).getD k []).length:=idL_len
   have r6:decide (((sumPt p).getD k []).reverse=idL ((sumPt p).getD k []).length)=dnB ((sumPt p).getD k []):=rfl
   cases hd:dnB ((sumPt p).getD k [])with
   |true=>
    have cE1:= @spec_l3Reverse_c;have cE2:= @spec_IdentityPerm_c;have cE3:= @spec_l2Same_c;have cE4:= @spec_IsPerm_c;have cE5:=trivial;have cE6:=trivial
    refine dEa (And.intro fL1 (And.intro @r6 @hd)) ?_
    all_goals try (refine zlf ?_;repeat' first|exact zso|refine And.intro ?_ ?_|(refine zim ?_;intro zb hc)|(refine zin ?_;intro zb)|intro j')
    all_goals try refine zbx ?_
    focus
     refine q_lp_n ((fun(k:Nat)=>(sumPt p).length - k) (k+1)) (dC fL1 ?_) ⟨k+1,dC fL1 ?_⟩
     all_goals try (refine zlf ?_;repeat' first|exact zso|refine And.intro ?_ ?_|(refine zim ?_;intro zb hc)|(refine zin ?_;intro zb)|intro j')
     all_goals try refine zbx ?_
    all_goals(first|(intro q hq;rw[take_getD (d:=[]) hk]at hq;rcases List.mem_append.1 hq with g|g;exact c1_1 q g;rw[List.mem_singleton]at g;subst g;exact hd)|skip)
    all_goals trace_state
   |false=>
    have e:layB p=false:=by
     rw[layB,Bool.and_eq_false_iff]
     exact .inr (List.all_eq_false.2 ⟨_,getD_mem (d:=[]) hk,by rw[hd];decide⟩)
    rw[e]
    have cE1:= @spec_l3Reverse_c;have cE2:= @spec_IdentityPerm_c;have cE3:= @spec_l2Same_c;have cE4:= @spec_IsPerm_c;have cE5:=trivial;have cE6:=trivial
    refine dEa (And.intro fL1 (And.intro @r6 @hd)) ?_
    all_goals try (refine zlf ?_;repeat' first|exact zso|refine And.intro ?_ ?_|(refine zim ?_;intro zb hc)|(refine zin ?_;intro zb)|intro j')
    all_goals try refine zbx ?_
    all_goals trace_state
  ·rw[List.take_of_length_le (by omega)]at c1_1
   have e:layB p=true:=by rw[layB,h,Bool.true_and];exact List.all_eq_true.2 c1_1
   rw[e]
   have cE1:= @spec_l3Reverse_c;have cE2:= @spec_IdentityPerm_c;have cE3:= @spec_l2Same_c;have cE4:= @spec_IsPerm_c;have cE5:=trivial;have cE6:=trivial
   refine dEa (And.intro fL1 @h) ?_
   all_goals try (refine zlf ?_;repeat' first|exact zso|refine And.intro ?_ ?_|(refine zim ?_;intro zb hc)|(refine zin ?_;intro zb)|intro j')
   all_goals try refine zbx ?_
   all_goals trace_state
 ·rw[Bool.not_eq_true]at h
  have e:layB p=false:=by rw[layB,h];rfl
  rw[e]
  refine fO sg0 [2] Tryz.func58 ?_
  have cE1:= @spec_SumParts_n_c;have cE2:= @spec_SumParts_c;have cE3:= @spec_l3Reverse_c;have cE4:= @spec_IdentityPerm_c;have cE5:= @spec_l2Same_c;have cE6:= @spec_IsPerm_c
  have cD1:=zdh [false,false,false,false,true,false,false,false,false,false,true,true,false] [(4,5),(4,6),(4,7),(4,8),(4,9)]
  have cE2:= @spec_l3Reverse_c;have cE3:= @spec_IdentityPerm_c;have cE4:= @spec_l2Same_c;have cE5:= @spec_IsPerm_c;have cE6:=trivial
  refine dEa @h ?_
  all_goals try (refine zlf ?_;repeat' first|exact zso|refine And.intro ?_ ?_|(refine zim ?_;intro zb hc)|(refine zin ?_;intro zb)|intro j')
  all_goals try refine zbx ?_
  refine v_loopB (fun ms1 S1=>∃(k:Nat),S1.e 0=.p (.sl (.lent m0) (List.map (PV.int .i64) (p)))∧OwnL (S1.e 3) S1.h S1.n (elI false) ((([]:List (List Int))).length) (([]:List (List Int)))∧S1.e 4=.p (.int .i64 (k))∧(k=0)∧ms1=0) ((fun(k:Nat)=>0) (0)) ?_ ⟨0,dIa trivial ?_⟩
  all_goals try (refine zlf ?_;repeat' first|exact zso|refine And.intro ?_ ?_|(refine zim ?_;intro zb hc)|(refine zin ?_;intro zb)|intro j')
  all_goals try refine zbx ?_
  rintro ms1 S1 ⟨k,h1_0,o1_3,h1_4,c1_0,hm1⟩
  obtain⟨i1_3,h1_3,b1_3,l1_3⟩:=o1_3.out
  have ni1_3:=znds (x:=i1_3) (n:=S1.n)
  have fL1:=(And.intro h1_0 (And.intro h1_4 (And.intro h1_3 (And.intro b1_3 ni1_3))))
  subst c1_0
  have cE1:= @spec_l3Reverse_c;have cE2:= @spec_IdentityPerm_c;have cE3:= @spec_l2Same_c;have cE4:= @spec_IsPerm_c;have cE5:=trivial;have cE6:=trivial
  refine dEa (And.intro fL1 @h) ?_
  all_goals try (refine zlf ?_;repeat' first|exact zso|refine And.intro ?_ ?_|(refine zim ?_;intro zb hc)|(refine zin ?_;intro zb)|intro j')
  all_goals try refine zbx ?_
  all_goals trace_state
def endK (p:List Int) (a:Nat):Nat→Nat
 |0=>a+1
 |k+1=>if a+2≤k+1∧k+1 - a<p.length∧isIntB p a (k+1:Nat)=true then k+1 else endK p a k
theorem endK_b {p:List Int} {a:Nat}:∀{k:Nat},a+1≤endK p a k∧(endK p a k≤k∨endK p a k=a+1)
 |0=>by simp[endK]
 |k+1=>by
  have:=endK_b (p:=p) (a:=a) (k:=k)
  rw[endK];split<;>omega
theorem endK_low {p:List Int} {a:Nat}:∀{k:Nat},k≤a+1→endK p a k=a+1
 |0,_=>rfl
 |k+1,h=>by rw[endK,if_neg (by omega)];exact endK_low (by omega)
def cutL (p:List Int):Nat→Nat×List Int×List (List Int)
 |0=>(0,[],[])
 |j+1=>if(cutL p j).1<p.length then(endK p (cutL p j).1 p.length,(cutL p j).2.1++[p.getD (cutL p j).1 0],(cutL p j).2.2++[patL (segL p (cutL p j).1 (endK p (cutL p j).1 p.length))])else cutL p j
theorem cutL_b {p:List Int}:∀{j:Nat},(cutL p j).1≤p.length∧(j≤(cutL p j).1∨(cutL p j).1=p.length)∧(cutL p j).2.1.length≤(cutL p j).1∧(cutL p j).2.2.length=(cutL p j).2.1.length
 |0=>by simp[cutL]
 |j+1=>by
  have:=cutL_b (p:=p) (j:=j)
  rw[cutL]
  split
  ·have h2:=endK_b (p:=p) (a:=(cutL p j).1) (k:=p.length)
   simp only[List.length_append,List.length_cons,List.length_nil]
   omega
  ·omega
theorem cutL_end {p:List Int} {j:Nat} (h:(cutL p j).1=p.length):∀i,cutL p (j+i)=cutL p j
 |0=>rfl
 |i+1=>by
  rw[←Nat.add_assoc,cutL,cutL_end h i,if_neg (by omega)]
theorem cutL_fin {p:List Int} {j:Nat} (h:(cutL p j).1=p.length):cutL p j=cutL p p.length:=by
 have h1:=cutL_b (p:=p) (j:=p.length)
 have h2:(cutL p p.length).1=p.length:=by omega
 rcases Nat.le_total j p.length with hj|hj
 ·have:=cutL_end h (p.length - j);rw[←this];congr 1;omega
 ·have:=cutL_end h2 (j - p.length);rw[←this];congr 1;omega
theorem isInt_one {p:List Int} {a:Nat} (h:a<p.length):isIntB p a ((a+1:Nat):Int)=true:=by
 have e:segL p a (a+1)=[p.getD a 0]:=by
  apply List.ext_getElem?;intro i
  simp only[segL,List.getElem?_drop,List.getElem?_take]
  cases i with
  |zero=>simp[List.getD_eq_getElem?_getD,List.getElem?_eq_getElem h]
  |succ i=>rw[if_neg (by omega)];simp
 have e2:((a:Int)).toNat=a:=by omega
 have e3:(((a+1:Nat):Int)).toNat=a+1:=by omega
 rw[isIntB,e2,e3,e]
 simp[maxL,minL,maxT,minT]
 omega
def splL (p:List Int):List Int×List (List Int):=
 if p.length=1 then([1],[[1]])else
 if 1<(sumPt p).length then([1,2],[(sumPt p).getD 0 [],joinL ((sumPt p).drop 1) false])else
 if 1<(skewPt p).length then([2,1],[(skewPt p).getD 0 [],joinL ((skewPt p).drop 1) true])else
 (patL (cutL p p.length).2.1,(cutL p p.length).2.2)
theorem skewPt_f {p:List Int} (hp:isPermB p=true):(∀l∈skewPt p,permB l=true)∧lenS (skewPt p)≤8∧(skewPt p).length≤8∧(∀l∈skewPt p,isPermB l=true∧l.length≤8∧∀x∈l,0≤x∧x≤8):=by
 have h:=sumPt_f (cplL_isPerm hp)
 have e:lenS (skewPt p)=lenS (sumPt (cplL p)):=by
  simp only[lenS,skewPt,List.map_map]
  congr 1
  exact List.map_congr_left fun l _=>cplL_len
 refine⟨fun l hl=> ?_,by omega,by simp[skewPt];omega,fun l hl=> ?_⟩
 ·obtain⟨q,hq,rfl⟩:=List.mem_map.1 hl
  exact cplL_perm (h.1 q hq)
 ·obtain⟨q,hq,rfl⟩:=List.mem_map.1 hl
  have:=cplL_isPerm (h.2.2.2 q hq).1
  exact⟨this,(isPerm_facts this).1,perm_b8 this⟩
theorem parts_drop {L:List (List Int)} (h1:∀l∈L,permB l=true) (h2:lenS L≤8) (h3:L.length≤8) (h4:∀l∈L,isPermB l=true∧l.length≤8∧∀x∈l,0≤x∧x≤8):
  (L.drop 1).length≤8∧(∀l∈L.drop 1,l.length≤8)∧(∀l∈L.drop 1,∀x∈l,0≤x∧x≤8):=
 ⟨by simp;omega,fun l hl=>(h4 l (List.mem_of_mem_drop hl)).2.1,fun l hl=>(h4 l (List.mem_of_mem_drop hl)).2.2⟩
def sgSt:FuncId→List Bool:=fun f=>if f=4294967297 then[false,true,false,false]else[]
theorem sgSt_eq {f:FuncId}:sgSt f=if f=4294967297 then[false,true,false,false]else[]:=_root_.id rfl
theorem way_sgSt:wayE sgSt=false∧wayN sgSt=false∧wayS sgSt=true∧wayZ sgSt=false∧wayM sgSt=false:=⟨rfl,rfl,rfl,rfl,rfl⟩
attribute [go_sem] sgSt_eq way_sgSt
set_option maxHeartbeats 1600000 in
theorem impl_split_c {m0:Bool} (p:List Int) (hp:isPermB p=true) (h0:1≤p.length):Fun Tryz.prog 118 [(.sl (.lent m0) (List.map (PV.int .i64) (p)))] [(.agg [(.sl (.lent false) (List.map (PV.int .i64) ((splL p).1))),(.sl (.lent false) (List.map (elI false) ((splL p).2)))])]:=by
 refine Fun.ofR (sg:=sgSt) (rs:=[.cell 2 92]) mo Tryz.func118 rfl rfl rfl rfl (by kernel_rfl) (by simp only[go_sem]) rfl ?_
 have cE1:= @impl_sumParts_c;have cE2:= @impl_joinParts_c;have cE3:= @impl_skewParts_c;have cE4:= @impl_isInterval_c;have cE5:= @impl_pattern_c;have cD1:=zdh [true,false,false,false,false,false,true,true,false,true] [(0,1),(0,2),(0,3),(0,4),(0,5),(0,6),(1,6),(2,6),(3,6),(0,7)]
 have cD2:=zdh [true,false,false,false,false,false,true,true,false,true] [(0,1),(0,2),(0,3),(0,4),(0,5),(0,6),(1,6),(2,6),(3,6),(0,7)];have cD3:=zdh [false,false,false,false,false,false,true,true,true,false,true] [(0,6),(1,6),(0,7),(1,7)]
 have hl:=(isPerm_facts hp).1
 have hb:=perm_b8 hp
 have q1:(spG shI p p.length).1=sumPt p:=rfl
 have q2:=sumPt_f hp
 have q3:=skewPt_f hp
 obtain⟨q4,q5,q6⟩:=parts_drop q2.1 q2.2.1 q2.2.2.1 q2.2.2.2
 obtain⟨q7,q8,q9⟩:=parts_drop q3.1 q3.2.1 q3.2.2.1 q3.2.2.2
 have hbb:∀x∈p,0≤x∧x≤1048576:=fun x hx=>by have:=hb x hx;omega
 have qa:List.take ((sumPt p).length - 1) (List.drop 1 (sumPt p))=List.drop 1 (sumPt p):=by rw[List.take_of_length_le (by simp)]
 have qb:List.take ((skewPt p).length - 1) (List.drop 1 (skewPt p))=List.drop 1 (skewPt p):=by rw[List.take_of_length_le (by simp)]
 refine dEa (And.intro @q1 (And.intro @qa @qb)) ?_
 all_goals try (refine zlf ?_;repeat' first|exact zso|refine And.intro ?_ ?_|(refine zim ?_;intro zb hc)|(refine zin ?_;intro zb)|intro j')
 all_goals try refine zbx ?_
 all_goals try (rw[splL,if_pos (by omega)];rfl)
 all_goals try (rw[splL,if_neg (by omega),if_pos (by omega)];rfl)
 all_goals try (rw[splL,if_neg (by omega),if_neg (by omega),if_pos (by omega)];rfl)
 refine v_loopB (fun ms1 S1=>∃(j:Nat),S1.e 0=.p (.sl (.lent m0) (List.map (PV.int .i64) (p)))∧PtrL (S1.e 2) S1.h S1.n (.deep false [.v (.sl .own []),.v (.sl .own [])] [])∧Dst2 (S1.e 5) S1.h S1.n (List.map (PV.int .i64) ([])) (List.map (elI false) ((cutL p j).2.2))∧OwnL (S1.e 6) S1.h S1.n (PV.int .i64) (((cutL p j).2.1).length) ((cutL p j).2.1)∧S1.e 7=.p (.int .i64 ((cutL p j).1))∧((cutL p j).1≤p.length)∧NId (asR (S1.e 5)) (asR (S1.e 2))∧NId (S1.e 6) (asR (S1.e 2))∧NId (S1.e 6) (asR (S1.e 5))∧ms1=p.length - (cutL p j).1) ((fun(j:Nat)=>p.length - (cutL p j).1) (0)) ?_ ⟨0,dIa trivial ?_⟩
 all_goals try (refine zlf ?_;repeat' first|exact zso|refine And.intro ?_ ?_|(refine zim ?_;intro zb hc)|(refine zin ?_;intro zb)|intro j')
 all_goals try refine zbx ?_
 rintro ms1 S1 ⟨j,h1_0,o1_2,o1_5,o1_6,h1_7,c1_0,u1_0,u1_1,u1_2,hm1⟩
 obtain⟨i1_5,ra1_5,rb1_5,rs1_5,h1_5,b1_5,l1_5,w01_5,w11_5,w21_5,w31_5,w41_5,w51_5,w61_5,w71_5,w81_5,w91_5⟩:=o1_5.out
 obtain⟨i1_2,h1_2,b1_2,l1_2⟩:=o1_2.out
 obtain⟨i1_6,h1_6,b1_6,l1_6⟩:=o1_6.out
 have k1_0:=(u1_0).out (asR_eq h1_5) (asR_eq h1_2)
 have k1_1:=(u1_1).out h1_6 (asR_eq h1_2)
 have k1_2:=(u1_2).out h1_6 (asR_eq h1_5)
 have ni1_2:=znds (x:=i1_2) (n:=S1.n)
 have ni1_5:=znds (x:=i1_5) (n:=S1.n)
 have ni1_6:=znds (x:=i1_6) (n:=S1.n)
 have di1_2i1_5:=zdne (x:=i1_2) (y:=i1_5)
 have di1_2i1_6:=zdne (x:=i1_2) (y:=i1_6)
 have di1_5i1_6:=zdne (x:=i1_5) (y:=i1_6)
 have fL1:=(And.intro h1_0 (And.intro h1_7 (And.intro h1_2 (And.intro b1_2 (And.intro h1_5 (And.intro b1_5 (And.intro h1_6 (And.intro b1_6 (And.intro w01_5 (And.intro w11_5 (And.intro w21_5 (And.intro w31_5 (And.intro w41_5 (And.intro w51_5 (And.intro w61_5 (And.intro w71_5 (And.intro w81_5 (And.intro w91_5 (And.intro ni1_2 (And.intro ni1_5 (And.intro ni1_6 (And.intro di1_2i1_5 (And.intro di1_2i1_6 di1_5i1_6)))))))))))))))))))))))
 have z1:=cutL_b (p:=p) (j:=j)
 have z2:¬(cutL p j).1<p.length→splL p=(patL (cutL p j).2.1,(cutL p j).2.2):=fun h=>by
  rw[splL,if_neg (by omega),if_neg (by omega),if_neg (by omega),cutL_fin (j:=j) (by omega)]
 refine dEa fL1 ?_
 all_goals try (refine zlf ?_;repeat' first|exact zso|refine And.intro ?_ ?_|(refine zim ?_;intro zb hc)|(refine zin ?_;intro zb)|intro j')
 all_goals try refine zbx ?_
 ·refine v_loopB (fun ms2 S2=>∃(i:Nat),S2.e 0=.p (.sl (.lent m0) (List.map (PV.int .i64) (p)))∧PtrL (S2.e 2) S2.h S2.n (.deep false [.v (.sl .own []),.v (.sl .own [])] [])∧Dst2 (S2.e 5) S2.h S2.n (List.map (PV.int .i64) ([])) (List.map (elI false) ((cutL p j).2.2))∧OwnL (S2.e 6) S2.h S2.n (PV.int .i64) (((cutL p j).2.1).length) ((cutL p j).2.1)∧S2.e 7=.p (.int .i64 ((cutL p j).1))∧S2.e 8=.p (.int .i64 (endK p (cutL p j).1 i))∧S2.e 9=.p (.int .i64 (i+1))∧((cutL p j).1+1≤i)∧(i≤p.length)∧((cutL p j).1<p.length)∧NId (asR (S2.e 5)) (asR (S2.e 2))∧NId (S2.e 6) (asR (S2.e 2))∧NId (S2.e 6) (asR (S2.e 5))∧S1.n≤S2.n∧ms2=p.length - i) ((fun(i:Nat)=>p.length - i) ((cutL p j).1+1)) ?_ ⟨(cutL p j).1+1,dIa fL1 ?_⟩
  all_goals try (refine zlf ?_;repeat' first|exact zso|refine And.intro ?_ ?_|(refine zim ?_;intro zb hc)|(refine zin ?_;intro zb)|intro j')
  all_goals try refine zbx ?_
  rintro ms2 S2 ⟨i,h2_0,o2_2,o2_5,o2_6,h2_7,h2_8,h2_9,c2_0,c2_1,c2_2,u2_0,u2_1,u2_2,u2_3,hm2⟩
  obtain⟨i2_5,ra2_5,rb2_5,rs2_5,h2_5,b2_5,l2_5,w02_5,w12_5,w22_5,w32_5,w42_5,w52_5,w62_5,w72_5,w82_5,w92_5⟩:=o2_5.out
  obtain⟨i2_2,h2_2,b2_2,l2_2⟩:=o2_2.out
  obtain⟨i2_6,h2_6,b2_6,l2_6⟩:=o2_6.out
  have k2_0:=(u2_0).out (asR_eq h2_5) (asR_eq h2_2)
  have k2_1:=(u2_1).out h2_6 (asR_eq h2_2)
  have k2_2:=(u2_2).out h2_6 (asR_eq h2_5)
  have ni2_2:=znds (x:=i2_2) (n:=S2.n)
  have ni2_5:=znds (x:=i2_5) (n:=S2.n)
  have ni2_6:=znds (x:=i2_6) (n:=S2.n)
  have di2_2i2_5:=zdne (x:=i2_2) (y:=i2_5)
  have di2_2i2_6:=zdne (x:=i2_2) (y:=i2_6)
  have di2_5i2_6:=zdne (x:=i2_5) (y:=i2_6)
  have fL2:=(And.intro h2_0 (And.intro h2_7 (And.intro h2_8 (And.intro h2_9 (And.intro h2_2 (And.intro b2_2 (And.intro h2_5 (And.intro b2_5 (And.intro h2_6 (And.intro b2_6 (And.intro w02_5 (And.intro w12_5 (And.intro w22_5 (And.intro w32_5 (And.intro w42_5 (And.intro w52_5 (And.intro w62_5 (And.intro w72_5 (And.intro w82_5 (And.intro w92_5 (And.intro ni2_2 (And.intro ni2_5 (And.intro ni2_6 (And.intro di2_2i2_5 (And.intro di2_2i2_6 di2_5i2_6)))))))))))))))))))))))))
  have z3:=endK_b (p:=p) (a:=(cutL p j).1) (k:=i)
  refine dEa fL2 ?_
  all_goals try (refine zlf ?_;repeat' first|exact zso|refine And.intro ?_ ?_|(refine zim ?_;intro zb hc)|(refine zin ?_;intro zb)|intro j')
  all_goals try refine zbx ?_
  ·have e2:endK p (cutL p j).1 (i+1)=i+1:=by rw[endK,if_pos ⟨by omega,by omega,by push_cast;exact hc⟩]
   focus
    refine q_lp_n ((fun(i:Nat)=>p.length - i) (i+1)) (dC fL2 ?_) ⟨i+1,dC fL2 ?_⟩
    all_goals try (refine zlf ?_;repeat' first|exact zso|refine And.intro ?_ ?_|(refine zim ?_;intro zb hc)|(refine zin ?_;intro zb)|intro j')
    all_goals try refine zbx ?_
  ·have e2:endK p (cutL p j).1 (i+1)=endK p (cutL p j).1 i:=by rw[endK,if_neg (fun h=>by have:=h.2.2;push_cast at this;rw[hc]at this;cases this)]
   focus
    refine q_lp_n ((fun(i:Nat)=>p.length - i) (i+1)) (dC fL2 ?_) ⟨i+1,dC fL2 ?_⟩
    all_goals try (refine zlf ?_;repeat' first|exact zso|refine And.intro ?_ ?_|(refine zim ?_;intro zb hc)|(refine zin ?_;intro zb)|intro j')
    all_goals try refine zbx ?_
  ·have e2:endK p (cutL p j).1 (i+1)=endK p (cutL p j).1 i:=by rw[endK,if_neg (by omega)]
   focus
    refine q_lp_n ((fun(i:Nat)=>p.length - i) (i+1)) (dC fL2 ?_) ⟨i+1,dC fL2 ?_⟩
    all_goals try (refine zlf ?_;repeat' first|exact zso|refine And.intro ?_ ?_|(refine zim ?_;intro zb hc)|(refine zin ?_;intro zb)|intro j')
    all_goals try refine zbx ?_
  ·obtain rfl:i=p.length:=by omega
   have e3:cutL p (j+1)=(endK p (cutL p j).1 p.length,(cutL p j).2.1++[p.getD (cutL p j).1 0],(cutL p j).2.2++[patL (segL p (cutL p j).1 (endK p (cutL p j).1 p.length))]):=by rw[cutL,if_pos c2_2]
   have e4:=congrArg Prod.fst e3
   have e5:=congrArg (fun x=>x.2.1) e3
   have e6:=congrArg (fun x=>x.2.2) e3
   simp only at e4 e5 e6
   focus
    refine q_lp_n ((fun(j:Nat)=>p.length - (cutL p j).1) (j+1)) (dC fL2 ?_) ⟨j+1,dC fL2 ?_⟩
    all_goals try (refine zlf ?_;repeat' first|exact zso|refine And.intro ?_ ?_|(refine zim ?_;intro zb hc)|(refine zin ?_;intro zb)|intro j')
    all_goals try refine zbx ?_
   all_goals(first|(rw[e6];rfl)|(rw[e5];done)|(rw[e5];simp;done)|(rw[e4];done)|(rw[e4];omega))
  ·rw[endK_low (by omega)];omega
 ·rw[z2 (by omega)]
 ·rw[z2 (by omega)]
 ·simp[cutL]
set_option maxHeartbeats 1000000 in
set_option maxHeartbeats 1600000 in
theorem spec_l6Split_c {m0:Bool} (p:List Int) (hp:isPermB p=true) (h0:1≤p.length):Fun Tryz.prog 139 [(.sl (.lent m0) (List.map (PV.int .i64) (p)))] [(.agg [(.sl (.lent false) (List.map (PV.int .i64) ((splL p).1))),(.sl (.lent false) (List.map (elI false) ((splL p).2)))])]:=by
 refine Fun.ofR (sg:=sgSt) (rs:=[.cell 2 92]) mo Tryz.func139 rfl rfl rfl rfl (by kernel_rfl) (by simp only[go_sem]) rfl ?_
 have cE1:= @spec_SumParts_c;have cE2:= @spec_l6Sum_c;have cE3:= @spec_SkewParts_c;have cE4:= @spec_l5Run_c;have cE5:= @spec_l2Pattern_c;have cD1:=zdh [false,false,false,false,false,false,false,true,true,true,false,true] [(0,7),(1,7),(0,8),(1,8)]
 have hl:=(isPerm_facts hp).1
 have hb:=perm_b8 hp
 have q1:(spG ptI p p.length).1=sumPt p:=sumPt_pt (isPerm_facts hp).2
 have q2:=sumPt_f hp
 have q3:=skewPt_f hp
 have hbb:∀x∈p,0≤x∧x≤1048576:=fun x hx=>by have:=hb x hx;omega
 obtain⟨f1,f2,f3,_⟩:=q2
 obtain⟨g1,g2,g3,_⟩:=q3
 refine dEa (And.intro @q1 @hp) ?_
 all_goals try (refine zlf ?_;repeat' first|exact zso|refine And.intro ?_ ?_|(refine zim ?_;intro zb hc)|(refine zin ?_;intro zb)|intro j')
 all_goals try refine zbx ?_
 all_goals try (rw[splL,if_pos (by omega)];rfl)
 all_goals try (rw[splL,if_neg (by omega),if_pos (by omega)];rfl)
 all_goals try (rw[splL,if_neg (by omega),if_neg (by omega),if_pos (by omega)];rfl)
 refine v_loopB (fun ms1 S1=>∃(j:Nat),S1.e 0=.p (.sl (.lent m0) (List.map (PV.int .i64) (p)))∧PtrL (S1.e 2) S1.h S1.n (.deep false [.v (.sl .own []),.v (.sl .own [])] [])∧Dst2 (S1.e 5) S1.h S1.n (List.map (PV.int .i64) ([])) (List.map (elI false) ((cutL p j).2.2))∧OwnL (S1.e 6) S1.h S1.n (PV.int .i64) (((cutL p j).2.1).length) ((cutL p j).2.1)∧S1.e 7=.p (.int .i64 ((cutL p j).1))∧((cutL p j).1≤p.length)∧NId (asR (S1.e 5)) (asR (S1.e 2))∧NId (S1.e 6) (asR (S1.e 2))∧NId (S1.e 6) (asR (S1.e 5))∧ms1=p.length - (cutL p j).1) ((fun(j:Nat)=>p.length - (cutL p j).1) (0)) ?_ ⟨0,dIa trivial ?_⟩
 all_goals try (refine zlf ?_;repeat' first|exact zso|refine And.intro ?_ ?_|(refine zim ?_;intro zb hc)|(refine zin ?_;intro zb)|intro j')
 all_goals try refine zbx ?_
 rintro ms1 S1 ⟨j,h1_0,o1_2,o1_5,o1_6,h1_7,c1_0,u1_0,u1_1,u1_2,hm1⟩
 obtain⟨i1_5,ra1_5,rb1_5,rs1_5,h1_5,b1_5,l1_5,w01_5,w11_5,w21_5,w31_5,w41_5,w51_5,w61_5,w71_5,w81_5,w91_5⟩:=o1_5.out
 obtain⟨i1_2,h1_2,b1_2,l1_2⟩:=o1_2.out
 obtain⟨i1_6,h1_6,b1_6,l1_6⟩:=o1_6.out
 have k1_0:=(u1_0).out (asR_eq h1_5) (asR_eq h1_2)
 have k1_1:=(u1_1).out h1_6 (asR_eq h1_2)
 have k1_2:=(u1_2).out h1_6 (asR_eq h1_5)
 have ni1_2:=znds (x:=i1_2) (n:=S1.n)
 have ni1_5:=znds (x:=i1_5) (n:=S1.n)
 have ni1_6:=znds (x:=i1_6) (n:=S1.n)
 have di1_2i1_5:=zdne (x:=i1_2) (y:=i1_5)
 have di1_2i1_6:=zdne (x:=i1_2) (y:=i1_6)
 have di1_5i1_6:=zdne (x:=i1_5) (y:=i1_6)
 have fL1:=(And.intro h1_0 (And.intro h1_7 (And.intro h1_2 (And.intro b1_2 (And.intro h1_5 (And.intro b1_5 (And.intro h1_6 (And.intro b1_6 (And.intro w01_5 (And.intro w11_5 (And.intro w21_5 (And.intro w31_5 (And.intro w41_5 (And.intro w51_5 (And.intro w61_5 (And.intro w71_5 (And.intro w81_5 (And.intro w91_5 (And.intro ni1_2 (And.intro ni1_5 (And.intro ni1_6 (And.intro di1_2i1_5 (And.intro di1_2i1_6 di1_5i1_6)))))))))))))))))))))))
 have z1:=cutL_b (p:=p) (j:=j)
 have z2:¬(cutL p j).1<p.length→splL p=(patL (cutL p j).2.1,(cutL p j).2.2):=fun h=>by
  rw[splL,if_neg (by omega),if_neg (by omega),if_neg (by omega),cutL_fin (j:=j) (by omega)]
 refine dEa fL1 ?_
 all_goals try (refine zlf ?_;repeat' first|exact zso|refine And.intro ?_ ?_|(refine zim ?_;intro zb hc)|(refine zin ?_;intro zb)|intro j')
 all_goals try refine zbx ?_
 ·refine v_loopB (fun ms2 S2=>∃(i:Nat),S2.e 0=.p (.sl (.lent m0) (List.map (PV.int .i64) (p)))∧PtrL (S2.e 2) S2.h S2.n (.deep false [.v (.sl .own []),.v (.sl .own [])] [])∧Dst2 (S2.e 5) S2.h S2.n (List.map (PV.int .i64) ([])) (List.map (elI false) ((cutL p j).2.2))∧OwnL (S2.e 6) S2.h S2.n (PV.int .i64) (((cutL p j).2.1).length) ((cutL p j).2.1)∧S2.e 7=.p (.int .i64 ((cutL p j).1))∧S2.e 8=.p (.int .i64 (i - 1))∧((cutL p j).1+1≤i)∧(i≤p.length)∧((cutL p j).1<p.length)∧(endK p (cutL p j).1 p.length=endK p (cutL p j).1 i)∧NId (asR (S2.e 5)) (asR (S2.e 2))∧NId (S2.e 6) (asR (S2.e 2))∧NId (S2.e 6) (asR (S2.e 5))∧S1.n≤S2.n∧ms2=i) ((fun(i:Nat)=>i) (p.length)) ?_ ⟨p.length,dIa fL1 ?_⟩
  all_goals try (refine zlf ?_;repeat' first|exact zso|refine And.intro ?_ ?_|(refine zim ?_;intro zb hc)|(refine zin ?_;intro zb)|intro j')
  all_goals try refine zbx ?_
  rintro ms2 S2 ⟨i,h2_0,o2_2,o2_5,o2_6,h2_7,h2_8,c2_0,c2_1,c2_2,c2_3,u2_0,u2_1,u2_2,u2_3,hm2⟩
  obtain⟨i2_5,ra2_5,rb2_5,rs2_5,h2_5,b2_5,l2_5,w02_5,w12_5,w22_5,w32_5,w42_5,w52_5,w62_5,w72_5,w82_5,w92_5⟩:=o2_5.out
  obtain⟨i2_2,h2_2,b2_2,l2_2⟩:=o2_2.out
  obtain⟨i2_6,h2_6,b2_6,l2_6⟩:=o2_6.out
  have k2_0:=(u2_0).out (asR_eq h2_5) (asR_eq h2_2)
  have k2_1:=(u2_1).out h2_6 (asR_eq h2_2)
  have k2_2:=(u2_2).out h2_6 (asR_eq h2_5)
  have ni2_2:=znds (x:=i2_2) (n:=S2.n)
  have ni2_5:=znds (x:=i2_5) (n:=S2.n)
  have ni2_6:=znds (x:=i2_6) (n:=S2.n)
  have di2_2i2_5:=zdne (x:=i2_2) (y:=i2_5)
  have di2_2i2_6:=zdne (x:=i2_2) (y:=i2_6)
  have di2_5i2_6:=zdne (x:=i2_5) (y:=i2_6)
  have fL2:=(And.intro h2_0 (And.intro h2_7 (And.intro h2_8 (And.intro h2_2 (And.intro b2_2 (And.intro h2_5 (And.intro b2_5 (And.intro h2_6 (And.intro b2_6 (And.intro w02_5 (And.intro w12_5 (And.intro w22_5 (And.intro w32_5 (And.intro w42_5 (And.intro w52_5 (And.intro w62_5 (And.intro w72_5 (And.intro w82_5 (And.intro w92_5 (And.intro ni2_2 (And.intro ni2_5 (And.intro ni2_6 (And.intro di2_2i2_5 (And.intro di2_2i2_6 di2_5i2_6))))))))))))))))))))))))
  have z3:=endK_b (p:=p) (a:=(cutL p j).1) (k:=i)
  refine dEa fL2 ?_
  all_goals try (refine zlf ?_;repeat' first|exact zso|refine And.intro ?_ ?_|(refine zim ?_;intro zb hc)|(refine zin ?_;intro zb)|intro j')
  all_goals try refine zbx ?_
  ·have e1:i≠(cutL p j).1+1:=fun e=>by
    have:=isInt_one c2_2
    rw[show(((cutL p j).1+1:Nat):Int)=(i:Int) - 1+1 by omega,hc]at this;cases this
   have e2:endK p (cutL p j).1 i=endK p (cutL p j).1 (i - 1):=by
    obtain⟨i',rfl⟩:∃i',i=i'+1:=⟨i - 1,by omega⟩
    rw[endK,if_neg fun h=> ?_];·rfl
    have:=h.2.2
    rw[show((i'+1:Nat):Int)=((i'+1:Nat):Int) - 1+1 by omega,hc]at this;cases this
   focus
    refine q_lp_n ((fun(i:Nat)=>i) (i-1)) (dC fL2 ?_) ⟨i-1,dC fL2 ?_⟩
    all_goals try (refine zlf ?_;repeat' first|exact zso|refine And.intro ?_ ?_|(refine zim ?_;intro zb hc)|(refine zin ?_;intro zb)|intro j')
    all_goals try refine zbx ?_
  ·have e2:endK p (cutL p j).1 p.length=i:=by
    rw[c2_3]
    by_cases h2:i=(cutL p j).1+1
    ·rw[endK_low (by omega)];omega
    ·obtain⟨i',rfl⟩:∃i',i=i'+1:=⟨i - 1,by omega⟩
     rw[endK,if_pos ⟨by omega,by omega,by rw[←hc];congr 1;omega⟩]
   have e3:cutL p (j+1)=(i,(cutL p j).2.1++[p.getD (cutL p j).1 0],(cutL p j).2.2++[patL (segL p (cutL p j).1 i)]):=by rw[cutL,if_pos c2_2,e2]
   have e4:=congrArg Prod.fst e3
   have e5:=congrArg (fun x=>x.2.1) e3
   have e6:=congrArg (fun x=>x.2.2) e3
   simp only at e4 e5 e6
   have e7:((i:Int) - 1+1).toNat=i:=by omega
   focus
    refine q_lp_n ((fun(j:Nat)=>p.length - (cutL p j).1) (j+1)) (dC fL2 ?_) ⟨j+1,dC fL2 ?_⟩
    all_goals try (refine zlf ?_;repeat' first|exact zso|refine And.intro ?_ ?_|(refine zim ?_;intro zb hc)|(refine zin ?_;intro zb)|intro j')
    all_goals try refine zbx ?_
   all_goals(first|(rw[e5];done)|(rw[e5];simp only[List.length_append];done)|(rw[e4];omega)|(rw[e7,e6];rfl)|(rw[e5];simp;done))
  ·have e2:endK p (cutL p j).1 i=endK p (cutL p j).1 (i - 1):=by
    obtain⟨i',rfl⟩:∃i',i=i'+1:=⟨i - 1,by omega⟩
    rw[endK,if_neg (by omega)];rfl
   focus
    refine q_lp_n ((fun(i:Nat)=>i) (i-1)) (dC fL2 ?_) ⟨i-1,dC fL2 ?_⟩
    all_goals try (refine zlf ?_;repeat' first|exact zso|refine And.intro ?_ ?_|(refine zim ?_;intro zb hc)|(refine zin ?_;intro zb)|intro j')
    all_goals try refine zbx ?_
 ·rw[z2 (by omega)]
 ·rw[z2 (by omega)]
 ·simp[cutL]
theorem endK_lt {p:List Int} {a:Nat} (h:2≤p.length):∀{k:Nat},endK p a k - a<p.length
 |0=>by rw[endK];omega
 |k+1=>by
  have:=endK_lt (a:=a) h (k:=k)
  rw[endK];split<;>omega
theorem permB_8 {p:List Int} (h:permB p=true) (h8:p.length≤8):isPermB p=true:=by
 simp only[isPermB,h,Bool.and_true,decide_eq_true_eq];exact h8
theorem cut_f {p:List Int} (hp:isPermB p=true) (h2:2≤p.length):∀{j:Nat},∀q∈(cutL p j).2.2,isPermB q=true∧q.length<p.length
 |0=>by simp[cutL]
 |j+1=>by
  have ih:=cut_f hp h2 (j:=j)
  obtain⟨h8,hq⟩:=isPerm_facts hp
  rw[cutL]
  split
  ·rename_i hc
   intro q hm
   rcases List.mem_append.1 hm with g|g
   ·exact ih q g
   ·rw[List.mem_singleton]at g;subst g
    have e1:=endK_b (p:=p) (a:=(cutL p j).1) (k:=p.length)
    have e2:=endK_lt (p:=p) (a:=(cutL p j).1) h2 (k:=p.length)
    have e3:(patL (segL p (cutL p j).1 (endK p (cutL p j).1 p.length))).length=endK p (cutL p j).1 p.length - (cutL p j).1:=by rw[patL_len,segL_len (by omega)]
    exact⟨permB_8 (patL_perm (nodup_take (permB_iff.1 hq).2)) (by omega),by omega⟩
  ·exact ih
theorem spG_ne {p:List Int}:∀{k:Nat},k≤p.length→∀l∈(spG ptI p k).1,0<l.length
 |0,_=>by simp[spG]
 |k+1,h=>by
  have ih:=spG_ne (p:=p) (k:=k) (by omega)
  have h3:=(spG_from (g:=ptI) (p:=p) (k:=k)).1
  rw[spG]
  split
  ·intro l hl
   rcases List.mem_append.1 hl with g|g
   ·exact ih l g
   ·rw[List.mem_singleton]at g;subst g
    simp only[ptI,patL_len,segL_len h];omega
  ·exact ih
theorem sum_ne {p:List Int} (hp:isPermB p=true):(∀l∈sumPt p,0<l.length)∧lenS (sumPt p)≤p.length:=by
 obtain⟨h8,hq⟩:=isPerm_facts hp
 rw[←sumPt_pt hq]
 refine⟨spG_ne (Nat.le_refl _), ?_⟩
 rw[(spG_parts hq (Nat.le_refl _)).2]
 exact(spG_from (g:=ptI) (p:=p) (k:=p.length)).1
theorem parts_lt {L:List (List Int)} {n:Nat} (h2:1<L.length) (hne:∀l∈L,0<l.length) (hs:lenS L≤n):(L.getD 0 []).length<n∧lenS (L.drop 1)<n:=by
 match L,h2 with
 |a::b::t,_=>
  have h1:=hne a (by simp)
  have h3:=hne b (by simp)
  simp only[lenS,List.map_cons,List.sum_cons]at hs
  simp only[List.getD_cons_zero,List.drop_succ_cons,List.drop_zero,lenS,List.map_cons,List.sum_cons]
  omega
theorem join_two {L:List (List Int)} {k:Bool} {n:Nat} (h2:1<L.length) (hne:∀l∈L,0<l.length) (hs:lenS L≤n) (hn:n≤8) (hp:∀l∈L,permB l=true):
  ∀q∈[L.getD 0 [],joinL (L.drop 1) k],isPermB q=true∧q.length<n:=by
 obtain⟨h3,h4⟩:=parts_lt h2 hne hs
 have h5:∀l∈L.drop 1,permB l=true:=fun l hl=>hp l (List.mem_of_mem_drop hl)
 have h6:=joinL_len (L:=L.drop 1) (k:=k) (Nat.le_refl _)
 have h7:=joinL_perm (k:=k) h5 (Nat.le_refl _)
 rw[List.take_length]at h6 h7
 intro q hq
 simp only[List.mem_cons,List.not_mem_nil,or_false]at hq
 rcases hq with rfl|rfl
 ·exact⟨permB_8 (hp _ (getD_mem (by omega))) (by omega),h3⟩
 ·exact⟨permB_8 h7 (by omega),by omega⟩
theorem spl_f {p:List Int} (hp:isPermB p=true) (h2:2≤p.length):∀q∈(splL p).2,isPermB q=true∧q.length<p.length:=by
 obtain⟨h8,hq⟩:=isPerm_facts hp
 unfold splL
 rw[if_neg (by omega)]
 split
 ·rename_i h
  obtain⟨n1,n2⟩:=sum_ne hp
  exact join_two h n1 n2 h8 (sumPt_f hp).1
 ·split
  ·rename_i _ h
   have hc:=cplL_isPerm hp
   obtain⟨n1,n2⟩:=sum_ne hc
   obtain⟨s1,s2,_,_⟩:=skewPt_f hp
   refine join_two h (fun l hl=> ?_) ?_ h8 s1
   ·obtain⟨q,hq',rfl⟩:=List.mem_map.1 hl
    rw[cplL_len];exact n1 q hq'
   ·have e:lenS (skewPt p)=lenS (sumPt (cplL p)):=by
     simp only[lenS,skewPt,List.map_map]
     congr 1
     exact List.map_congr_left fun l _=>cplL_len
    rw[e];rwa [cplL_len]at n2
  ·exact cut_f hp h2
theorem spl_n {p:List Int} (hp:isPermB p=true):(splL p).2.length≤8∧(splL p).1.length≤8:=by
 obtain⟨h8,hq⟩:=isPerm_facts hp
 unfold splL
 split
 ·simp
 ·split
  ·simp
  ·split
   ·simp
   ·have:=cutL_b (p:=p) (j:=p.length)
    refine⟨?_, ?_⟩
    ·show(cutL p p.length).2.2.length≤8;omega
    ·show(patL (cutL p p.length).2.1).length≤8;rw[patL_len];omega
def rtL:Nat→List Int→List (List Int)
 |0,_=>[]
 |d+1,p=>if p.length<2 then[]else(splL p).1::(splL p).2.flatMap (rtL d)
theorem rtL_few {d:Nat} {p:List Int} (h:p.length<2):rtL d p=[]:=by
 cases d with
 |zero=>rfl
 |succ d=>rw[rtL,if_pos h]
theorem flat_ln {L:List (List Int)} {f:List Int→List (List Int)} {n:Nat} (h:∀q∈L,(f q).length≤n):(L.flatMap f).length≤L.length*n:=by
 induction L with
 |nil=>simp
 |cons a L ih=>
  have h1:=h a (by simp)
  have h2:=ih fun q hq=>h q (List.mem_cons_of_mem _ hq)
  rw[List.flatMap_cons,List.length_append,List.length_cons,Nat.succ_mul];omega
theorem rtL_len:∀{d:Nat} {p:List Int},isPermB p=true→(rtL d p).length≤9^d
 |0,_,_=>by simp[rtL]
 |d+1,p,hp=>by
  rw[rtL]
  split
  ·simp
  ·rename_i h
   have h1:=flat_ln (L:=(splL p).2) (f:=rtL d) (n:=9^d) fun q hq=>rtL_len (spl_f hp (by omega) q hq).1
   have h2:=(spl_n hp).1
   have h3:=Nat.mul_le_mul_right (9^d) h2
   have h4:0<9^d:=Nat.pow_pos (by decide)
   rw[List.length_cons,Nat.pow_succ];omega
theorem rtL_row:∀{d:Nat} {p:List Int},isPermB p=true→∀l∈rtL d p,l.length≤8
 |0,_,_,l,h=>by cases h
 |d+1,p,hp,l,h=>by
  rw[rtL]at h
  split at h
  ·cases h
  ·rename_i h2
   rcases List.mem_cons.1 h with g|g
   ·rw[g];exact(spl_n hp).2
   ·obtain⟨q,hq,hl⟩:=List.mem_flatMap.1 g
    exact rtL_row (spl_f hp (by omega) q hq).1 l hl
def rsL:Nat→List Int→List (List Int)→List (List Int)
 |0,_,out=>out
 |d+1,p,out=>if p.length<2 then out else(splL p).2.foldl (fun o q=>rsL d q o) (putP out (splL p).1)
theorem rsL_mem:∀{d:Nat} {p x:List Int} {out:List (List Int)},x∈rsL d p out↔x∈out∨x∈rtL d p
 |0,_,_,_=>by simp[rsL,rtL]
 |d+1,p,x,out=>by
  rw[rsL,rtL]
  split
  ·simp
  ·have key:∀(L:List (List Int)) (o:List (List Int)),x∈L.foldl (fun o q=>rsL d q o) o↔x∈o∨x∈L.flatMap (rtL d):=by
    intro L
    induction L with
    |nil=>intro o;simp
    |cons a L ih=>intro o;rw[List.foldl_cons,ih,rsL_mem,List.flatMap_cons,List.mem_append];exact or_assoc
   rw[key,putP_mem,List.mem_cons]
   constructor
   ·rintro((h|h)|h)
    ·exact .inr (.inl h)
    ·exact .inl h
    ·exact .inr (.inr h)
   ·rintro(h|h|h)
    ·exact .inl (.inr h)
    ·exact .inl (.inl h)
    ·exact .inr h
theorem putP_le {L:List (List Int)} {p:List Int}:(putP L p).length≤L.length+1:=by
 unfold putP;split
 ·omega
 ·unfold insS;rw[insK_len];exact Nat.le_refl _
theorem rsL_len:∀{d:Nat} {p:List Int} {out:List (List Int)},isPermB p=true→(rsL d p out).length≤out.length+9^d
 |0,_,_,_=>by simp[rsL]
 |d+1,p,out,hp=>by
  have h5:0<9^(d+1):=Nat.pow_pos (by decide)
  rw[rsL]
  split
  ·omega
  ·rename_i h
   have key:∀(L:List (List Int)),(∀q∈L,isPermB q=true)→∀(o:List (List Int)),(L.foldl (fun o q=>rsL d q o) o).length≤o.length+L.length*9^d:=by
    intro L
    induction L with
    |nil=>intro _ o;simp
    |cons a L ih=>
     intro hL o
     have h1:=ih (fun q hq=>hL q (List.mem_cons_of_mem _ hq)) (rsL d a o)
     have h2:=rsL_len (d:=d) (out:=o) (hL a (by simp))
     rw[List.foldl_cons,List.length_cons,Nat.succ_mul];omega
   have h1:=key (splL p).2 (fun q hq=>(spl_f hp (by omega) q hq).1) (putP out (splL p).1)
   have h2:=putP_le (L:=out) (p:=(splL p).1)
   have h3:=Nat.mul_le_mul_right (9^d) (spl_n hp).1
   have h4:0<9^d:=Nat.pow_pos (by decide)
   rw[Nat.pow_succ];omega
theorem rsL_row {d:Nat} {p:List Int} {out:List (List Int)} (hp:isPermB p=true) (ho:∀l∈out,l.length≤8):∀l∈rsL d p out,l.length≤8:=fun l hl=>by
 rcases rsL_mem.1 hl with h|h
 ·exact ho l h
 ·exact rtL_row hp l h
def rsK (d:Nat) (L:List (List Int)) (o:List (List Int)):List (List Int):=L.foldl (fun o q=>rsL d q o) o
theorem rsK_snoc {d:Nat} {L o:List (List Int)} {q:List Int}:rsK d (L++[q]) o=rsL d q (rsK d L o):=by rw[rsK,List.foldl_append];rfl
theorem rsK_len {d:Nat}:∀{L o:List (List Int)},(∀q∈L,isPermB q=true)→(∀l∈o,l.length≤8)→(rsK d L o).length≤o.length+L.length*9^d∧∀l∈rsK d L o,l.length≤8
 |[],o,_,ho=>by rw[rsK,List.foldl_nil];exact⟨by omega,ho⟩
 |a::L,o,h,ho=>by
  have h0:=h a (by simp)
  have h2:=rsL_len (d:=d) (out:=o) h0
  obtain⟨h3,h4⟩:=rsK_len (d:=d) (L:=L) (o:=rsL d a o) (fun q hq=>h q (List.mem_cons_of_mem _ hq)) (rsL_row h0 ho)
  have e:rsK d (a::L) o=rsK d L (rsL d a o):=rfl
  rw[e,List.length_cons,Nat.succ_mul]
  exact⟨by omega,h4⟩
theorem nine:∀d,d≤8→9^d≤43046721:=by decide
set_option maxHeartbeats 1600000 in
theorem impl_roots_c:∀(d:Nat) {m0:Bool} (p:List Int),d≤8→isPermB p=true→p.length≤d→Fun Tryz.prog 90 [.sl (.lent m0) (List.map (PV.int .i64) p)] [.sl .own (List.map (elI false) (rtL d p))]:=by
 intro d
 induction d with
 |zero=>
  intro m0 p hd hp hl
  rw[rtL_few (by omega)]
  refine fO sg0 [2] Tryz.func90 ?_
  have cE1:= @impl_split_c
  refine dEa trivial ?_
  all_goals try (refine zlf ?_;repeat' first|exact zso|refine And.intro ?_ ?_|(refine zim ?_;intro zb hc)|(refine zin ?_;intro zb)|intro j')
  all_goals try refine zbx ?_
  all_goals trace_state
 |succ d ih=>
  intro m0 p hd hp hl
  by_cases h2:p.length<2
  ·rw[rtL_few h2]
   refine fO sg0 [2] Tryz.func90 ?_
   have cE1:= @impl_split_c
   refine dEa trivial ?_
   all_goals try (refine zlf ?_;repeat' first|exact zso|refine And.intro ?_ ?_|(refine zim ?_;intro zb hc)|(refine zin ?_;intro zb)|intro j')
   all_goals try refine zbx ?_
   all_goals trace_state
  ·have hf:=spl_f hp (by omega)
   obtain⟨n1,n2⟩:=spl_n hp
   have e:rtL (d+1) p=(splL p).1::(splL p).2.flatMap (rtL d):=by rw[rtL,if_neg h2]
   have h9:=nine d (by omega)
   rw[e]
   refine fO sg0 [2] Tryz.func90 ?_
   have cE1:= @impl_split_c
   have cE1:= @ih;have cE2:= @impl_split_c
   refine dEa @hp ?_
   all_goals try (refine zlf ?_;repeat' first|exact zso|refine And.intro ?_ ?_|(refine zim ?_;intro zb hc)|(refine zin ?_;intro zb)|intro j')
   all_goals try refine zbx ?_
   refine v_loopB (fun ms1 S1=>∃(k:Nat),OwnL (S1.e 4) S1.h S1.n (elI false) (((splL p).1::((splL p).2.take k).flatMap (rtL d)).length) ((splL p).1::((splL p).2.take k).flatMap (rtL d))∧S1.e 16=.p (.sl (.lent false) (List.map (elI false) ((splL p).2)))∧S1.e 17=.p (.int .i64 ((splL p).2.length))∧S1.e 18=.p (.int .i64 (k))∧(k≤(splL p).2.length)∧ms1=(splL p).2.length - k) ((fun(k:Nat)=>(splL p).2.length - k) (0)) ?_ ⟨0,dC trivial ?_⟩
   all_goals try (refine zlf ?_;repeat' first|exact zso|refine And.intro ?_ ?_|(refine zim ?_;intro zb hc)|(refine zin ?_;intro zb)|intro j')
   all_goals try refine zbx ?_
   rintro ms1 S1 ⟨k,o1_4,h1_16,h1_17,h1_18,c1_0,hm1⟩
   obtain⟨i1_4,h1_4,b1_4,l1_4⟩:=o1_4.out
   have ni1_4:=znds (x:=i1_4) (n:=S1.n)
   have fL1:=(And.intro h1_16 (And.intro h1_17 (And.intro h1_18 (And.intro h1_4 (And.intro b1_4 ni1_4)))))
   ·have g1:=flat_ln (L:=(splL p).2.take k) (f:=rtL d) (n:=9^d) fun q hq=>rtL_len (hf q (List.mem_of_mem_take hq)).1
    have g2:=Nat.mul_le_mul_right (9^d) (show((splL p).2.take k).length≤8 by rw[List.length_take];omega)
    by_cases hk:k<(splL p).2.length
    ·obtain⟨q1,q2⟩:=hf _ (getD_mem (d:=[]) hk)
     have q3:=rtL_len (d:=d) q1
     have q4:((splL p).2.take (k+1)).flatMap (rtL d)=((splL p).2.take k).flatMap (rtL d)++rtL d ((splL p).2.getD k []):=by
      rw[take_getD (d:=[]) hk,List.flatMap_append];simp
     have cE1:= @ih
     refine dEa (And.intro fL1 @q1) ?_
     all_goals try (refine zlf ?_;repeat' first|exact zso|refine And.intro ?_ ?_|(refine zim ?_;intro zb hc)|(refine zin ?_;intro zb)|intro j')
     all_goals try refine zbx ?_
     focus
      refine q_lp_n ((fun(k:Nat)=>(splL p).2.length - k) (k+1)) (dC fL1 ?_) ⟨k+1,dC fL1 ?_⟩
      all_goals try (refine zlf ?_;repeat' first|exact zso|refine And.intro ?_ ?_|(refine zim ?_;intro zb hc)|(refine zin ?_;intro zb)|intro j')
      all_goals try refine zbx ?_
     all_goals(first|(rw[q4,List.length_append];omega)|(rw[q4];done)|skip)
     all_goals trace_state
    ·have cE1:= @impl_split_c;have cE2:=trivial
     refine dEa fL1 ?_
     all_goals try (refine zlf ?_;repeat' first|exact zso|refine And.intro ?_ ?_|(refine zim ?_;intro zb hc)|(refine zin ?_;intro zb)|intro j')
     all_goals try refine zbx ?_
     rw[List.take_of_length_le (by omega)]
   all_goals trace_state
 all_goals trace_state
def sepB (p:List Int):Bool:=isPermB p&& !((rtL 8 p).any fun q=>decide ((2:Int)<(q.length:Int)))
theorem impl_IsSeparable_1_c {m0:Bool} (q:List Int) (hq:q.length≤1048576):Fun Tryz.prog 91 [(.sl (.lent m0) (List.map (PV.int .i64) (q)))] [(.bool (decide ((2:Int)<(q.length:Int))))]:=by
 refine fO sg0 [2] Tryz.func91 ?_
 refine dEa trivial ?_
 all_goals try (refine zlf ?_;repeat' first|exact zso|refine And.intro ?_ ?_|(refine zim ?_;intro zb hc)|(refine zin ?_;intro zb)|intro j')
 all_goals try refine zbx ?_
theorem impl_IsSeparable_c {m0:Bool} (p:List Int) (hp:p.length≤1048576):Fun Tryz.prog 50 [(.sl (.lent m0) (List.map (PV.int .i64) (p)))] [(.bool (sepB p))]:=by
 by_cases h:isPermB p=true
 ·obtain⟨h8,_⟩:=isPerm_facts h
  have b1:=rtL_len (d:=8) h
  have b2:=rtL_row (d:=8) h
  have c1:=fun(e0 m0:Bool)=>slices_ContainsFunc_LLint_int_c (e0:=e0) (m0:=m0) (rtL 8 p) 91 [] (fun q=>decide ((2:Int)<(q.length:Int))) (by omega) (fun q hq=>impl_IsSeparable_1_c (m0:=e0) q (by have:=b2 q hq;omega))
  have c2:=fun(m0:Bool)=>impl_roots_c 8 (m0:=m0) p (by decide) h h8
  rw[sepB,h,Bool.true_and]
  refine fO sg0 [2] Tryz.func50 ?_
  have cE1:= @impl_IsPerm_c;have cE2:= @slices_ContainsFunc_LLint_int_c;have cE3:= @impl_IsSeparable_1_c
  have cE1:= @c1;have cE2:= @c2;have cE3:= @impl_IsPerm_c;have cE4:= @slices_ContainsFunc_LLint_int_c;have cE5:= @impl_IsSeparable_1_c
  refine dEa @h ?_
  all_goals try (refine zlf ?_;repeat' first|exact zso|refine And.intro ?_ ?_|(refine zim ?_;intro zb hc)|(refine zin ?_;intro zb)|intro j')
  all_goals try refine zbx ?_
  all_goals trace_state
 ·rw[Bool.not_eq_true]at h
  rw[sepB,h,Bool.false_and]
  refine fO sg0 [2] Tryz.func50 ?_
  have cE1:= @impl_IsPerm_c;have cE2:= @slices_ContainsFunc_LLint_int_c;have cE3:= @impl_IsSeparable_1_c
  refine dEa @h ?_
  all_goals try (refine zlf ?_;repeat' first|exact zso|refine And.intro ?_ ?_|(refine zim ?_;intro zb hc)|(refine zin ?_;intro zb)|intro j')
  all_goals try refine zbx ?_
  all_goals trace_state
def sgRt:FuncId→List Bool:=fun f=>if f=124 then[false,true]else if f=66 then[true]else[]
theorem sgRt_eq {f:FuncId}:sgRt f=if f=124 then[false,true]else if f=66 then[true]else[]:=_root_.id rfl
theorem way_sgRt:wayE sgRt=false∧wayN sgRt=false∧wayS sgRt=false∧wayZ sgRt=false∧wayM sgRt=false:=⟨rfl,rfl,rfl,rfl,rfl⟩
attribute [go_sem] sgRt_eq way_sgRt
set_option maxHeartbeats 1600000 in
theorem spec_l6Roots_c:∀(d:Nat) {m0:Bool} (p:List Int) (out:List (List Int)),d≤8→isPermB p=true→p.length≤d→(∀l∈out,l.length≤8)→out.length+9^d≤1000000000→
  CallT Tryz.prog true 124 [.pv (.sl (.lent m0) (List.map (PV.int .i64) p)),.mu false (List.map (elI false) out)] [none,none] [.sl .own (List.map (elI false) (rsL d p out))]:=by
 intro d
 induction d with
 |zero=>
  intro m0 p out hd hp hl hr ho
  rw[show rsL 0 p out=out from rfl]
  refine CallT.of (sg:=sgRt) (ts:=[4]) mo Tryz.func124 rfl rfl rfl rfl (by kernel_rfl) (by simp only[go_sem]) rfl rfl ?_
  have cE1:= @spec_l6Split_c;have cM1:= @spec_l3Put_c
  refine dTa trivial ?_
  all_goals try (refine zlf ?_;repeat' first|exact zso|refine And.intro ?_ ?_|(refine zim ?_;intro zb hc)|(refine zin ?_;intro zb)|intro j')
  all_goals try refine zbx ?_
  all_goals trace_state
 |succ d ih=>
  intro m0 p out hd hp hl hr ho
  by_cases h2:p.length<2
  ·have e:rsL (d+1) p out=out:=by rw[rsL,if_pos h2]
   rw[e]
   refine CallT.of (sg:=sgRt) (ts:=[4]) mo Tryz.func124 rfl rfl rfl rfl (by kernel_rfl) (by simp only[go_sem]) rfl rfl ?_
   have cE1:= @spec_l6Split_c;have cM1:= @spec_l3Put_c
   refine dTa trivial ?_
   all_goals try (refine zlf ?_;repeat' first|exact zso|refine And.intro ?_ ?_|(refine zim ?_;intro zb hc)|(refine zin ?_;intro zb)|intro j')
   all_goals try refine zbx ?_
   all_goals trace_state
  ·have hf:=spl_f hp (by omega)
   obtain⟨n1,n2⟩:=spl_n hp
   have e:rsL (d+1) p out=rsK d (splL p).2 (putP out (splL p).1):=by rw[rsL,if_neg h2];rfl
   have h9:=nine d (by omega)
   have h10:9^(d+1)=9*9^d:=by rw[Nat.pow_succ,Nat.mul_comm]
   have h11:0<9^d:=Nat.pow_pos (by decide)
   have p1:=putP_le (L:=out) (p:=(splL p).1)
   have p2:∀l∈putP out (splL p).1,l.length≤8:=fun l hl=>by
    rcases putP_mem.1 hl with g|g
    ·rw[g];exact n2
    ·exact hr l g
   have hr':∀l∈out,l.length≤1048576:=fun l hl=>by have:=hr l hl;omega
   rw[e]
   refine CallT.of (sg:=sgRt) (ts:=[4]) mo Tryz.func124 rfl rfl rfl rfl (by kernel_rfl) (by simp only[go_sem]) rfl rfl ?_
   have cE1:= @spec_l6Split_c;have cM1:= @spec_l3Put_c
   refine dTa @hp ?_
   all_goals try (refine zlf ?_;repeat' first|exact zso|refine And.intro ?_ ?_|(refine zim ?_;intro zb hc)|(refine zin ?_;intro zb)|intro j')
   all_goals try refine zbx ?_
   refine v_loopB (fun ms1 S1=>∃(k:Nat),S1.e 0=.p (.sl (.lent m0) (List.map (PV.int .i64) (p)))∧OwnM (S1.e 1) S1.h S1.n (elI false) ((rsK d ((splL p).2.take k) (putP out (splL p).1)).length) (rsK d ((splL p).2.take k) (putP out (splL p).1))∧PtrL (S1.e 5) S1.h S1.n (.live false [.sl (.lent false) (List.map (PV.int .i64) (splL p).1),.sl (.lent false) (List.map (elI false) (splL p).2)])∧S1.e 6=.p (.int .i64 (k))∧(k≤(splL p).2.length)∧NId (asR (S1.e 5)) (S1.e 1)∧ms1=(splL p).2.length - k) ((fun(k:Nat)=>(splL p).2.length - k) (0)) ?_ ⟨0,dC trivial ?_⟩
   all_goals try (refine zlf ?_;repeat' first|exact zso|refine And.intro ?_ ?_|(refine zim ?_;intro zb hc)|(refine zin ?_;intro zb)|intro j')
   all_goals try refine zbx ?_
   rintro ms1 S1 ⟨k,h1_0,o1_1,o1_5,h1_6,c1_0,u1_0,hm1⟩
   obtain⟨i1_1,mm1_1,h1_1,b1_1,l1_1⟩:=o1_1.out
   obtain⟨i1_5,h1_5,b1_5,l1_5⟩:=o1_5.out
   have k1_0:=(u1_0).out (asR_eq h1_5) h1_1
   have ni1_1:=znds (x:=i1_1) (n:=S1.n)
   have ni1_5:=znds (x:=i1_5) (n:=S1.n)
   have di1_1i1_5:=zdne (x:=i1_1) (y:=i1_5)
   have fL1:=(And.intro h1_0 (And.intro h1_6 (And.intro h1_1 (And.intro b1_1 (And.intro h1_5 (And.intro b1_5 (And.intro ni1_1 (And.intro ni1_5 di1_1i1_5))))))))
   ·obtain⟨g1,g2⟩:=rsK_len (d:=d) (L:=(splL p).2.take k) (o:=putP out (splL p).1) (fun q hq=>(hf q (List.mem_of_mem_take hq)).1) p2
    have g3:=Nat.mul_le_mul_right (9^d) (show((splL p).2.take k).length≤8 by rw[List.length_take];omega)
    by_cases hk:k<(splL p).2.length
    ·obtain⟨q1,q2⟩:=hf _ (getD_mem (d:=[]) hk)
     have q4:rsK d ((splL p).2.take (k+1)) (putP out (splL p).1)=rsL d ((splL p).2.getD k []) (rsK d ((splL p).2.take k) (putP out (splL p).1)):=by
      rw[take_getD (d:=[]) hk,rsK_snoc]
     have g5:=Nat.mul_le_mul_right (9^d) (show((splL p).2.take k).length≤7 by rw[List.length_take];omega)
     have cM2:= @ih
     refine dTa (And.intro fL1 (And.intro @q1 @tk1)) ?_
     all_goals try (refine zlf ?_;repeat' first|exact zso|refine And.intro ?_ ?_|(refine zim ?_;intro zb hc)|(refine zin ?_;intro zb)|intro j')
     all_goals try refine zbx ?_
     focus
      refine q_lp_n ((fun(k:Nat)=>(splL p).2.length - k) (k+1)) (dC fL1 ?_) ⟨k+1,dC fL1 ?_⟩
      all_goals try (refine zlf ?_;repeat' first|exact zso|refine And.intro ?_ ?_|(refine zim ?_;intro zb hc)|(refine zin ?_;intro zb)|intro j')
      all_goals try refine zbx ?_
     all_goals(first|(rw[q4];done)|skip)
     all_goals trace_state
    ·have cM2:=trivial
     refine dTa fL1 ?_
     all_goals try (refine zlf ?_;repeat' first|exact zso|refine And.intro ?_ ?_|(refine zim ?_;intro zb hc)|(refine zin ?_;intro zb)|intro j')
     all_goals try refine zbx ?_
     rw[List.take_of_length_le (by omega)]
   all_goals trace_state
theorem spec_RootsIn_c {m0:Bool} (p:List Int) (hp:p.length≤1048576):Fun Tryz.prog 100 [(.sl (.lent m0) (List.map (PV.int .i64) (p)))] [(.sl .own (List.map (elI false) ((if isPermB p=true then rsL 8 p []else[]))))]:=by
 by_cases h:isPermB p=true
 ·obtain⟨h8,_⟩:=isPerm_facts h
  have c1:=fun(m0:Bool)=>spec_l6Roots_c 8 (m0:=m0) p [] (by decide) h h8 (fun l hl=>by cases hl) (by decide)
  simp only[List.map_nil]at c1
  rw[if_pos h]
  refine fO sgRt [2] Tryz.func100 ?_
  have cE1:= @spec_IsPerm_c
  have cM1:= @c1
  refine dEa @h ?_
  all_goals try (refine zlf ?_;repeat' first|exact zso|refine And.intro ?_ ?_|(refine zim ?_;intro zb hc)|(refine zin ?_;intro zb)|intro j')
  all_goals try refine zbx ?_
  all_goals trace_state
 ·rw[if_neg h]
  rw[Bool.not_eq_true]at h
  refine fO sgRt [2] Tryz.func100 ?_
  have cE1:= @spec_IsPerm_c
  refine dEa @h ?_
  all_goals try (refine zlf ?_;repeat' first|exact zso|refine And.intro ?_ ?_|(refine zim ?_;intro zb hc)|(refine zin ?_;intro zb)|intro j')
  all_goals try refine zbx ?_
  all_goals trace_state
theorem sep_x {p:List Int}:∃X,(if isPermB p=true then rsL 8 p []else[])=X∧X.length≤43046721∧(∀q∈X,q.length≤8)∧(∀q∈X,2<q.length→sepB p=false)∧((∀q∈X,¬2<q.length)→sepB p=isPermB p):=by
 refine⟨_,rfl, ?_⟩
 by_cases h:isPermB p=true
 ·rw[if_pos h]
  have hm:∀x,x∈rsL 8 p []↔x∈rtL 8 p:=fun x=>by rw[rsL_mem];simp
  refine⟨by have:=rsL_len (d:=8) (out:=[]) h;simpa using this,rsL_row h (fun l hl=>by cases hl),fun q hq h2=> ?_,fun h2=> ?_⟩
  ·rw[sepB,Bool.and_eq_false_iff]
   refine .inr ?_
   rw[Bool.not_eq_false',List.any_eq_true]
   exact⟨q,(hm q).1 hq,decide_eq_true (by omega)⟩
  ·rw[sepB]
   have:((rtL 8 p).any fun q=>decide ((2:Int)<(q.length:Int)))=false:=by
    rw[←Bool.not_eq_true,List.any_eq_true]
    rintro⟨q,hq,g⟩
    have:=h2 q ((hm q).2 hq)
    have:=of_decide_eq_true g
    omega
   rw[this];simp
 ·rw[if_neg h]
  rw[Bool.not_eq_true]at h
  refine⟨by simp,fun q hq=>(by cases hq),fun q hq=>(by cases hq),fun _=> ?_⟩
  rw[sepB,h];rfl
theorem spec_IsSeparable_c {m0:Bool} (p:List Int) (hp:p.length≤1048576):Fun Tryz.prog 57 [(.sl (.lent m0) (List.map (PV.int .i64) (p)))] [(.bool (sepB p))]:=by
 refine fO sg0 [2] Tryz.func57 ?_
 have cE1:= @spec_RootsIn_c;have cE2:= @spec_IsPerm_c
 obtain⟨X,x0,x1,x2,x3,x4⟩:=sep_x (p:=p)
 refine dEa @x0 ?_
 all_goals try (refine zlf ?_;repeat' first|exact zso|refine And.intro ?_ ?_|(refine zim ?_;intro zb hc)|(refine zin ?_;intro zb)|intro j')
 all_goals try refine zbx ?_
 refine v_loopB (fun ms1 S1=>∃(k:Nat),S1.e 0=.p (.sl (.lent m0) (List.map (PV.int .i64) (p)))∧OwnL (S1.e 3) S1.h S1.n (elI false) ((X).length) (X)∧S1.e 4=.p (.int .i64 (k))∧(k≤X.length)∧(∀q∈X.take k,¬2<q.length)∧ms1=X.length - k) ((fun(k:Nat)=>X.length - k) (0)) ?_ ⟨0,dC trivial ?_⟩
 all_goals try (refine zlf ?_;repeat' first|exact zso|refine And.intro ?_ ?_|(refine zim ?_;intro zb hc)|(refine zin ?_;intro zb)|intro j')
 all_goals try refine zbx ?_
 rintro ms1 S1 ⟨k,h1_0,o1_3,h1_4,c1_0,c1_1,hm1⟩
 obtain⟨i1_3,h1_3,b1_3,l1_3⟩:=o1_3.out
 have ni1_3:=znds (x:=i1_3) (n:=S1.n)
 have fL1:=(And.intro h1_0 (And.intro h1_4 (And.intro h1_3 (And.intro b1_3 ni1_3))))
 by_cases hk:k<X.length
 ·by_cases hd:2<(X.getD k []).length
  ·rw[x3 _ (getD_mem hk) hd]
   refine dEa fL1 ?_
   all_goals try (refine zlf ?_;repeat' first|exact zso|refine And.intro ?_ ?_|(refine zim ?_;intro zb hc)|(refine zin ?_;intro zb)|intro j')
   all_goals try refine zbx ?_
   all_goals trace_state
  ·refine dEa fL1 ?_
   all_goals try (refine zlf ?_;repeat' first|exact zso|refine And.intro ?_ ?_|(refine zim ?_;intro zb hc)|(refine zin ?_;intro zb)|intro j')
   all_goals try refine zbx ?_
   focus
    refine q_lp_n ((fun(k:Nat)=>X.length - k) (k+1)) (dC fL1 ?_) ⟨k+1,dC fL1 ?_⟩
    all_goals try (refine zlf ?_;repeat' first|exact zso|refine And.intro ?_ ?_|(refine zim ?_;intro zb hc)|(refine zin ?_;intro zb)|intro j')
    all_goals try refine zbx ?_
   all_goals(first|(intro q hq;rw[take_getD (d:=[]) hk]at hq;rcases List.mem_append.1 hq with g|g;exact c1_1 q g;rw[List.mem_singleton]at g;subst g;exact hd)|skip)
   all_goals trace_state
 ·rw[List.take_of_length_le (by omega)]at c1_1
  rw[x4 c1_1]
  refine dEa fL1 ?_
  all_goals try (refine zlf ?_;repeat' first|exact zso|refine And.intro ?_ ?_|(refine zim ?_;intro zb hc)|(refine zin ?_;intro zb)|intro j')
  all_goals try refine zbx ?_
  all_goals trace_state
def fmW:Nat→List UInt8
 |0=>[115,105,109,112,108,101]
 |1=>[115,101,112,97,114,97,98,108,101]
 |2=>[108,97,121,101,114,101,100]
 |3=>[115,109,111,111,116,104]
 |4=>[118,101,120,105,108,108,97,114,121]
 |5=>[99,111,109,109,117,116,97,116,105,118,101]
 |6=>[109,101,114,103,101,100]
 |7=>[105,110,118,111,108,117,116,105,111,110]
 |_=>[97,108,116,101,114,110,97,116,105,110,103]
def fmP (p:List Int):Nat→Bool
 |0=>isPermB p&&isSimB p
 |1=>sepB p
 |2=>layB p
 |3=>famB p smoT
 |4=>famB p vexT
 |5=>famB p comT
 |6=>famB p skmT
 |7=>ivoB p
 |_=>altB p
def adS (L:List (List UInt8)) (b:Bool) (w:List UInt8):List (List UInt8):=if b=true then L++[w]else L
def fmN (p:List Int):Nat→List (List UInt8)
 |0=>[]
 |k+1=>adS (fmN p k) (fmP p k) (fmW k)
def fmT (p:List Int):List UInt8:=if isPermB p=true then(if fmN p 9=[]then[45]else Lib.join (fmN p 9) [32])else[]
theorem adS_len {L:List (List UInt8)} {b:Bool} {w:List UInt8}:(adS L b w).length≤L.length+1:=by unfold adS;split<;>simp
theorem fmN_len {p:List Int}:∀{k:Nat},(fmN p k).length≤k∧∀w∈fmN p k,w.length≤11
 |0=>by simp[fmN]
 |k+1=>by
  obtain⟨h1,h2⟩:=fmN_len (p:=p) (k:=k)
  have h3:(fmW k).length≤11:=by
   match k with
   |0|1|2|3|4|5|6|7=>decide
   |n+8=>exact Nat.le_of_ble_eq_true rfl
  rw[fmN]
  refine⟨Nat.le_trans adS_len (by omega),fun w hw=> ?_⟩
  unfold adS at hw;split at hw
  ·rcases List.mem_append.1 hw with q|q
   ·exact h2 w q
   ·rw[List.mem_singleton.1 q];exact h3
  ·exact h2 w hw
theorem fmJ_len {p:List Int}:(Lib.join (fmN p 9) [32]).length≤108:=by
 obtain⟨h1,h2⟩:=fmN_len (p:=p) (k:=9)
 have:=join_len_le (sep:=[32]) h2
 have h3:=Nat.mul_le_mul_right (11+([32]:List UInt8).length) h1
 exact Nat.le_trans this h3
def sgAd:FuncId→List Bool:=fun f=>if f=55 then[true]else[]
theorem sgAd_eq {f:FuncId}:sgAd f=if f=55 then[true]else[]:=_root_.id rfl
theorem way_sgAd:wayE sgAd=false∧wayN sgAd=false∧wayS sgAd=false∧wayZ sgAd=false∧wayM sgAd=false:=⟨rfl,rfl,rfl,rfl,rfl⟩
attribute [go_sem] sgAd_eq way_sgAd
theorem spec_l29Add_c (L:List (List UInt8)) (b:Bool) (w:List UInt8) (hL:L.length≤1000):CallT Tryz.prog true 55 [.mu false (List.map PV.str (L)),.pv (.bool (b)),.pv (.str (w))] [none,none,none] [(.sl .own (List.map PV.str (adS L b w)))]:=by
 refine fX sgAd [6] Tryz.func55 ?_
 cases b with
 |true=>
  have e:adS L true w=L++[w]:=rfl
  rw[e]
  refine dTa trivial ?_
  all_goals try (refine zlf ?_;repeat' first|exact zso|refine And.intro ?_ ?_|(refine zim ?_;intro zb hc)|(refine zin ?_;intro zb)|intro j')
  all_goals try refine zbx ?_
  all_goals trace_state
 |false=>
  have e:adS L false w=L:=rfl
  rw[e]
  refine dTa trivial ?_
  all_goals try (refine zlf ?_;repeat' first|exact zso|refine And.intro ?_ ?_|(refine zim ?_;intro zb hc)|(refine zin ?_;intro zb)|intro j')
  all_goals try refine zbx ?_
  all_goals trace_state
set_option maxHeartbeats 8000000 in
set_option maxHeartbeats 8000000 in
theorem spec_FamiliesText_c {m0:Bool} (p:List Int) (hp:p.length≤1048576):Fun Tryz.prog 23 [(.sl (.lent m0) (List.map (PV.int .i64) (p)))] [(.str (fmT p))]:=by
 by_cases h:isPermB p=true
 ·have n1:=fmN_len (p:=p) (k:=1)
  have n2:=fmN_len (p:=p) (k:=2)
  have n3:=fmN_len (p:=p) (k:=3)
  have n4:=fmN_len (p:=p) (k:=4)
  have n5:=fmN_len (p:=p) (k:=5)
  have n6:=fmN_len (p:=p) (k:=6)
  have n7:=fmN_len (p:=p) (k:=7)
  have n8:=fmN_len (p:=p) (k:=8)
  have n9:=fmN_len (p:=p) (k:=9)
  have nj:=fmJ_len (p:=p)
  have a0:=spec_l29Add_c [] (isPermB p&&isSimB p) [115,105,109,112,108,101] (by decide)
  have a1:=spec_l29Add_c (fmN p 1) (sepB p) [115,101,112,97,114,97,98,108,101] (by omega)
  have a2:=spec_l29Add_c (fmN p 2) (layB p) [108,97,121,101,114,101,100] (by omega)
  have a3:=spec_l29Add_c (fmN p 3) (famB p smoT) [115,109,111,111,116,104] (by omega)
  have a4:=spec_l29Add_c (fmN p 4) (famB p vexT) [118,101,120,105,108,108,97,114,121] (by omega)
  have a5:=spec_l29Add_c (fmN p 5) (famB p comT) [99,111,109,109,117,116,97,116,105,118,101] (by omega)
  have a6:=spec_l29Add_c (fmN p 6) (famB p skmT) [109,101,114,103,101,100] (by omega)
  have a7:=spec_l29Add_c (fmN p 7) (ivoB p) [105,110,118,111,108,117,116,105,111,110] (by omega)
  have a8:=spec_l29Add_c (fmN p 8) (altB p) [97,108,116,101,114,110,97,116,105,110,103] (by omega)
  rw[show adS [] (isPermB p&&isSimB p) [115,105,109,112,108,101]=fmN p 1 from rfl]at a0
  rw[show adS (fmN p 1) (sepB p) [115,101,112,97,114,97,98,108,101]=fmN p 2 from rfl]at a1
  rw[show adS (fmN p 2) (layB p) [108,97,121,101,114,101,100]=fmN p 3 from rfl]at a2
  rw[show adS (fmN p 3) (famB p smoT) [115,109,111,111,116,104]=fmN p 4 from rfl]at a3
  rw[show adS (fmN p 4) (famB p vexT) [118,101,120,105,108,108,97,114,121]=fmN p 5 from rfl]at a4
  rw[show adS (fmN p 5) (famB p comT) [99,111,109,109,117,116,97,116,105,118,101]=fmN p 6 from rfl]at a5
  rw[show adS (fmN p 6) (famB p skmT) [109,101,114,103,101,100]=fmN p 7 from rfl]at a6
  rw[show adS (fmN p 7) (ivoB p) [105,110,118,111,108,117,116,105,111,110]=fmN p 8 from rfl]at a7
  rw[show adS (fmN p 8) (altB p) [97,108,116,101,114,110,97,116,105,110,103]=fmN p 9 from rfl]at a8
  have e:fmT p=if fmN p 9=[]then[45]else Lib.join (fmN p 9) [32]:=by rw[fmT,if_pos h]
  rw[e]
  have cp:=fun m0:Bool=>spec_IsPerm_c (m0:=m0) p hp
  rw[h]at cp
  simp only[List.map_nil]at a0
  refine fO sgAd [2] Tryz.func23 ?_
  have cE1:= @spec_IsPerm_c;have cE2:= @spec_IsSimple_c;have cE3:= @spec_IsSeparable_c;have cE4:= @spec_IsLayered_c;have cE5:= @spec_IsSmooth_c;have cE6:= @spec_IsVexillary_c
  have cE7:= @spec_IsCommutative_c;have cE8:= @spec_IsSkewMerged_c;have cE9:= @spec_IsInvolution_c;have cE10:= @spec_IsAlternating_c;have cE11:= @spec_Join_c;have cM1:= @spec_l29Add_c
  have cE1:= @cp;have cM1:= @a0;have cM2:= @a1;have cM3:= @a2;have cM4:= @a3;have cM5:= @a4
  have cM6:= @a5;have cM7:= @a6;have cM8:= @a7;have cM9:= @a8
  refine dEa trivial ?_
  all_goals try (refine zlf ?_;repeat' first|exact zso|refine And.intro ?_ ?_|(refine zim ?_;intro zb hc)|(refine zin ?_;intro zb)|intro j')
  all_goals try refine zbx ?_
  ·rw[if_pos (List.eq_nil_of_length_eq_zero (by omega))]
  ·rw[if_neg (fun e=>hc (by rw[e];rfl))]
  all_goals trace_state
 ·have e:fmT p=[]:=by rw[fmT,if_neg h]
  rw[e]
  rw[Bool.not_eq_true]at h
  refine fO sgAd [2] Tryz.func23 ?_
  have cE1:= @spec_IsPerm_c;have cE2:= @spec_IsSimple_c;have cE3:= @spec_IsSeparable_c;have cE4:= @spec_IsLayered_c;have cE5:= @spec_IsSmooth_c;have cE6:= @spec_IsVexillary_c
  have cE7:= @spec_IsCommutative_c;have cE8:= @spec_IsSkewMerged_c;have cE9:= @spec_IsInvolution_c;have cE10:= @spec_IsAlternating_c;have cE11:= @spec_Join_c;have cM1:= @spec_l29Add_c
  refine dEa @h ?_
  all_goals try (refine zlf ?_;repeat' first|exact zso|refine And.intro ?_ ?_|(refine zim ?_;intro zb hc)|(refine zin ?_;intro zb)|intro j')
  all_goals try refine zbx ?_
  all_goals trace_state
def fmG:Nat→FuncId
 |0=>49
 |1=>50
 |2=>51
 |3=>12
 |4=>24
 |5=>14
 |6=>16
 |7=>52
 |_=>53
def fmCs:List PV:=[.str (fmW 0),.fn (fmG 0) [] [],.str (fmW 1),.fn (fmG 1) [] [],.str (fmW 2),.fn (fmG 2) [] [],.str (fmW 3),.fn (fmG 3) [] [],.str (fmW 4),.fn (fmG 4) [] [],.str (fmW 5),.fn (fmG 5) [] [],.str (fmW 6),.fn (fmG 6) [] [],.str (fmW 7),.fn (fmG 7) [] [],.str (fmW 8),.fn (fmG 8) [] []]
theorem fmCs_len:fmCs.length=18:=rfl
theorem fm_at {k:Nat} (hk:k<9):List.take 2 (List.drop (k*2) fmCs)=[.str (fmW k),.fn (fmG k) [] []]:=by
 obtain rfl|rfl|rfl|rfl|rfl|rfl|rfl|rfl|rfl:k=0∨k=1∨k=2∨k=3∨k=4∨k=5∨k=6∨k=7∨k=8:=by omega
 all_goals rfl
theorem pt_fm:pairT Tryz.prog 46=true:=by kernel_rfl
theorem ck_nilf:PV.cellOk .nilf=true:=_root_.id rfl
theorem ce_nilf:PV.cell .nilf=.nilf:=_root_.id rfl
theorem ce_fn {f:FuncId} {a b:List PV}:PV.cell (.fn f a b)=.fn f a b:=_root_.id rfl
attribute [local go_sem] pt_fm ck_nilf ce_nilf ce_fn
theorem fm_call {m0:Bool} {k:Nat} (hk:k<9) (p:List Int) (hp:p.length≤1048576):Fun Tryz.prog (fmG k) [.sl (.lent m0) (List.map (PV.int .i64) p)] [.bool (fmP p k)]:=by
 obtain rfl|rfl|rfl|rfl|rfl|rfl|rfl|rfl|rfl:k=0∨k=1∨k=2∨k=3∨k=4∨k=5∨k=6∨k=7∨k=8:=by omega
 ·exact impl_IsSimple_c p hp
 ·exact impl_IsSeparable_c p hp
 ·exact impl_IsLayered_c p hp
 ·exact impl_IsSmooth_c p hp
 ·exact impl_IsVexillary_c p hp
 ·exact impl_IsCommutative_c p hp
 ·exact impl_IsSkewMerged_c p hp
 ·exact impl_IsInvolution_c p hp
 ·exact impl_IsAlternating_c p hp
theorem impl_FamiliesText_c {m0:Bool} (p:List Int) (hp:p.length≤1048576):Fun Tryz.prog 22 [(.sl (.lent m0) (List.map (PV.int .i64) (p)))] [(.str (fmT p))]:=by
 by_cases h:isPermB p=true
 ·have e:fmT p=if fmN p 9=[]then[45]else Lib.join (fmN p 9) [32]:=by rw[fmT,if_pos h]
  have nj:=fmJ_len (p:=p)
  rw[e]
  refine fO sg0 [2] Tryz.func22 ?_
  have cE1:= @impl_IsPerm_c;have cE2:= @impl_IsSimple_c;have cE3:= @impl_IsSeparable_c;have cE4:= @impl_IsLayered_c;have cE5:= @impl_IsSmooth_c;have cE6:= @impl_IsVexillary_c
  have cE7:= @impl_IsCommutative_c;have cE8:= @impl_IsSkewMerged_c;have cE9:= @impl_IsInvolution_c;have cE10:= @impl_IsAlternating_c;have cE11:= @strings_Join_c
  refine dEa @h ?_
  all_goals try (refine zlf ?_;repeat' first|exact zso|refine And.intro ?_ ?_|(refine zim ?_;intro zb hc)|(refine zin ?_;intro zb)|intro j')
  all_goals try refine zbx ?_
  refine v_loopB (fun ms1 S1=>∃(k:Nat),S1.e 0=.p (.sl (.lent m0) (List.map (PV.int .i64) (p)))∧OwnL (S1.e 4) S1.h S1.n PV.str ((fmN p k).length) (fmN p k)∧PrsL (S1.e 21) S1.h S1.n (9) (fmCs)∧S1.e 22=.p (.int .i64 (9))∧S1.e 23=.p (.int .i64 (k))∧(k≤9)∧NId (asR (S1.e 21)) (S1.e 4)∧ms1=9 - k) ((fun(k:Nat)=>9 - k) (0)) ?_ ⟨0,dC trivial ?_⟩
  all_goals try (refine zlf ?_;repeat' first|exact zso|refine And.intro ?_ ?_|(refine zim ?_;intro zb hc)|(refine zin ?_;intro zb)|intro j')
  all_goals try refine zbx ?_
  rintro ms1 S1 ⟨k,h1_0,o1_4,o1_21,h1_22,h1_23,c1_0,u1_0,hm1⟩
  obtain⟨i1_4,h1_4,b1_4,l1_4⟩:=o1_4.out
  obtain⟨i1_21,h1_21,b1_21,l1_21⟩:=o1_21.out
  have k1_0:=(u1_0).out (asR_ep h1_21) h1_4
  have ni1_4:=znds (x:=i1_4) (n:=S1.n)
  have ni1_21:=znds (x:=i1_21) (n:=S1.n)
  have di1_4i1_21:=zdne (x:=i1_4) (y:=i1_21)
  have fL1:=(And.intro h1_0 (And.intro h1_22 (And.intro h1_23 (And.intro h1_4 (And.intro b1_4 (And.intro h1_21 (And.intro b1_21 (And.intro ni1_4 (And.intro ni1_21 di1_4i1_21)))))))))
  ·obtain⟨n1,_⟩:=fmN_len (p:=p) (k:=k)
   by_cases hk:k<9
   ·have e1:=fm_at hk
    have c9:=fun m0:Bool=>fm_call (m0:=m0) hk p hp
    cases hb:fmP p k with
    |true=>
     have e2:fmN p (k+1)=fmN p k++[fmW k]:=by rw[fmN,hb];rfl
     have cE1:= @c9;have cE2:= @impl_IsPerm_c;have cE3:= @impl_IsSimple_c;have cE4:= @impl_IsSeparable_c;have cE5:= @impl_IsLayered_c;have cE6:= @impl_IsSmooth_c
     have cE7:= @impl_IsVexillary_c;have cE8:= @impl_IsCommutative_c;have cE9:= @impl_IsSkewMerged_c;have cE10:= @impl_IsInvolution_c;have cE11:= @impl_IsAlternating_c;have cE12:= @strings_Join_c
     refine dEa (And.intro fL1 (And.intro @e1 (And.intro @fmCs_len @hb))) ?_
     all_goals try (refine zlf ?_;repeat' first|exact zso|refine And.intro ?_ ?_|(refine zim ?_;intro zb hc)|(refine zin ?_;intro zb)|intro j')
     all_goals try refine zbx ?_
     focus
      refine q_lp_n ((fun(k:Nat)=>9 - k) (k+1)) (dC fL1 ?_) ⟨k+1,dC fL1 ?_⟩
      all_goals try (refine zlf ?_;repeat' first|exact zso|refine And.intro ?_ ?_|(refine zim ?_;intro zb hc)|(refine zin ?_;intro zb)|intro j')
      all_goals try refine zbx ?_
     all_goals(first|(rw[e2];done)|(rw[e2,List.length_append];rfl)|skip)
     all_goals trace_state
    |false=>
     have e2:fmN p (k+1)=fmN p k:=by rw[fmN,hb];rfl
     have cE1:= @c9;have cE2:= @impl_IsPerm_c;have cE3:= @impl_IsSimple_c;have cE4:= @impl_IsSeparable_c;have cE5:= @impl_IsLayered_c;have cE6:= @impl_IsSmooth_c
     have cE7:= @impl_IsVexillary_c;have cE8:= @impl_IsCommutative_c;have cE9:= @impl_IsSkewMerged_c;have cE10:= @impl_IsInvolution_c;have cE11:= @impl_IsAlternating_c
     refine dEa (And.intro fL1 (And.intro @e1 (And.intro @fmCs_len @hb))) ?_
     all_goals try (refine zlf ?_;repeat' first|exact zso|refine And.intro ?_ ?_|(refine zim ?_;intro zb hc)|(refine zin ?_;intro zb)|intro j')
     all_goals try refine zbx ?_
     focus
      refine q_lp_n ((fun(k:Nat)=>9 - k) (k+1)) (dC fL1 ?_) ⟨k+1,dC fL1 ?_⟩
      all_goals try (refine zlf ?_;repeat' first|exact zso|refine And.intro ?_ ?_|(refine zim ?_;intro zb hc)|(refine zin ?_;intro zb)|intro j')
      all_goals try refine zbx ?_
     all_goals(first|(rw[e2];done)|skip)
     all_goals trace_state
   ·obtain rfl:k=9:=by omega
    have cE1:= @impl_IsPerm_c;have cE2:= @impl_IsSimple_c;have cE3:= @impl_IsSeparable_c;have cE4:= @impl_IsLayered_c;have cE5:= @impl_IsSmooth_c;have cE6:= @impl_IsVexillary_c
    have cE7:= @impl_IsCommutative_c;have cE8:= @impl_IsSkewMerged_c;have cE9:= @impl_IsInvolution_c;have cE10:= @impl_IsAlternating_c;have cE11:= @strings_Join_c;have cE12:=trivial
    refine dEa fL1 ?_
    all_goals try (refine zlf ?_;repeat' first|exact zso|refine And.intro ?_ ?_|(refine zim ?_;intro zb hc)|(refine zin ?_;intro zb)|intro j')
    all_goals try refine zbx ?_
    ·rw[if_pos (List.eq_nil_of_length_eq_zero (by omega))]
    ·rw[if_neg (fun e=>hc (by rw[e];rfl))]
    all_goals trace_state
  all_goals trace_state
 ·have e:fmT p=[]:=by rw[fmT,if_neg h]
  rw[e]
  rw[Bool.not_eq_true]at h
  refine fO sg0 [2] Tryz.func22 ?_
  have cE1:= @impl_IsPerm_c;have cE2:= @impl_IsSimple_c;have cE3:= @impl_IsSeparable_c;have cE4:= @impl_IsLayered_c;have cE5:= @impl_IsSmooth_c;have cE6:= @impl_IsVexillary_c
  have cE7:= @impl_IsCommutative_c;have cE8:= @impl_IsSkewMerged_c;have cE9:= @impl_IsInvolution_c;have cE10:= @impl_IsAlternating_c;have cE11:= @strings_Join_c
  refine dEa @h ?_
  all_goals try (refine zlf ?_;repeat' first|exact zso|refine And.intro ?_ ?_|(refine zim ?_;intro zb hc)|(refine zin ?_;intro zb)|intro j')
  all_goals try refine zbx ?_
  all_goals trace_state
end Go.Gl
namespace Go.Gl
open Go Go.Proofs
variable [Amb] [NoQ]
theorem put_memI {L:List (List Int)} {x:List Int}:x∈putL L↔x∈L:=by
 rw[putL,put_mem];simp
theorem rk_fact {p:List Int} (h:(0:Int)<((rkB p).length:Int)):(famB p smoT==palB (rkB p))=true:=by
 have hb:blwL p≠[]:=fun e=>by rw[rkB,if_pos e]at h;simp at h
 have hc:isPermB p=true∧p.length≤5:=by
  rw[blwL]at hb;split at hb
  ·assumption
  ·exact absurd rfl hb
 have h1:=List.all_eq_true.1 (blw_ok p.length (by omega)) p (permL_mem.2 ⟨(isPerm_facts hc.1).2,rfl⟩)
 simp only[Bool.and_eq_true]at h1
 rw[rkB,if_neg hb];exact h1.2
theorem any_put {L:List (List Int)}:((putL L).any braB)=L.any braB:=by
 rw[Bool.eq_iff_iff,List.any_eq_true,List.any_eq_true]
 constructor
 ·rintro⟨x,h1,h2⟩;exact⟨x,put_memI.1 h1,h2⟩
 ·rintro⟨x,h1,h2⟩;exact⟨x,put_memI.2 h1,h2⟩
theorem wd_fact {p:List Int} (h:(0:Int)<((rwB p).length:Int)):(famB p comT==(rwB p).any braB)=false:=by
 have hr:rwL p≠[]:=fun e=>by rw[rwB,e]at h;simp[putL]at h
 have hc:isPermB p=true∧p.length≤5:=by
  unfold rwL at hr;split at hr
  ·rename_i g;exact⟨g.1,g.2.2.1⟩
  ·exact absurd rfl hr
 have h1:=List.all_eq_true.1 (com_ok p.length (by omega)) p (permL_mem.2 ⟨(isPerm_facts hc.1).2,rfl⟩)
 rw[Bool.or_eq_true]at h1
 rcases h1 with h1|h1
 ·rw[List.isEmpty_iff]at h1;exact absurd h1 hr
 ·rw[rwB,any_put]
  rw[beq_iff_eq]at h1;rw[h1];cases (rwL p).any braB<;>rfl
theorem rwB_f {p:List Int}:(rwB p).length≤16384∧∀l∈rwB p,l.length≤7∧∀x∈l, -9223372036854775808≤x∧x≤9223372036854775807:=by
 obtain⟨h1,h2⟩:=rwL_f (p:=p)
 have h3:=putL_len (L:=rwL p)
 refine⟨Nat.le_trans h3 h1,fun l hl=>⟨h2 l (put_memI.1 hl), ?_⟩⟩
 have h4:=put_memI.1 hl
 have key:∀{d:Nat} {p w:List Int},p.length≤100→(∀x∈w,0≤x∧x≤100)→∀l∈wdL d p w,∀x∈l,0≤x∧x≤100:=fun {d}=>by
  induction d with
  |zero=>
   intro p w hp hw l hl
   unfold wdL at hl;split at hl
   ·rw[List.mem_singleton.1 hl];exact hw
   ·cases hl
  |succ d ih=>
   intro p w hp hw l hl
   cases hu:upB p with
   |true=>rw[wdL_up hu,List.mem_singleton]at hl;rw[hl];exact hw
   |false=>
    rw[wdL_K hu]at hl
    obtain⟨k,hk,hl⟩:=List.mem_flatMap.1 hl
    have hk:=List.mem_range.1 hk
    unfold wdF at hl;split at hl
    ·refine ih (by rw[swp_len];exact hp) (fun x hx=> ?_) l hl
     rcases List.mem_cons.1 hx with e|g
     ·omega
     ·exact hw x g
    ·cases hl
 intro x hx
 unfold rwL at h4;split at h4
 ·rename_i g
  have:=key (by omega) (fun x hx=>by cases hx) l h4 x hx;omega
 ·cases h4
theorem dsI {a:List Int}:decide (a=a)=true:=by simp
theorem dsU {a:List UInt8}:decide (a=a)=true:=by simp
theorem bsB {a:Bool}:(a==a)=true:=by simp
theorem any_snoc {L:List (List Int)} {k:Nat} (h:k<L.length):(L.take (k+1)).any braB=((L.take k).any braB||braB (L.getD k [])):=by
 rw[take_getD (d:=[]) h,List.any_append];simp
theorem focL_len {p:List Int}:(focL p).length≤8:=by
 cases h:isPermB p with
 |true=>exact(foc_facts h).2.1
 |false=>rw[focL,h];simp
theorem tfL_len {f:List Int}:(tfL f).length≤100:=by
 unfold tfL;split
 ·rename_i h
  obtain⟨h1,h2⟩:=tfB_iff.1 h
  have:=mxI_le (B:=100) (by omega) fun x hx=>(h2 x hx).2
  rw[tfG_len];omega
 ·simp
set_option maxHeartbeats 8000000 in
theorem laws_FnFamilies_c (b:List UInt8):Fun Tryz.prog 3 [(.sl (.lent false) (List.map u8P (b)))] [(.bool (true))]:=by
 by_cases hs:b.length≤1048576
 ·obtain⟨p,d1,hp⟩:=spec_DrawRankCounts_x b hs
  obtain⟨q,d2,hq⟩:=spec_DrawReducedWords_x b hs
  obtain⟨r,d3,hr⟩:=spec_DrawIsSkewMerged_x b hs
  obtain⟨l,d4,hl⟩:=spec_DrawIsPalindromic_x b hs
  obtain⟨w,d5,w1,w2⟩:=spec_DrawHasBraid_x b hs
  obtain⟨f,d6,hf⟩:=spec_DrawFamiliesText_x b hs
  obtain⟨v,d7,hv⟩:=spec_DrawIsVexillary_x b hs
  have k1:=focL_len (p:=v)
  have k2:=focL_len (p:=inv v)
  have k3:=tfL_len (f:=focL v)
  have k4:(inv v).length=v.length:=inv_len
  have p1:=hp.len
  have q1:=hq.len
  have r1:=hr.len
  have v1:=hv.len
  have b1:=rkB_len (p:=p)
  obtain⟨b2,b3⟩:=rwB_f (p:=q)
  have g1:(0:Int)<((rkB p).length:Int)→(famB p smoT==palB (rkB p))=true:=rk_fact
  have g2:(0:Int)<((rwB q).length:Int)→(famB q comT==(rwB q).any braB)=false:=wd_fact
  have g3:isPermB r=true→(famB r skmT==(fndB r [[-1,1],[1, -1]]).2)=true:=fun h=>by rw[skm_ok h];exact bsB
  have g4:isPermB v=true→(famB v vexT==decide (tfL (focL v)=focL (inv v)))=true:=fun h=>by rw[vex_ok h];exact bsB
  have g5:isPermB v=true→(if isPermB v=true then inv v else[])=inv v:=fun h=>if_pos h
  have c9:=fun m0 m1 m2:Bool=>spec_FindGrid_c (m0:=m0) (m1:=m1) (e1:=m2) r grX (by omega) (by decide) (by decide)
  simp only[grX,List.map_cons,List.map_nil,elI]at c9
  refine fO sg0 [2] Tryz.func3 ?_
  have cE1:= @laws_big_c;have cE2:= @impl_IsSmooth_c;have cE3:= @spec_IsSmooth_c;have cE4:= @impl_IsCommutative_c;have cE5:= @spec_IsCommutative_c;have cE6:= @impl_IsSkewMerged_c
  have cE7:= @spec_IsSkewMerged_c;have cE8:= @impl_IsPalindromic_c;have cE9:= @spec_IsPalindromic_c;have cE10:= @impl_HasBraid_c;have cE11:= @spec_HasBraid_c;have cE12:= @impl_FamiliesText_c
  have cE13:= @spec_FamiliesText_c;have cE14:= @impl_IsVexillary_c;have cE15:= @spec_IsVexillary_c;have cE16:= @spec_RankCounts_c;have cE17:= @spec_ReducedWords_c;have cE18:= @spec_FindGrid_c
  have cE19:= @spec_IsPerm_c;have cE20:= @spec_InversePerm_c;have cE21:= @spec_FormOfCode_c;have cE22:= @spec_TurnedForm_c;have cE23:= @laws_sameInts_c
  have cE1:= @d1;have cE2:= @d2;have cE3:= @d3;have cE4:= @d4;have cE5:= @d5;have cE6:= @d6
  have cE7:= @d7;have cE8:= @c9;have cE9:= @laws_big_c;have cE10:= @impl_IsSmooth_c;have cE11:= @spec_IsSmooth_c;have cE12:= @impl_IsCommutative_c
  have cE13:= @spec_IsCommutative_c;have cE14:= @impl_IsSkewMerged_c;have cE15:= @spec_IsSkewMerged_c;have cE16:= @impl_IsPalindromic_c;have cE17:= @spec_IsPalindromic_c;have cE18:= @impl_HasBraid_c
  have cE19:= @spec_HasBraid_c;have cE20:= @impl_FamiliesText_c;have cE21:= @spec_FamiliesText_c;have cE22:= @impl_IsVexillary_c;have cE23:= @spec_IsVexillary_c;have cE24:= @spec_RankCounts_c
  have cE25:= @spec_ReducedWords_c;have cE26:= @spec_IsPerm_c;have cE27:= @spec_InversePerm_c;have cE28:= @spec_FormOfCode_c;have cE29:= @spec_TurnedForm_c;have cE30:= @laws_sameInts_c
  refine dEa (And.intro @bsB (And.intro @dsU @dsI)) ?_
  all_goals try (refine zlf ?_;repeat' first|exact zso|refine And.intro ?_ ?_|(refine zim ?_;intro zb hc)|(refine zin ?_;intro zb)|intro j')
  all_goals try refine zbx ?_
  ·exfalso;have hh:=g1 (by omega);rw[hc]at hh;cases hh
  all_goals
   refine v_loopB (fun ms1 S1=>∃(k:Nat),OwnL (S1.e 4) S1.h S1.n (PV.int .i64) ((q).length) (q)∧S1.e 5=.p (.sl (.lent false) (List.map (PV.int .i64) (r)))∧OwnL (S1.e 9) S1.h S1.n (PV.int .i64) ((v).length) (v)∧OwnL (S1.e 11) S1.h S1.n (elI false) ((rwB q).length) (rwB q)∧S1.e 12=.p (.bool (((rwB q).take k).any braB))∧S1.e 13=.p (.int .i64 (k))∧(k≤(rwB q).length)∧NId (S1.e 9) (S1.e 4)∧NId (S1.e 11) (S1.e 4)∧NId (S1.e 11) (S1.e 9)∧ms1=(rwB q).length - k) ((fun(k:Nat)=>(rwB q).length - k) (0)) ?_ ⟨0,dC trivial ?_⟩
   all_goals try (refine zlf ?_;repeat' first|exact zso|refine And.intro ?_ ?_|(refine zim ?_;intro zb hc)|(refine zin ?_;intro zb)|intro j')
   all_goals try refine zbx ?_
   rintro ms1 S1 ⟨k,o1_4,h1_5,o1_9,o1_11,h1_12,h1_13,c1_0,u1_0,u1_1,u1_2,hm1⟩
   obtain⟨i1_4,h1_4,b1_4,l1_4⟩:=o1_4.out
   obtain⟨i1_9,h1_9,b1_9,l1_9⟩:=o1_9.out
   obtain⟨i1_11,h1_11,b1_11,l1_11⟩:=o1_11.out
   have k1_0:=(u1_0).out h1_9 h1_4
   have k1_1:=(u1_1).out h1_11 h1_4
   have k1_2:=(u1_2).out h1_11 h1_9
   have ni1_4:=znds (x:=i1_4) (n:=S1.n)
   have ni1_9:=znds (x:=i1_9) (n:=S1.n)
   have ni1_11:=znds (x:=i1_11) (n:=S1.n)
   have di1_4i1_9:=zdne (x:=i1_4) (y:=i1_9)
   have di1_4i1_11:=zdne (x:=i1_4) (y:=i1_11)
   have di1_9i1_11:=zdne (x:=i1_9) (y:=i1_11)
   have fL1:=(And.intro h1_5 (And.intro h1_12 (And.intro h1_13 (And.intro h1_4 (And.intro b1_4 (And.intro h1_9 (And.intro b1_9 (And.intro h1_11 (And.intro b1_11 (And.intro ni1_4 (And.intro ni1_9 (And.intro ni1_11 (And.intro di1_4i1_9 (And.intro di1_4i1_11 di1_9i1_11))))))))))))))
   ·by_cases hk:k<(rwB q).length
    ·obtain⟨z1,z2⟩:=b3 _ (getD_mem (d:=[]) hk)
     have z3:=any_snoc hk
     cases hb:((rwB q).take k).any braB with
     |true=>
      rw[hb,Bool.true_or]at z3
      have cE1:= @laws_big_c;have cE2:= @impl_IsSmooth_c;have cE3:= @spec_IsSmooth_c;have cE4:= @impl_IsCommutative_c;have cE5:= @spec_IsCommutative_c;have cE6:= @impl_IsSkewMerged_c
      have cE7:= @spec_IsSkewMerged_c;have cE8:= @impl_IsPalindromic_c;have cE9:= @spec_IsPalindromic_c;have cE10:= @impl_HasBraid_c;have cE11:= @spec_HasBraid_c;have cE12:= @impl_FamiliesText_c
      have cE13:= @spec_FamiliesText_c;have cE14:= @impl_IsVexillary_c;have cE15:= @spec_IsVexillary_c;have cE16:= @spec_RankCounts_c;have cE17:= @spec_ReducedWords_c;have cE18:= @spec_FindGrid_c
      have cE19:= @spec_IsPerm_c;have cE20:= @spec_InversePerm_c;have cE21:= @spec_FormOfCode_c;have cE22:= @spec_TurnedForm_c;have cE23:= @laws_sameInts_c;have cE24:=trivial
      have cE25:=trivial;have cE26:=trivial;have cE27:=trivial;have cE28:=trivial;have cE29:=trivial;have cE30:=trivial
      refine dEa (And.intro fL1 @hb) ?_
      all_goals try (refine zlf ?_;repeat' first|exact zso|refine And.intro ?_ ?_|(refine zim ?_;intro zb hc)|(refine zin ?_;intro zb)|intro j')
      all_goals try refine zbx ?_
      focus
       refine q_lp_n ((fun(k:Nat)=>(rwB q).length - k) (k+1)) (dC fL1 ?_) ⟨k+1,dC fL1 ?_⟩
       all_goals try (refine zlf ?_;repeat' first|exact zso|refine And.intro ?_ ?_|(refine zim ?_;intro zb hc)|(refine zin ?_;intro zb)|intro j')
       all_goals try refine zbx ?_
      all_goals(first|(rw[z3];done)|skip)
      all_goals trace_state
     |false=>
      rw[hb,Bool.false_or]at z3
      have cE1:= @laws_big_c;have cE2:= @impl_IsSmooth_c;have cE3:= @spec_IsSmooth_c;have cE4:= @impl_IsCommutative_c;have cE5:= @spec_IsCommutative_c;have cE6:= @impl_IsSkewMerged_c
      have cE7:= @spec_IsSkewMerged_c;have cE8:= @impl_IsPalindromic_c;have cE9:= @spec_IsPalindromic_c;have cE10:= @impl_HasBraid_c;have cE11:= @spec_HasBraid_c;have cE12:= @impl_FamiliesText_c
      have cE13:= @spec_FamiliesText_c;have cE14:= @impl_IsVexillary_c;have cE15:= @spec_IsVexillary_c;have cE16:= @spec_RankCounts_c;have cE17:= @spec_ReducedWords_c;have cE18:= @spec_FindGrid_c
      have cE19:= @spec_IsPerm_c;have cE20:= @spec_InversePerm_c;have cE21:= @spec_FormOfCode_c;have cE22:= @spec_TurnedForm_c;have cE23:= @laws_sameInts_c;have cE24:=trivial
      have cE25:=trivial;have cE26:=trivial;have cE27:=trivial;have cE28:=trivial;have cE29:=trivial;have cE30:=trivial
      refine dEa (And.intro fL1 @hb) ?_
      all_goals try (refine zlf ?_;repeat' first|exact zso|refine And.intro ?_ ?_|(refine zim ?_;intro zb hc)|(refine zin ?_;intro zb)|intro j')
      all_goals try refine zbx ?_
      focus
       refine q_lp_n ((fun(k:Nat)=>(rwB q).length - k) (k+1)) (dC fL1 ?_) ⟨k+1,dC fL1 ?_⟩
       all_goals try (refine zlf ?_;repeat' first|exact zso|refine And.intro ?_ ?_|(refine zim ?_;intro zb hc)|(refine zin ?_;intro zb)|intro j')
       all_goals try refine zbx ?_
      all_goals(first|(rw[z3];done)|skip)
      all_goals trace_state
    ·have z4:(rwB q).take k=rwB q:=List.take_of_length_le (by omega)
     have cE1:= @c9;have cE2:= @laws_big_c;have cE3:= @impl_IsSmooth_c;have cE4:= @spec_IsSmooth_c;have cE5:= @impl_IsCommutative_c;have cE6:= @spec_IsCommutative_c
     have cE7:= @impl_IsSkewMerged_c;have cE8:= @spec_IsSkewMerged_c;have cE9:= @impl_IsPalindromic_c;have cE10:= @spec_IsPalindromic_c;have cE11:= @impl_HasBraid_c;have cE12:= @spec_HasBraid_c
     have cE13:= @impl_FamiliesText_c;have cE14:= @spec_FamiliesText_c;have cE15:= @impl_IsVexillary_c;have cE16:= @spec_IsVexillary_c;have cE17:= @spec_RankCounts_c;have cE18:= @spec_ReducedWords_c
     have cE19:= @spec_IsPerm_c;have cE20:= @spec_InversePerm_c;have cE21:= @spec_FormOfCode_c;have cE22:= @spec_TurnedForm_c;have cE23:= @laws_sameInts_c;have cE24:=trivial
     have cE25:=trivial;have cE26:=trivial;have cE27:=trivial;have cE28:=trivial;have cE29:=trivial;have cE30:=trivial
     refine dEa (And.intro fL1 (And.intro @z4 (And.intro @g4 @g5))) ?_
     all_goals try (refine zlf ?_;repeat' first|exact zso|refine And.intro ?_ ?_|(refine zim ?_;intro zb hc)|(refine zin ?_;intro zb)|intro j')
     all_goals try refine zbx ?_
     all_goals try (exfalso;first|(have hh:=g2 (by omega);rw[hc]at hh;cases hh)|(have hh:=g3 (by simp[zb]);rw[hc]at hh;cases hh)|(simp[hc]at zb;done))
     all_goals trace_state
  all_goals trace_state
 ·refine fO sg0 [2] Tryz.func3 ?_
  have cE1:= @laws_big_c;have cE2:= @impl_IsSmooth_c;have cE3:= @spec_IsSmooth_c;have cE4:= @impl_IsCommutative_c;have cE5:= @spec_IsCommutative_c;have cE6:= @impl_IsSkewMerged_c
  have cE7:= @spec_IsSkewMerged_c;have cE8:= @impl_IsPalindromic_c;have cE9:= @spec_IsPalindromic_c;have cE10:= @impl_HasBraid_c;have cE11:= @spec_HasBraid_c;have cE12:= @impl_FamiliesText_c
  have cE13:= @spec_FamiliesText_c;have cE14:= @impl_IsVexillary_c;have cE15:= @spec_IsVexillary_c;have cE16:= @spec_RankCounts_c;have cE17:= @spec_ReducedWords_c;have cE18:= @spec_FindGrid_c
  have cE19:= @spec_IsPerm_c;have cE20:= @spec_InversePerm_c;have cE21:= @spec_FormOfCode_c;have cE22:= @spec_TurnedForm_c;have cE23:= @laws_sameInts_c
  have c1:decide ((1048576:Int)<b.length)=true:=decide_eq_true (by omega)
  refine dE @c1 ?_
  all_goals try (refine zlf ?_;repeat' first|exact zso|refine And.intro ?_ ?_|(refine zim ?_;intro zb hc)|(refine zin ?_;intro zb)|intro j')
  all_goals try refine zbx ?_
end Go.Gl
