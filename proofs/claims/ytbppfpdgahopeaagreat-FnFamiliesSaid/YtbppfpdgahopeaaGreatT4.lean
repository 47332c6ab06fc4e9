/-
  What the functions compute, and what the law asks of it: texts joined. Conditions: those that each lemma names.
-/
import Derived.Test.YtbppfpdgahopeaaGreatT3
import Derived.Test.YtbppfpdgahopeaaGreatT1
import Derived.Test.YtbppfpdgahopeaaGreatGlC
import Derived.Test.YtbppfpdgahopeaaGreatT2
import Derived.Test.YtbppfpdgahopeaaGreatProg
import Derived.Shelf.Lay
import Derived.Shelf.LaySoft
import Derived.Shelf.Strings.Builder1
import Derived.Shelf.Strings.Builder2
import Derived.Shelf.Strings.OnBuilder
import Derived.Ground.Names2Prog
import Derived.Shelf.Slices.Clone
set_option linter.unusedSimpArgs false
set_option linter.unusedVariables false
set_option maxRecDepth 20000
set_option linter.unusedSectionVars false
namespace Go.Gl
open Go Go.Proofs
variable [Amb] [NoQ]
def lastI (p:List Int):Int:=if p.length=0 then 0 else p.getD (p.length - 1) 0
def extC (p:List Int) (i:Nat):List (List Int):=(List.range i).map fun t:Nat=>p++[lastI p+(t:Int)]
theorem extC_succ {p:List Int} {i:Nat}:extC p (i+1)=extC p i++[p++[lastI p+(i:Int)]]:=by simp[extC,List.range_succ]
theorem extC_len {p:List Int} {i:Nat}:(extC p i).length=i:=by simp[extC]
def cntC (n:Nat) (p:List Int):Nat:=n+1 - (lastI p).toNat
def lvlC (n:Nat):Nat→List (List Int)→List (List Int)
 |0,L=>L
 |k+1,L=>lvlC n k (L.flatMap fun p=>extC p (cntC n p))
theorem lvlC_app {n:Nat}:∀{k:Nat} {A B:List (List Int)},lvlC n k (A++B)=lvlC n k A++lvlC n k B
 |0,_,_=>rfl
 |k+1,A,B=>by simp only[lvlC,List.flatMap_append,lvlC_app]
theorem lvlC_succ {n:Nat}:∀{k:Nat} {L:List (List Int)},lvlC n (k+1) L=(lvlC n k L).flatMap fun p=>extC p (cntC n p)
 |0,_=>rfl
 |k+1,L=>by rw[lvlC,lvlC_succ (k:=k),←lvlC]
theorem lvlC_nil {n:Nat}:∀{k:Nat},lvlC n k []=[]
 |0=>rfl
 |k+1=>by rw[lvlC];exact lvlC_nil
theorem flatC_len {n:Nat}:∀{L:List (List Int)},(L.flatMap fun p=>extC p (cntC n p)).length≤L.length*(n+1)
 |[]=>by simp
 |p::L=>by
  have:=flatC_len (n:=n) (L:=L)
  have h1:(extC p (cntC n p)).length≤n+1:=by rw[extC_len,cntC];omega
  simp only[List.flatMap_cons,List.length_append,List.length_cons,Nat.succ_mul];omega
theorem lvlC_len {n:Nat} (hn:n≤8):∀{k:Nat} {L:List (List Int)},(lvlC n k L).length≤L.length*9^k
 |0,L=>by simp[lvlC]
 |k+1,L=>by
  rw[lvlC,Nat.pow_succ]
  refine Nat.le_trans (lvlC_len hn) ?_
  have h1:=flatC_len (n:=n) (L:=L)
  have h2:L.length*(n+1)≤L.length*9:=Nat.mul_le_mul_left _ (by omega)
  calc _≤(L.length*9)*9^k:=Nat.mul_le_mul_right _ (Nat.le_trans h1 h2)
   _=_:=by rw[Nat.mul_assoc,Nat.mul_comm 9]
def gdC (p:List Int):Prop:=srtB p=true∧∀x∈p,0≤x∧x≤8
theorem lastI_b {p:List Int} (h:gdC p):0≤lastI p∧lastI p≤8:=by
 unfold lastI;split
 ·omega
 ·exact h.2 _ (getD_mem (by omega))
theorem gdC_ext {p:List Int} (h:gdC p) {x:Int} (h1:lastI p≤x) (h2:x≤8):gdC (p++[x]):=by
 have h0:=lastI_b h
 refine⟨srtB_iff.2 fun i hi hi0=> ?_,fun y hy=> ?_⟩
 ·simp only[List.length_append,List.length_cons,List.length_nil]at hi
  by_cases e:i=p.length
  ·subst e
   rw[lastI,if_neg (by omega)]at h1
   simp only[List.getD_eq_getElem?_getD]at h1 ⊢
   rw[List.getElem?_append_left (by omega),List.getElem?_concat_length]
   exact h1
  ·have:=srtB_iff.1 h.1 i (by omega) hi0
   simp only[List.getD_eq_getElem?_getD]at this ⊢
   rw[List.getElem?_append_left (by omega),List.getElem?_append_left (by omega)]
   exact this
 ·rcases List.mem_append.1 hy with hy|hy
  ·exact h.2 y hy
  ·simp only[List.mem_singleton]at hy;subst hy;omega
theorem extC_gd {n:Nat} (hn:n≤8) {p:List Int} (h:gdC p):∀q∈extC p (cntC n p),gdC q∧q.length=p.length+1:=fun q hq=>by
 obtain⟨t,ht,rfl⟩:=List.mem_map.1 hq
 have:=List.mem_range.1 ht
 have h0:=lastI_b h
 unfold cntC at this
 exact⟨gdC_ext h (by omega) (by omega),by simp⟩
theorem lvlC_gd {n:Nat} (hn:n≤8):∀{k m:Nat} {L:List (List Int)},(∀l∈L,gdC l∧l.length=m)→∀l∈lvlC n k L,gdC l∧l.length=m+k
 |0,m,L,h,l,hl=>by simpa[lvlC]using h l hl
 |k+1,m,L,h,l,hl=>by
  rw[lvlC]at hl
  have:=lvlC_gd hn (k:=k) (m:=m+1) (fun q hq=>by
   simp only[List.mem_flatMap]at hq
   obtain⟨p,hp,hq⟩:=hq
   have h1:=extC_gd hn (h p hp).1 q hq
   exact⟨h1.1,by rw[h1.2,(h p hp).2]⟩) l hl
  exact⟨this.1,by omega⟩
theorem gd_nil:gdC []:=⟨rfl,fun x hx=>by cases hx⟩
def allC (n k:Nat):List (List Int):=lvlC n k [[]]
theorem allC_gd {n k:Nat} (hn:n≤8):∀l∈allC n k,gdC l∧l.length=k:=fun l hl=>by
 have:=lvlC_gd hn (k:=k) (m:=0) (L:=[[]]) (fun l hl=>by simp at hl;subst hl;exact⟨gd_nil,rfl⟩) l hl
 simpa using this
theorem allC_len {n k:Nat} (hn:n≤8) (hk:k≤2):(allC n k).length≤81:=by
 have h1:=lvlC_len hn (k:=k) (L:=[[]])
 have h2:9^k≤9^2:=Nat.pow_le_pow_right (by omega) hk
 simp only[allC,List.length_singleton,Nat.one_mul]at h1 ⊢;omega
def sgAl:FuncId→List Bool:=fun f=>if f=68 then[false,false,false,true]else if f=8589934660 then[false,false,true]else[]
theorem sgAl_eq {f:FuncId}:sgAl f=if f=68 then[false,false,false,true]else if f=8589934660 then[false,false,true]else[]:=_root_.id rfl
theorem way_sgAl:wayE sgAl=false∧wayN sgAl=false∧wayS sgAl=false∧wayZ sgAl=false∧wayM sgAl=false:=⟨rfl,rfl,rfl,rfl,rfl⟩
attribute [go_sem] sgAl_eq way_sgAl
theorem spec_l32All_c (n parts:Nat) (h8:n≤8) (h3:parts≤3):∀(d:Nat) (head:List Int) (out:List (List Int)),gdC head→head.length+d+1=parts→out.length+9^d≤1099511627776→CallT Tryz.prog true 68 [.pv (.int .i64 parts),.pv (.int .i64 n),.pv (.sl (.lent false) (List.map (PV.int .i64) head)),.mu false (List.map (elI false) out)] [none,none,none,none] [.sl .own (List.map (elI false) (out++lvlC n d [head]))]:=by
 intro d
 induction d with
 |zero=>
  intro head out hg hd ho
  refine CallT.of (sg:=sgAl) (ts:=[8]) mo Tryz.func68 rfl rfl rfl rfl (by kernel_rfl) (by simp only[go_sem]) rfl rfl ?_
  refine dTa trivial ?_
  all_goals try (refine zlf ?_;repeat' first|exact zso|refine And.intro ?_ ?_|(refine zim ?_;intro zb hc)|(refine zin ?_;intro zb)|intro j')
  all_goals try refine zbx ?_
  all_goals(rw[List.take_of_length_le (by simp)];rfl)
 |succ d ih=>
  intro head out hg hd ho
  have b0:=lastI_b hg
  by_cases h0:head.length=0
  ·have e0:lastI head=0:=by rw[lastI,if_pos h0]
   refine CallT.of (sg:=sgAl) (ts:=[8]) mo Tryz.func68 rfl rfl rfl rfl (by kernel_rfl) (by simp only[go_sem]) rfl rfl ?_
   refine dTa trivial ?_
   all_goals try (refine zlf ?_;repeat' first|exact zso|refine And.intro ?_ ?_|(refine zim ?_;intro zb hc)|(refine zin ?_;intro zb)|intro j')
   all_goals try refine zbx ?_
   refine v_loopB (fun ms1 S1=>∃(t:Nat),S1.e 0=.p (.int .i64 (parts))∧S1.e 1=.p (.int .i64 (n))∧S1.e 2=.p (.sl (.lent false) (List.map (PV.int .i64) (head)))∧OwnM (S1.e 3) S1.h S1.n (elI false) ((out++lvlC n d (extC head t)).length) (out++lvlC n d (extC head t))∧S1.e 10=.p (.int .i64 (lastI head+t))∧(t≤cntC n head)∧ms1=cntC n head - t) ((fun(t:Nat)=>cntC n head - t) (0)) ?_ ⟨0,dIa trivial ?_⟩
   all_goals try (refine zlf ?_;repeat' first|exact zso|refine And.intro ?_ ?_|(refine zim ?_;intro zb hc)|(refine zin ?_;intro zb)|intro j')
   all_goals try refine zbx ?_
   rintro ms1 S1 ⟨t,h1_0,h1_1,h1_2,o1_3,h1_10,c1_0,hm1⟩
   obtain⟨i1_3,mm1_3,h1_3,b1_3,l1_3⟩:=o1_3.out
   have ni1_3:=znds (x:=i1_3) (n:=S1.n)
   have fL1:=(And.intro h1_0 (And.intro h1_1 (And.intro h1_2 (And.intro h1_10 (And.intro h1_3 (And.intro b1_3 ni1_3))))))
   have b1:=lvlC_len h8 (k:=d) (L:=extC head t)
   have b2:=extC_len (p:=head) (i:=t)
   have b3:(extC head t).length*9^d≤t*9^d:=by rw[b2];exact Nat.le_refl _
   have b11:cntC n head=n+1 - (lastI head).toNat:=rfl
   have b12:t<cntC n head→gdC (head++[lastI head+(t:Int)]):=fun h=>gdC_ext hg (by omega) (by omega)
   have cM1:= @ih
   refine dTa (And.intro fL1 @tk1) ?_
   all_goals try (refine zlf ?_;repeat' first|exact zso|refine And.intro ?_ ?_|(refine zim ?_;intro zb hc)|(refine zin ?_;intro zb)|intro j')
   all_goals try refine zbx ?_
   ·exact b12 (by omega)
   ·have b4:=Nat.mul_le_mul_right (9^d) (show t+1≤9 by omega)
    have b5:9^(d+1)=9*9^d:=by rw[Nat.pow_succ,Nat.mul_comm]
    rw[Nat.succ_mul]at b4
    rw[List.length_append];omega
   ·focus
     refine q_lp_n ((fun(t:Nat)=>cntC n head - t) (t+1)) (dC fL1 ?_) ⟨t+1,dC fL1 ?_⟩
     all_goals try (refine zlf ?_;repeat' first|exact zso|refine And.intro ?_ ?_|(refine zim ?_;intro zb hc)|(refine zin ?_;intro zb)|intro j')
     all_goals try refine zbx ?_
    all_goals(rw[extC_succ,lvlC_app];try simp only[tk1,List.length_append,List.append_assoc,Nat.add_assoc])
   ·obtain rfl:t=cntC n head:=by omega
    rw[lvlC,List.flatMap_cons,List.flatMap_nil,List.append_nil]
   all_goals(simp[extC,lvlC_nil])
  ·have e0:head.getD (head.length - 1:Int).toNat 0=lastI head:=by rw[lastI,if_neg h0];congr 1;omega
   refine CallT.of (sg:=sgAl) (ts:=[8]) mo Tryz.func68 rfl rfl rfl rfl (by kernel_rfl) (by simp only[go_sem]) rfl rfl ?_
   refine dTa @e0 ?_
   all_goals try (refine zlf ?_;repeat' first|exact zso|refine And.intro ?_ ?_|(refine zim ?_;intro zb hc)|(refine zin ?_;intro zb)|intro j')
   all_goals try refine zbx ?_
   refine v_loopB (fun ms1 S1=>∃(t:Nat),S1.e 0=.p (.int .i64 (parts))∧S1.e 1=.p (.int .i64 (n))∧S1.e 2=.p (.sl (.lent false) (List.map (PV.int .i64) (head)))∧OwnM (S1.e 3) S1.h S1.n (elI false) ((out++lvlC n d (extC head t)).length) (out++lvlC n d (extC head t))∧S1.e 10=.p (.int .i64 (lastI head+t))∧(t≤cntC n head)∧ms1=cntC n head - t) ((fun(t:Nat)=>cntC n head - t) (0)) ?_ ⟨0,dIa trivial ?_⟩
   all_goals try (refine zlf ?_;repeat' first|exact zso|refine And.intro ?_ ?_|(refine zim ?_;intro zb hc)|(refine zin ?_;intro zb)|intro j')
   all_goals try refine zbx ?_
   rintro ms1 S1 ⟨t,h1_0,h1_1,h1_2,o1_3,h1_10,c1_0,hm1⟩
   obtain⟨i1_3,mm1_3,h1_3,b1_3,l1_3⟩:=o1_3.out
   have ni1_3:=znds (x:=i1_3) (n:=S1.n)
   have fL1:=(And.intro h1_0 (And.intro h1_1 (And.intro h1_2 (And.intro h1_10 (And.intro h1_3 (And.intro b1_3 ni1_3))))))
   have b1:=lvlC_len h8 (k:=d) (L:=extC head t)
   have b2:=extC_len (p:=head) (i:=t)
   have b3:(extC head t).length*9^d≤t*9^d:=by rw[b2];exact Nat.le_refl _
   have b11:cntC n head=n+1 - (lastI head).toNat:=rfl
   have b12:t<cntC n head→gdC (head++[lastI head+(t:Int)]):=fun h=>gdC_ext hg (by omega) (by omega)
   have cM1:= @ih
   refine dTa (And.intro fL1 @tk1) ?_
   all_goals try (refine zlf ?_;repeat' first|exact zso|refine And.intro ?_ ?_|(refine zim ?_;intro zb hc)|(refine zin ?_;intro zb)|intro j')
   all_goals try refine zbx ?_
   ·exact b12 (by omega)
   ·have b4:=Nat.mul_le_mul_right (9^d) (show t+1≤9 by omega)
    have b5:9^(d+1)=9*9^d:=by rw[Nat.pow_succ,Nat.mul_comm]
    rw[Nat.succ_mul]at b4
    rw[List.length_append];omega
   ·focus
     refine q_lp_n ((fun(t:Nat)=>cntC n head - t) (t+1)) (dC fL1 ?_) ⟨t+1,dC fL1 ?_⟩
     all_goals try (refine zlf ?_;repeat' first|exact zso|refine And.intro ?_ ?_|(refine zim ?_;intro zb hc)|(refine zin ?_;intro zb)|intro j')
     all_goals try refine zbx ?_
    all_goals(rw[extC_succ,lvlC_app];try simp only[tk1,List.length_append,List.append_assoc,Nat.add_assoc])
   ·obtain rfl:t=cntC n head:=by omega
    rw[lvlC,List.flatMap_cons,List.flatMap_nil,List.append_nil]
   all_goals(simp[extC,lvlC_nil])
noncomputable def fRow (p:List Int) (m:List (List Int)) (c:List Int):List (List Int)→Option (List Int)
 |[]=>none
 |r::R=>if gfB p m c r=true then some r else fRow p m c R
noncomputable def fCol (p:List Int) (m:List (List Int)) (R:List (List Int)):List (List Int)→Option (List Int×List Int)
 |[]=>none
 |c::C=>match fRow p m c R with
  |some r=>some (c,r)
  |none=>fCol p m R C
noncomputable def fndG (p:List Int) (m:List (List Int)):(List Int×List Int)×Bool:=
 match fCol p m (allC p.length (m.length - 1)) (allC p.length ((m.getD 0 []).length - 1))with
 |some x=>(x,true)
 |none=>(([],[]),false)
theorem fRow_mem {p:List Int} {m:List (List Int)} {c r:List Int}:∀{R:List (List Int)},fRow p m c R=some r→r∈R∧gfB p m c r=true
 |[],h=>by cases h
 |x::R,h=>by
  rw[fRow]at h
  split at h
  ·rename_i hx;cases h;exact⟨by simp,hx⟩
  ·have:=fRow_mem h;exact⟨List.mem_cons_of_mem _ this.1,this.2⟩
theorem fCol_mem {p:List Int} {m:List (List Int)} {R:List (List Int)} {c r:List Int}:∀{C:List (List Int)},fCol p m R C=some (c,r)→c∈C∧r∈R∧gfB p m c r=true
 |[],h=>by cases h
 |x::C,h=>by
  rw[fCol]at h
  split at h
  ·rename_i hx;cases h;have:=fRow_mem hx;exact⟨by simp,this.1,this.2⟩
  ·have:=fCol_mem h;exact⟨List.mem_cons_of_mem _ this.1,this.2⟩
theorem fndG_some {p:List Int} {m:List (List Int)} {x:List Int×List Int} (h:fCol p m (allC p.length (m.length - 1)) (allC p.length ((m.getD 0 []).length - 1))=some x):fndG p m=(x,true):=by rw[fndG,h]
theorem fndG_none {p:List Int} {m:List (List Int)} (h:fCol p m (allC p.length (m.length - 1)) (allC p.length ((m.getD 0 []).length - 1))=none):fndG p m=(([],[]),false):=by rw[fndG,h]
noncomputable def fndB (p:List Int) (m:List (List Int)):(List Int×List Int)×Bool:=if isPermB p&&gridB m then fndG p m else(([],[]),false)
theorem spec_FindGrid_c {m0 e1 m1:Bool} (p:List Int) (m:List (List Int)) (hl:p.length≤1048576) (hm:m.length≤1048576) (hml:∀l∈m,l.length≤1048576):Fun Tryz.prog 28 [(.sl (.lent m0) (List.map (PV.int .i64) (p))),(.sl (.lent m1) (List.map (elI e1) (m)))] [(.sl (.lent false) (List.map (PV.int .i64) ((fndB p m).1.1))),(.sl (.lent false) (List.map (PV.int .i64) ((fndB p m).1.2))),(.bool ((fndB p m).2))]:=by
 have hml':∀l∈m,l.length≤1099511627776:=fun l h=>by have:=hml l h;omega
 by_cases hp:isPermB p=true
 ·by_cases hg:gridB m=true
  ·have q1:fndB p m=fndG p m:=by rw[fndB,hp,hg];rfl
   obtain⟨g1,g2,g3,g4,g5⟩:=grid_rows hg
   have hl:=(isPerm_facts hp).1
   have a1:=allC_gd (n:=p.length) (k:=(m.getD 0 []).length - 1) hl
   have a2:=allC_len (n:=p.length) (k:=(m.getD 0 []).length - 1) hl (by omega)
   have a3:=allC_gd (n:=p.length) (k:=m.length - 1) hl
   have a4:=allC_len (n:=p.length) (k:=m.length - 1) hl (by omega)
   have a5:=fun x=>fndG_some (p:=p) (m:=m) (x:=x)
   have a6:=fndG_none (p:=p) (m:=m)
   have p9:9^((m.getD 0 []).length - 1)≤9^2:=Nat.pow_le_pow_right (by omega) (by omega)
   have p8:9^(m.length - 1)≤9^2:=Nat.pow_le_pow_right (by omega) (by omega)
   have a7:=spec_l32All_c p.length (m.getD 0 []).length hl g4 ((m.getD 0 []).length - 1) [] [] gd_nil (by simp only[List.length_nil];omega) (by simp only[List.length_nil];omega)
   have a8:=spec_l32All_c p.length m.length hl g2 (m.length - 1) [] [] gd_nil (by simp only[List.length_nil];omega) (by simp only[List.length_nil];omega)
   simp only[List.map_nil,List.nil_append]at a7 a8
   rw[show lvlC p.length ((m.getD 0 []).length - 1) [[]]=allC p.length ((m.getD 0 []).length - 1)from rfl]at a7
   rw[show lvlC p.length (m.length - 1) [[]]=allC p.length (m.length - 1)from rfl]at a8
   rw[q1]
   revert a1 a2 a3 a4 a5 a6 a7 a8
   generalize allC p.length ((m.getD 0 []).length - 1)=C
   generalize allC p.length (m.length - 1)=R
   intro a1 a2 a3 a4 a5 a6 a7 a8
   refine fO sgAl [4,5,6] Tryz.func28 ?_
   have cE1:= @spec_IsPerm_c;have cE2:= @spec_IsGrid_c;have cE3:= @spec_l32Fits_c;have cD1:=zdh [false,false,false,false,false,false,false,false,false,false,true] [];have cD2:=zdh [false,false,false,false,true,false,false,false,false,true,false,false,false] [(0,4),(1,4),(2,4),(3,4),(4,5),(4,6),(4,7),(4,8),(0,9),(1,9),(2,9),(3,9)]
   have cM1:= @a7;have cM2:= @a8
   refine dEa (And.intro @hp @hg) ?_
   all_goals try (refine zlf ?_;repeat' first|exact zso|refine And.intro ?_ ?_|(refine zim ?_;intro zb hc)|(refine zin ?_;intro zb)|intro j')
   all_goals try refine zbx ?_
   refine v_loopB (fun ms1 S1=>∃(k:Nat),S1.e 0=.p (.sl (.lent m0) (List.map (PV.int .i64) (p)))∧S1.e 1=.p (.sl (.lent m1) (List.map (elI e1) (m)))∧OwnL (S1.e 7) S1.h S1.n (elI false) ((C).length) (C)∧OwnL (S1.e 8) S1.h S1.n (elI false) ((R).length) (R)∧S1.e 9=.p (.int .i64 (k))∧(k≤C.length)∧(fCol p m R C=fCol p m R (C.drop k))∧NId (S1.e 8) (S1.e 7)∧ms1=C.length - k) ((fun(k:Nat)=>C.length - k) (0)) ?_ ⟨0,dIa trivial ?_⟩
   all_goals try (refine zlf ?_;repeat' first|exact zso|refine And.intro ?_ ?_|(refine zim ?_;intro zb hc)|(refine zin ?_;intro zb)|intro j')
   all_goals try refine zbx ?_
   rintro ms1 S1 ⟨k,h1_0,h1_1,o1_7,o1_8,h1_9,c1_0,c1_1,u1_0,hm1⟩
   obtain⟨i1_7,h1_7,b1_7,l1_7⟩:=o1_7.out
   obtain⟨i1_8,h1_8,b1_8,l1_8⟩:=o1_8.out
   have k1_0:=(u1_0).out h1_8 h1_7
   have ni1_7:=znds (x:=i1_7) (n:=S1.n)
   have ni1_8:=znds (x:=i1_8) (n:=S1.n)
   have di1_7i1_8:=zdne (x:=i1_7) (y:=i1_8)
   have fL1:=(And.intro h1_0 (And.intro h1_1 (And.intro h1_9 (And.intro h1_7 (And.intro b1_7 (And.intro h1_8 (And.intro b1_8 (And.intro ni1_7 (And.intro ni1_8 di1_7i1_8)))))))))
   have cM1:=trivial;have cM2:=trivial
   refine dEa fL1 ?_
   all_goals try (refine zlf ?_;repeat' first|exact zso|refine And.intro ?_ ?_|(refine zim ?_;intro zb hc)|(refine zin ?_;intro zb)|intro j')
   all_goals try refine zbx ?_
   ·refine v_loopB (fun ms2 S2=>∃(j:Nat),S2.e 0=.p (.sl (.lent m0) (List.map (PV.int .i64) (p)))∧S2.e 1=.p (.sl (.lent m1) (List.map (elI e1) (m)))∧OwnL (S2.e 7) S2.h S2.n (elI false) ((C).length) (C)∧OwnL (S2.e 8) S2.h S2.n (elI false) ((R).length) (R)∧S2.e 9=.p (.int .i64 (k))∧S2.e 10=.p (.int .i64 (j))∧(j≤R.length)∧(k<C.length)∧(fRow p m (C.getD k []) R=fRow p m (C.getD k []) (R.drop j))∧NId (S2.e 8) (S2.e 7)∧S1.n≤S2.n∧ms2=R.length - j) ((fun(j:Nat)=>R.length - j) (0)) ?_ ⟨0,dC fL1 ?_⟩
    all_goals try (refine zlf ?_;repeat' first|exact zso|refine And.intro ?_ ?_|(refine zim ?_;intro zb hc)|(refine zin ?_;intro zb)|intro j')
    all_goals try refine zbx ?_
    rintro ms2 S2 ⟨j,h2_0,h2_1,o2_7,o2_8,h2_9,h2_10,c2_0,c2_1,c2_2,u2_0,u2_1,hm2⟩
    obtain⟨i2_7,h2_7,b2_7,l2_7⟩:=o2_7.out
    obtain⟨i2_8,h2_8,b2_8,l2_8⟩:=o2_8.out
    have k2_0:=(u2_0).out h2_8 h2_7
    have ni2_7:=znds (x:=i2_7) (n:=S2.n)
    have ni2_8:=znds (x:=i2_8) (n:=S2.n)
    have di2_7i2_8:=zdne (x:=i2_7) (y:=i2_8)
    have fL2:=(And.intro h2_0 (And.intro h2_1 (And.intro h2_9 (And.intro h2_10 (And.intro h2_7 (And.intro b2_7 (And.intro h2_8 (And.intro b2_8 (And.intro ni2_7 (And.intro ni2_8 di2_7i2_8))))))))))
    have b1:=a1 _ (getD_mem (d:=[]) c2_1)
    have b2:j<R.length→gdC (R.getD j [])∧(R.getD j []).length=m.length - 1:=fun h=>a3 _ (getD_mem h)
    by_cases hj:j<R.length
    ·have b3:=b2 hj
     have e1:=c2_2
     rw[dropL_at hj,fRow]at e1
     have e2:=c1_1
     rw[dropL_at c2_1,fCol]at e2
     have cM1:=trivial;have cM2:=trivial
     refine dEa fL2 ?_
     all_goals try (refine zlf ?_;repeat' first|exact zso|refine And.intro ?_ ?_|(refine zim ?_;intro zb hc)|(refine zin ?_;intro zb)|intro j')
     all_goals try refine zbx ?_
     all_goals(try rw[a5 _ (by rw[e2,e1,if_pos hc])])
     focus
      refine q_lp_n ((fun(j:Nat)=>R.length - j) (j+1)) (dC fL2 ?_) ⟨j+1,dC fL2 ?_⟩
      all_goals try (refine zlf ?_;repeat' first|exact zso|refine And.intro ?_ ?_|(refine zim ?_;intro zb hc)|(refine zin ?_;intro zb)|intro j')
      all_goals try refine zbx ?_
     rw[e1,if_neg (by rw[hc];decide)]
    ·have cM1:=trivial;have cM2:=trivial
     refine dEa fL2 ?_
     all_goals try (refine zlf ?_;repeat' first|exact zso|refine And.intro ?_ ?_|(refine zim ?_;intro zb hc)|(refine zin ?_;intro zb)|intro j')
     all_goals try refine zbx ?_
     have e1:=c2_2
     rw[List.drop_of_length_le (by omega),fRow]at e1
     have e2:=c1_1
     rw[dropL_at c2_1,fCol,e1]at e2
     focus
      refine q_lp_n ((fun(k:Nat)=>C.length - k) (k+1)) (dC fL2 ?_) ⟨k+1,dC fL2 ?_⟩
      all_goals try (refine zlf ?_;repeat' first|exact zso|refine And.intro ?_ ?_|(refine zim ?_;intro zb hc)|(refine zin ?_;intro zb)|intro j')
      all_goals try refine zbx ?_
     all_goals exact e2
   all_goals(have e2:=c1_1;rw[List.drop_of_length_le (by omega),fCol]at e2;rw[a6 e2]<;>rfl)
  ·have hg':gridB m=false:=by simpa using hg
   have q1:fndB p m=(([],[]),false):=by rw[fndB,hp,hg'];rfl
   rw[q1]
   refine fO sg0 [4,5,6] Tryz.func28 ?_
   have cE1:= @spec_IsPerm_c;have cE2:= @spec_IsGrid_c;have cE3:= @spec_l32Fits_c;have cD1:=zdh [false,false,false,false,false,false,false,false,false,false,true] [];have cD2:=zdh [false,false,false,false,true,false,false,false,false,true,false,false,false] [(0,4),(1,4),(2,4),(3,4),(4,5),(4,6),(4,7),(4,8),(0,9),(1,9),(2,9),(3,9)]
   refine dEa (And.intro @hp @hg') ?_
   all_goals try (refine zlf ?_;repeat' first|exact zso|refine And.intro ?_ ?_|(refine zim ?_;intro zb hc)|(refine zin ?_;intro zb)|intro j')
   all_goals try refine zbx ?_
 ·have hp':isPermB p=false:=by simpa using hp
  have q1:fndB p m=(([],[]),false):=by rw[fndB,hp'];rfl
  rw[q1]
  refine fO sg0 [4,5,6] Tryz.func28 ?_
  have cE1:= @spec_IsPerm_c;have cE2:= @spec_IsGrid_c;have cE3:= @spec_l32Fits_c;have cD1:=zdh [false,false,false,false,false,false,false,false,false,false,true] [];have cD2:=zdh [false,false,false,false,true,false,false,false,false,true,false,false,false] [(0,4),(1,4),(2,4),(3,4),(4,5),(4,6),(4,7),(4,8),(0,9),(1,9),(2,9),(3,9)]
  refine dEa @hp' ?_
  all_goals try (refine zlf ?_;repeat' first|exact zso|refine And.intro ?_ ?_|(refine zim ?_;intro zb hc)|(refine zin ?_;intro zb)|intro j')
  all_goals try refine zbx ?_
def cntLt (v:Int):List Int→Int
 |[]=>0
 |w::p=>bitI (decide (w<v))+cntLt v p
def codeGo:List Int→List Int
 |[]=>[]
 |v::p=>cntLt v p::codeGo p
theorem codeGo_length:∀p:List Int,(codeGo p).length=p.length
 |[]=>rfl
 |_::p=>by simp[codeGo,codeGo_length p]
theorem cntLt_le (v:Int):∀p:List Int,0≤cntLt v p∧cntLt v p≤p.length
 |[]=>by simp[cntLt]
 |w::p=>by
  have:=cntLt_le v p;have:=bitI_r (decide (w<v))
  simp only[cntLt,List.length_cons];omega
theorem codeGo_at:∀(p:List Int) (k:Nat),0≤(codeGo p).getD k 0∧(codeGo p).getD k 0≤p.length
 |[],k=>by simp[codeGo]
 |v::p,0=>by have:=cntLt_le v p;simp only[codeGo,List.getD_cons_zero,List.length_cons];omega
 |v::p,k+1=>by have:=codeGo_at p k;simp only[codeGo,List.getD_cons_succ,List.length_cons];omega
theorem spec_CodeOf_c {m0:Bool} (p:List Int) (hl:p.length≤1048576):Fun Tryz.prog 75 [(.sl (.lent m0) (List.map (PV.int .i64) (p)))] [(.sl .own (List.map (PV.int .i64) ((if isPermB p then codeGo p else[]))))]:=by
 refine fO sg0 [2] Tryz.func75 ?_
 have cE1:= @spec_l1Bit_c;have cE2:= @spec_IsPerm_c;have cD1:=zdh [false,false,false,false,false,false,false,false,false,false,true,false,false] [(0,10)]
 refine dE trivial ?_
 all_goals try (refine zlf ?_;repeat' first|exact zso|refine And.intro ?_ ?_|(refine zim ?_;intro zb hc;repeat (have zc:=zb.1;replace zb:=zb.2))|(refine zin ?_;intro zb)|intro j')
 all_goals try refine zbx ?_
 refine v_loopB (fun ms1 S1=>∃(k:Nat) (out:List Int),S1.e 0=.p (.sl (.lent m0) (List.map (PV.int .i64) (p)))∧OwnL (S1.e 3) S1.h S1.n (PV.int .i64) ((out).length) (out)∧S1.e 4=.p (.int .i64 (k))∧(k≤p.length)∧(0<k→isPermB p=true)∧(codeGo p=out++codeGo (p.drop k))∧(out.length=k)∧ms1=p.length - k) ((fun(k:Nat) (out:List Int)=>p.length - k) (0) ([])) ?_ ⟨0,[],dIa trivial ?_⟩
 all_goals try (refine zlf ?_;repeat' first|exact zso|refine And.intro ?_ ?_|(refine zim ?_;intro zb hc;repeat (have zc:=zb.1;replace zb:=zb.2))|(refine zin ?_;intro zb)|intro j')
 all_goals try refine zbx ?_
 rintro ms1 S1 ⟨k,out,h1_0,o1_3,h1_4,c1_0,c1_1,c1_2,c1_3,hm1⟩
 obtain⟨i1_3,h1_3,b1_3,l1_3⟩:=o1_3.out
 have ni1_3:=znds (x:=i1_3) (n:=S1.n)
 have fL1:=(And.intro h1_0 (And.intro h1_4 (And.intro h1_3 (And.intro b1_3 ni1_3))))
 refine dEa fL1 ?_
 all_goals try (refine zlf ?_;repeat' first|exact zso|refine And.intro ?_ ?_|(refine zim ?_;intro zb hc;repeat (have zc:=zb.1;replace zb:=zb.2))|(refine zin ?_;intro zb)|intro j')
 all_goals try refine zbx ?_
 ·refine v_loopB (fun ms2 S2=>∃(i:Nat) (n:Int),S2.e 0=.p (.sl (.lent m0) (List.map (PV.int .i64) (p)))∧S2.e 3=.ref i1_3 0 (out).length∧S2.h i1_3=.live false (List.map (PV.int .i64) (out))∧S2.e 4=.p (.int .i64 (k))∧S2.e 5=.p (.int .i64 (n))∧S2.e 6=.p (.int .i64 (i))∧(k<i)∧(i≤p.length)∧(0≤n)∧(n≤i)∧(n+cntLt (p.getD k 0) (p.drop i)=cntLt (p.getD k 0) (p.drop (k+1)))∧S1.n≤S2.n∧ms2=p.length - i) ((fun(i:Nat) (n:Int)=>p.length - i) (k+1) (0)) ?_ ⟨k+1,0,dI fL1 ?_⟩
  all_goals try (refine zlf ?_;repeat' first|exact zso|refine And.intro ?_ ?_|(refine zim ?_;intro zb hc;repeat (have zc:=zb.1;replace zb:=zb.2))|(refine zin ?_;intro zb)|intro j')
  all_goals try refine zbx ?_
  rintro ms2 S2 ⟨i,n,h2_0,h2_3,b2_3,h2_4,h2_5,h2_6,c2_0,c2_1,c2_2,c2_3,c2_4,u2_0,hm2⟩
  have ni1_3:=znds (x:=i1_3) (n:=S2.n)
  have fL2:=(And.intro h2_0 (And.intro h2_3 (And.intro b2_3 (And.intro h2_4 (And.intro h2_5 (And.intro h2_6 ni1_3))))))
  refine dE fL2 ?_
  all_goals try (refine zlf ?_;repeat' first|exact zso|refine And.intro ?_ ?_|(refine zim ?_;intro zb hc;repeat (have zc:=zb.1;replace zb:=zb.2))|(refine zin ?_;intro zb)|intro j')
  all_goals try refine zbx ?_
  all_goals have hb:=bitI_r (decide (p.getD i 0<p.getD k 0))
  all_goals try exact zaut
  ·focus
    refine q_lp_n ((fun(i:Nat) (n:Int)=>p.length - i) (i+1) (n+bitI (decide (p.getD i 0<p.getD k 0)))) (dC fL2 ?_) ⟨i+1,n+bitI (decide (p.getD i 0<p.getD k 0)),dC fL2 ?_⟩
    all_goals try (refine zlf ?_;repeat' first|exact zso|refine And.intro ?_ ?_|(refine zim ?_;intro zb hc;repeat (have zc:=zb.1;replace zb:=zb.2))|(refine zin ?_;intro zb)|intro j')
    all_goals try refine zbx ?_
   rw[←c2_4,dropI_at hc,cntLt,Int.add_assoc]
  ·focus
    refine q_lp_n ((fun(k:Nat) (out:List Int)=>p.length - k) (k+1) (out++[n])) (dC fL2 ?_) ⟨k+1,out++[n],dC fL2 ?_⟩
    all_goals try (refine zlf ?_;repeat' first|exact zso|refine And.intro ?_ ?_|(refine zim ?_;intro zb hc;repeat (have zc:=zb.1;replace zb:=zb.2))|(refine zin ?_;intro zb)|intro j')
    all_goals try refine zbx ?_
   ·intro _;assumption
   ·rw[c1_2,dropI_at (by omega),codeGo,←c2_4,List.drop_of_length_le (by omega:p.length≤i),cntLt,Int.add_zero]
 ·have:k=0:=by
   rcases Nat.eq_zero_or_pos k with h|h
   ·exact h
   ·rw[c1_1 h]at hc;cases hc
  rw[List.eq_nil_of_length_eq_zero (by omega:out.length=0)];simp[hc]
 ·have hp:isPermB p=true:=by
   rcases Nat.eq_zero_or_pos k with h|h
   ·rw[List.eq_nil_of_length_eq_zero (by omega:p.length=0)];rfl
   ·exact c1_1 h
  rw[if_pos hp,c1_2,List.drop_of_length_le (by omega),codeGo,List.append_nil]
theorem cntLt_countP {v:Int}:∀{l:List Int},cntLt v l=(l.countP (fun w=>decide (w<v)):Int)
 |[]=>rfl
 |w::l=>by
  rw[cntLt,cntLt_countP,List.countP_cons]
  by_cases h:w<v
  ·rw[decide_eq_true h,if_pos rfl,bitI,if_pos rfl];omega
  ·rw[decide_eq_false h,if_neg (by decide),bitI,if_neg (by decide)];omega
theorem rk_cnt {l:List Int} {x:Int}:rkI l x l.length=cntLt x l+1:=by
 rw[rkI,List.take_length,cntLt_countP,List.countP_eq_length_filter]
theorem prt_cnt {l:List Int} {x:Int}:prtI l x=cntLt x l:=by rw[prtI,rk_cnt];omega
theorem perm_ne' {p:List Int} (h:permB p=true) {i j:Nat} (hi:i<p.length) (hj:j<p.length) (e:i≠j):p.getD i 0≠p.getD j 0:=fun q=>e (perm_inj h hi hj q)
theorem ga_lt' {l:List Int} {j:Nat} {x d:Int} (h:j<l.length):(l++[x]).getD j d=l.getD j d:=by rw[List.getD_eq_getElem?_getD,List.getElem?_append_left h,←List.getD_eq_getElem?_getD]
theorem ga_eq' {l:List Int} {j:Nat} {x d:Int} (h:j=l.length):(l++[x]).getD j d=x:=by
 subst h;rw[List.getD_eq_getElem?_getD,List.getElem?_append_right (Nat.le_refl _),Nat.sub_self];rfl
theorem lvlC_le {n:Nat}:∀{k:Nat} {L:List (List Int)},(∀l∈L,∀x∈l,0≤x∧x≤(n:Int))→∀l∈lvlC n k L,∀x∈l,0≤x∧x≤(n:Int)
 |0,L,h,l,hl=>h l (by simpa[lvlC]using hl)
 |k+1,L,h,l,hl=>by
  rw[lvlC_succ,List.mem_flatMap]at hl
  obtain⟨p,hp,hl⟩:=hl
  have ih:=lvlC_le (k:=k) h p hp
  simp only[extC,List.mem_map,List.mem_range,cntC]at hl
  obtain⟨t,ht,rfl⟩:=hl
  intro x hx
  rcases List.mem_append.1 hx with q|q
  ·exact ih x q
  ·rw[List.mem_singleton]at q;subst q
   have:0≤lastI p:=by
    unfold lastI;split
    ·omega
    ·exact(ih _ (getD_mem (by omega))).1
   omega
theorem allC_le {n k:Nat}:∀l∈allC n k,∀x∈l,0≤x∧x≤(n:Int):=lvlC_le (by simp)
theorem gf_iff {p:List Int} {m:List (List Int)} {cs rs:List Int}:gfB p m cs rs=true↔∀k,k<p.length→okK p m cs rs k:=by
 unfold gfB;exact decide_eq_true_iff
def gR (v r:Int):Int:=if v≤r then r - 1 else r
theorem allC_mem {n:Nat}:∀{k:Nat} {q:List Int},q.length=k→srtB q=true→(∀x∈q,0≤x∧x≤(n:Int))→q∈allC n k
 |0,q,h,_,_=>by rw[List.eq_nil_of_length_eq_zero h];simp[allC,lvlC]
 |k+1,q,h,hs,hb=>by
  have hne:q≠[]:=fun e=>by rw[e]at h;cases h
  obtain⟨p,x,rfl⟩:∃p x,q=p++[x]:=⟨q.dropLast,q.getLast hne,(List.dropLast_concat_getLast hne).symm⟩
  rw[List.length_append,List.length_singleton]at h
  have hk:p.length=k:=by omega
  rw[srtB_iff]at hs
  have hp:srtB p=true:=srtB_iff.2 fun i hi h0=>by
   have:=hs i (by simp;omega) h0
   rwa [ga_lt' (by omega),ga_lt' (by omega)]at this
  have ih:=allC_mem hk hp fun y hy=>hb y (by simp[hy])
  have hx:=hb x (by simp)
  unfold allC at ih ⊢
  rw[lvlC_succ,List.mem_flatMap]
  refine⟨p,ih, ?_⟩
  have hlast:0≤lastI p∧lastI p≤x:=by
   unfold lastI
   split
   ·omega
   ·rename_i h0
    have h1:=hs p.length (by simp) (by omega)
    rw[ga_lt' (by omega),ga_eq' rfl]at h1
    have h2:=hb (p.getD (p.length - 1) 0) (List.mem_append.2 (.inl (getD_mem (by omega))))
    omega
  simp only[extC,List.mem_map,List.mem_range,cntC]
  refine⟨(x - lastI p).toNat,by omega, ?_⟩
  congr 2;omega
theorem fRow_none {p:List Int} {m:List (List Int)} {c:List Int}:∀{R:List (List Int)},fRow p m c R=none→∀r∈R,gfB p m c r=false
 |[],_,_,hr=>by cases hr
 |x::R,h,r,hr=>by
  rw[fRow]at h
  split at h
  ·cases h
  ·rename_i hx
   rcases List.mem_cons.1 hr with rfl|hr
   ·simpa using hx
   ·exact fRow_none h r hr
theorem fCol_none {p:List Int} {m:List (List Int)} {R:List (List Int)}:∀{C:List (List Int)},fCol p m R C=none→∀c∈C,∀r∈R,gfB p m c r=false
 |[],_,_,hc,_,_=>by cases hc
 |x::C,h,c,hc,r,hr=>by
  rw[fCol]at h
  split at h
  ·cases h
  ·rename_i hx
   rcases List.mem_cons.1 hc with rfl|hc
   ·exact fRow_none hx r hr
   ·exact fCol_none h c hc r hr
theorem fnd_iff {p:List Int} {m:List (List Int)} (h8:p.length≤8):(fndG p m).2=true↔∃c r,gfB p m c r=true∧c.length=(m.getD 0 []).length - 1∧r.length=m.length - 1∧srtB c=true∧srtB r=true∧(∀x∈c,0≤x∧x≤(p.length:Int))∧∀x∈r,0≤x∧x≤(p.length:Int):=by
 constructor
 ·intro h
  cases e:fCol p m (allC p.length (m.length - 1)) (allC p.length ((m.getD 0 []).length - 1))with
  |none=>rw[fndG_none e]at h;cases h
  |some x=>
   obtain⟨c,r⟩:=x
   obtain⟨h1,h2,h3⟩:=fCol_mem e
   obtain⟨g1,g2⟩:=allC_gd h8 c h1
   obtain⟨g3,g4⟩:=allC_gd h8 r h2
   have b1:=allC_le c h1
   have b2:=allC_le r h2
   exact⟨c,r,h3,g2,g4,g1.1,g3.1,b1,b2⟩
 ·rintro⟨c,r,h1,h2,h3,h4,h5,h6,h7⟩
  cases e:fCol p m (allC p.length (m.length - 1)) (allC p.length ((m.getD 0 []).length - 1))with
  |none=>
   have:=fCol_none e c (allC_mem h2 h4 h6) r (allC_mem h3 h5 h7)
   rw[h1]at this;cases this
  |some x=>rw[fndG_some e]
theorem inv_at {p:List Int} (hp:permB p=true) {k:Nat} (hk:k<p.length):(inv p).getD (p.getD k 0 - 1).toNat 0=(k:Int)+1:=invL_at hp (Nat.le_refl _) k hk
theorem at_val {p:List Int} (hp:permB p=true) {k:Nat} (hk:k<p.length):∃i,i<p.length∧(p.getD i 0 - 1).toNat=k:=by
 obtain⟨i,hi,e⟩:=perm_spot hp (v:=(k:Int)+1) (by omega) (by omega)
 exact⟨i,hi,by rw[e];omega⟩
def btw (x a b:Int):Prop:=a<x∧x<b∨b<x∧x<a
theorem skm_c {f:Nat→Int} {n:Nat} (inj:∀i j,i<j→j<n→f i≠f j)
  (H1:∀i j k l,i<j→j<k→k<l→l<n→¬(f j<f i∧f i<f l∧f l<f k))
  (H2:∀i j k l,i<j→j<k→k<l→l<n→¬(f k<f l∧f l<f i∧f i<f j)):
  ∃c,c≤n∧(∀i j k,i<j→j<k→k<c→¬btw (f i) (f j) (f k))∧∀i j k,c≤i→i<j→j<k→k<n→¬btw (f k) (f i) (f j):=by
 have go:∀m,m≤n→(∃c,c≤n∧(∀i j k,i<j→j<k→k<c→¬btw (f i) (f j) (f k))∧∀i j k,c≤i→i<j→j<k→k<n→¬btw (f k) (f i) (f j))∨∀i j k,i<j→j<k→k<m→¬btw (f i) (f j) (f k):=by
  intro m
  induction m with
  |zero=>exact fun _=>.inr fun i j k _ _ h=>by omega
  |succ m ih=>
   intro hm
   rcases ih (by omega)with h|h
   ·exact .inl h
   ·rcases Classical.em (∃i j k,m≤i∧i<j∧j<k∧k<n∧btw (f k) (f i) (f j))with⟨a,b,d,g1,g2,g3,g4,g5⟩|hs
    ·refine .inr fun i j k h1 h2 h3 h4=> ?_
     by_cases hk:k<m
     ·exact h i j k h1 h2 hk h4
     ·have e:k=m:=by omega
      subst e
      have n1:=inj i d (by omega) (by omega)
      unfold btw at h4 g5
      by_cases ha:a=k
      ·subst ha
       rcases h4 with h4|h4<;>rcases g5 with g5|g5<;>by_cases lt:f i<f d
       ·exact H1 i j b d (by omega) (by omega) (by omega) (by omega) (by omega)
       ·omega
       ·exact H1 i j a d (by omega) (by omega) (by omega) (by omega) (by omega)
       ·exact H2 i a b d (by omega) (by omega) (by omega) (by omega) (by omega)
       ·exact H1 i a b d (by omega) (by omega) (by omega) (by omega) (by omega)
       ·exact H2 i j a d (by omega) (by omega) (by omega) (by omega) (by omega)
       ·omega
       ·exact H2 i j b d (by omega) (by omega) (by omega) (by omega) (by omega)
      ·rcases h4 with h4|h4<;>rcases g5 with g5|g5<;>by_cases lt:f i<f d
       ·exact H1 i j b d (by omega) (by omega) (by omega) (by omega) (by omega)
       ·exact H2 i k a d (by omega) (by omega) (by omega) (by omega) (by omega)
       ·exact H1 i j a d (by omega) (by omega) (by omega) (by omega) (by omega)
       ·exact H2 i k b d (by omega) (by omega) (by omega) (by omega) (by omega)
       ·exact H1 i k b d (by omega) (by omega) (by omega) (by omega) (by omega)
       ·exact H2 i j a d (by omega) (by omega) (by omega) (by omega) (by omega)
       ·exact H1 i k a d (by omega) (by omega) (by omega) (by omega) (by omega)
       ·exact H2 i j b d (by omega) (by omega) (by omega) (by omega) (by omega)
    ·exact .inl ⟨m,by omega,h,fun i j k h1 h2 h3 h4 h5=>hs ⟨i,j,k,h1,h2,h3,h4,h5⟩⟩
 rcases go n (Nat.le_refl _)with h|h
 ·exact h
 ·exact⟨n,Nat.le_refl _,h,fun i j k h1 h2 h3 h4=>by omega⟩
theorem skm_cr {f:Nat→Int} {n:Nat} (inj:∀i j,i<j→j<n→f i≠f j) (pos:∀i,i<n→1≤f i∧f i≤n)
  (H1:∀i j k l,i<j→j<k→k<l→l<n→¬(f j<f i∧f i<f l∧f l<f k))
  (H2:∀i j k l,i<j→j<k→k<l→l<n→¬(f k<f l∧f l<f i∧f i<f j)):
  ∃(c:Nat) (r:Int),c≤n∧0≤r∧r≤n∧∀i k,i<k→k<n→
   (k<c→(r<f i→r<f k→f k<f i)∧(f i≤r→f k≤r→f i<f k))∧(c≤i→(r<f i→r<f k→f i<f k)∧(f i≤r→f k≤r→f k<f i)):=by
 obtain⟨c,hc,P,Q⟩:=skm_c inj H1 H2
 have exr:∀A:Int→Prop,∀m,m≤n→∃r:Int,0≤r∧r≤n∧(∀i,i<m→A (f i)→f i≤r)∧(r=0∨A r):=by
  intro A m
  induction m with
  |zero=>exact fun _=>⟨0,by omega,by omega,fun i h=>by omega,.inl rfl⟩
  |succ m ih=>
   intro hm
   obtain⟨r,r1,r2,r3,r4⟩:=ih (by omega)
   have:=pos m (by omega)
   rcases Classical.em (A (f m)∧r<f m)with h|h
   ·refine⟨f m,by omega,by omega,fun i hi ha=> ?_,.inr h.1⟩
    by_cases e:i=m
    ·rw[e];exact Int.le_refl _
    ·have:=r3 i (by omega) ha;omega
   ·refine⟨r,r1,r2,fun i hi ha=> ?_,r4⟩
    by_cases e:i=m
    ·subst e
     by_cases g:r<f i
     ·exact absurd ⟨ha,g⟩ h
     ·omega
    ·exact r3 i (by omega) ha
 obtain⟨r,r1,r2,r3,r4⟩:=exr (fun v=>(∃i j,i<j∧j<c∧f i<f j∧v=f i)∨∃i j,c≤i∧i<j∧j<n∧f j<f i∧v=f j) n (Nat.le_refl _)
 have P':∀i j k,i<j→i<k→j≠k→j<c→k<c→f j<f i→f i<f k→False:=fun i j k h1 h2 h3 h4 h5 h6 h7=>by
  by_cases g:j<k
  ·exact P i j k h1 g h5 (.inl ⟨h6,h7⟩)
  ·exact P i k j h2 (by omega) h4 (.inr ⟨h6,h7⟩)
 have Q':∀i j k,c≤i→c≤j→i<k→j<k→i≠j→k<n→f i<f k→f k<f j→False:=fun i j k h0 h1 h2 h3 h4 h5 h6 h7=>by
  by_cases g:i<j
  ·exact Q i j k h0 g h3 h5 (.inl ⟨h6,h7⟩)
  ·exact Q j i k h1 (by omega) h2 h5 (.inr ⟨h6,h7⟩)
 have up1:∀i j,i<j→j<c→f j<f i→r<f i:=fun i j h1 h2 h3=>by
  rcases r4 with e|⟨a,b,g1,g2,g3,e⟩|⟨a,b,g1,g2,g3,g4,e⟩
  ·have:=pos i (by omega);omega
  ·by_cases g:r<f i
   ·exact g
   ·exfalso
    by_cases ea:a=i
    ·subst ea;exact P' a j b h1 g1 (fun q=>by subst q;omega) h2 g2 h3 g3
    ·by_cases la:a<i
     ·by_cases ne:f i=f a
      ·exact inj a i la (by omega) ne.symm
      ·exact P' a i b la g1 (fun q=>by subst q;omega) (by omega) g2 (by omega) g3
     ·by_cases ne:f i=f a
      ·exact inj i a (by omega) (by omega) ne
      ·exact P' i j a h1 (by omega) (fun q=>by subst q;omega) h2 (by omega) h3 (by omega)
  ·by_cases g:r<f i
   ·exact g
   ·have n1:=inj i b (by omega) (by omega)
    exact absurd (And.intro h3 (And.intro (by omega) g4)) (H1 i j a b h1 (by omega) g2 g3)
 have up2:∀i j,c≤i→i<j→j<n→f i<f j→r<f j:=fun i j h0 h1 h2 h3=>by
  rcases r4 with e|⟨a,b,g1,g2,g3,e⟩|⟨a,b,g1,g2,g3,g4,e⟩
  ·have:=pos j (by omega);omega
  ·by_cases g:r<f j
   ·exact g
   ·have n1:=inj a j (by omega) (by omega)
    exact absurd (And.intro h3 (And.intro (by omega) g3)) (H2 a b i j g1 (by omega) h1 h2)
  ·by_cases g:r<f j
   ·exact g
   ·exfalso
    by_cases ea:b=j
    ·subst ea;exact Q' i a b h0 g1 h1 g2 (fun q=>by subst q;omega) h2 h3 g4
    ·by_cases lb:b<j
     ·by_cases ne:f b=f j
      ·exact inj b j lb h2 ne
      ·exact Q' i b j h0 (by omega) h1 lb (fun q=>by subst q;omega) h2 h3 (by omega)
     ·by_cases ne:f b=f j
      ·exact inj j b (by omega) g3 ne.symm
      ·exact Q' j a b (by omega) g1 (by omega) g2 (fun q=>by subst q;omega) g3 (by omega) g4
 refine⟨c,r,hc,r1,r2,fun i k hik hk=>⟨fun hkc=>⟨fun h1 h2=> ?_,fun h1 h2=> ?_⟩,fun hci=>⟨fun h1 h2=> ?_,fun h1 h2=> ?_⟩⟩⟩
 ·have n1:=inj i k hik hk
  by_cases g:f k<f i
  ·exact g
  ·have:=r3 i (by omega) (.inl ⟨i,k,hik,hkc,by omega,rfl⟩);omega
 ·have n1:=inj i k hik hk
  by_cases g:f i<f k
  ·exact g
  ·have:=up1 i k hik hkc (by omega);omega
 ·have n1:=inj i k hik hk
  by_cases g:f i<f k
  ·exact g
  ·have:=r3 k hk (.inr ⟨i,k,hci,hik,hk,by omega,rfl⟩);omega
 ·have n1:=inj i k hik hk
  by_cases g:f k<f i
  ·exact g
  ·have:=up2 i k hci hik hk (by omega);omega
def grX:List (List Int):=[[-1,1],[1, -1]]
theorem prt_1 {c x:Int}:prtI [c] x=if c<x then 1 else 0:=by
 rw[prt_cnt]
 by_cases h:c<x<;>simp[cntLt,bitI,h]
theorem fG_X {p:List Int} {c r:Int} {k:Nat}:fG grX [c] [r] p k=if r<p.getD k 0 then(if c<(k:Int)+1 then 1 else -1)else if c<(k:Int)+1 then -1 else 1:=by
 unfold fG grX
 rw[prt_1,prt_1]
 generalize p.getD k 0=y
 by_cases h1:r<y<;>by_cases h2:c<(k:Int)+1<;>simp only[h1,h2,if_true,if_false]<;>rfl
theorem ok_X {p:List Int} {c r:Int} {k:Nat}:okK p grX [c] [r] k↔∀i:Nat,i<k→((i:Int)+1≤c↔(k:Int)+1≤c)→(p.getD i 0≤r↔p.getD k 0≤r)→(p.getD i 0<p.getD k 0↔(r<p.getD k 0↔c<(k:Int)+1)):=by
 have e:∀{a x y:Int},((if a<x then(1:Int)else 0)=if a<y then 1 else 0)↔(x≤a↔y≤a):=fun {a x y}=>by
  split<;>split<;>simp<;>omega
 unfold okK fS
 rw[fG_X]
 simp only[prt_1,e]
 constructor
 ·rintro⟨_,h⟩ i hi h1 h2
  rw[h i hi ⟨h1,h2⟩]
  generalize p.getD k 0=y
  by_cases g1:r<y<;>by_cases g2:c<(k:Int)+1<;>simp[g1,g2]
 ·intro h
  refine⟨by split<;>split<;>decide,fun i hi ⟨h1,h2⟩=> ?_⟩
  rw[h i hi h1 h2]
  generalize p.getD k 0=y
  by_cases g1:r<y<;>by_cases g2:c<(k:Int)+1<;>simp[g1,g2]
theorem has_4 {p:List Int} {a b c d:Int}:hasB p [a,b,c,d]=true↔∃i j k l,i<j∧j<k∧k<l∧l<p.length∧(a<b↔p.getD i 0<p.getD j 0)∧(a<c↔p.getD i 0<p.getD k 0)∧(a<d↔p.getD i 0<p.getD l 0)∧(b<c↔p.getD j 0<p.getD k 0)∧(b<d↔p.getD j 0<p.getD l 0)∧(c<d↔p.getD k 0<p.getD l 0):=by
 rw[hasB_iff]
 constructor
 ·rintro⟨C,hl,h1,h2,h3⟩
  match C,hl with
  |[i,j,k,l],_=>
   simp only[List.pairwise_cons,List.mem_cons,List.not_mem_nil,or_false,forall_eq_or_imp,forall_eq]at h1 h2
   exact⟨i,j,k,l,h1.1.1,h1.2.1.1,h1.2.2.1,h2.2.2.2,h3 0 1 (by decide) (by simp),h3 0 2 (by decide) (by simp),h3 0 3 (by decide) (by simp),h3 1 2 (by decide) (by simp),h3 1 3 (by decide) (by simp),h3 2 3 (by decide) (by simp)⟩
 ·rintro⟨i,j,k,l,h1,h2,h3,h4,e1,e2,e3,e4,e5,e6⟩
  refine⟨[i,j,k,l],rfl, ?_, ?_,fun x y hxy hy=> ?_⟩
  ·simp only[List.pairwise_cons,List.mem_cons,List.not_mem_nil,or_false,forall_eq_or_imp,forall_eq]
   refine⟨⟨h1,by omega,by omega⟩,⟨h2,by omega⟩,h3,fun _ h=>h.elim,List.Pairwise.nil⟩
  ·simp only[List.mem_cons,List.not_mem_nil,or_false,forall_eq_or_imp,forall_eq];omega
  ·simp only[List.length_cons,List.length_nil]at hy
   obtain⟨rfl,rfl⟩|⟨rfl,rfl⟩|⟨rfl,rfl⟩|⟨rfl,rfl⟩|⟨rfl,rfl⟩|⟨rfl,rfl⟩:x=0∧y=1∨x=0∧y=2∨x=0∧y=3∨x=1∧y=2∨x=1∧y=3∨x=2∧y=3:=by omega
   ·exact e1
   ·exact e2
   ·exact e3
   ·exact e4
   ·exact e5
   ·exact e6
theorem av_two {p a b:List Int}:avB [a,b] p=true↔hasB p a=false∧hasB p b=false:=by
 unfold avB;simp only[List.any_cons,List.any_nil,Bool.or_false,Bool.not_eq_true',Bool.or_eq_false_iff]
theorem skm_ok {p:List Int} (h:isPermB p=true):famB p skmT=(fndB p grX).2:=by
 obtain⟨h8,hp⟩:=isP_8 h
 have e:fndB p grX=fndG p grX:=by rw[fndB,h,show gridB grX=true by decide];rfl
 rw[famB_1 h,e,Bool.eq_iff_iff,fnd_iff h8,skmT,av_two]
 constructor
 ·rintro⟨a1,a2⟩
  have p1:=(permB_iff.1 hp).1
  obtain⟨c,r,c1,r1,r2,ok⟩:=skm_cr (f:=fun i=>p.getD i 0) (n:=p.length) (fun i j hij hj=>perm_ne' hp (by omega) hj (by omega)) (fun i hi=>p1 _ (getD_mem hi))
   (fun i j k l q1 q2 q3 q4 q=>by
    have:hasB p [2,1,4,3]=true:=has_4.2 ⟨i,j,k,l,q1,q2,q3,q4,by omega⟩
    rw[a1]at this;cases this)
   (fun i j k l q1 q2 q3 q4 q=>by
    have:hasB p [3,4,1,2]=true:=has_4.2 ⟨i,j,k,l,q1,q2,q3,q4,by omega⟩
    rw[a2]at this;cases this)
  refine⟨[(c:Int)],[r],gf_iff.2 fun k hk=>ok_X.2 fun i hi g1 g2=> ?_,rfl,rfl,rfl,rfl,by simpa using c1,by simpa using⟨r1,r2⟩⟩
  have n1:=perm_ne' hp (i:=i) (j:=k) (by omega) hk (by omega)
  obtain⟨o1,o2⟩:=ok i k hi hk
  by_cases hc:k<c
  ·obtain⟨o3,o4⟩:=o1 hc
   by_cases hr:r<p.getD k 0
   ·have:=o3 (by omega) hr;omega
   ·have:=o4 (by omega) (by omega);omega
  ·obtain⟨o3,o4⟩:=o2 (by omega)
   by_cases hr:r<p.getD k 0
   ·have:=o3 (by omega) hr;omega
   ·have:=o4 (by omega) (by omega);omega
 ·rintro⟨c,r,g,l1,l2,_,_,_,_⟩
  obtain⟨c,rfl⟩:=List.length_eq_one_iff.1 l1
  obtain⟨r,rfl⟩:=List.length_eq_one_iff.1 l2
  have ok:=fun {k:Nat} (hk:k<p.length)=>ok_X.1 (gf_iff.1 g k hk)
  constructor
  ·rw[Bool.eq_false_iff];intro hh
   obtain⟨i,j,k,l,q1,q2,q3,q4,e1,e2,e3,e4,e5,e6⟩:=has_4.1 hh
   have t1:=ok (show j<p.length by omega) i q1
   have t2:=ok q4 k q3
   have t3:=ok (show k<p.length by omega) i (by omega)
   have t4:=ok q4 j (by omega)
   clear ok
   generalize p.getD i 0=a at*
   generalize p.getD j 0=b at*
   generalize p.getD k 0=d at*
   generalize p.getD l 0=e at*
   omega
  ·rw[Bool.eq_false_iff];intro hh
   obtain⟨i,j,k,l,q1,q2,q3,q4,e1,e2,e3,e4,e5,e6⟩:=has_4.1 hh
   have t1:=ok (show j<p.length by omega) i q1
   have t2:=ok q4 k q3
   have t3:=ok (show k<p.length by omega) i (by omega)
   have t4:=ok q4 j (by omega)
   clear ok
   generalize p.getD i 0=a at*
   generalize p.getD j 0=b at*
   generalize p.getD k 0=d at*
   generalize p.getD l 0=e at*
   omega
theorem laws_big_c {m0:Bool} (b:List UInt8):Fun Tryz.prog 4 [(.sl (.lent m0) (List.map u8P (b)))] [(.bool (decide ((1048576:Int)<b.length)))]:=by
 refine fO sg0 [2] Tryz.func4 ?_
 refine dEa trivial ?_
 all_goals try (refine zlf ?_;repeat' first|exact zso|refine And.intro ?_ ?_|(refine zim ?_;intro zb hc)|(refine zin ?_;intro zb)|intro j')
 all_goals try refine zbx ?_
theorem laws_sameInts_c {m0 m1:Bool} (a b:List Int) (ha:a.length≤1099511627776) (hb:b.length≤1099511627776):Fun Tryz.prog 31 [(.sl (.lent m0) (List.map (PV.int .i64) (a))),(.sl (.lent m1) (List.map (PV.int .i64) (b)))] [(.bool (decide (a=b)))]:=by
 refine fO sg0 [4] Tryz.func31 ?_
 refine dE trivial ?_
 all_goals try (refine zlf ?_;repeat' first|exact zso|refine And.intro ?_ ?_|(refine zim ?_;intro zb hc)|(refine zin ?_;intro zb)|intro j')
 all_goals try refine zbx ?_
 ·rw[decide_eq_false];intro e;subst e;exact hc rfl
 refine v_loopB (fun ms1 S1=>∃(k:Nat),S1.e 0=.p (.sl (.lent m0) (List.map (PV.int .i64) (a)))∧S1.e 1=.p (.sl (.lent m1) (List.map (PV.int .i64) (b)))∧S1.e 5=.p (.int .i64 (k))∧(k≤a.length)∧(a.take k=b.take k)∧ms1=a.length - k) ((fun(k:Nat)=>a.length - k) (0)) ?_ ⟨0,dIa trivial ?_⟩
 all_goals try (refine zlf ?_;repeat' first|exact zso|refine And.intro ?_ ?_|(refine zim ?_;intro zb hc)|(refine zin ?_;intro zb)|intro j')
 all_goals try refine zbx ?_
 rintro ms1 S1 ⟨k,h1_0,h1_1,h1_5,c1_0,c1_1,hm1⟩
 have fL1:=(And.intro h1_0 (And.intro h1_1 h1_5))
 refine dEa fL1 ?_
 all_goals try (refine zlf ?_;repeat' first|exact zso|refine And.intro ?_ ?_|(refine zim ?_;intro zb hc)|(refine zin ?_;intro zb)|intro j')
 all_goals try refine zbx ?_
 ·rw[decide_eq_false];intro e;subst e;exact hc rfl
 ·focus
   refine q_lp_n ((fun(k:Nat)=>a.length - k) (k+1)) (dC fL1 ?_) ⟨k+1,dC fL1 ?_⟩
   all_goals try (refine zlf ?_;repeat' first|exact zso|refine And.intro ?_ ?_|(refine zim ?_;intro zb hc)|(refine zin ?_;intro zb)|intro j')
   all_goals try refine zbx ?_
  rw[take_succ_iff (by omega) (by omega)];exact⟨c1_1,hc⟩
 ·rw[decide_eq_true]
  rw[List.take_of_length_le (by omega),List.take_of_length_le (by omega)]at c1_1;exact c1_1
def mxI:List Int→Int
 |[]=>0
 |x::l=>max x (mxI l)
theorem mxI_snoc {x:Int} (hx:0≤x):∀{l:List Int},mxI (l++[x])=max (mxI l) x
 |[]=>by simp only[List.nil_append,mxI];omega
 |y::l=>by rw[List.cons_append,mxI,mxI,mxI_snoc hx];omega
theorem mxI_ge:∀{l:List Int},0≤mxI l∧∀x∈l,x≤mxI l
 |[]=>by simp[mxI]
 |y::l=>by
  have h:=mxI_ge (l:=l)
  rw[mxI]
  refine⟨by omega,fun x hx=> ?_⟩
  rcases List.mem_cons.1 hx with q|q
  ·omega
  ·have:=h.2 x q;omega
theorem mxI_le {B:Int} (hB:0≤B):∀{l:List Int},(∀x∈l,x≤B)→mxI l≤B
 |[],_=>hB
 |y::l,h=>by
  have h1:=h y List.mem_cons_self
  have h2:=mxI_le hB fun x hx=>h x (List.mem_cons_of_mem _ hx)
  rw[mxI];omega
def geC (c:Int):List Int→Int
 |[]=>0
 |x::l=>bitI (decide (c≤x))+geC c l
theorem geC_snoc {c x:Int}:∀{l:List Int},geC c (l++[x])=geC c l+bitI (decide (c≤x))
 |[]=>by simp[geC]
 |y::l=>by rw[List.cons_append,geC,geC,geC_snoc];omega
theorem geC_r {c:Int}:∀{l:List Int},0≤geC c l∧geC c l≤l.length
 |[]=>by simp[geC]
 |y::l=>by have:=geC_r (c:=c) (l:=l);have:=bitI_r (decide (c≤y));rw[geC,List.length_cons];omega
theorem geC_0 {c:Int} (hc:1≤c):∀{l:List Int},geC c l=0↔mxI l<c
 |[]=>by simp[geC,mxI];omega
 |y::l=>by
  have ih:=geC_0 hc (l:=l)
  have h1:=geC_r (c:=c) (l:=l)
  rw[geC,mxI]
  by_cases h:c≤y
  ·rw[decide_eq_true h,bitI,if_pos rfl];omega
  ·rw[decide_eq_false h,bitI,if_neg (by decide)];omega
def tfB (f:List Int):Bool:=decide (f.length≤100)&&f.all fun x=>decide (1≤x)&&decide (x≤100)
def tfG (f:List Int) (k:Nat):List Int:=(List.range k).map fun c:Nat=>geC ((c:Int)+1) f
def tfL (f:List Int):List Int:=if tfB f then tfG f (mxI f).toNat else[]
theorem tfG_succ {f:List Int} {k:Nat}:tfG f (k+1)=tfG f k++[geC ((k:Int)+1) f]:=by simp[tfG,List.range_succ]
theorem tfG_len {f:List Int} {k:Nat}:(tfG f k).length=k:=by simp[tfG]
theorem tfB_iff {f:List Int}:tfB f=true↔f.length≤100∧∀x∈f,1≤x∧x≤100:=by
 simp[tfB,List.all_eq_true]
theorem spec_TurnedForm_c {m0:Bool} (f:List Int) (hl:f.length≤1048576):Fun Tryz.prog 32 [(.sl (.lent m0) (List.map (PV.int .i64) (f)))] [(.sl .own (List.map (PV.int .i64) (tfL f)))]:=by
 by_cases hb:tfB f=true
 ·have e1:tfL f=tfG f (mxI f).toNat:=if_pos hb
  obtain⟨h8,hr⟩:=tfB_iff.1 hb
  have hm:mxI f≤100:=mxI_le (by omega) fun x hx=>(hr x hx).2
  have hm0:=(mxI_ge (l:=f)).1
  rw[e1]
  refine fO sg0 [2] Tryz.func32 ?_
  have cE1:= @spec_l1In_c;have cE2:= @spec_l1Max_c;have cE3:= @spec_l1Bit_c
  refine dEa trivial ?_
  all_goals try (refine zlf ?_;repeat' first|exact zso|refine And.intro ?_ ?_|(refine zim ?_;intro zb hc)|(refine zin ?_;intro zb)|intro j')
  all_goals try refine zbx ?_
  refine v_loopB (fun ms1 S1=>∃(i:Nat),S1.e 0=.p (.sl (.lent m0) (List.map (PV.int .i64) (f)))∧S1.e 3=.p (.int .i64 (mxI (f.take i)))∧S1.e 4=.p (.int .i64 (i))∧(i≤f.length)∧ms1=f.length - i) ((fun(i:Nat)=>f.length - i) (0)) ?_ ⟨0,dC trivial ?_⟩
  all_goals try (refine zlf ?_;repeat' first|exact zso|refine And.intro ?_ ?_|(refine zim ?_;intro zb hc)|(refine zin ?_;intro zb)|intro j')
  all_goals try refine zbx ?_
  rintro ms1 S1 ⟨i,h1_0,h1_3,h1_4,c1_0,hm1⟩
  have fL1:=(And.intro h1_0 (And.intro h1_3 h1_4))
  ·by_cases hi:i<f.length
   ·have hx:=hr _ (getD_mem (d:=0) hi)
    have s1:f.take (i+1)=f.take i++[f.getD i 0]:=take_getD hi
    have g3:(decide (1≤f.getD i 0)&&decide (f.getD i 0≤100))=true:=by rw[decide_eq_true hx.1,decide_eq_true hx.2];rfl
    refine dEa (And.intro fL1 @g3) ?_
    all_goals try (refine zlf ?_;repeat' first|exact zso|refine And.intro ?_ ?_|(refine zim ?_;intro zb hc)|(refine zin ?_;intro zb)|intro j')
    all_goals try refine zbx ?_
    focus
     refine q_lp_n ((fun(i:Nat)=>f.length - i) (i+1)) (dC fL1 ?_) ⟨i+1,dC fL1 ?_⟩
     all_goals try (refine zlf ?_;repeat' first|exact zso|refine And.intro ?_ ?_|(refine zim ?_;intro zb hc)|(refine zin ?_;intro zb)|intro j')
     all_goals try refine zbx ?_
    rw[s1,mxI_snoc (by omega)]
   ·have tk:List.take i f=f:=List.take_of_length_le (by omega)
    refine dEa (And.intro fL1 @tk) ?_
    all_goals try (refine zlf ?_;repeat' first|exact zso|refine And.intro ?_ ?_|(refine zim ?_;intro zb hc)|(refine zin ?_;intro zb)|intro j')
    all_goals try refine zbx ?_
    refine v_loopB (fun ms2 S2=>∃(k:Nat),S2.e 0=.p (.sl (.lent m0) (List.map (PV.int .i64) (f)))∧S2.e 3=.p (.int .i64 (mxI f))∧OwnL (S2.e 5) S2.h S2.n (PV.int .i64) ((tfG f k).length) (tfG f k)∧S2.e 6=.p (.int .i64 ((k+1)))∧((k:Int)≤mxI f)∧S1.n≤S2.n∧ms2=101 - k) ((fun(k:Nat)=>101 - k) (0)) ?_ ⟨0,dC fL1 ?_⟩
    all_goals try (refine zlf ?_;repeat' first|exact zso|refine And.intro ?_ ?_|(refine zim ?_;intro zb hc)|(refine zin ?_;intro zb)|intro j')
    all_goals try refine zbx ?_
    rintro ms2 S2 ⟨k,h2_0,h2_3,o2_5,h2_6,c2_0,u2_0,hm2⟩
    obtain⟨i2_5,h2_5,b2_5,l2_5⟩:=o2_5.out
    have ni2_5:=znds (x:=i2_5) (n:=S2.n)
    have fL2:=(And.intro h2_0 (And.intro h2_3 (And.intro h2_6 (And.intro h2_5 (And.intro b2_5 ni2_5)))))
    ·have b1:=tfG_len (f:=f) (k:=k)
     refine dEa fL2 ?_
     all_goals try (refine zlf ?_;repeat' first|exact zso|refine And.intro ?_ ?_|(refine zim ?_;intro zb hc)|(refine zin ?_;intro zb)|intro j')
     all_goals try refine zbx ?_
     ·refine v_loopB (fun ms3 S3=>∃(i:Nat),S3.e 0=.p (.sl (.lent m0) (List.map (PV.int .i64) (f)))∧S3.e 3=.p (.int .i64 (mxI f))∧OwnL (S3.e 5) S3.h S3.n (PV.int .i64) ((tfG f k).length) (tfG f k)∧S3.e 6=.p (.int .i64 ((k+1)))∧S3.e 7=.p (.int .i64 (geC ((k:Int)+1) (f.take i)))∧S3.e 8=.p (.int .i64 (i))∧(i≤f.length)∧((k:Int)+1≤mxI f)∧S2.n≤S3.n∧ms3=f.length - i) ((fun(i:Nat)=>f.length - i) (0)) ?_ ⟨0,dC fL2 ?_⟩
      all_goals try (refine zlf ?_;repeat' first|exact zso|refine And.intro ?_ ?_|(refine zim ?_;intro zb hc)|(refine zin ?_;intro zb)|intro j')
      all_goals try refine zbx ?_
      rintro ms3 S3 ⟨i,h3_0,h3_3,o3_5,h3_6,h3_7,h3_8,c3_0,c3_1,u3_0,hm3⟩
      obtain⟨i3_5,h3_5,b3_5,l3_5⟩:=o3_5.out
      have ni3_5:=znds (x:=i3_5) (n:=S3.n)
      have fL3:=(And.intro h3_0 (And.intro h3_3 (And.intro h3_6 (And.intro h3_7 (And.intro h3_8 (And.intro h3_5 (And.intro b3_5 ni3_5)))))))
      ·have b2:=geC_r (c:=(k:Int)+1) (l:=f.take i)
       have b3:=bitI_r (decide ((k:Int)+1≤f.getD i 0))
       rw[List.length_take]at b2
       by_cases hi:i<f.length
       ·have s1:f.take (i+1)=f.take i++[f.getD i 0]:=take_getD hi
        refine dEa fL3 ?_
        all_goals try (refine zlf ?_;repeat' first|exact zso|refine And.intro ?_ ?_|(refine zim ?_;intro zb hc)|(refine zin ?_;intro zb)|intro j')
        all_goals try refine zbx ?_
        focus
         refine q_lp_n ((fun(i:Nat)=>f.length - i) (i+1)) (dC fL3 ?_) ⟨i+1,dC fL3 ?_⟩
         all_goals try (refine zlf ?_;repeat' first|exact zso|refine And.intro ?_ ?_|(refine zim ?_;intro zb hc)|(refine zin ?_;intro zb)|intro j')
         all_goals try refine zbx ?_
        rw[s1,geC_snoc]
       ·have tk:List.take i f=f:=List.take_of_length_le (by omega)
        rw[tk]at b2
        refine dEa (And.intro fL3 @tk) ?_
        all_goals try (refine zlf ?_;repeat' first|exact zso|refine And.intro ?_ ?_|(refine zim ?_;intro zb hc)|(refine zin ?_;intro zb)|intro j')
        all_goals try refine zbx ?_
        focus
         refine q_lp_n ((fun(k:Nat)=>101 - k) (k+1)) (dC fL3 ?_) ⟨k+1,dC fL3 ?_⟩
         all_goals try (refine zlf ?_;repeat' first|exact zso|refine And.intro ?_ ?_|(refine zim ?_;intro zb hc)|(refine zin ?_;intro zb)|intro j')
         all_goals try refine zbx ?_
        all_goals(try rw[tk])
        all_goals(first|(rw[tfG_succ];done)|(rw[tfG_succ];simp;done)|skip)
        all_goals trace_state
     ·obtain rfl:k=(mxI f).toNat:=by omega
      rfl
    all_goals(try rw[tk])
 ·have e1:tfL f=[]:=by rw[tfL,if_neg hb]
  rw[e1]
  have h1:100<f.length∨∃i,i<f.length∧¬(1≤f.getD i 0∧f.getD i 0≤100):=by
   refine Classical.byContradiction fun h=>hb (tfB_iff.2 ⟨by omega,fun x hx=> ?_⟩)
   obtain⟨i,hi,rfl⟩:=List.getElem_of_mem hx
   refine Classical.byContradiction fun g=>h (.inr ⟨i,hi, ?_⟩)
   rw[List.getD_eq_getElem?_getD,List.getElem?_eq_getElem hi];exact g
  refine fO sg0 [2] Tryz.func32 ?_
  have cE1:= @spec_l1In_c;have cE2:= @spec_l1Max_c;have cE3:= @spec_l1Bit_c
  refine dEa trivial ?_
  all_goals try (refine zlf ?_;repeat' first|exact zso|refine And.intro ?_ ?_|(refine zim ?_;intro zb hc)|(refine zin ?_;intro zb)|intro j')
  all_goals try refine zbx ?_
  refine v_loopB (fun ms1 S1=>∃(i:Nat),S1.e 0=.p (.sl (.lent m0) (List.map (PV.int .i64) (f)))∧S1.e 3=.p (.int .i64 (mxI (f.take i)))∧S1.e 4=.p (.int .i64 (i))∧(i≤f.length)∧(0<i→f.length≤100)∧(∀j,j<i→1≤f.getD j 0∧f.getD j 0≤100)∧ms1=f.length - i) ((fun(i:Nat)=>f.length - i) (0)) ?_ ⟨0,dC trivial ?_⟩
  all_goals try (refine zlf ?_;repeat' first|exact zso|refine And.intro ?_ ?_|(refine zim ?_;intro zb hc)|(refine zin ?_;intro zb)|intro j')
  all_goals try refine zbx ?_
  rintro ms1 S1 ⟨i,h1_0,h1_3,h1_4,c1_0,c1_1,c1_2,hm1⟩
  have fL1:=(And.intro h1_0 (And.intro h1_3 h1_4))
  ·by_cases hi:i<f.length
   ·by_cases hx:1≤f.getD i 0∧f.getD i 0≤100
    ·have s1:f.take (i+1)=f.take i++[f.getD i 0]:=take_getD hi
     have g3:(decide (1≤f.getD i 0)&&decide (f.getD i 0≤100))=true:=by rw[decide_eq_true hx.1,decide_eq_true hx.2];rfl
     refine dEa (And.intro fL1 @g3) ?_
     all_goals try (refine zlf ?_;repeat' first|exact zso|refine And.intro ?_ ?_|(refine zim ?_;intro zb hc)|(refine zin ?_;intro zb)|intro j')
     all_goals try refine zbx ?_
     focus
      refine q_lp_n ((fun(i:Nat)=>f.length - i) (i+1)) (dC fL1 ?_) ⟨i+1,dC fL1 ?_⟩
      all_goals try (refine zlf ?_;repeat' first|exact zso|refine And.intro ?_ ?_|(refine zim ?_;intro zb hc)|(refine zin ?_;intro zb)|intro j')
      all_goals try refine zbx ?_
     ·rw[s1,mxI_snoc (by omega)]
     ·intro j hj
      by_cases e:j=i
      ·rw[e];exact hx
      ·exact c1_2 j (by omega)
    ·have g3:(decide (1≤f.getD i 0)&&decide (f.getD i 0≤100))=false:=by
      rw[Bool.eq_false_iff];intro h
      rw[Bool.and_eq_true,decide_eq_true_eq,decide_eq_true_eq]at h
      exact hx h
     refine dEa (And.intro fL1 @g3) ?_
     all_goals try (refine zlf ?_;repeat' first|exact zso|refine And.intro ?_ ?_|(refine zim ?_;intro zb hc)|(refine zin ?_;intro zb)|intro j')
     all_goals try refine zbx ?_
   ·exfalso
    rcases h1 with g|⟨j,g1,g2⟩
    ·have:=c1_1 (by omega);omega
    ·exact g2 (c1_2 j (by omega))
def atI (L:List Int) (x:Int):Nat→Nat
 |0=>0
 |k+1=>if x<L.getD k 0 then atI L x k else k+1
theorem atI_spec {L:List Int} {p:Int}:∀{k:Nat},atI L p k≤k∧(∀i,atI L p k≤i→i<k→p<L.getD i 0)∧(atI L p k=0∨¬p<L.getD (atI L p k - 1) 0)
 |0=>⟨Nat.le_refl _,fun i _ h=>absurd h (by omega),.inl rfl⟩
 |k+1=>by
  rw[atI]
  by_cases e:p<L.getD k 0
  ·rw[if_pos e]
   obtain⟨h1,h2,h3⟩:=atI_spec (L:=L) (p:=p) (k:=k)
   refine⟨by omega,fun i hi hk=> ?_,h3⟩
   by_cases q:i=k
   ·subst q;exact e
   ·exact h2 i hi (by omega)
  ·rw[if_neg e]
   exact⟨Nat.le_refl _,fun i hi hk=>by omega,.inr e⟩
def inkI (L:List Int) (x:Int) (j:Nat):List Int:=L.take j++x::L.drop j
def insI (L:List Int) (x:Int):List Int:=inkI L x (atI L x L.length)
def srtI (L:List Int):List Int:=L.foldl insI []
theorem insI_perm {L:List Int} {x:Int}:(insI L x).Perm (x::L):=by
 unfold insI inkI
 refine List.perm_middle.trans ?_
 rw[List.take_append_drop]
theorem srt_perm (L:List Int):∀{A:List Int},(L.foldl insI A).Perm (L++A):=by
 induction L with
 |nil=>intro A;exact List.Perm.refl _
 |cons y l ih=>
  intro A
  rw[List.foldl_cons]
  refine(ih).trans ((List.Perm.append_left l insI_perm).trans ?_)
  exact List.perm_middle
theorem srtI_perm {L:List Int}:(srtI L).Perm L:=by
 have:=srt_perm L (A:=[])
 rw[List.append_nil]at this;exact this
theorem srtI_len {L:List Int}:(srtI L).length=L.length:=srtI_perm.length_eq
theorem pwI_get {L:List Int} (h:L.Pairwise (·≤·)) {i j:Nat} (hij:i<j) (hj:j<L.length):L.getD i 0≤L.getD j 0:=by
 rw[List.pairwise_iff_getElem]at h
 have:=h i j (by omega) hj hij
 rw[List.getD_eq_getElem?_getD,List.getD_eq_getElem?_getD,List.getElem?_eq_getElem (by omega),List.getElem?_eq_getElem hj]
 exact this
theorem insI_pw {L:List Int} {x:Int} (h:L.Pairwise (·≤·)):(insI L x).Pairwise (·≤·):=by
 obtain⟨h1,h2,h3⟩:=atI_spec (L:=L) (p:=x) (k:=L.length)
 have q:=h
 rw[←List.take_append_drop (atI L x L.length) L,List.pairwise_append]at q
 unfold insI inkI
 rw[List.pairwise_append,List.pairwise_cons]
 have lo:∀y∈L.take (atI L x L.length),y≤x:=fun y hy=>by
  obtain⟨i,hi,e⟩:=List.getElem_of_mem hy
  simp only[List.length_take]at hi
  rw[List.getElem_take]at e
  have e2:L.getD i 0=y:=by rw[List.getD_eq_getElem?_getD,List.getElem?_eq_getElem (by omega)];exact e
  rcases h3 with h3|h3
  ·omega
  ·by_cases q:i=atI L x L.length - 1
   ·rw[←q]at h3;omega
   ·have:=pwI_get h (i:=i) (j:=atI L x L.length - 1) (by omega) (by omega);omega
 have hi:∀y∈L.drop (atI L x L.length),x≤y:=fun y hy=>by
  obtain⟨i,hi,e⟩:=List.getElem_of_mem hy
  simp only[List.length_drop]at hi
  rw[List.getElem_drop]at e
  have e2:L.getD (atI L x L.length+i) 0=y:=by rw[List.getD_eq_getElem?_getD,List.getElem?_eq_getElem (by omega)];exact e
  have:=h2 (atI L x L.length+i) (by omega) (by omega)
  omega
 refine⟨q.1,⟨hi,q.2.1⟩,fun a ha b hb=> ?_⟩
 rcases List.mem_cons.1 hb with rfl|hb
 ·exact lo a ha
 ·exact q.2.2 a ha b hb
theorem srt_pw (L:List Int):∀{A:List Int},A.Pairwise (·≤·)→(L.foldl insI A).Pairwise (·≤·):=by
 induction L with
 |nil=>exact fun h=>h
 |cons x l ih=>exact fun h=>ih (insI_pw h)
theorem srtI_pw {L:List Int}:(srtI L).Pairwise (·≤·):=srt_pw L List.Pairwise.nil
theorem pw_eq:∀{A B:List Int},A.Pairwise (·≤·)→B.Pairwise (·≤·)→A.Perm B→A=B
 |[],B,_,_,h=>by have:=h.length_eq;cases B;rfl;simp at this
 |a::A,[],_,_,h=>by have:=h.length_eq;simp at this
 |a::A,b::B,ha,hb,h=>by
  have pa:=List.pairwise_cons.1 ha
  have pb:=List.pairwise_cons.1 hb
  have e:a=b:=by
   have h1:a∈b::B:=h.subset (by simp)
   have h2:b∈a::A:=h.symm.subset (by simp)
   rcases List.mem_cons.1 h1 with q|q
   ·exact q
   ·rcases List.mem_cons.1 h2 with q2|q2
    ·exact q2.symm
    ·have:=pa.1 _ q2;have:=pb.1 _ q;omega
  subst e
  rw[pw_eq pa.2 pb.2 (List.perm_cons a |>.1 h)]
theorem srt_filter {C:List Int} (h:∀x∈C,0≤x):(srtI C).filter (fun x=>decide (0<x))=srtI (C.filter fun x=> !decide (x=0)):=by
 refine pw_eq (List.Pairwise.filter _ srtI_pw) srtI_pw ?_
 refine(List.Perm.filter _ srtI_perm).trans ?_
 have e:C.filter (fun x=>decide (0<x))=C.filter fun x=> !decide (x=0):=by
  refine List.filter_congr fun x hx=> ?_
  have:=h x hx
  by_cases q:x=0
  ·subst q;rfl
  ·simp[q];omega
 rw[e];exact srtI_perm.symm
theorem atI_uniq {L:List Int} {p:Int}:∀{k j:Nat},j≤k→(∀q,j≤q→q<k→p<L.getD q 0)→(0<j→¬p<L.getD (j - 1) 0)→atI L p k=j
 |0,j,h,_,_=>by rw[atI];omega
 |k+1,j,h,h1,h2=>by
  rw[atI]
  by_cases e:j=k+1
  ·subst e
   have:=h2 (by omega)
   rw[Nat.add_sub_cancel]at this
   rw[if_neg this]
  ·rw[if_pos (h1 k (by omega) (by omega))]
   exact atI_uniq (by omega) (fun q a b=>h1 q a (by omega)) h2
theorem srtI_snoc {L:List Int} {i:Nat} (h:i<L.length):srtI (L.take (i+1))=insI (srtI (L.take i)) (L.getD i 0):=by
 rw[take_getD (d:=0) h];unfold srtI;rw[List.foldl_append];rfl
theorem srtI_tl {L:List Int} {i:Nat} (h:i≤L.length):(srtI (L.take i)).length=i:=by
 rw[srtI_len,List.length_take];omega
def kpI (p:Int→Bool) (L:List Int):List Int:=L.filter fun x=> !p x
theorem tki_mid {L D:List Int} {p:Int} {j:Nat} (h:j≤L.length):List.take (j+1) (L.take j++p::D)=L.take j++[p]:=by
 rw[List.take_append,List.take_of_length_le (by simp;omega),List.length_take,Nat.min_eq_left h,Nat.add_sub_cancel_left];rfl
theorem insI_at {L:List Int} {p:Int} {j:Nat} (h1:j≤L.length) (h2:∀q,j≤q→q<L.length→p<L.getD q 0) (h3:0<j→¬p<L.getD (j - 1) 0):insI L p=L.take j++p::L.drop j:=by
 rw[insI,atI_uniq h1 h2 h3];rfl
theorem spec_l15Sort_c {m0:Bool} (l:List Int) (hl:l.length≤1000):Fun Tryz.prog 74 [(.sl (.lent m0) (List.map (PV.int .i64) (l)))] [(.sl .own (List.map (PV.int .i64) (srtI l)))]:=by
 refine fO sg0 [2] Tryz.func74 ?_
 have cD1:=zdh [false,false,false,false,false,false,false,true,true,false,true,false] [(0,7),(1,7),(2,7),(7,9),(8,9)]
 refine dEa trivial ?_
 all_goals try (refine zlf ?_;repeat' first|exact zso|refine And.intro ?_ ?_|(refine zim ?_;intro zb hc)|(refine zin ?_;intro zb)|intro j')
 all_goals try refine zbx ?_
 refine v_loopB (fun ms1 S1=>∃(k:Nat),S1.e 0=.p (.sl (.lent m0) (List.map (PV.int .i64) (l)))∧OwnL (S1.e 3) S1.h S1.n (PV.int .i64) ((srtI (l.take k)).length) (srtI (l.take k))∧S1.e 4=.p (.int .i64 (k))∧(k≤l.length)∧ms1=l.length - k) ((fun(k:Nat)=>l.length - k) (0)) ?_ ⟨0,dC trivial ?_⟩
 all_goals try (refine zlf ?_;repeat' first|exact zso|refine And.intro ?_ ?_|(refine zim ?_;intro zb hc)|(refine zin ?_;intro zb)|intro j')
 all_goals try refine zbx ?_
 rintro ms1 S1 ⟨k,h1_0,o1_3,h1_4,c1_0,hm1⟩
 obtain⟨i1_3,h1_3,b1_3,l1_3⟩:=o1_3.out
 have ni1_3:=znds (x:=i1_3) (n:=S1.n)
 have fL1:=(And.intro h1_0 (And.intro h1_4 (And.intro h1_3 (And.intro b1_3 ni1_3))))
 ·have e0:=srtI_tl (L:=l) (i:=k) (by omega)
  refine dEa (And.intro fL1 @e0) ?_
  all_goals try (refine zlf ?_;repeat' first|exact zso|refine And.intro ?_ ?_|(refine zim ?_;intro zb hc)|(refine zin ?_;intro zb)|intro j')
  all_goals try refine zbx ?_
  ·refine v_loopB (fun ms2 S2=>∃(j:Nat),S2.e 0=.p (.sl (.lent m0) (List.map (PV.int .i64) (l)))∧OwnL (S2.e 3) S2.h S2.n (PV.int .i64) ((srtI (l.take k)).length) (srtI (l.take k))∧S2.e 4=.p (.int .i64 (k))∧S2.e 5=.p (.int .i64 (j))∧(j≤k)∧(k<l.length)∧(∀q,j≤q→q<(srtI (l.take k)).length→l.getD k 0<(srtI (l.take k)).getD q 0)∧S1.n≤S2.n∧ms2=j) ((fun(j:Nat)=>j) (k)) ?_ ⟨k,dC fL1 ?_⟩
   all_goals try (refine zlf ?_;repeat' first|exact zso|refine And.intro ?_ ?_|(refine zim ?_;intro zb hc)|(refine zin ?_;intro zb)|intro j')
   all_goals try refine zbx ?_
   rintro ms2 S2 ⟨j,h2_0,o2_3,h2_4,h2_5,c2_0,c2_1,c2_2,u2_0,hm2⟩
   obtain⟨i2_3,h2_3,b2_3,l2_3⟩:=o2_3.out
   have ni2_3:=znds (x:=i2_3) (n:=S2.n)
   have fL2:=(And.intro h2_0 (And.intro h2_4 (And.intro h2_5 (And.intro h2_3 (And.intro b2_3 ni2_3)))))
   ·have e1:((j:Int) - 1).toNat=j - 1:=by omega
    have e3:List.take (k - j) (List.drop j (srtI (l.take k)))=(srtI (l.take k)).drop j:=List.take_of_length_le (by simp;omega)
    generalize hS:srtI (l.take k)=S at*
    have dn:(∀q,j≤q→q<S.length→l.getD k 0<S.getD q 0)→l.getD k 0<S.getD (j - 1) 0→∀q,j - 1≤q→q<S.length→l.getD k 0<S.getD q 0:=fun h2 h3 q a b=>by
     by_cases e:q=j - 1
     ·rw[e];exact h3
     ·exact h2 q (by omega) b
    by_cases hj:0<j
    ·have gg:((0:Int)<(j:Int))=True:=eq_true (by omega)
     by_cases h0:j=k
     ·have h0':=h0
      subst h0'
      have e4:List.drop j S=[]:=List.drop_of_length_le (by omega)
      have e5:List.take j S=S:=List.take_of_length_le (by omega)
      have f1:(j+1=(S++[l.getD j 0]).length)=True:=eq_true (by simp;omega)
      refine dEa (And.intro fL2 (And.intro @e0 (And.intro @e1 (And.intro @e3 (And.intro @e4 (And.intro @e5 (And.intro @f1 @gg))))))) ?_
      all_goals try (refine zlf ?_;repeat' first|exact zso|refine And.intro ?_ ?_|(refine zim ?_;intro zb hc)|(refine zin ?_;intro zb)|intro j')
      all_goals try refine zbx ?_
      ·focus
        refine q_lp_n ((fun(j:Nat)=>j) (j-1)) (dC fL2 ?_) ⟨j-1,dC fL2 ?_⟩
        all_goals try (refine zlf ?_;repeat' first|exact zso|refine And.intro ?_ ?_|(refine zim ?_;intro zb hc)|(refine zin ?_;intro zb)|intro j')
        all_goals try refine zbx ?_
       exact dn c2_2 hc
      ·focus
        refine q_lp_n ((fun(k:Nat)=>l.length - k) (j+1)) (dC fL2 ?_) ⟨j+1,dC fL2 ?_⟩
        all_goals try (refine zlf ?_;repeat' first|exact zso|refine And.intro ?_ ?_|(refine zim ?_;intro zb hc)|(refine zin ?_;intro zb)|intro j')
        all_goals try refine zbx ?_
       all_goals(rw[srtI_snoc (by omega),hS,insI_at (j:=j) (by omega) c2_2 (fun _=>by omega)])
       all_goals first|(simp;omega)|rw[e5,e4]
     ·have f0:(j=k)=False:=eq_false h0
      have f1:(j+1≤k)=True:=eq_true (by omega)
      have f2:(List.take j S++l.getD k 0::List.drop (j+1) S).length=k:=by simp;omega
      have f3:(List.drop j S).length=k - j:=by simp;omega
      by_cases h1:j+1=k
      ·have f4:(j+1=k)=True:=eq_true h1
       refine dEa (And.intro fL2 (And.intro @e0 (And.intro @e1 (And.intro @e3 (And.intro @f0 (And.intro @f1 (And.intro @f2 (And.intro @f3 (And.intro @f4 @gg))))))))) ?_
       all_goals try (refine zlf ?_;repeat' first|exact zso|refine And.intro ?_ ?_|(refine zim ?_;intro zb hc)|(refine zin ?_;intro zb)|intro j')
       all_goals try refine zbx ?_
       ·focus
         refine q_lp_n ((fun(j:Nat)=>j) (j-1)) (dC fL2 ?_) ⟨j-1,dC fL2 ?_⟩
         all_goals try (refine zlf ?_;repeat' first|exact zso|refine And.intro ?_ ?_|(refine zim ?_;intro zb hc)|(refine zin ?_;intro zb)|intro j')
         all_goals try refine zbx ?_
        exact dn c2_2 hc
       ·focus
         refine q_lp_n ((fun(k:Nat)=>l.length - k) (k+1)) (dC fL2 ?_) ⟨k+1,dC fL2 ?_⟩
         all_goals try (refine zlf ?_;repeat' first|exact zso|refine And.intro ?_ ?_|(refine zim ?_;intro zb hc)|(refine zin ?_;intro zb)|intro j')
         all_goals try refine zbx ?_
        all_goals(rw[srtI_snoc (by omega),hS,insI_at (j:=j) (by omega) c2_2 (fun _=>by omega)])
        all_goals first|(simp;omega)|rw[List.drop_of_length_le (i:=j+1) (by omega),List.nil_append]
      ·have f4:(j+1=k)=False:=eq_false h1
       have f5:(j+(1+(k - j))≤k)=False:=eq_false (by omega)
       refine dEa (And.intro fL2 (And.intro @e0 (And.intro @e1 (And.intro @e3 (And.intro @f0 (And.intro @f1 (And.intro @f2 (And.intro @f3 (And.intro @f4 (And.intro @f5 @gg)))))))))) ?_
       all_goals try (refine zlf ?_;repeat' first|exact zso|refine And.intro ?_ ?_|(refine zim ?_;intro zb hc)|(refine zin ?_;intro zb)|intro j')
       all_goals try refine zbx ?_
       ·focus
         refine q_lp_n ((fun(j:Nat)=>j) (j-1)) (dC fL2 ?_) ⟨j-1,dC fL2 ?_⟩
         all_goals try (refine zlf ?_;repeat' first|exact zso|refine And.intro ?_ ?_|(refine zim ?_;intro zb hc)|(refine zin ?_;intro zb)|intro j')
         all_goals try refine zbx ?_
        exact dn c2_2 hc
       ·focus
         refine q_lp_n ((fun(k:Nat)=>l.length - k) (k+1)) (dC fL2 ?_) ⟨k+1,dC fL2 ?_⟩
         all_goals try (refine zlf ?_;repeat' first|exact zso|refine And.intro ?_ ?_|(refine zim ?_;intro zb hc)|(refine zin ?_;intro zb)|intro j')
         all_goals try refine zbx ?_
        all_goals(rw[srtI_snoc (by omega),hS,insI_at (j:=j) (by omega) c2_2 (fun _=>by omega)])
        all_goals first|(simp;omega)|(rw[tki_mid (by omega),List.append_assoc];rfl)
    ·have gg:((0:Int)<(j:Int))=False:=eq_false (by omega)
     by_cases h0:j=k
     ·have h0':=h0
      subst h0'
      have e4:List.drop j S=[]:=List.drop_of_length_le (by omega)
      have e5:List.take j S=S:=List.take_of_length_le (by omega)
      have f1:(j+1=(S++[l.getD j 0]).length)=True:=eq_true (by simp;omega)
      refine dEa (And.intro fL2 (And.intro @e0 (And.intro @e1 (And.intro @e3 (And.intro @e4 (And.intro @e5 (And.intro @f1 @gg))))))) ?_
      all_goals try (refine zlf ?_;repeat' first|exact zso|refine And.intro ?_ ?_|(refine zim ?_;intro zb hc)|(refine zin ?_;intro zb)|intro j')
      all_goals try refine zbx ?_
      ·focus
        refine q_lp_n ((fun(k:Nat)=>l.length - k) (j+1)) (dC fL2 ?_) ⟨j+1,dC fL2 ?_⟩
        all_goals try (refine zlf ?_;repeat' first|exact zso|refine And.intro ?_ ?_|(refine zim ?_;intro zb hc)|(refine zin ?_;intro zb)|intro j')
        all_goals try refine zbx ?_
       all_goals(rw[srtI_snoc (by omega),hS,insI_at (j:=j) (by omega) c2_2 (fun h=>absurd h hj)])
       all_goals first|(simp;omega)|rw[e5,e4]
     ·have f0:(j=k)=False:=eq_false h0
      have f1:(j+1≤k)=True:=eq_true (by omega)
      have f2:(List.take j S++l.getD k 0::List.drop (j+1) S).length=k:=by simp;omega
      have f3:(List.drop j S).length=k - j:=by simp;omega
      by_cases h1:j+1=k
      ·have f4:(j+1=k)=True:=eq_true h1
       refine dEa (And.intro fL2 (And.intro @e0 (And.intro @e1 (And.intro @e3 (And.intro @f0 (And.intro @f1 (And.intro @f2 (And.intro @f3 (And.intro @f4 @gg))))))))) ?_
       all_goals try (refine zlf ?_;repeat' first|exact zso|refine And.intro ?_ ?_|(refine zim ?_;intro zb hc)|(refine zin ?_;intro zb)|intro j')
       all_goals try refine zbx ?_
       ·focus
         refine q_lp_n ((fun(k:Nat)=>l.length - k) (k+1)) (dC fL2 ?_) ⟨k+1,dC fL2 ?_⟩
         all_goals try (refine zlf ?_;repeat' first|exact zso|refine And.intro ?_ ?_|(refine zim ?_;intro zb hc)|(refine zin ?_;intro zb)|intro j')
         all_goals try refine zbx ?_
        all_goals(rw[srtI_snoc (by omega),hS,insI_at (j:=j) (by omega) c2_2 (fun h=>absurd h hj)])
        all_goals first|(simp;omega)|rw[List.drop_of_length_le (i:=j+1) (by omega),List.nil_append]
      ·have f4:(j+1=k)=False:=eq_false h1
       have f5:(j+(1+(k - j))≤k)=False:=eq_false (by omega)
       refine dEa (And.intro fL2 (And.intro @e0 (And.intro @e1 (And.intro @e3 (And.intro @f0 (And.intro @f1 (And.intro @f2 (And.intro @f3 (And.intro @f4 (And.intro @f5 @gg)))))))))) ?_
       all_goals try (refine zlf ?_;repeat' first|exact zso|refine And.intro ?_ ?_|(refine zim ?_;intro zb hc)|(refine zin ?_;intro zb)|intro j')
       all_goals try refine zbx ?_
       ·focus
         refine q_lp_n ((fun(k:Nat)=>l.length - k) (k+1)) (dC fL2 ?_) ⟨k+1,dC fL2 ?_⟩
         all_goals try (refine zlf ?_;repeat' first|exact zso|refine And.intro ?_ ?_|(refine zim ?_;intro zb hc)|(refine zin ?_;intro zb)|intro j')
         all_goals try refine zbx ?_
        all_goals(rw[srtI_snoc (by omega),hS,insI_at (j:=j) (by omega) c2_2 (fun h=>absurd h hj)])
        all_goals first|(simp;omega)|(rw[tki_mid (by omega),List.append_assoc];rfl)
  ·have e:List.take k l=l:=List.take_of_length_le (by omega)
   rw[e]
   exact List.take_of_length_le (by rw[srtI_len];omega)
def focL (p:List Int):List Int:=if isPermB p then(srtI (kpI (fun x=>decide (x=0)) (codeGo p))).reverse else[]
theorem codeGo_nn {p:List Int}:∀x∈codeGo p,0≤x:=fun x hx=>by
 obtain⟨i,hi,rfl⟩:=List.getElem_of_mem hx
 have:=(codeGo_at p i).1
 rw[List.getD_eq_getElem?_getD,List.getElem?_eq_getElem hi]at this;exact this
def posF (L:List Int):List Int:=L.filter fun x=>decide (0<x)
theorem posF_snoc {A:List Int} {x:Int}:posF (A++[x])=posF A++if 0<x then[x]else[]:=by
 unfold posF
 rw[List.filter_append,List.filter_cons]
 by_cases h:0<x<;>simp[h]
theorem foc_eq {p:List Int} (hp:isPermB p=true):posF (srtI (codeGo p)).reverse=focL p:=by
 rw[focL,if_pos hp,posF,List.filter_reverse,srt_filter codeGo_nn];rfl
theorem spec_FormOfCode_c {m0:Bool} (p:List Int) (hl:p.length≤1048576):Fun Tryz.prog 33 [(.sl (.lent m0) (List.map (PV.int .i64) (p)))] [(.sl .own (List.map (PV.int .i64) (focL p)))]:=by
 by_cases hp:isPermB p=true
 ·obtain⟨h8,hq⟩:=isP_8 hp
  have hf:=spec_CodeOf_c (m0:=m0) p hl
  rw[if_pos hp]at hf
  have q1:=codeGo_length p
  have q2:=srtI_len (L:=codeGo p)
  generalize hC:srtI (codeGo p)=C at*
  refine fO sg0 [2] Tryz.func33 ?_
  have cE1:= @spec_CodeOf_c;have cE2:= @spec_l15Sort_c
  have cE1:= @hf
  refine dEa @hC ?_
  all_goals try (refine zlf ?_;repeat' first|exact zso|refine And.intro ?_ ?_|(refine zim ?_;intro zb hc)|(refine zin ?_;intro zb)|intro j')
  all_goals try refine zbx ?_
  refine v_loopB (fun ms1 S1=>∃(k:Nat),S1.e 0=.p (.sl (.lent m0) (List.map (PV.int .i64) (p)))∧OwnL (S1.e 3) S1.h S1.n (PV.int .i64) ((posF (C.drop k).reverse).length) (posF (C.drop k).reverse)∧OwnL (S1.e 4) S1.h S1.n (PV.int .i64) ((C).length) (C)∧S1.e 5=.p (.int .i64 (((k:Int) - 1)))∧(k≤C.length)∧NId (S1.e 4) (S1.e 3)∧ms1=k) ((fun(k:Nat)=>k) (C.length)) ?_ ⟨C.length,dC trivial ?_⟩
  all_goals try (refine zlf ?_;repeat' first|exact zso|refine And.intro ?_ ?_|(refine zim ?_;intro zb hc)|(refine zin ?_;intro zb)|intro j')
  all_goals try refine zbx ?_
  rintro ms1 S1 ⟨k,h1_0,o1_3,o1_4,h1_5,c1_0,u1_0,hm1⟩
  obtain⟨i1_3,h1_3,b1_3,l1_3⟩:=o1_3.out
  obtain⟨i1_4,h1_4,b1_4,l1_4⟩:=o1_4.out
  have k1_0:=(u1_0).out h1_4 h1_3
  have ni1_3:=znds (x:=i1_3) (n:=S1.n)
  have ni1_4:=znds (x:=i1_4) (n:=S1.n)
  have di1_3i1_4:=zdne (x:=i1_3) (y:=i1_4)
  have fL1:=(And.intro h1_0 (And.intro h1_5 (And.intro h1_3 (And.intro b1_3 (And.intro h1_4 (And.intro b1_4 (And.intro ni1_3 (And.intro ni1_4 di1_3i1_4))))))))
  ·have e1:((k:Int) - 1).toNat=k - 1:=by omega
   have e2:(posF (C.drop k).reverse).length≤C.length:=by
    have:=List.length_filter_le (fun x=>decide (0<x)) (C.drop k).reverse
    rw[List.length_reverse,List.length_drop]at this;unfold posF;omega
   have e3:0<k→posF (C.drop (k - 1)).reverse=posF (C.drop k).reverse++if 0<C.getD (k - 1) 0 then[C.getD (k - 1) 0]else[]:=fun h=>by
    obtain⟨j,rfl⟩:∃j,k=j+1:=⟨k - 1,by omega⟩
    rw[Nat.add_sub_cancel,dropI_at (k:=j) (by omega),List.reverse_cons,posF_snoc]
   have cE1:= @spec_CodeOf_c
   refine dEa (And.intro fL1 @e1) ?_
   all_goals try (refine zlf ?_;repeat' first|exact zso|refine And.intro ?_ ?_|(refine zim ?_;intro zb hc)|(refine zin ?_;intro zb)|intro j')
   all_goals try refine zbx ?_
   ·focus
     refine q_lp_n ((fun(k:Nat)=>k) (k-1)) (dC fL1 ?_) ⟨k-1,dC fL1 ?_⟩
     all_goals try (refine zlf ?_;repeat' first|exact zso|refine And.intro ?_ ?_|(refine zim ?_;intro zb hc)|(refine zin ?_;intro zb)|intro j')
     all_goals try refine zbx ?_
    all_goals rw[e3 (by omega),if_pos hc]
    all_goals simp
   ·focus
     refine q_lp_n ((fun(k:Nat)=>k) (k-1)) (dC fL1 ?_) ⟨k-1,dC fL1 ?_⟩
     all_goals try (refine zlf ?_;repeat' first|exact zso|refine And.intro ?_ ?_|(refine zim ?_;intro zb hc)|(refine zin ?_;intro zb)|intro j')
     all_goals try refine zbx ?_
    all_goals rw[e3 (by omega),if_neg (by omega)]
    all_goals simp
   ·obtain rfl:k=0:=by omega
    rw[List.drop_zero,←hC,foc_eq hp]
  all_goals(rw[List.drop_length];rfl)
 ·rw[Bool.not_eq_true]at hp
  have hf:=spec_CodeOf_c (m0:=m0) p hl
  rw[if_neg (by rw[hp];decide)]at hf
  have hg:∀b,Fun Tryz.prog 74 [.sl (.lent b) []] [.sl .own (List.map (PV.int .i64) [])]:=fun b=>by
   have h:=spec_l15Sort_c (m0:=b) [] (by simp)
   rw[show srtI []=[]from rfl]at h
   exact h
  refine fO sg0 [2] Tryz.func33 ?_
  have cE1:= @spec_CodeOf_c;have cE2:= @spec_l15Sort_c
  have cE1:= @hf;have cE2:= @hg
  refine dEa trivial ?_
  all_goals try (refine zlf ?_;repeat' first|exact zso|refine And.intro ?_ ?_|(refine zim ?_;intro zb hc)|(refine zin ?_;intro zb)|intro j')
  all_goals try refine zbx ?_
  refine v_loopB (fun ms2 S2=>∃(u:Nat),OwnL (S2.e 3) S2.h S2.n (PV.int .i64) ((([]:List Int)).length) (([]:List Int))∧OwnL (S2.e 4) S2.h S2.n (PV.int .i64) ((([]:List Int)).length) (([]:List Int))∧S2.e 5=.p (.int .i64 ((-1)))∧NId (S2.e 4) (S2.e 3)∧ms2=u) ((fun(u:Nat)=>u) (0)) ?_ ⟨0,dC trivial ?_⟩
  all_goals try (refine zlf ?_;repeat' first|exact zso|refine And.intro ?_ ?_|(refine zim ?_;intro zb hc)|(refine zin ?_;intro zb)|intro j')
  all_goals try refine zbx ?_
  rintro ms2 S2 ⟨u,o2_3,o2_4,h2_5,u2_0,hm2⟩
  obtain⟨i2_3,h2_3,b2_3,l2_3⟩:=o2_3.out
  obtain⟨i2_4,h2_4,b2_4,l2_4⟩:=o2_4.out
  have k2_0:=(u2_0).out h2_4 h2_3
  have ni2_3:=znds (x:=i2_3) (n:=S2.n)
  have ni2_4:=znds (x:=i2_4) (n:=S2.n)
  have di2_3i2_4:=zdne (x:=i2_3) (y:=i2_4)
  have fL2:=(And.intro h2_5 (And.intro h2_3 (And.intro b2_3 (And.intro h2_4 (And.intro b2_4 (And.intro ni2_3 (And.intro ni2_4 di2_3i2_4)))))))
  ·have cE1:= @spec_CodeOf_c;have cE2:= @spec_l15Sort_c
   refine dEa fL2 ?_
   all_goals try (refine zlf ?_;repeat' first|exact zso|refine And.intro ?_ ?_|(refine zim ?_;intro zb hc)|(refine zin ?_;intro zb)|intro j')
   all_goals try refine zbx ?_
   rw[focL,if_neg (by rw[hp];decide)];rfl
theorem spec_InversePerm_c {m0:Bool} (p:List Int) (hl:p.length≤1048576):Fun Tryz.prog 30 [(.sl (.lent m0) (List.map (PV.int .i64) (p)))] [(.sl .own (List.map (PV.int .i64) ((if isPermB p then inv p else[])))),(.bool (isPermB p))]:=by
 by_cases hp:isPermB p=true
 ·obtain⟨h8,hq⟩:=isP_8 hp
  rw[if_pos hp,hp]
  refine fO sg0 [2,3] Tryz.func30 ?_
  have cE1:= @spec_IsPerm_c;have cE2:= @spec_l2Inverse_c
  refine dEa @hp ?_
  all_goals try (refine zlf ?_;repeat' first|exact zso|refine And.intro ?_ ?_|(refine zim ?_;intro zb hc)|(refine zin ?_;intro zb)|intro j')
  all_goals try refine zbx ?_
 ·rw[if_neg hp]
  rw[Bool.not_eq_true]at hp
  rw[hp]
  refine fO sg0 [2,3] Tryz.func30 ?_
  have cE1:= @spec_IsPerm_c;have cE2:= @spec_l2Inverse_c
  refine dEa @hp ?_
  all_goals try (refine zlf ?_;repeat' first|exact zso|refine And.intro ?_ ?_|(refine zim ?_;intro zb hc)|(refine zin ?_;intro zb)|intro j')
  all_goals try refine zbx ?_
theorem mem_gdI {l:List Int} {x:Int} (h:x∈l):∃i,i<l.length∧l.getD i 0=x:=by
 obtain⟨i,hi,e⟩:=List.getElem_of_mem h
 exact⟨i,hi,by rw[List.getD_eq_getElem?_getD,List.getElem?_eq_getElem hi];exact e⟩
theorem inv_perm {p:List Int} (hp:permB p=true):permB (inv p)=true:=by
 have hl:(inv p).length=p.length:=inv_len
 have at':∀k,k<p.length→∃i,i<p.length∧(p.getD i 0 - 1).toNat=k∧(inv p).getD k 0=(i:Int)+1:=fun k hk=>by
  obtain⟨i,hi,e⟩:=at_val hp hk
  exact⟨i,hi,e,by rw[←e];exact inv_at hp hi⟩
 rw[permB_iff,hl]
 constructor
 ·intro v hv
  obtain⟨k,hk,rfl⟩:=mem_gdI hv
  obtain⟨i,hi,_,e⟩:=at' k (by omega)
  omega
 ·refine List.nodup_iff_pairwise_ne.2 ?_
  rw[List.pairwise_iff_getElem]
  intro i j hi hj hij e
  have e':(inv p).getD i 0=(inv p).getD j 0:=by rw[List.getD_eq_getElem?_getD,List.getD_eq_getElem?_getD,List.getElem?_eq_getElem hi,List.getElem?_eq_getElem hj];simpa using e
  obtain⟨a,ha,a1,a2⟩:=at' i (by omega)
  obtain⟨c,hc,c1,c2⟩:=at' j (by omega)
  have:a=c:=by omega
  subst this;omega
def cnR (n:Nat) (R:Nat→Bool):Nat:=(List.range n).countP R
def tbN (n:Nat) (L:List (Nat→Bool)) (t:Nat):Nat:=L.countP fun R=>decide (t≤cnR n R)
def tbD (L:List (Nat→Bool)) (w:Nat):Nat:=L.countP fun R=>R w
def tbW (n:Nat) (L:List (Nat→Bool)) (c:Nat):Nat:=(List.range n).countP fun w=>decide (c≤tbD L w)
def inR' (n:Nat) (R S:Nat→Bool):Prop:=∀w,w<n→R w=true→S w=true
theorem cn_imp {n:Nat} {R S:Nat→Bool} (h:inR' n R S):cnR n R≤cnR n S:=by
 unfold cnR;exact List.countP_mono_left fun w hw=>h w (List.mem_range.1 hw)
theorem cn_eq {R S:Nat→Bool}:∀{n:Nat},inR' n R S→cnR n S≤cnR n R→inR' n S R
 |0,_,_=>fun w h=>by omega
 |n+1,h,hl=>by
  have h1:inR' n R S:=fun w hw=>h w (by omega)
  have h2:=cn_imp h1
  unfold cnR at hl h2
  rw[List.range_succ,List.countP_append,List.countP_append]at hl
  have h3:=h n (by omega)
  have h4:(List.countP R [n])≤List.countP S [n]:=List.countP_mono_left fun w hw=>by rw[List.mem_singleton.1 hw];exact h3
  have ih:=cn_eq (n:=n) h1 (by unfold cnR;omega)
  intro w hw hs
  by_cases e:w=n
  ·subst e
   have h5:List.countP S [w]=1:=by simp[hs]
   by_cases g:R w=true
   ·exact g
   ·have:List.countP R [w]=0:=by simp[g]
    omega
  ·exact ih w (by omega) hs
theorem tb_max {n:Nat}:∀{L:List (Nat→Bool)},L≠[]→∃R,R∈L∧∀S∈L,cnR n S≤cnR n R
 |[],h=>absurd rfl h
 |[R],_=>⟨R,by simp,by simp⟩
 |R::S::L,_=>by
  obtain⟨T,h1,h2⟩:=tb_max (n:=n) (L:=S::L) (by simp)
  by_cases h:cnR n T≤cnR n R
  ·refine⟨R,by simp,fun U hU=> ?_⟩
   rcases List.mem_cons.1 hU with e|g
   ·rw[e];exact Nat.le_refl _
   ·exact Nat.le_trans (h2 U g) h
  ·refine⟨T,List.mem_cons_of_mem _ h1,fun U hU=> ?_⟩
   rcases List.mem_cons.1 hU with e|g
   ·rw[e];omega
   ·exact h2 U g
theorem tb_perm {n:Nat} {L L':List (Nat→Bool)} (h:L.Perm L'):(∀t,tbN n L t=tbN n L' t)∧(∀c,tbW n L c=tbW n L' c):=by
 refine⟨fun t=>h.countP_eq _,fun c=> ?_⟩
 unfold tbW
 rw[show tbD L=tbD L' from funext fun w=>h.countP_eq _]
theorem tb_W1 {n:Nat} {R:Nat→Bool} {L:List (Nat→Bool)} (h:∀S∈L,inR' n S R):tbW n (R::L) 1=cnR n R∧∀c,1≤c→tbW n (R::L) (c+1)=tbW n L c:=by
 have h0:∀w,w<n→R w=false→tbD L w=0:=fun w hw hr=>by
  unfold tbD;rw[List.countP_eq_zero];intro S hS hs
  rw[h S hS w hw hs]at hr;cases hr
 unfold tbW cnR
 constructor
 ·refine List.countP_congr fun w hw=> ?_
  have hw':=List.mem_range.1 hw
  have e:tbD (R::L) w=tbD L w+if R w=true then 1 else 0:=List.countP_cons
  cases hr:R w with
  |true=>rw[e,hr];simp
  |false=>rw[e,hr,h0 w hw' hr];simp
 ·intro c hc
  refine List.countP_congr fun w hw=> ?_
  have hw':=List.mem_range.1 hw
  have e:tbD (R::L) w=tbD L w+if R w=true then 1 else 0:=List.countP_cons
  cases hr:R w with
  |true=>rw[e,hr];simp
  |false=>rw[e,hr,h0 w hw' hr];simp;omega
theorem tb_duo {n:Nat}:∀{k:Nat} {L:List (Nat→Bool)},L.length=k→((∀t c,1≤t→1≤c→(c≤tbN n L t↔t≤tbW n L c))↔∀R∈L,∀S∈L,inR' n R S∨inR' n S R)
 |0,L,hk=>by
  rw[List.eq_nil_of_length_eq_zero hk]
  refine⟨fun _ R h=>(by cases h),fun _ t c ht hc=> ?_⟩
  have:tbW n [] c=0:=by unfold tbW;rw[List.countP_eq_zero];intro w _;simp[tbD];omega
  rw[this];simp[tbN];omega
 |k+1,L,hk=>by
  obtain⟨R0,hm,hx⟩:=tb_max (n:=n) (L:=L) (by intro e;rw[e]at hk;cases hk)
  obtain⟨A,B,rfl⟩:=List.append_of_mem hm
  have hp:(A++R0::B).Perm (R0::(A++B)):=List.perm_middle
  have hl:(A++B).length=k:=by simp at hk ⊢;omega
  generalize hL:A++B=L' at hp hl
  obtain⟨p1,p2⟩:=tb_perm (n:=n) hp
  have hx':∀S∈R0::L',cnR n S≤cnR n R0:=fun S hS=>hx S (hp.mem_iff.2 hS)
  have ih:=tb_duo (n:=n) hl
  simp only[p1,p2,hp.mem_iff]
  clear p1 p2 hp hx hm hk hL
  have eN:∀t,tbN n (R0::L') t=tbN n L' t+if t≤cnR n R0 then 1 else 0:=fun t=>by
   unfold tbN;rw[List.countP_cons];by_cases h:t≤cnR n R0<;>simp[h]
  have eB:∀t,¬t≤cnR n R0→tbN n L' t=0:=fun t ht=>by
   unfold tbN;rw[List.countP_eq_zero];intro S hS h
   have:=hx' S (List.mem_cons_of_mem _ hS);simp at h;omega
  have key:(∀S∈L',inR' n S R0)→((∀t c,1≤t→1≤c→(c≤tbN n (R0::L') t↔t≤tbW n (R0::L') c))↔∀t c,1≤t→1≤c→(c≤tbN n L' t↔t≤tbW n L' c)):=fun hs=>by
   obtain⟨w1,w2⟩:=tb_W1 hs
   have wm:∀c,tbW n L' (c+1)≤cnR n R0:=fun c=>by
    rw[←w1];unfold tbW
    refine List.countP_mono_left fun w _ h=> ?_
    simp only[decide_eq_true_eq]at h ⊢
    have:tbD (R0::L') w=tbD L' w+if R0 w=true then 1 else 0:=List.countP_cons
    omega
   constructor
   ·intro h t c ht hc
    by_cases g:t≤cnR n R0
    ·have:=h t (c+1) ht (by omega)
     rw[eN,if_pos g,w2 c hc]at this;omega
    ·obtain⟨c',rfl⟩:∃c',c=c'+1:=⟨c - 1,by omega⟩
     have:=wm c';rw[eB t g];omega
   ·intro h t c ht hc
    obtain⟨c',rfl⟩:∃c',c=c'+1:=⟨c - 1,by omega⟩
    rw[eN]
    by_cases g:t≤cnR n R0
    ·rw[if_pos g]
     by_cases e:c'=0
     ·subst e;rw[w1];omega
     ·rw[w2 c' (by omega)];have:=h t c' ht (by omega);omega
    ·rw[if_neg g,eB t g]
     by_cases e:c'=0
     ·subst e;rw[w1];omega
     ·obtain⟨c2,rfl⟩:∃c2,c'=c2+1:=⟨c' - 1,by omega⟩
      rw[w2 (c2+1) (by omega)];have:=wm c2;omega
  constructor
  ·intro h
   have hs:∀S∈L',inR' n S R0:=by
    let Z:Nat→Bool:=fun w=>decide (1≤tbD (R0::L') w)
    have z1:inR' n R0 Z:=fun w _ hr=>by
     have:tbD (R0::L') w=tbD L' w+if R0 w=true then 1 else 0:=List.countP_cons
     rw[if_pos hr]at this;simp only[Z,decide_eq_true_eq];omega
    have z2:cnR n Z≤cnR n R0:=by
     have e:cnR n Z=tbW n (R0::L') 1:=rfl
     by_cases g:tbW n (R0::L') 1≤cnR n R0
     ·rw[e];exact g
     ·have:=(h (cnR n R0+1) 1 (by omega) (by omega)).2 (by omega)
      rw[eN,if_neg (by omega),eB _ (by omega)]at this;omega
    have z3:=cn_eq z1 z2
    intro S hS w hw hs
    refine z3 w hw ?_
    have:tbD (R0::L') w=tbD L' w+if R0 w=true then 1 else 0:=List.countP_cons
    have:0<tbD L' w:=List.countP_pos_iff.2 ⟨S,hS,hs⟩
    simp only[Z,decide_eq_true_eq];omega
   have h2:=ih.1 ((key hs).1 h)
   intro R hR S hS
   rcases List.mem_cons.1 hR with e|gR
   ·rcases List.mem_cons.1 hS with e'|gS
    ·rw[e,e'];exact .inl fun w _ g=>g
    ·rw[e];exact .inr (hs S gS)
   ·rcases List.mem_cons.1 hS with e'|gS
    ·rw[e'];exact .inl (hs R gR)
    ·exact h2 R gR S gS
  ·intro h
   have hs:∀S∈L',inR' n S R0:=fun S hS=>by
    rcases h S (List.mem_cons_of_mem _ hS) R0 List.mem_cons_self with g|g
    ·exact g
    ·exact cn_eq g (hx' S (List.mem_cons_of_mem _ hS))
   exact(key hs).2 (ih.2 fun R hR S hS=>h R (List.mem_cons_of_mem _ hR) S (List.mem_cons_of_mem _ hS))
theorem geC_cP {c:Int}:∀{l:List Int},geC c l=(l.countP (fun x=>decide (c≤x)):Int)
 |[]=>rfl
 |x::l=>by
  rw[geC,geC_cP,List.countP_cons]
  by_cases h:c≤x<;>simp[h,bitI]<;>omega
theorem fal_ge {c:Int}:∀{l:List Int} {k:Nat},l.Pairwise (·≥·)→1≤c→(c≤l.getD k 0↔(k:Int)+1≤geC c l)
 |[],k,_,hc=>by simp[geC];omega
 |x::l,k,hp,hc=>by
  obtain⟨h1,h2⟩:=List.pairwise_cons.1 hp
  have r:=geC_r (c:=c) (l:=l)
  rw[geC]
  by_cases hx:c≤x
  ·rw[decide_eq_true hx,bitI,if_pos rfl]
   cases k with
   |zero=>simp only[List.getD_cons_zero];omega
   |succ k=>rw[List.getD_cons_succ,fal_ge h2 hc];omega
  ·have z0:l.countP (fun x=>decide (c≤x))=0:=by
    rw[List.countP_eq_zero];intro y hy h;have:=h1 y hy;simp at h;omega
   have z:geC c l=0:=by rw[geC_cP,z0];rfl
   rw[decide_eq_false hx,bitI,if_neg (by decide),z]
   cases k with
   |zero=>simp only[List.getD_cons_zero];omega
   |succ k=>rw[List.getD_cons_succ,fal_ge h2 hc,z];omega
theorem gd_pos {l:List Int} (h:∀x∈l,1≤x) {k:Nat}:(k<l.length↔1≤l.getD k 0)∧0≤l.getD k 0:=by
 by_cases hk:k<l.length
 ·have:=h _ (getD_mem (d:=0) hk);omega
 ·rw[List.getD_eq_getElem?_getD,List.getElem?_eq_none (by omega)];simp;omega
theorem pos_ext {A B:List Int} (ha:∀x∈A,1≤x) (hb:∀x∈B,1≤x) (h:∀k,A.getD k 0=B.getD k 0):A=B:=by
 have hl:A.length=B.length:=by
  have h1:=(gd_pos ha (k:=B.length)).1;have h2:=(gd_pos hb (k:=A.length)).1
  have h3:=(gd_pos ha (k:=A.length)).1;have h4:=(gd_pos hb (k:=B.length)).1
  rw[h]at h1 h3
  omega
 refine List.ext_getElem hl fun i h1 h2=> ?_
 have:=h i
 rw[List.getD_eq_getElem?_getD,List.getD_eq_getElem?_getD,List.getElem?_eq_getElem h1,List.getElem?_eq_getElem h2]at this;exact this
theorem tf_duo {F D:List Int} (hF:∀x∈F,1≤x) (hD:∀x∈D,1≤x) (hp:D.Pairwise (·≥·)):tfG F (mxI F).toNat=D↔∀t c:Nat,1≤t→1≤c→((c:Int)≤geC t F↔(t:Int)≤geC c D):=by
 have hT:∀k:Nat,(tfG F (mxI F).toNat).getD k 0=geC ((k:Int)+1) F:=fun k=>by
  have m0:=(mxI_ge (l:=F)).1
  by_cases h:k<(mxI F).toNat
  ·unfold tfG;rw[List.getD_eq_getElem?_getD,List.getElem?_map,List.getElem?_range h];rfl
  ·rw[List.getD_eq_getElem?_getD,List.getElem?_eq_none (by rw[tfG_len];omega)]
   exact((geC_0 (by omega)).2 (by omega)).symm
 have hTp:∀x∈tfG F (mxI F).toNat,1≤x:=fun x hx=>by
  unfold tfG at hx
  obtain⟨c,hc,rfl⟩:=List.mem_map.1 hx
  have:=List.mem_range.1 hc
  have r:=geC_r (c:=(c:Int)+1) (l:=F)
  have:=(geC_0 (c:=(c:Int)+1) (by omega) (l:=F))
  omega
 constructor
 ·intro e t c ht hc
  obtain⟨t,rfl⟩:∃t',t=t'+1:=⟨t - 1,by omega⟩
  have h1:=hT t
  have h2:=fal_ge (c:=c) (k:=t) hp (by omega)
  rw[e]at h1
  rw[h1]at h2
  simpa using h2
 ·intro h
  refine pos_ext hTp hD fun k=> ?_
  rw[hT]
  have r:=geC_r (c:=(k:Int)+1) (l:=F)
  have q:=(gd_pos hD (k:=k)).2
  obtain⟨a,ha⟩:∃a:Nat,geC ((k:Int)+1) F=a:=⟨_,(Int.toNat_of_nonneg r.1).symm⟩
  obtain⟨b,hb⟩:∃b:Nat,D.getD k 0=b:=⟨_,(Int.toNat_of_nonneg q).symm⟩
  have key:∀c:Nat,1≤c→(c≤a↔c≤b):=fun c hc=>by
   have h1:=h (k+1) c (by omega) hc
   have h2:=fal_ge (c:=c) (k:=k) hp (by omega)
   rw[hb]at h2
   rw[show((k+1:Nat):Int)=(k:Int)+1 by omega,ha]at h1
   omega
  rw[ha,hb]
  have k1:=key a;have k2:=key b
  omega
def tbM (p:List Int) (i w:Nat):Bool:=decide ((w:Int)+1<p.getD i 0)&&decide ((i:Int)+1<(inv p).getD w 0)
theorem codeGo_gd:∀{p:List Int} {i:Nat},i<p.length→(codeGo p).getD i 0=cntLt (p.getD i 0) (p.drop (i+1))
 |[],_,h=>by simp at h
 |_::_,0,_=>rfl
 |_::p,i+1,h=>codeGo_gd (p:=p) (by simpa using h)
theorem inv_of {p:List Int} (hp:permB p=true) {w i:Nat} (hi:i<p.length) (e:p.getD i 0=(w:Int)+1):(inv p).getD w 0=(i:Int)+1:=by
 have:=inv_at hp hi
 rwa [e,show((w:Int)+1 - 1).toNat=w by omega]at this
theorem gdD {p:List Int} {a b:Nat}:(p.drop a).getD b 0=p.getD (a+b) 0:=by
 rw[List.getD_eq_getElem?_getD,List.getElem?_drop,←List.getD_eq_getElem?_getD]
theorem code_cn {p:List Int} (hp:permB p=true) {i:Nat} (hi:i<p.length):(codeGo p).getD i 0=(cnR p.length (tbM p i):Int):=by
 rw[codeGo_gd hi,cntLt_countP,cnR,List.countP_eq_length_filter,List.countP_eq_length_filter]
 have hb:=(permB_iff.1 hp).1
 have:=len_mem (a:=(p.drop (i+1)).filter fun w=>decide (w<p.getD i 0)) (b:=((List.range p.length).filter (tbM p i)).map fun w:Nat=>(w:Int)+1)
  (List.Nodup.sublist List.filter_sublist (List.Nodup.sublist (List.drop_sublist _ _) (permB_iff.1 hp).2))
  (by
   refine List.nodup_iff_pairwise_ne.2 ?_
   rw[List.pairwise_map]
   exact List.Pairwise.imp (fun h e=>h (by omega)) (List.Nodup.sublist List.filter_sublist List.nodup_range))
  (fun x=>by
   rw[List.mem_filter,List.mem_map]
   constructor
   ·rintro⟨h1,h2⟩
    obtain⟨j,hj,e⟩:=mem_gdI h1
    rw[List.length_drop]at hj
    rw[gdD]at e
    have hx:=hb _ (getD_mem (l:=p) (i:=i+1+j) (d:=0) (by omega))
    rw[e]at hx
    refine⟨(x - 1).toNat,List.mem_filter.2 ⟨List.mem_range.2 (by omega), ?_⟩,by omega⟩
    have g:=inv_of hp (w:=(x - 1).toNat) (i:=i+1+j) (by omega) (by omega)
    simp only[decide_eq_true_eq]at h2
    unfold tbM;rw[g]
    simp only[Bool.and_eq_true,decide_eq_true_eq];omega
   ·rintro⟨w,h1,rfl⟩
    obtain⟨h2,h3⟩:=List.mem_filter.1 h1
    have hw:=List.mem_range.1 h2
    obtain⟨j,hj,e⟩:=perm_spot hp (v:=(w:Int)+1) (by omega) (by omega)
    unfold tbM at h3
    rw[inv_of hp hj e]at h3
    simp only[Bool.and_eq_true,decide_eq_true_eq]at h3
    refine⟨?_,by simp only[decide_eq_true_eq];omega⟩
    have:=getD_mem (l:=p.drop (i+1)) (i:=j - (i+1)) (d:=0) (by rw[List.length_drop];omega)
    rwa [gdD,show i+1+(j - (i+1))=j by omega,e]at this)
 rw[List.length_map]at this
 rw[this]
theorem code_eq {p:List Int} (hp:permB p=true):codeGo p=(List.range p.length).map fun i=>(cnR p.length (tbM p i):Int):=by
 refine List.ext_getElem (by simp[codeGo_length]) fun i h1 h2=> ?_
 have hi:i<p.length:=by rw[codeGo_length]at h1;exact h1
 have:=code_cn hp hi
 rw[List.getD_eq_getElem?_getD,List.getElem?_eq_getElem h1]at this
 simpa using this
theorem inv_inv {p:List Int} (hp:permB p=true) {i:Nat} (hi:i<p.length):(inv (inv p)).getD i 0=p.getD i 0:=by
 have hv:=(permB_iff.1 hp).1 _ (getD_mem (l:=p) (i:=i) (d:=0) hi)
 have:=inv_of (inv_perm hp) (w:=i) (i:=(p.getD i 0 - 1).toNat) (by rw[inv_len];omega) (inv_at hp hi)
 omega
theorem tbM_inv {p:List Int} (hp:permB p=true) {i w:Nat} (hi:i<p.length):tbM (inv p) w i=tbM p i w:=by
 unfold tbM;rw[inv_inv hp hi,Bool.and_comm]
def tbL (p:List Int):List (Nat→Bool):=(List.range p.length).map (tbM p)
theorem ge_N {p:List Int} (hp:permB p=true) (t:Nat):geC t (codeGo p)=tbN p.length (tbL p) t:=by
 rw[geC_cP,code_eq hp,tbN,tbL,List.countP_map,List.countP_map]
 congr 1
 refine List.countP_congr fun i _=> ?_
 simp only[Function.comp];simp
theorem ge_W {p:List Int} (hp:permB p=true) (c:Nat):geC c (codeGo (inv p))=tbW p.length (tbL p) c:=by
 rw[geC_cP,code_eq (inv_perm hp),tbW,List.countP_map,inv_len]
 congr 1
 refine List.countP_congr fun w _=> ?_
 have e:cnR p.length (tbM (inv p) w)=tbD (tbL p) w:=by
  unfold cnR tbD tbL
  rw[List.countP_map]
  exact List.countP_congr fun i hi=>by rw[tbM_inv hp (List.mem_range.1 hi)];rfl
 simp only[Function.comp,e];simp
theorem foc_facts {p:List Int} (h:isPermB p=true):(∀x∈focL p,1≤x∧x≤8)∧(focL p).length≤8∧(focL p).Pairwise (·≥·)∧∀c:Int,1≤c→geC c (focL p)=geC c (codeGo p):=by
 obtain⟨h8,hp⟩:=isP_8 h
 have e:focL p=(srtI (kpI (fun x=>decide (x=0)) (codeGo p))).reverse:=by rw[focL,if_pos h]
 have pm:(focL p).Perm (kpI (fun x=>decide (x=0)) (codeGo p)):=by rw[e];exact(List.reverse_perm _).trans srtI_perm
 refine⟨fun x hx=> ?_, ?_, ?_,fun c hc=> ?_⟩
 ·have h1:=List.mem_filter.1 (pm.subset hx)
  obtain⟨i,hi,rfl⟩:=mem_gdI h1.1
  have:=codeGo_at p i
  have h2:=h1.2
  simp only[Bool.not_eq_true',decide_eq_false_iff_not]at h2;omega
 ·rw[pm.length_eq]
  unfold kpI
  refine Nat.le_trans (List.length_filter_le _ _) ?_
  rw[codeGo_length];exact h8
 ·rw[e,List.pairwise_reverse];exact srtI_pw
 ·rw[geC_cP,geC_cP,pm.countP_eq,kpI,List.countP_filter]
  congr 1
  refine List.countP_congr fun x _=> ?_
  simp;omega
theorem vex_nest {p:List Int} (hp:permB p=true):avB vexT p=true↔∀R∈tbL p,∀S∈tbL p,inR' p.length R S∨inR' p.length S R:=by
 have a1:avB vexT p=true↔¬hasB p [2,1,4,3]=true:=by
  unfold avB vexT;simp only[List.any_cons,List.any_nil,Bool.or_false,Bool.not_eq_true',Bool.not_eq_true]
 have hb:=(permB_iff.1 hp).1
 have tM:∀{i j w:Nat},j<p.length→p.getD j 0=(w:Int)+1→(tbM p i w=true↔p.getD j 0<p.getD i 0∧i<j):=fun {i j w} hj e=>by
  unfold tbM;rw[inv_of hp hj e];simp only[Bool.and_eq_true,decide_eq_true_eq];omega
 rw[a1,has_4]
 constructor
 ·intro hn
  have one:∀i j,i<j→j<p.length→inR' p.length (tbM p i) (tbM p j)∨inR' p.length (tbM p j) (tbM p i):=fun i k hik hk=>by
   rcases Classical.em (inR' p.length (tbM p i) (tbM p k))with g|g
   ·exact .inl g
   ·refine .inr fun v hv hkv=>Classical.byContradiction fun hiv=>g fun w hw hiw=>Classical.byContradiction fun hkw=>hn ?_
    obtain⟨j,hj,ej⟩:=perm_spot hp (v:=(w:Int)+1) (by omega) (by omega)
    obtain⟨l,hl,el⟩:=perm_spot hp (v:=(v:Int)+1) (by omega) (by omega)
    rw[tM hj ej]at hiw hkw
    rw[tM hl el]at hiv hkv
    have n1:=perm_ne' hp (i:=i) (j:=l) (by omega) hl (by omega)
    have n2:j≠k:=fun q=>by subst q;omega
    exact⟨i,j,k,l,by omega⟩
  intro R hR S hS
  obtain⟨i,hi,rfl⟩:=List.mem_map.1 hR
  obtain⟨k,hk,rfl⟩:=List.mem_map.1 hS
  have hi:=List.mem_range.1 hi
  have hk:=List.mem_range.1 hk
  rcases Nat.lt_trichotomy i k with g|g|g
  ·exact one i k g hk
  ·subst g;exact .inl fun w _ q=>q
  ·exact(one k i g hi).symm
 ·rintro h ⟨i,j,k,l,q1,q2,q3,q4,e1,e2,e3,e4,e5,e6⟩
  have vj:=hb _ (getD_mem (l:=p) (i:=j) (d:=0) (by omega))
  have vl:=hb _ (getD_mem (l:=p) (i:=l) (d:=0) (by omega))
  have tj:=fun {i:Nat}=>tM (i:=i) (j:=j) (w:=(p.getD j 0 - 1).toNat) (by omega) (by omega)
  have tl:=fun {i:Nat}=>tM (i:=i) (j:=l) (w:=(p.getD l 0 - 1).toNat) (by omega) (by omega)
  have n1:=perm_ne' hp (i:=i) (j:=j) (by omega) (by omega) (by omega)
  have n2:=perm_ne' hp (i:=k) (j:=l) (by omega) (by omega) (by omega)
  have mm:∀{i},i<p.length→tbM p i∈tbL p:=fun {i} hi=>List.mem_map.2 ⟨i,List.mem_range.2 hi,rfl⟩
  rcases h _ (mm (show i<p.length by omega)) _ (mm (show k<p.length by omega))with g|g
  ·have:=tj.1 (g (p.getD j 0 - 1).toNat (by omega) (tj.2 (by omega)));omega
  ·have:=tl.1 (g (p.getD l 0 - 1).toNat (by omega) (tl.2 (by omega)));omega
theorem vex_ok {p:List Int} (h:isPermB p=true):famB p vexT=decide (tfL (focL p)=focL (inv p)):=by
 obtain⟨h8,hp⟩:=isP_8 h
 have hi:isPermB (inv p)=true:=by
  have:=inv_perm hp
  have hl:(inv p).length=p.length:=inv_len
  simp only[isPermB,this,Bool.and_true,decide_eq_true_eq];omega
 obtain⟨f1,f2,f3,f4⟩:=foc_facts h
 obtain⟨g1,g2,g3,g4⟩:=foc_facts hi
 have e:tfL (focL p)=tfG (focL p) (mxI (focL p)).toNat:=by
  rw[tfL,if_pos (tfB_iff.2 ⟨by omega,fun x hx=>by have:=f1 x hx;omega⟩)]
 rw[famB_1 h,Bool.eq_iff_iff,vex_nest hp,decide_eq_true_eq,e,tf_duo (fun x hx=>(f1 x hx).1) (fun x hx=>(g1 x hx).1) g3,←tb_duo (n:=p.length) (L:=tbL p) rfl]
 constructor
 ·intro q t c ht hc
  rw[f4 _ (by omega),g4 _ (by omega),ge_N hp,ge_W hp]
  have:=q t c ht hc;omega
 ·intro q t c ht hc
  have:=q t c ht hc
  rw[f4 _ (by omega),g4 _ (by omega),ge_N hp,ge_W hp]at this;omega
def brA (a b c:Int):Bool:=decide (a=c)&&(decide (a+1=b)||decide (b+1=a))
def braB (p:List Int):Bool:=(List.range p.length).any fun k=>decide (2≤k)&&brA (p.getD (k - 2) 0) (p.getD (k - 1) 0) (p.getD k 0)
theorem bra_yes {p:List Int} {k:Nat} (h2:2≤k) (hk:k<p.length) (h:brA (p.getD (k - 2) 0) (p.getD (k - 1) 0) (p.getD k 0)=true):braB p=true:=
 List.any_eq_true.2 ⟨k,List.mem_range.2 hk,by rw[h,decide_eq_true h2];rfl⟩
theorem bra_no {p:List Int} (h:∀k,2≤k→k<p.length→brA (p.getD (k - 2) 0) (p.getD (k - 1) 0) (p.getD k 0)=false):braB p=false:=by
 rw[braB,←Bool.not_eq_true,List.any_eq_true]
 rintro⟨k,hk,q⟩
 rw[List.mem_range]at hk
 simp only[Bool.and_eq_true,decide_eq_true_eq]at q
 rw[h k q.1 hk]at q;cases q.2
theorem wr_one {a b:Int} (h:a<b) (ha: -9223372036854775808≤a) (hb:b≤9223372036854775807):(IntKind.i64.wrap (b - a)=1)↔a+1=b:=by
 unfold IntKind.wrap
 simp only[IntKind.bits,IntKind.signed,Bool.true_and]
 split
 ·rename_i g;simp at g;omega
 ·rename_i g;simp at g;omega
theorem brA_t {a b c:Int} (h:a=c) (h2:a+1=b∨b+1=a):brA a b c=true:=by
 simp only[brA,Bool.and_eq_true,Bool.or_eq_true,decide_eq_true_eq];exact⟨h,h2⟩
theorem brA_f {a b c:Int} (h:¬(a=c∧(a+1=b∨b+1=a))):brA a b c=false:=by
 rw[←Bool.not_eq_true];simpa only[brA,Bool.and_eq_true,Bool.or_eq_true,decide_eq_true_eq]using h
theorem spec_HasBraid_c {m0:Bool} (p:List Int) (hp:p.length≤1048576) (hb:∀x∈p, -9223372036854775808≤x∧x≤9223372036854775807):Fun Tryz.prog 21 [(.sl (.lent m0) (List.map (PV.int .i64) (p)))] [(.bool (braB p))]:=by
 refine fO sg0 [2] Tryz.func21 ?_
 refine dEa trivial ?_
 all_goals try (refine zlf ?_;repeat' first|exact zso|refine And.intro ?_ ?_|(refine zim ?_;intro zb hc)|(refine zin ?_;intro zb)|intro j')
 all_goals try refine zbx ?_
 refine v_loopB (fun ms1 S1=>∃(k:Nat),S1.e 0=.p (.sl (.lent m0) (List.map (PV.int .i64) (p)))∧S1.e 3=.p (.int .i64 (k))∧(2≤k)∧(k≤p.length∨k=2)∧(∀i,2≤i→i<k→brA (p.getD (i - 2) 0) (p.getD (i - 1) 0) (p.getD i 0)=false)∧ms1=p.length - k) ((fun(k:Nat)=>p.length - k) (2)) ?_ ⟨2,dC trivial ?_⟩
 all_goals try (refine zlf ?_;repeat' first|exact zso|refine And.intro ?_ ?_|(refine zim ?_;intro zb hc)|(refine zin ?_;intro zb)|intro j')
 all_goals try refine zbx ?_
 rintro ms1 S1 ⟨k,h1_0,h1_3,c1_0,c1_1,c1_2,hm1⟩
 have fL1:=(And.intro h1_0 h1_3)
 by_cases hk:k<p.length
 ·have z1:((k:Int) - 1).toNat=k - 1:=by omega
  have z2:((k:Int) - 2).toNat=k - 2:=by omega
  have b1:=hb _ (getD_mem (d:=0) hk)
  have b2:=hb _ (getD_mem (d:=0) (show k - 1<p.length by omega))
  have b3:=hb _ (getD_mem (d:=0) (show k - 2<p.length by omega))
  generalize ga:p.getD (k - 2) 0=a at*
  generalize gb:p.getD (k - 1) 0=b at*
  generalize gc:p.getD k 0=c at*
  refine dEa (And.intro fL1 (And.intro @z1 (And.intro @z2 (And.intro @ga (And.intro @gb @gc))))) ?_
  all_goals try (refine zlf ?_;repeat' first|exact zso|refine And.intro ?_ ?_|(refine zim ?_;intro zb hc)|(refine zin ?_;intro zb)|intro j')
  all_goals try refine zbx ?_
  all_goals try (exact(bra_yes c1_0 hk (by rw[ga,gb,gc];exact brA_t (by omega) (by omega))).symm)
  ·focus
    refine q_lp_n ((fun(k:Nat)=>p.length - k) (k+1)) (dC fL1 ?_) ⟨k+1,dC fL1 ?_⟩
    all_goals try (refine zlf ?_;repeat' first|exact zso|refine And.intro ?_ ?_|(refine zim ?_;intro zb hc)|(refine zin ?_;intro zb)|intro j')
    all_goals try refine zbx ?_
   all_goals(intro i h1 h2;by_cases e:i=k;(subst e;rw[ga,gb,gc];exact brA_f (by omega));exact c1_2 i h1 (by omega))
  ·focus
    refine q_lp_n ((fun(k:Nat)=>p.length - k) (k+1)) (dC fL1 ?_) ⟨k+1,dC fL1 ?_⟩
    all_goals try (refine zlf ?_;repeat' first|exact zso|refine And.intro ?_ ?_|(refine zim ?_;intro zb hc)|(refine zin ?_;intro zb)|intro j')
    all_goals try refine zbx ?_
   all_goals(intro i h1 h2;by_cases e:i=k;(subst e;rw[ga,gb,gc];exact brA_f (by omega));exact c1_2 i h1 (by omega))
  ·focus
    refine q_lp_n ((fun(k:Nat)=>p.length - k) (k+1)) (dC fL1 ?_) ⟨k+1,dC fL1 ?_⟩
    all_goals try (refine zlf ?_;repeat' first|exact zso|refine And.intro ?_ ?_|(refine zim ?_;intro zb hc)|(refine zin ?_;intro zb)|intro j')
    all_goals try refine zbx ?_
   all_goals(intro i h1 h2;by_cases e:i=k;(subst e;rw[ga,gb,gc];exact brA_f (by omega));exact c1_2 i h1 (by omega))
  ·focus
    refine q_lp_n ((fun(k:Nat)=>p.length - k) (k+1)) (dC fL1 ?_) ⟨k+1,dC fL1 ?_⟩
    all_goals try (refine zlf ?_;repeat' first|exact zso|refine And.intro ?_ ?_|(refine zim ?_;intro zb hc)|(refine zin ?_;intro zb)|intro j')
    all_goals try refine zbx ?_
   all_goals(intro i h1 h2;by_cases e:i=k;(subst e;rw[ga,gb,gc];exact brA_f (by omega));exact c1_2 i h1 (by omega))
 ·rw[bra_no fun i h1 h2=>c1_2 i h1 (by omega)]
  refine dEa fL1 ?_
  all_goals try (refine zlf ?_;repeat' first|exact zso|refine And.intro ?_ ?_|(refine zim ?_;intro zb hc)|(refine zin ?_;intro zb)|intro j')
  all_goals try refine zbx ?_
  all_goals trace_state
def sgWr:FuncId→List Bool:=fun f=>if f=4294967296 then[true]else[]
theorem sgWr_eq {f:FuncId}:sgWr f=if f=4294967296 then[true]else[]:=_root_.id rfl
theorem way_sgWr:wayE sgWr=true∧wayN sgWr=false∧wayS sgWr=false∧wayZ sgWr=false∧wayM sgWr=false:=⟨rfl,rfl,rfl,rfl,rfl⟩
attribute [go_sem] sgWr_eq way_sgWr
theorem impl_HasBraid_c {m0:Bool} (p:List Int) (hp:p.length≤1048576) (hb:∀x∈p, -9223372036854775808≤x∧x≤9223372036854775807):Fun Tryz.prog 20 [(.sl (.lent m0) (List.map (PV.int .i64) (p)))] [(.bool (braB p))]:=by
 refine fO sgWr [2] Tryz.func20 ?_
 refine dEa trivial ?_
 all_goals try (refine zlf ?_;repeat' first|exact zso|refine And.intro ?_ ?_|(refine zim ?_;intro zb hc)|(refine zin ?_;intro zb)|intro j')
 all_goals try refine zbx ?_
 refine v_loopB (fun ms1 S1=>∃(k:Nat),S1.e 0=.p (.sl (.lent m0) (List.map (PV.int .i64) (p)))∧S1.e 3=.p (.int .i64 (k))∧(2≤k)∧(k≤p.length∨k=2)∧(∀i,2≤i→i<k→brA (p.getD (i - 2) 0) (p.getD (i - 1) 0) (p.getD i 0)=false)∧ms1=p.length - k) ((fun(k:Nat)=>p.length - k) (2)) ?_ ⟨2,dC trivial ?_⟩
 all_goals try (refine zlf ?_;repeat' first|exact zso|refine And.intro ?_ ?_|(refine zim ?_;intro zb hc)|(refine zin ?_;intro zb)|intro j')
 all_goals try refine zbx ?_
 rintro ms1 S1 ⟨k,h1_0,h1_3,c1_0,c1_1,c1_2,hm1⟩
 have fL1:=(And.intro h1_0 h1_3)
 by_cases hk:k<p.length
 ·have z1:IntKind.i64.wrap ((k:Int) - 1)=((k - 1:Nat):Int):=by rw[wrap64 (by omega) (by omega)];omega
  have z2:IntKind.i64.wrap ((k:Int) - 2)=((k - 2:Nat):Int):=by rw[wrap64 (by omega) (by omega)];omega
  have z3:IntKind.i64.wrap ((k:Int)+1)=((k+1:Nat):Int):=by rw[wrap64 (by omega) (by omega)];omega
  have b1:=hb _ (getD_mem (d:=0) hk)
  have b2:=hb _ (getD_mem (d:=0) (show k - 1<p.length by omega))
  have b3:=hb _ (getD_mem (d:=0) (show k - 2<p.length by omega))
  generalize ga:p.getD (k - 2) 0=a at*
  generalize gb:p.getD (k - 1) 0=b at*
  generalize gc:p.getD k 0=c at*
  have y1:=fun h:a<b=>wr_one h b3.1 b2.2
  have y2:=fun h:b<a=>wr_one h b2.1 b3.2
  refine dEa (And.intro fL1 (And.intro @z1 (And.intro @z2 (And.intro @z3 (And.intro @ga (And.intro @gb @gc)))))) ?_
  all_goals try (refine zlf ?_;repeat' first|exact zso|refine And.intro ?_ ?_|(refine zim ?_;intro zb hc)|(refine zin ?_;intro zb)|intro j')
  all_goals try refine zbx ?_
  all_goals try (exact(bra_yes c1_0 hk (by rw[ga,gb,gc];exact brA_t (by omega) (by omega))).symm)
  ·focus
    refine q_lp_n ((fun(k:Nat)=>p.length - k) (k+1)) (dC fL1 ?_) ⟨k+1,dC fL1 ?_⟩
    all_goals try (refine zlf ?_;repeat' first|exact zso|refine And.intro ?_ ?_|(refine zim ?_;intro zb hc)|(refine zin ?_;intro zb)|intro j')
    all_goals try refine zbx ?_
   all_goals(intro i h1 h2;by_cases e:i=k;(subst e;rw[ga,gb,gc];exact brA_f (by omega));exact c1_2 i h1 (by omega))
  ·focus
    refine q_lp_n ((fun(k:Nat)=>p.length - k) (k+1)) (dC fL1 ?_) ⟨k+1,dC fL1 ?_⟩
    all_goals try (refine zlf ?_;repeat' first|exact zso|refine And.intro ?_ ?_|(refine zim ?_;intro zb hc)|(refine zin ?_;intro zb)|intro j')
    all_goals try refine zbx ?_
   all_goals(intro i h1 h2;by_cases e:i=k;(subst e;rw[ga,gb,gc];exact brA_f (by omega));exact c1_2 i h1 (by omega))
  ·focus
    refine q_lp_n ((fun(k:Nat)=>p.length - k) (k+1)) (dC fL1 ?_) ⟨k+1,dC fL1 ?_⟩
    all_goals try (refine zlf ?_;repeat' first|exact zso|refine And.intro ?_ ?_|(refine zim ?_;intro zb hc)|(refine zin ?_;intro zb)|intro j')
    all_goals try refine zbx ?_
   all_goals(intro i h1 h2;by_cases e:i=k;(subst e;rw[ga,gb,gc];exact brA_f (by omega));exact c1_2 i h1 (by omega))
  ·focus
    refine q_lp_n ((fun(k:Nat)=>p.length - k) (k+1)) (dC fL1 ?_) ⟨k+1,dC fL1 ?_⟩
    all_goals try (refine zlf ?_;repeat' first|exact zso|refine And.intro ?_ ?_|(refine zim ?_;intro zb hc)|(refine zin ?_;intro zb)|intro j')
    all_goals try refine zbx ?_
   all_goals(intro i h1 h2;by_cases e:i=k;(subst e;rw[ga,gb,gc];exact brA_f (by omega));exact c1_2 i h1 (by omega))
 ·rw[bra_no fun i h1 h2=>c1_2 i h1 (by omega)]
  refine dEa fL1 ?_
  all_goals try (refine zlf ?_;repeat' first|exact zso|refine And.intro ?_ ?_|(refine zim ?_;intro zb hc)|(refine zin ?_;intro zb)|intro j')
  all_goals try refine zbx ?_
  all_goals trace_state
theorem spec_SumParts_n_c {m0:Bool} (p:List Int) (hl:p.length≤1048576) (hn:isPermB p=false):Fun Tryz.prog 101 [(.sl (.lent m0) (List.map (PV.int .i64) (p)))] [(.sl .own (List.map (elI false) ([])))]:=by
 refine fO sg0 [2] Tryz.func101 ?_
 have cE1:= @spec_l1Max_c;have cE2:= @spec_IsPerm_c;have cE3:= @spec_l2Pattern_c
 refine dEa @hn ?_
 all_goals try (refine zlf ?_;repeat' first|exact zso|refine And.intro ?_ ?_|(refine zim ?_;intro zb hc)|(refine zin ?_;intro zb)|intro j')
 all_goals try refine zbx ?_
def upB (p:List Int):Bool:=decide (p=idL p.length)
def dnB (p:List Int):Bool:=decide (p.reverse=idL p.length)
theorem dn_dec {p:List Int}:decide (p=(idL p.length).reverse)=dnB p:=by
 rw[dnB,decide_eq_decide]
 exact⟨fun h=>by rw[h,List.reverse_reverse,List.length_reverse,idL_len],fun h=>by rw[←h,List.reverse_reverse]⟩
theorem impl_isFalling_c {m0:Bool} (p:List Int) (hp:isPermB p=true):Fun Tryz.prog 94 [(.sl (.lent m0) (List.map (PV.int .i64) (p)))] [(.bool (dnB p))]:=by
 refine fO sg0 [2] Tryz.func94 ?_
 have cE1:= @impl_identity_c;have cE2:= @impl_reverse_c;have cE3:= @slices_Equal_int_int_c
 obtain⟨h8,hq⟩:p.length≤8∧permB p=true:=by simpa[isPermB]using hp
 have e1:(idL p.length).length=p.length:=idL_len
 have e2:(idL p.length).reverse.length=p.length:=by rw[List.length_reverse,idL_len]
 have e3:List.take p.length (idL p.length)=idL p.length:=List.take_of_length_le (by omega)
 have e4:List.take p.length (idL p.length).reverse=(idL p.length).reverse:=List.take_of_length_le (by omega)
 refine dEa (And.intro @e1 (And.intro @e2 (And.intro @e3 @e4))) ?_
 all_goals try (refine zlf ?_;repeat' first|exact zso|refine And.intro ?_ ?_|(refine zim ?_;intro zb hc)|(refine zin ?_;intro zb)|intro j')
 all_goals try refine zbx ?_
 all_goals exact dn_dec
theorem spec_l13Straight_c {m0:Bool} (p:List Int) (hp:p.length≤8):Fun Tryz.prog 105 [(.sl (.lent m0) (List.map (PV.int .i64) (p)))] [(.bool (upB p))]:=by
 refine fO sg0 [2] Tryz.func105 ?_
 have cE1:= @spec_IdentityPerm_c;have cE2:= @spec_l2Same_c
 have e1:(idL p.length).length=p.length:=idL_len
 have e3:List.take p.length (idL p.length)=idL p.length:=List.take_of_length_le (by omega)
 refine dEa (And.intro @e1 @e3) ?_
 all_goals try (refine zlf ?_;repeat' first|exact zso|refine And.intro ?_ ?_|(refine zim ?_;intro zb hc)|(refine zin ?_;intro zb)|intro j')
 all_goals try refine zbx ?_
 all_goals rfl
def swp (p:List Int) (k:Nat):List Int:=(p.set k (p.getD (k+1) 0)).set (k+1) (p.getD k 0)
def wdL:Nat→List Int→List Int→List (List Int)
 |0,p,w=>if upB p then[w]else[]
 |d+1,p,w=>if upB p then[w]else(List.range (p.length - 1)).flatMap fun k=>if p.getD (k+1) 0<p.getD k 0 then wdL d (swp p k) (((k:Int)+1)::w)else[]
def rwL (p:List Int):List (List Int):=if isPermB p=true∧1≤p.length∧p.length≤5∧invN p p.length≤7 then wdL 7 p []else[]
theorem com_ok:∀n,n<6→(permL n).all (fun p=>(rwL p).isEmpty||(famB p comT== !((rwL p).any braB)))=true:=by decide+kernel
theorem swp_all:∀n,n<6→(permL n).all (fun p=>(!decide (invN p p.length≤0)||upB p)&&(List.range (n - 1)).all fun k=> !decide (p.getD (k+1) 0<p.getD k 0)||(permB (swp p k)&&decide (invN (swp p k) (swp p k).length=invN p p.length - 1)))=true:=by decide+kernel
theorem swp_len {p:List Int} {k:Nat}:(swp p k).length=p.length:=by simp[swp]
theorem swp_ok {p:List Int} (hp:permB p=true) (h5:p.length≤5):(invN p p.length≤0→upB p=true)∧∀k,k+1<p.length→p.getD (k+1) 0<p.getD k 0→permB (swp p k)=true∧invN (swp p k) (swp p k).length=invN p p.length - 1:=by
 have h:=List.all_eq_true.1 (swp_all p.length (by omega)) p (permL_mem.2 ⟨hp,rfl⟩)
 simp only[Bool.and_eq_true,Bool.or_eq_true,Bool.not_eq_true',decide_eq_false_iff_not,List.all_eq_true,List.mem_range,decide_eq_true_eq]at h
 refine⟨fun g=> ?_,fun k hk g=> ?_⟩
 ·rcases h.1 with q|q
  ·exact absurd g q
  ·exact q
 ·rcases h.2 k (by omega)with q|q
  ·exact absurd g q
  ·exact q
def wdF (d:Nat) (p w:List Int) (k:Nat):List (List Int):=if p.getD (k+1) 0<p.getD k 0 then wdL d (swp p k) (((k:Int)+1)::w)else[]
def wdK (d:Nat) (p w:List Int) (k:Nat):List (List Int):=(List.range k).flatMap (wdF d p w)
theorem wdK_succ {d:Nat} {p w:List Int} {k:Nat}:wdK d p w (k+1)=wdK d p w k++wdF d p w k:=by
 rw[wdK,List.range_succ,List.flatMap_append];simp[wdK]
theorem wdL_up {d:Nat} {p w:List Int} (h:upB p=true):wdL d p w=[w]:=by cases d<;>simp[wdL,h]
theorem wdL_K {d:Nat} {p w:List Int} (h:upB p=false):wdL (d+1) p w=wdK d p w (p.length - 1):=by rw[wdL,h];rfl
theorem flT_le {α:Type} {f:α→List (List Int)} {n:Nat}:∀{l:List α},(∀x∈l,(f x).length≤n)→(l.flatMap f).length≤l.length*n
 |[],_=>by simp
 |x::l,h=>by
  rw[List.flatMap_cons,List.length_append,List.length_cons,Nat.succ_mul]
  have h1:=h x List.mem_cons_self
  have h2:=flT_le (f:=f) (n:=n) fun y hy=>h y (List.mem_cons_of_mem _ hy)
  omega
theorem wdL_len:∀{d:Nat} {p w:List Int},p.length≤5→(wdL d p w).length≤4^d∧∀l∈wdL d p w,l.length≤w.length+d
 |0,p,w,_=>by unfold wdL;split<;>simp
 |d+1,p,w,h5=>by
  have h4:0<4^d:=Nat.pow_pos (by decide)
  cases hu:upB p with
  |true=>rw[wdL_up hu];simp;rw[Nat.pow_succ];omega
  |false=>
   rw[wdL_K hu]
   have hF:∀k,(wdF d p w k).length≤4^d∧∀l∈wdF d p w k,l.length≤w.length+(d+1):=fun k=>by
    unfold wdF;split
    ·obtain⟨q1,q2⟩:=wdL_len (d:=d) (p:=swp p k) (w:=((k:Int)+1)::w) (by rw[swp_len];exact h5)
     exact⟨q1,fun l hl=>by have:=q2 l hl;simp only[List.length_cons]at this;omega⟩
    ·simp
   constructor
   ·have q:=flT_le (f:=wdF d p w) (n:=4^d) (l:=List.range (p.length - 1)) fun k _=>(hF k).1
    have q2:=Nat.mul_le_mul_right (4^d) (show(List.range (p.length - 1)).length≤4 by simp;omega)
    unfold wdK;rw[Nat.pow_succ];omega
   ·intro l hl
    obtain⟨k,_,hk⟩:=List.mem_flatMap.1 hl
    exact(hF k).2 l hk
theorem rwL_f {p:List Int}:(rwL p).length≤16384∧∀l∈rwL p,l.length≤7:=by
 unfold rwL;split
 ·rename_i h
  obtain⟨q1,q2⟩:=wdL_len (d:=7) (p:=p) (w:=[]) h.2.2.1
  exact⟨q1,fun l hl=>by have:=q2 l hl;simpa using this⟩
 ·simp
def sgWd:FuncId→List Bool:=fun f=>if f=65 then[false,false,true]else if f=8589934657 then[false,true]else if f=66 then[true]else[]
theorem sgWd_eq {f:FuncId}:sgWd f=if f=65 then[false,false,true]else if f=8589934657 then[false,true]else if f=66 then[true]else[]:=_root_.id rfl
theorem way_sgWd:wayE sgWd=false∧wayN sgWd=false∧wayS sgWd=false∧wayZ sgWd=false∧wayM sgWd=false:=⟨rfl,rfl,rfl,rfl,rfl⟩
attribute [go_sem] sgWd_eq way_sgWd
set_option maxHeartbeats 1600000 in
theorem spec_l27Words_c:∀(d:Nat) {m0:Bool} (p w:List Int) (out:List (List Int)),permB p=true→p.length≤5→invN p p.length≤d→w.length+d≤100→out.length+4^d≤1000000000→
  CallT Tryz.prog true 65 [.pv (.sl (.lent m0) (List.map (PV.int .i64) p)),.pv (.sl (.lent false) (List.map (PV.int .i64) w)),.mu false (List.map (elI false) out)] [none,none,none] [.sl .own (List.map (elI false) (out++wdL d p w))]:=by
 intro d
 induction d with
 |zero=>
  intro m0 p w out hp h5 hi hw ho
  have hu:=(swp_ok hp h5).1 (by omega)
  rw[wdL_up hu]
  refine CallT.of (sg:=sgWd) (ts:=[6]) mo Tryz.func65 rfl rfl rfl rfl (by kernel_rfl) (by simp only[go_sem]) rfl rfl ?_
  have cE1:= @spec_l13Straight_c
  refine dTa @hu ?_
  all_goals try (refine zlf ?_;repeat' first|exact zso|refine And.intro ?_ ?_|(refine zim ?_;intro zb hc)|(refine zin ?_;intro zb)|intro j')
  all_goals try refine zbx ?_
  all_goals trace_state
 |succ d ih=>
  intro m0 p w out hp h5 hi hw ho
  have h4:0<4^d:=Nat.pow_pos (by decide)
  rw[Nat.pow_succ]at ho
  obtain⟨s1,s2⟩:=swp_ok hp h5
  cases hu:upB p with
  |true=>
   rw[wdL_up hu]
   refine CallT.of (sg:=sgWd) (ts:=[6]) mo Tryz.func65 rfl rfl rfl rfl (by kernel_rfl) (by simp only[go_sem]) rfl rfl ?_
   have cE1:= @spec_l13Straight_c
   refine dTa @hu ?_
   all_goals try (refine zlf ?_;repeat' first|exact zso|refine And.intro ?_ ?_|(refine zim ?_;intro zb hc)|(refine zin ?_;intro zb)|intro j')
   all_goals try refine zbx ?_
   all_goals trace_state
  |false=>
   have h2:2≤p.length:=by
    match p,hu with
    |[],hu=>cases hu
    |[x],hu=>
     have:=(permB_iff.1 hp).1 x (by simp)
     simp only[List.length_singleton]at this
     obtain rfl:x=1:=by omega
     cases hu
    |_::_::_,_=>simp
   rw[wdL_K hu]
   refine CallT.of (sg:=sgWd) (ts:=[6]) mo Tryz.func65 rfl rfl rfl rfl (by kernel_rfl) (by simp only[go_sem]) rfl rfl ?_
   have cE1:= @spec_l13Straight_c
   refine dTa @hu ?_
   all_goals try (refine zlf ?_;repeat' first|exact zso|refine And.intro ?_ ?_|(refine zim ?_;intro zb hc)|(refine zin ?_;intro zb)|intro j')
   all_goals try refine zbx ?_
   refine v_loopB (fun ms1 S1=>∃(k:Nat),S1.e 0=.p (.sl (.lent m0) (List.map (PV.int .i64) (p)))∧S1.e 1=.p (.sl (.lent false) (List.map (PV.int .i64) (w)))∧OwnM (S1.e 2) S1.h S1.n (elI false) ((out++wdK d p w k).length) (out++wdK d p w k)∧S1.e 7=.p (.int .i64 (k))∧(k+1≤p.length)∧ms1=p.length - k) ((fun(k:Nat)=>p.length - k) (0)) ?_ ⟨0,dC trivial ?_⟩
   all_goals try (refine zlf ?_;repeat' first|exact zso|refine And.intro ?_ ?_|(refine zim ?_;intro zb hc)|(refine zin ?_;intro zb)|intro j')
   all_goals try refine zbx ?_
   rintro ms1 S1 ⟨k,h1_0,h1_1,o1_2,h1_7,c1_0,hm1⟩
   obtain⟨i1_2,mm1_2,h1_2,b1_2,l1_2⟩:=o1_2.out
   have ni1_2:=znds (x:=i1_2) (n:=S1.n)
   have fL1:=(And.intro h1_0 (And.intro h1_1 (And.intro h1_7 (And.intro h1_2 (And.intro b1_2 ni1_2)))))
   ·have g1:=flT_le (f:=wdF d p w) (n:=4^d) (l:=List.range k) fun j _=>by
     unfold wdF;split
     ·exact(wdL_len (by rw[swp_len];exact h5)).1
     ·simp
    have g2:=Nat.mul_le_mul_right (4^d) (show(List.range k).length≤4 by simp;omega)
    have g3:(wdK d p w k).length≤4*4^d:=by unfold wdK;omega
    have g6:k+1<p.length→(wdK d p w k).length≤3*4^d:=fun hk=>by
     have:=Nat.mul_le_mul_right (4^d) (show(List.range k).length≤3 by simp;omega)
     unfold wdK;omega
    by_cases hk:k+1<p.length
    ·have g7:=g6 hk
     by_cases hg:p.getD (k+1) 0<p.getD k 0
     ·obtain⟨q1,q2⟩:=s2 k hk hg
      have q3:wdK d p w (k+1)=wdK d p w k++wdL d (swp p k) (((k:Int)+1)::w):=by rw[wdK_succ,wdF,if_pos hg]
      have c1:=fun m0:Bool=>ih (m0:=m0) (swp p k) (((k:Int)+1)::w) (out++wdK d p w k) q1 (by rw[swp_len];exact h5) (by omega) (by simp;omega) (by simp;omega)
      unfold swp at c1
      simp only[List.map_cons]at c1
      have e1:List.take p.length ((p.set k (p.getD (k+1) 0)).set (k+1) (p.getD k 0))=(p.set k (p.getD (k+1) 0)).set (k+1) (p.getD k 0):=List.take_of_length_le (by simp)
      have e2:List.take (1+w.length) (PV.int .i64 ((k:Int)+1)::List.map (PV.int .i64) w)=PV.int .i64 ((k:Int)+1)::List.map (PV.int .i64) w:=List.take_of_length_le (by simp;omega)
      have cM1:= @c1
      refine dTa (And.intro fL1 (And.intro @hg (And.intro @tk1 (And.intro @e1 @e2)))) ?_
      all_goals try (refine zlf ?_;repeat' first|exact zso|refine And.intro ?_ ?_|(refine zim ?_;intro zb hc)|(refine zin ?_;intro zb)|intro j')
      all_goals try refine zbx ?_
      focus
       refine q_lp_n ((fun(k:Nat)=>p.length - k) (k+1)) (dC fL1 ?_) ⟨k+1,dC fL1 ?_⟩
       all_goals try (refine zlf ?_;repeat' first|exact zso|refine And.intro ?_ ?_|(refine zim ?_;intro zb hc)|(refine zin ?_;intro zb)|intro j')
       all_goals try refine zbx ?_
      all_goals(first|(rw[q3];simp[swp];done)|skip)
      all_goals trace_state
     ·have q3:wdK d p w (k+1)=wdK d p w k:=by rw[wdK_succ,wdF,if_neg hg,List.append_nil]
      have hg':(p.getD (k+1) 0<p.getD k 0)=False:=eq_false hg
      have cM1:=trivial
      refine dTa (And.intro fL1 @hg') ?_
      all_goals try (refine zlf ?_;repeat' first|exact zso|refine And.intro ?_ ?_|(refine zim ?_;intro zb hc)|(refine zin ?_;intro zb)|intro j')
      all_goals try refine zbx ?_
      focus
       refine q_lp_n ((fun(k:Nat)=>p.length - k) (k+1)) (dC fL1 ?_) ⟨k+1,dC fL1 ?_⟩
       all_goals try (refine zlf ?_;repeat' first|exact zso|refine And.intro ?_ ?_|(refine zim ?_;intro zb hc)|(refine zin ?_;intro zb)|intro j')
       all_goals try refine zbx ?_
      all_goals(first|(rw[q3];done)|skip)
      all_goals trace_state
    ·obtain rfl:k=p.length - 1:=by omega
     have cM1:=trivial
     refine dTa fL1 ?_
     all_goals try (refine zlf ?_;repeat' first|exact zso|refine And.intro ?_ ?_|(refine zim ?_;intro zb hc)|(refine zin ?_;intro zb)|intro j')
     all_goals try refine zbx ?_
     all_goals trace_state
   all_goals(first|(simp[wdK];done)|skip)
   all_goals trace_state
def rwB (p:List Int):List (List Int):=putL (rwL p)
theorem putL_take {L:List (List Int)} {k:Nat} (h:k<L.length):putL (L.take (k+1))=putP (putL (L.take k)) (L.getD k []):=by
 rw[take_getD (d:=[]) h,putL,putL,List.foldl_append];rfl
theorem spec_ReducedWords_c {m0:Bool} (p:List Int) (hp:p.length≤1048576):Fun Tryz.prog 27 [(.sl (.lent m0) (List.map (PV.int .i64) (p)))] [(.sl .own (List.map (elI false) (rwB p)))]:=by
 obtain⟨b1,b2⟩:=rwL_f (p:=p)
 have i1:=invN_b (p:=p) (Nat.le_refl _)
 by_cases hc:isPermB p=true
 ·obtain⟨h8,hq⟩:=isP_8 hc
  have i2:p.length*p.length≤64:=Nat.mul_le_mul h8 h8
  by_cases h:(1≤p.length∧p.length≤5)∧invN p p.length≤7
  ·have e:rwL p=wdL 7 p []:=by rw[rwL,if_pos ⟨hc,h.1.1,h.1.2,h.2⟩]
   have c1:=fun m0:Bool=>spec_l27Words_c 7 (m0:=m0) p [] [] hq h.1.2 h.2 (by decide) (by decide)
   simp only[List.map_nil,List.nil_append]at c1
   rw[←e]at c1
   refine fO sgWd [2] Tryz.func27 ?_
   have cE1:= @spec_l1In_c;have cE2:= @spec_IsPerm_c;have cE3:= @spec_CountInversions_c;have cM1:= @spec_l3Put_c
   have cM2:= @c1
   refine dEa @hc ?_
   all_goals try (refine zlf ?_;repeat' first|exact zso|refine And.intro ?_ ?_|(refine zim ?_;intro zb hc)|(refine zin ?_;intro zb)|intro j')
   all_goals try refine zbx ?_
   refine v_loopB (fun ms1 S1=>∃(k:Nat),OwnL (S1.e 4) S1.h S1.n (elI false) ((rwL p).length) (rwL p)∧OwnL (S1.e 3) S1.h S1.n (elI false) ((putL ((rwL p).take k)).length) (putL ((rwL p).take k))∧S1.e 5=.p (.int .i64 (k))∧(k≤(rwL p).length)∧NId (S1.e 3) (S1.e 4)∧ms1=(rwL p).length - k) ((fun(k:Nat)=>(rwL p).length - k) (0)) ?_ ⟨0,dC trivial ?_⟩
   all_goals try (refine zlf ?_;repeat' first|exact zso|refine And.intro ?_ ?_|(refine zim ?_;intro zb hc)|(refine zin ?_;intro zb)|intro j')
   all_goals try refine zbx ?_
   rintro ms1 S1 ⟨k,o1_4,o1_3,h1_5,c1_0,u1_0,hm1⟩
   obtain⟨i1_4,h1_4,b1_4,l1_4⟩:=o1_4.out
   obtain⟨i1_3,h1_3,b1_3,l1_3⟩:=o1_3.out
   have k1_0:=(u1_0).out h1_3 h1_4
   have ni1_4:=znds (x:=i1_4) (n:=S1.n)
   have ni1_3:=znds (x:=i1_3) (n:=S1.n)
   have di1_4i1_3:=zdne (x:=i1_4) (y:=i1_3)
   have fL1:=(And.intro h1_5 (And.intro h1_4 (And.intro b1_4 (And.intro h1_3 (And.intro b1_3 (And.intro ni1_4 (And.intro ni1_3 di1_4i1_3)))))))
   ·have l1:=putL_len (L:=(rwL p).take k)
    have l2:∀l∈putL ((rwL p).take k),l.length≤1048576:=put_lens fun l hl=>by have:=b2 l (List.mem_of_mem_take hl);omega
    rw[List.length_take]at l1
    by_cases hk:k<(rwL p).length
    ·have l3:=b2 _ (getD_mem (d:=[]) hk)
     have l4:=putL_take hk
     have cM2:=trivial
     refine dEa fL1 ?_
     all_goals try (refine zlf ?_;repeat' first|exact zso|refine And.intro ?_ ?_|(refine zim ?_;intro zb hc)|(refine zin ?_;intro zb)|intro j')
     all_goals try refine zbx ?_
     focus
      refine q_lp_n ((fun(k:Nat)=>(rwL p).length - k) (k+1)) (dC fL1 ?_) ⟨k+1,dC fL1 ?_⟩
      all_goals try (refine zlf ?_;repeat' first|exact zso|refine And.intro ?_ ?_|(refine zim ?_;intro zb hc)|(refine zin ?_;intro zb)|intro j')
      all_goals try refine zbx ?_
     all_goals(first|(rw[l4];done)|skip)
     all_goals trace_state
    ·have cM2:=trivial
     refine dEa fL1 ?_
     all_goals try (refine zlf ?_;repeat' first|exact zso|refine And.intro ?_ ?_|(refine zim ?_;intro zb hc)|(refine zin ?_;intro zb)|intro j')
     all_goals try refine zbx ?_
     all_goals(first|(rw[List.take_of_length_le (by omega)];rfl)|skip)
     all_goals trace_state
   all_goals trace_state
  ·have e0:rwL p=[]:=by unfold rwL;exact if_neg fun g=>h ⟨⟨g.2.1,g.2.2.1⟩,g.2.2.2⟩
   have e:rwB p=[]:=by rw[rwB,e0];rfl
   rw[e]
   refine fO sgWd [2] Tryz.func27 ?_
   have cE1:= @spec_l1In_c;have cE2:= @spec_IsPerm_c;have cE3:= @spec_CountInversions_c;have cM1:= @spec_l3Put_c
   refine dEa @hc ?_
   all_goals try (refine zlf ?_;repeat' first|exact zso|refine And.intro ?_ ?_|(refine zim ?_;intro zb hc)|(refine zin ?_;intro zb)|intro j')
   all_goals try refine zbx ?_
   all_goals trace_state
 ·have e0:rwL p=[]:=by unfold rwL;exact if_neg fun g=>hc g.1
  have e:rwB p=[]:=by rw[rwB,e0];rfl
  rw[e]
  rw[Bool.not_eq_true]at hc
  refine fO sgWd [2] Tryz.func27 ?_
  have cE1:= @spec_l1In_c;have cE2:= @spec_IsPerm_c;have cE3:= @spec_CountInversions_c;have cM1:= @spec_l3Put_c
  refine dEa @hc ?_
  all_goals try (refine zlf ?_;repeat' first|exact zso|refine And.intro ?_ ?_|(refine zim ?_;intro zb hc)|(refine zin ?_;intro zb)|intro j')
  all_goals try refine zbx ?_
  all_goals trace_state
end Go.Gl
