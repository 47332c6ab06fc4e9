/-
  What the functions compute, and what the law asks of it: texts joined. Conditions: those that each lemma names.
-/
import Derived.Test.YtbppfpdgahopeaaGreatDoorT1
import Derived.Test.YtbppfpdgahopeaaGreatDoorGlC
import Derived.Shelf.Strings.Builder1
import Derived.Shelf.Strings.Builder2
import Derived.Shelf.Strings.OnBuilder
import Derived.Shelf.Small.Bits
import Derived.Shelf.Strconv.Itoa0
import Derived.Shelf.Strconv.Itoa1
import Derived.Shelf.LaysM
import Derived.Shelf.Strconv.Itoa2
import Derived.Shelf.Strconv.Itoa3
import Derived.Shelf.Slices.Turned
import Derived.Shelf.Slices.Reverse
import Derived.Shelf.Slices.Equal
import Derived.Ground.Names2Prog
import Derived.Shelf.Slices.Clone
import Derived.Shelf.Slices.SearchI
import Derived.Shelf.Slices.Cells
import Derived.Ground.SlgnProg
import Derived.Shelf.SlicesE.Clone
import Derived.Test.YtbppfpdgahopeaaGreatDoorProg
set_option linter.unusedSimpArgs false
set_option linter.unusedVariables false
set_option maxRecDepth 20000
set_option linter.unusedSectionVars false
namespace Go.Gl
open Go Go.Proofs
variable [Amb] [NoQ]
def fitK (b:Int) (p q c:List Int) (i:Int) (k:Nat):Bool:=(List.range k).all fun l=>decide (q.getD l 0<q.getD c.length 0)==decide (p.getD (c.getD l 0 - b).toNat 0<p.getD (i - b).toNat 0)
def fitB (b:Int) (p q c:List Int) (i:Int):Bool:=fitK b p q c i c.length
theorem fitK_succ {b:Int} {p q c:List Int} {i:Int} {k:Nat}:fitK b p q c i (k+1)=(fitK b p q c i k&&(decide (q.getD k 0<q.getD c.length 0)==decide (p.getD (c.getD k 0 - b).toNat 0<p.getD (i - b).toNat 0))):=by
 simp[fitK,List.range_succ]
def fromI (b:Int) (c:List Int):Int:=if c.length=0 then b else c.getD (c.length - 1) 0+1
def occ (b:Int) (p q:List Int):Nat→List Int→List (List Int)
 |0,c=>[c]
 |d+1,c=>(List.range ((p.length:Int)+b - fromI b c).toNat).flatMap fun j:Nat=>if fitB b p q c (fromI b c+j)=true then occ b p q d (c++[fromI b c+j])else[]
def occJ (b:Int) (p q:List Int) (d:Nat) (c:List Int) (J:Nat):List (List Int):=
 (List.range J).flatMap fun j:Nat=>if fitB b p q c (fromI b c+j)=true then occ b p q d (c++[fromI b c+j])else[]
theorem occ_J {b:Int} {p q:List Int} {d:Nat} {c:List Int}:occ b p q (d+1) c=occJ b p q d c ((p.length:Int)+b - fromI b c).toNat:=rfl
theorem occJ_succ {b:Int} {p q:List Int} {d:Nat} {c:List Int} {J:Nat}:occJ b p q d c (J+1)=occJ b p q d c J++if fitB b p q c (fromI b c+J)=true then occ b p q d (c++[fromI b c+J])else[]:=by
 simp[occJ,List.range_succ]
theorem from_snoc {b i:Int} {c:List Int}:fromI b (c++[i])=i+1:=by
 rw[fromI,if_neg (by simp)];simp
theorem occ_len {b:Int} {p q:List Int} (hb:0≤b):∀{d:Nat} {c:List Int},b≤fromI b c→(occ b p q d c).length≤p.length^d
 |0,c,_=>by simp[occ]
 |d+1,c,hc=>by
  have key:∀J,(occJ b p q d c J).length≤J*p.length^d:=by
   intro J
   induction J with
   |zero=>simp[occJ]
   |succ J ih=>
    rw[occJ_succ,List.length_append,Nat.succ_mul]
    split
    ·have:=occ_len (q:=q) (p:=p) hb (d:=d) (c:=c++[fromI b c+J]) (by rw[from_snoc];omega)
     omega
    ·simp;omega
  rw[occ_J,Nat.pow_succ,Nat.mul_comm]
  exact Nat.le_trans (key _) (Nat.mul_le_mul_right _ (by omega))
theorem occ_nil {b:Int} {p q:List Int}:∀{d:Nat} {c:List Int},1≤d→(p.length:Int)+b<fromI b c+d→occ b p q d c=[]
 |d+1,c,_,h=>by
  rw[occ,List.flatMap_eq_nil_iff]
  intro j hj
  rw[List.mem_range]at hj
  split
  ·exact occ_nil (by omega) (by rw[from_snoc];omega)
  ·rfl
def hasB (p q:List Int):Bool:= !(occ 0 p q q.length []).isEmpty
theorem fitB_shift {p q c:List Int} {i:Int}:fitB 1 p q (c.map (·+1)) (i+1)=fitB 0 p q c i:=by
 simp only[fitB,fitK,List.length_map]
 rw[Bool.eq_iff_iff,List.all_eq_true,List.all_eq_true]
 refine forall_congr' fun l=>imp_congr_right fun hl=> ?_
 rw[List.mem_range]at hl
 have e1:(c.map (·+1)).getD l 0 - 1=c.getD l 0 - 0:=by
  rw[List.getD_eq_getElem?_getD,List.getElem?_map,List.getD_eq_getElem?_getD,List.getElem?_eq_getElem hl];simp
 rw[e1,show i+1 - 1=i - 0 by omega]
theorem from_shift {c:List Int}:fromI 1 (c.map (·+1))=fromI 0 c+1:=by
 unfold fromI
 rw[List.length_map]
 split
 ·rfl
 ·rename_i h
  rw[List.getD_eq_getElem?_getD,List.getElem?_map,List.getD_eq_getElem?_getD,List.getElem?_eq_getElem (by omega)];simp
theorem occ_shift {p q:List Int}:∀{d:Nat} {c:List Int},occ 1 p q d (c.map (·+1))=(occ 0 p q d c).map (List.map (·+1))
 |0,c=>rfl
 |d+1,c=>by
  rw[occ,occ,from_shift,List.map_flatMap]
  rw[show((p.length:Int)+1 - (fromI 0 c+1))=p.length+0 - fromI 0 c by omega]
  congr 1;funext j
  rw[show fromI 0 c+1+(j:Int)=(fromI 0 c+j)+1 by omega,fitB_shift]
  split
  ·rw[show List.map (·+1) c++[fromI 0 c+(j:Int)+1]=List.map (·+1) (c++[fromI 0 c+(j:Int)])by simp,occ_shift]
  ·rfl
theorem fitK_mono {b:Int} {p q c:List Int} {i:Int} {k n:Nat} (hk:k≤n) (h:fitK b p q c i k=false):fitK b p q c i n=false:=by
 induction hk with
 |refl=>exact h
 |step _ ih=>rw[fitK_succ,ih];rfl
theorem spec_l7Fits_c {m0 m1 m2:Bool} (p q c:List Int) (i:Int) (hq:q.length≤8) (hp:p.length≤8) (hc0:c.length<q.length) (hx:∀x∈c,1≤x∧x≤p.length) (hi:1≤i∧i≤p.length):Fun Tryz.prog 229 [(.sl (.lent m0) (List.map (PV.int .i64) (p))),(.sl (.lent m1) (List.map (PV.int .i64) (q))),(.sl (.lent m2) (List.map (PV.int .i64) ((c++[i]))))] [(.bool (fitB 1 p q c i))]:=by
 refine fO sg0 [6] Tryz.func229 ?_
 have e1:(c++[i]).getD c.length 0=i:=by simp
 refine dEa trivial ?_
 all_goals try (refine zlf ?_;repeat' first|exact zso|refine And.intro ?_ ?_|(refine zim ?_;intro zb hc)|(refine zin ?_;intro zb)|intro j')
 all_goals try refine zbx ?_
 refine v_loopB (fun ms1 S1=>∃(k:Nat),S1.e 0=.p (.sl (.lent m0) (List.map (PV.int .i64) (p)))∧S1.e 1=.p (.sl (.lent m1) (List.map (PV.int .i64) (q)))∧S1.e 2=.p (.sl (.lent m2) (List.map (PV.int .i64) ((c++[i]))))∧S1.e 7=.p (.int .i64 (c.length))∧S1.e 8=.p (.int .i64 (k))∧(k≤c.length)∧(fitK 1 p q c i k=true)∧ms1=c.length - k) ((fun(k:Nat)=>c.length - k) (0)) ?_ ⟨0,dC trivial ?_⟩
 all_goals try (refine zlf ?_;repeat' first|exact zso|refine And.intro ?_ ?_|(refine zim ?_;intro zb hc)|(refine zin ?_;intro zb)|intro j')
 all_goals try refine zbx ?_
 rintro ms1 S1 ⟨k,h1_0,h1_1,h1_2,h1_7,h1_8,c1_0,c1_1,hm1⟩
 have fL1:=(And.intro h1_0 (And.intro h1_1 (And.intro h1_2 (And.intro h1_7 h1_8))))
 by_cases hk:k<c.length
 ·have e2:(c++[i]).getD k 0=c.getD k 0:=by simp[List.getD_eq_getElem?_getD,List.getElem?_append_left hk]
  have e3:=hx _ (getD_mem (d:=0) hk)
  refine dEa (And.intro fL1 (And.intro @e1 @e2)) ?_
  all_goals try (refine zlf ?_;repeat' first|exact zso|refine And.intro ?_ ?_|(refine zim ?_;intro zb hc)|(refine zin ?_;intro zb)|intro j')
  all_goals try refine zbx ?_
  ·exact(fitK_mono (k:=k+1) (by omega) (by rw[fitK_succ,c1_1,Bool.true_and];simpa using hc)).symm
  ·focus
    refine q_lp_n ((fun(k:Nat)=>c.length - k) (k+1)) (dC fL1 ?_) ⟨k+1,dC fL1 ?_⟩
    all_goals try (refine zlf ?_;repeat' first|exact zso|refine And.intro ?_ ?_|(refine zim ?_;intro zb hc)|(refine zin ?_;intro zb)|intro j')
    all_goals try refine zbx ?_
   rw[fitK_succ,c1_1,Bool.true_and,beq_iff_eq];simpa using hc
 ·refine dEa (And.intro fL1 @e1) ?_
  all_goals try (refine zlf ?_;repeat' first|exact zso|refine And.intro ?_ ?_|(refine zim ?_;intro zb hc)|(refine zin ?_;intro zb)|intro j')
  all_goals try refine zbx ?_
  obtain rfl:k=c.length:=by omega
  exact c1_1.symm
def sgFd:FuncId→List Bool:=fun f=>if f=224 then[false,false,false,true]else if f=8589934816 then[false,false,true]else[]
theorem sgFd_eq {f:FuncId}:sgFd f=if f=224 then[false,false,false,true]else if f=8589934816 then[false,false,true]else[]:=_root_.id rfl
theorem way_sgFd:wayE sgFd=false∧wayN sgFd=false∧wayS sgFd=false∧wayZ sgFd=false∧wayM sgFd=false:=⟨rfl,rfl,rfl,rfl,rfl⟩
attribute [go_sem] sgFd_eq way_sgFd
set_option maxHeartbeats 1000000 in
theorem spec_l7Find_c {m0 m1:Bool} (p q:List Int) (hp:p.length≤8) (hq:q.length≤8):∀(d:Nat) (h:List Int) (out:List (List Int)),h.length+d=q.length→(∀x∈h,1≤x∧x≤p.length)→out.length+8^d≤1099511627776→
  CallT Tryz.prog true 224 [.pv (.sl (.lent m0) (List.map (PV.int .i64) p)),.pv (.sl (.lent m1) (List.map (PV.int .i64) q)),.pv (.sl (.lent false) (List.map (PV.int .i64) h)),.mu false (List.map (elI false) out)] [none,none,none,none] [.sl .own (List.map (elI false) (out++occ 1 p q d h))]:=by
 intro d
 induction d with
 |zero=>
  intro h out hd hx ho
  refine CallT.of (sg:=sgFd) (ts:=[8]) mo Tryz.func224 rfl rfl rfl rfl (by kernel_rfl) (by simp only[go_sem]) rfl rfl ?_
  have cE1:= @spec_l7Fits_c
  refine dTa trivial ?_
  all_goals try (refine zlf ?_;repeat' first|exact zso|refine And.intro ?_ ?_|(refine zim ?_;intro zb hc)|(refine zin ?_;intro zb)|intro j')
  all_goals try refine zbx ?_
  all_goals(rw[tk1];rfl)
 |succ d ih=>
  intro h out hd hx ho
  have f0:1≤fromI 1 h∧fromI 1 h≤p.length+1:=by
   unfold fromI
   split
   ·omega
   ·have:=hx _ (getD_mem (d:=0) (show h.length - 1<h.length by omega));omega
  refine CallT.of (sg:=sgFd) (ts:=[8]) mo Tryz.func224 rfl rfl rfl rfl (by kernel_rfl) (by simp only[go_sem]) rfl rfl ?_
  have cE1:= @spec_l7Fits_c
  have lenJ:∀J:Nat,(J:Int)≤p.length+1 - fromI 1 h→(occJ 1 p q d h J).length≤J*8^d:=by
   intro J
   induction J with
   |zero=>intro _;simp[occJ]
   |succ J ihJ=>
    intro hJ
    have h1:=ihJ (by omega)
    have h2:(if fitB 1 p q h (fromI 1 h+J)=true then occ 1 p q d (h++[fromI 1 h+J])else[]).length≤8^d:=by
     split
     ·exact Nat.le_trans (occ_len (by decide) (by rw[from_snoc];omega)) (Nat.pow_le_pow_left hp d)
     ·exact Nat.zero_le _
    rw[occJ_succ,List.length_append,Nat.succ_mul]
    exact Nat.add_le_add h1 h2
  by_cases hn:h.length=0
  ·have f1:fromI 1 h=1:=if_pos hn
   refine dTa @hn ?_
   all_goals try (refine zlf ?_;repeat' first|exact zso|refine And.intro ?_ ?_|(refine zim ?_;intro zb hc)|(refine zin ?_;intro zb)|intro j')
   all_goals try refine zbx ?_
   refine v_loopB (fun ms1 S1=>∃(J:Nat),S1.e 0=.p (.sl (.lent m0) (List.map (PV.int .i64) (p)))∧S1.e 1=.p (.sl (.lent m1) (List.map (PV.int .i64) (q)))∧S1.e 2=.p (.sl (.lent false) (List.map (PV.int .i64) (h)))∧OwnM (S1.e 3) S1.h S1.n (elI false) ((out++occJ 1 p q d h J).length) (out++occJ 1 p q d h J)∧S1.e 10=.p (.int .i64 ((fromI 1 h+J)))∧((J:Int)≤p.length+1 - fromI 1 h)∧ms1=p.length+1 - J) ((fun(J:Nat)=>p.length+1 - J) (0)) ?_ ⟨0,dC trivial ?_⟩
   all_goals try (refine zlf ?_;repeat' first|exact zso|refine And.intro ?_ ?_|(refine zim ?_;intro zb hc)|(refine zin ?_;intro zb)|intro j')
   all_goals try refine zbx ?_
   rintro ms1 S1 ⟨J,h1_0,h1_1,h1_2,o1_3,h1_10,c1_0,hm1⟩
   obtain⟨i1_3,mm1_3,h1_3,b1_3,l1_3⟩:=o1_3.out
   have ni1_3:=znds (x:=i1_3) (n:=S1.n)
   have fL1:=(And.intro h1_0 (And.intro h1_1 (And.intro h1_2 (And.intro h1_10 (And.intro h1_3 (And.intro b1_3 ni1_3))))))
   have b1:=lenJ J (by omega)
   by_cases hJ:fromI 1 h+J≤p.length
   ·have cM1:= @ih
    refine dTa (And.intro fL1 @tk1) ?_
    all_goals try (refine zlf ?_;repeat' first|exact zso|refine And.intro ?_ ?_|(refine zim ?_;intro zb hc)|(refine zin ?_;intro zb)|intro j')
    all_goals try refine zbx ?_
    ·intro x hx'
     rcases List.mem_append.1 hx' with hx'|hx'
     ·exact hx x hx'
     ·simp at hx';subst hx';omega
    ·have h8:J+1≤8:=by omega
     have h9:=Nat.mul_le_mul_right (8^d) h8
     have h10:8^(d+1)=8*8^d:=by rw[Nat.pow_succ,Nat.mul_comm]
     rw[Nat.succ_mul]at h9
     rw[List.length_append];omega
    ·focus
      refine q_lp_n ((fun(J:Nat)=>p.length+1 - J) (J+1)) (dC fL1 ?_) ⟨J+1,dC fL1 ?_⟩
      all_goals try (refine zlf ?_;repeat' first|exact zso|refine And.intro ?_ ?_|(refine zim ?_;intro zb hc)|(refine zin ?_;intro zb)|intro j')
      all_goals try refine zbx ?_
     all_goals(rw[occJ_succ,if_pos hc];try simp only[List.length_append,List.append_assoc,Nat.add_assoc])
    ·focus
      refine q_lp_n ((fun(J:Nat)=>p.length+1 - J) (J+1)) (dC fL1 ?_) ⟨J+1,dC fL1 ?_⟩
      all_goals try (refine zlf ?_;repeat' first|exact zso|refine And.intro ?_ ?_|(refine zim ?_;intro zb hc)|(refine zin ?_;intro zb)|intro j')
      all_goals try refine zbx ?_
     all_goals(rw[occJ_succ,if_neg (by rw[hc];decide),List.append_nil])
   ·have cM1:= @ih
    refine dTa fL1 ?_
    all_goals try (refine zlf ?_;repeat' first|exact zso|refine And.intro ?_ ?_|(refine zim ?_;intro zb hc)|(refine zin ?_;intro zb)|intro j')
    all_goals try refine zbx ?_
    rw[occ_J,show((p.length:Int)+1 - fromI 1 h).toNat=J by omega]
   ·simp[occJ]
   ·simp[occJ]
  ·skip
   have f1:fromI 1 h=h.getD (h.length - 1) 0+1:=if_neg hn
   have f2:((h.length:Int) - 1).toNat=h.length - 1:=by omega
   have g1:=hx _ (getD_mem (d:=0) (show h.length - 1<h.length by omega))
   have cM1:=trivial
   refine dTa @f2 ?_
   all_goals try (refine zlf ?_;repeat' first|exact zso|refine And.intro ?_ ?_|(refine zim ?_;intro zb hc)|(refine zin ?_;intro zb)|intro j')
   all_goals try refine zbx ?_
   refine v_loopB (fun ms2 S2=>∃(J:Nat),S2.e 0=.p (.sl (.lent m0) (List.map (PV.int .i64) (p)))∧S2.e 1=.p (.sl (.lent m1) (List.map (PV.int .i64) (q)))∧S2.e 2=.p (.sl (.lent false) (List.map (PV.int .i64) (h)))∧OwnM (S2.e 3) S2.h S2.n (elI false) ((out++occJ 1 p q d h J).length) (out++occJ 1 p q d h J)∧S2.e 10=.p (.int .i64 ((fromI 1 h+J)))∧((J:Int)≤p.length+1 - fromI 1 h)∧ms2=p.length+1 - J) ((fun(J:Nat)=>p.length+1 - J) (0)) ?_ ⟨0,dC trivial ?_⟩
   all_goals try (refine zlf ?_;repeat' first|exact zso|refine And.intro ?_ ?_|(refine zim ?_;intro zb hc)|(refine zin ?_;intro zb)|intro j')
   all_goals try refine zbx ?_
   rintro ms2 S2 ⟨J,h2_0,h2_1,h2_2,o2_3,h2_10,c2_0,hm2⟩
   obtain⟨i2_3,mm2_3,h2_3,b2_3,l2_3⟩:=o2_3.out
   have ni2_3:=znds (x:=i2_3) (n:=S2.n)
   have fL2:=(And.intro h2_0 (And.intro h2_1 (And.intro h2_2 (And.intro h2_10 (And.intro h2_3 (And.intro b2_3 ni2_3))))))
   have b1:=lenJ J (by omega)
   by_cases hJ:fromI 1 h+J≤p.length
   ·have cM1:= @ih
    refine dTa (And.intro fL2 @tk1) ?_
    all_goals try (refine zlf ?_;repeat' first|exact zso|refine And.intro ?_ ?_|(refine zim ?_;intro zb hc)|(refine zin ?_;intro zb)|intro j')
    all_goals try refine zbx ?_
    ·intro x hx'
     rcases List.mem_append.1 hx' with hx'|hx'
     ·exact hx x hx'
     ·simp at hx';subst hx';omega
    ·have h8:J+1≤8:=by omega
     have h9:=Nat.mul_le_mul_right (8^d) h8
     have h10:8^(d+1)=8*8^d:=by rw[Nat.pow_succ,Nat.mul_comm]
     rw[Nat.succ_mul]at h9
     rw[List.length_append];omega
    ·focus
      refine q_lp_n ((fun(J:Nat)=>p.length+1 - J) (J+1)) (dC fL2 ?_) ⟨J+1,dC fL2 ?_⟩
      all_goals try (refine zlf ?_;repeat' first|exact zso|refine And.intro ?_ ?_|(refine zim ?_;intro zb hc)|(refine zin ?_;intro zb)|intro j')
      all_goals try refine zbx ?_
     all_goals(rw[occJ_succ,if_pos hc];try simp only[List.length_append,List.append_assoc,Nat.add_assoc])
    ·focus
      refine q_lp_n ((fun(J:Nat)=>p.length+1 - J) (J+1)) (dC fL2 ?_) ⟨J+1,dC fL2 ?_⟩
      all_goals try (refine zlf ?_;repeat' first|exact zso|refine And.intro ?_ ?_|(refine zim ?_;intro zb hc)|(refine zin ?_;intro zb)|intro j')
      all_goals try refine zbx ?_
     all_goals(rw[occJ_succ,if_neg (by rw[hc];decide),List.append_nil])
   ·have cM1:= @ih
    refine dTa fL2 ?_
    all_goals try (refine zlf ?_;repeat' first|exact zso|refine And.intro ?_ ?_|(refine zim ?_;intro zb hc)|(refine zin ?_;intro zb)|intro j')
    all_goals try refine zbx ?_
    rw[occ_J,show((p.length:Int)+1 - fromI 1 h).toNat=J by omega]
   ·simp[occJ]
   ·simp[occJ]
theorem occ_emp {p q:List Int} {d:Nat} {c:List Int}:(occ 1 p q d (c.map (·+1))).length=(occ 0 p q d c).length:=by rw[occ_shift,List.length_map]
theorem has_dec {p q:List Int}:decide (0<((occ 1 p q q.length []).length:Int))=hasB p q:=by
 have:=occ_emp (p:=p) (q:=q) (d:=q.length) (c:=[])
 rw[List.map_nil]at this
 rw[this,hasB]
 cases occ 0 p q q.length []with
 |nil=>rfl
 |cons x l=>simp
theorem spec_l7Has_c {m0 m1:Bool} (p q:List Int) (hp:p.length≤8) (hq:q.length≤8):Fun Tryz.prog 213 [(.sl (.lent m0) (List.map (PV.int .i64) (p))),(.sl (.lent m1) (List.map (PV.int .i64) (q)))] [(.bool (hasB p q))]:=by
 refine fO sgFd [4] Tryz.func213 ?_
 have h9:=spec_l7Find_c (m0:=m0) (m1:=m1) p q hp hq q.length [] [] (Nat.zero_add _) (by simp) (by have h2:8^q.length≤8^8:=Nat.pow_le_pow_right (by omega) (by omega);simp only[List.length_nil,Nat.zero_add];omega)
 simp only[List.map_nil,List.nil_append]at h9
 have cM1:= @h9
 refine dEa trivial ?_
 all_goals try (refine zlf ?_;repeat' first|exact zso|refine And.intro ?_ ?_|(refine zim ?_;intro zb hc)|(refine zin ?_;intro zb)|intro j')
 all_goals try refine zbx ?_
 exact has_dec
theorem occ_end {b:Int} {p q:List Int} {d:Nat} {c:List Int} {J:Nat} (h1:occJ b p q d c J=[]) (h2:∀j:Nat,J≤j→(j:Int)<p.length+b - fromI b c→occ b p q d (c++[fromI b c+j])=[]):occ b p q (d+1) c=[]:=by
 rw[occ,List.flatMap_eq_nil_iff]
 intro j hj
 rw[List.mem_range]at hj
 by_cases hJ:j<J
 ·rw[occJ,List.flatMap_eq_nil_iff]at h1
  exact h1 j (List.mem_range.2 hJ)
 ·rw[h2 j (by omega) (by omega)];split<;>rfl
theorem occ_hit {b:Int} {p q:List Int} {d:Nat} {c:List Int} {J:Nat} (hj:(J:Int)<p.length+b - fromI b c) (h1:fitB b p q c (fromI b c+J)=true) (h2:occ b p q d (c++[fromI b c+J])≠[]):occ b p q (d+1) c≠[]:=by
 intro h
 rw[occ,List.flatMap_eq_nil_iff]at h
 have:=h J (List.mem_range.2 (by omega))
 rw[if_pos h1]at this
 exact h2 this
set_option maxHeartbeats 1000000 in
theorem impl_has_c {m0 m1:Bool} (p q:List Int) (hp:p.length≤8) (hq:q.length≤8):∀(d:Nat) {m2:Bool} (c:List Int),c.length+d=q.length→(∀x∈c,0≤x∧x<p.length)→
  Fun Tryz.prog 178 [.sl (.lent m0) (List.map (PV.int .i64) p),.sl (.lent m1) (List.map (PV.int .i64) q),.sl (.lent m2) (List.map (PV.int .i64) c)] [.bool (!(occ 0 p q d c).isEmpty)]:=by
 intro d
 induction d with
 |zero=>
  intro m2 c hd hx
  refine fO sg0 [6] Tryz.func178 ?_
  have cE1:= @slices_Clone_c
  refine dEa trivial ?_
  all_goals try (refine zlf ?_;repeat' first|exact zso|refine And.intro ?_ ?_|(refine zim ?_;intro zb hc)|(refine zin ?_;intro zb)|intro j')
  all_goals try refine zbx ?_
  rfl
 |succ d ih=>
  intro m2 c hd hx
  have f0:0≤fromI 0 c∧fromI 0 c≤p.length:=by
   unfold fromI
   split
   ·omega
   ·have:=hx _ (getD_mem (d:=0) (show c.length - 1<c.length by omega));omega
  by_cases hn:c.length=0
  ·have f1:fromI 0 c=0:=if_pos hn
   refine fO sg0 [6] Tryz.func178 ?_
   have cE1:= @slices_Clone_c
   refine dEa @hn ?_
   all_goals try (refine zlf ?_;repeat' first|exact zso|refine And.intro ?_ ?_|(refine zim ?_;intro zb hc)|(refine zin ?_;intro zb)|intro j')
   all_goals try refine zbx ?_
   refine v_loopB (fun ms1 S1=>∃(J:Nat),S1.e 0=.p (.sl (.lent m0) (List.map (PV.int .i64) (p)))∧S1.e 1=.p (.sl (.lent m1) (List.map (PV.int .i64) (q)))∧S1.e 2=.p (.sl (.lent m2) (List.map (PV.int .i64) (c)))∧S1.e 8=.p (.int .i64 (c.length))∧S1.e 9=.p (.int .i64 ((fromI 0 c+J)))∧((J:Int)≤p.length - fromI 0 c)∧(occJ 0 p q d c J=[])∧ms1=p.length - J) ((fun(J:Nat)=>p.length - J) (0)) ?_ ⟨0,dIa trivial ?_⟩
   all_goals try (refine zlf ?_;repeat' first|exact zso|refine And.intro ?_ ?_|(refine zim ?_;intro zb hc)|(refine zin ?_;intro zb)|intro j')
   all_goals try refine zbx ?_
   rintro ms1 S1 ⟨J,h1_0,h1_1,h1_2,h1_8,h1_9,c1_0,c1_1,hm1⟩
   have fL1:=(And.intro h1_0 (And.intro h1_1 (And.intro h1_2 (And.intro h1_8 h1_9))))
   refine dEa fL1 ?_
   all_goals try (refine zlf ?_;repeat' first|exact zso|refine And.intro ?_ ?_|(refine zim ?_;intro zb hc)|(refine zin ?_;intro zb)|intro j')
   all_goals try refine zbx ?_
   ·refine v_loopB (fun ms2 S2=>∃(k:Nat),S2.e 0=.p (.sl (.lent m0) (List.map (PV.int .i64) (p)))∧S2.e 1=.p (.sl (.lent m1) (List.map (PV.int .i64) (q)))∧S2.e 2=.p (.sl (.lent m2) (List.map (PV.int .i64) (c)))∧S2.e 8=.p (.int .i64 (c.length))∧S2.e 9=.p (.int .i64 ((fromI 0 c+J)))∧S2.e 10=.p (.bool (fitK 0 p q c (fromI 0 c+J) k))∧S2.e 42=.p (.sl (.lent m2) (List.map (PV.int .i64) (c)))∧S2.e 43=.p (.int .i64 (c.length))∧S2.e 44=.p (.int .i64 (k))∧(k≤c.length)∧((J:Int)≤p.length - fromI 0 c - (d+1))∧S1.n≤S2.n∧ms2=c.length - k) ((fun(k:Nat)=>c.length - k) (0)) ?_ ⟨0,dC fL1 ?_⟩
    all_goals try (refine zlf ?_;repeat' first|exact zso|refine And.intro ?_ ?_|(refine zim ?_;intro zb hc)|(refine zin ?_;intro zb)|intro j')
    all_goals try refine zbx ?_
    rintro ms2 S2 ⟨k,h2_0,h2_1,h2_2,h2_8,h2_9,h2_10,h2_42,h2_43,h2_44,c2_0,c2_1,u2_0,hm2⟩
    have fL2:=(And.intro h2_0 (And.intro h2_1 (And.intro h2_2 (And.intro h2_8 (And.intro h2_9 (And.intro h2_10 (And.intro h2_42 (And.intro h2_43 h2_44))))))))
    by_cases hk:k<c.length
    ·omega
    ·have g4:k=c.length:=by omega
     have ih1:=fun(m:Bool)=>ih (m2:=m) (c++[fromI 0 c+J]) (by simp;omega) (by
      intro x hx'
      rcases List.mem_append.1 hx' with hx'|hx'
      ·exact hx x hx'
      ·simp at hx';subst hx';omega)
     have cE1:= @ih1;have cE2:= @slices_Clone_c
     refine dEa (And.intro fL2 @tk1) ?_
     all_goals try (refine zlf ?_;repeat' first|exact zso|refine And.intro ?_ ?_|(refine zim ?_;intro zb hc)|(refine zin ?_;intro zb)|intro j')
     all_goals try refine zbx ?_
     ·subst g4
      have o1:=occ_hit (b:=0) (p:=p) (q:=q) (d:=d) (c:=c) (J:=J) (by omega) zb.1 (fun e=>by rw[e]at hc;cases hc)
      cases ho:occ 0 p q (d+1) c with
      |nil=>exact absurd ho o1
      |cons _ _=>rfl
     ·focus
       refine q_lp_n ((fun(J:Nat)=>p.length - J) (J+1)) (dC fL2 ?_) ⟨J+1,dC fL2 ?_⟩
       all_goals try (refine zlf ?_;repeat' first|exact zso|refine And.intro ?_ ?_|(refine zim ?_;intro zb hc)|(refine zin ?_;intro zb)|intro j')
       all_goals try refine zbx ?_
      have o2:occ 0 p q d (c++[fromI 0 c+J])=[]:=by simpa using hc
      rw[occJ_succ,c1_1,o2];split<;>rfl
     ·focus
       refine q_lp_n ((fun(J:Nat)=>p.length - J) (J+1)) (dC fL2 ?_) ⟨J+1,dC fL2 ?_⟩
       all_goals try (refine zlf ?_;repeat' first|exact zso|refine And.intro ?_ ?_|(refine zim ?_;intro zb hc)|(refine zin ?_;intro zb)|intro j')
       all_goals try refine zbx ?_
      subst g4
      rw[occJ_succ,c1_1,if_neg (by rw[fitB,hc];decide)];rfl
   ·have o3:occ 0 p q (d+1) c=[]:=occ_end c1_1 fun j hj hj2=>by
     by_cases h0:d=0
     ·omega
     ·exact occ_nil (by omega) (by rw[from_snoc];omega)
    rw[o3];rfl
  ·skip
   have f1:fromI 0 c=c.getD (c.length - 1) 0+1:=if_neg hn
   have f2:((c.length:Int) - 1).toNat=c.length - 1:=by omega
   have g1:=hx _ (getD_mem (d:=0) (show c.length - 1<c.length by omega))
   refine fO sg0 [6] Tryz.func178 ?_
   have cE1:= @slices_Clone_c
   refine dEa @f2 ?_
   all_goals try (refine zlf ?_;repeat' first|exact zso|refine And.intro ?_ ?_|(refine zim ?_;intro zb hc)|(refine zin ?_;intro zb)|intro j')
   all_goals try refine zbx ?_
   refine v_loopB (fun ms3 S3=>∃(J:Nat),S3.e 0=.p (.sl (.lent m0) (List.map (PV.int .i64) (p)))∧S3.e 1=.p (.sl (.lent m1) (List.map (PV.int .i64) (q)))∧S3.e 2=.p (.sl (.lent m2) (List.map (PV.int .i64) (c)))∧S3.e 8=.p (.int .i64 (c.length))∧S3.e 9=.p (.int .i64 ((fromI 0 c+J)))∧((J:Int)≤p.length - fromI 0 c)∧(occJ 0 p q d c J=[])∧ms3=p.length - J) ((fun(J:Nat)=>p.length - J) (0)) ?_ ⟨0,dIa trivial ?_⟩
   all_goals try (refine zlf ?_;repeat' first|exact zso|refine And.intro ?_ ?_|(refine zim ?_;intro zb hc)|(refine zin ?_;intro zb)|intro j')
   all_goals try refine zbx ?_
   rintro ms3 S3 ⟨J,h3_0,h3_1,h3_2,h3_8,h3_9,c3_0,c3_1,hm3⟩
   have fL3:=(And.intro h3_0 (And.intro h3_1 (And.intro h3_2 (And.intro h3_8 h3_9))))
   refine dEa fL3 ?_
   all_goals try (refine zlf ?_;repeat' first|exact zso|refine And.intro ?_ ?_|(refine zim ?_;intro zb hc)|(refine zin ?_;intro zb)|intro j')
   all_goals try refine zbx ?_
   ·refine v_loopB (fun ms4 S4=>∃(k:Nat),S4.e 0=.p (.sl (.lent m0) (List.map (PV.int .i64) (p)))∧S4.e 1=.p (.sl (.lent m1) (List.map (PV.int .i64) (q)))∧S4.e 2=.p (.sl (.lent m2) (List.map (PV.int .i64) (c)))∧S4.e 8=.p (.int .i64 (c.length))∧S4.e 9=.p (.int .i64 ((fromI 0 c+J)))∧S4.e 10=.p (.bool (fitK 0 p q c (fromI 0 c+J) k))∧S4.e 42=.p (.sl (.lent m2) (List.map (PV.int .i64) (c)))∧S4.e 43=.p (.int .i64 (c.length))∧S4.e 44=.p (.int .i64 (k))∧(k≤c.length)∧((J:Int)≤p.length - fromI 0 c - (d+1))∧S3.n≤S4.n∧ms4=c.length - k) ((fun(k:Nat)=>c.length - k) (0)) ?_ ⟨0,dC fL3 ?_⟩
    all_goals try (refine zlf ?_;repeat' first|exact zso|refine And.intro ?_ ?_|(refine zim ?_;intro zb hc)|(refine zin ?_;intro zb)|intro j')
    all_goals try refine zbx ?_
    rintro ms4 S4 ⟨k,h4_0,h4_1,h4_2,h4_8,h4_9,h4_10,h4_42,h4_43,h4_44,c4_0,c4_1,u4_0,hm4⟩
    have fL4:=(And.intro h4_0 (And.intro h4_1 (And.intro h4_2 (And.intro h4_8 (And.intro h4_9 (And.intro h4_10 (And.intro h4_42 (And.intro h4_43 h4_44))))))))
    by_cases hk:k<c.length
    ·have g2:=hx _ (getD_mem (d:=0) hk)
     have g3:(decide (p.getD (c.getD k 0).toNat 0<p.getD (fromI 0 c+J).toNat 0)==decide (q.getD k 0<q.getD c.length 0))=(decide (q.getD k 0<q.getD c.length 0)==decide (p.getD (c.getD k 0 - 0).toNat 0<p.getD (fromI 0 c+J - 0).toNat 0)):=by
      rw[Int.sub_zero,Int.sub_zero,Bool.eq_iff_iff,beq_iff_eq,beq_iff_eq];exact eq_comm
     refine dEa fL4 ?_
     all_goals try (refine zlf ?_;repeat' first|exact zso|refine And.intro ?_ ?_|(refine zim ?_;intro zb hc)|(refine zin ?_;intro zb)|intro j')
     all_goals try refine zbx ?_
     ·focus
       refine q_lp_n ((fun(k:Nat)=>c.length - k) (k+1)) (dC fL4 ?_) ⟨k+1,dC fL4 ?_⟩
       all_goals try (refine zlf ?_;repeat' first|exact zso|refine And.intro ?_ ?_|(refine zim ?_;intro zb hc)|(refine zin ?_;intro zb)|intro j')
       all_goals try refine zbx ?_
      rw[fitK_succ,hc,Bool.true_and];exact g3
     ·focus
       refine q_lp_n ((fun(k:Nat)=>c.length - k) (k+1)) (dC fL4 ?_) ⟨k+1,dC fL4 ?_⟩
       all_goals try (refine zlf ?_;repeat' first|exact zso|refine And.intro ?_ ?_|(refine zim ?_;intro zb hc)|(refine zin ?_;intro zb)|intro j')
       all_goals try refine zbx ?_
      rw[fitK_succ,hc];rfl
    ·have g4:k=c.length:=by omega
     have ih1:=fun(m:Bool)=>ih (m2:=m) (c++[fromI 0 c+J]) (by simp;omega) (by
      intro x hx'
      rcases List.mem_append.1 hx' with hx'|hx'
      ·exact hx x hx'
      ·simp at hx';subst hx';omega)
     have cE1:= @ih1;have cE2:= @slices_Clone_c
     refine dEa (And.intro fL4 @tk1) ?_
     all_goals try (refine zlf ?_;repeat' first|exact zso|refine And.intro ?_ ?_|(refine zim ?_;intro zb hc)|(refine zin ?_;intro zb)|intro j')
     all_goals try refine zbx ?_
     ·subst g4
      have o1:=occ_hit (b:=0) (p:=p) (q:=q) (d:=d) (c:=c) (J:=J) (by omega) zb.1 (fun e=>by rw[e]at hc;cases hc)
      cases ho:occ 0 p q (d+1) c with
      |nil=>exact absurd ho o1
      |cons _ _=>rfl
     ·focus
       refine q_lp_n ((fun(J:Nat)=>p.length - J) (J+1)) (dC fL4 ?_) ⟨J+1,dC fL4 ?_⟩
       all_goals try (refine zlf ?_;repeat' first|exact zso|refine And.intro ?_ ?_|(refine zim ?_;intro zb hc)|(refine zin ?_;intro zb)|intro j')
       all_goals try refine zbx ?_
      have o2:occ 0 p q d (c++[fromI 0 c+J])=[]:=by simpa using hc
      rw[occJ_succ,c3_1,o2];split<;>rfl
     ·focus
       refine q_lp_n ((fun(J:Nat)=>p.length - J) (J+1)) (dC fL4 ?_) ⟨J+1,dC fL4 ?_⟩
       all_goals try (refine zlf ?_;repeat' first|exact zso|refine And.intro ?_ ?_|(refine zim ?_;intro zb hc)|(refine zin ?_;intro zb)|intro j')
       all_goals try refine zbx ?_
      subst g4
      rw[occJ_succ,c3_1,if_neg (by rw[fitB,hc];decide)];rfl
   ·have o3:occ 0 p q (d+1) c=[]:=occ_end c3_1 fun j hj hj2=>by
     by_cases h0:d=0
     ·omega
     ·exact occ_nil (by omega) (by rw[from_snoc];omega)
    rw[o3];rfl
end Go.Gl
namespace Go.Gl
open Go Go.Proofs
variable [Amb]
def cmpI (a b:Int):Int:=if a<b then -1 else if b<a then 1 else 0
def cmpL:List Int→List Int→Int
 |[],[]=>0
 |[],_::_=> -1
 |_::_,[]=>1
 |a::x,b::y=>if cmpI a b≠0 then cmpI a b else cmpL x y
def cmpP (p q:List Int):Int:=if cmpI p.length q.length≠0 then cmpI p.length q.length else cmpL p q
theorem cmpI_0 {a b:Int}:cmpI a b=0↔a=b:=by
 unfold cmpI;split
 ·omega
 ·split<;>omega
theorem cmp_isNaN_int_c (x:Int):Fun Tryz.prog 210 [(.int .i64 (x))] [(.bool (false))]:=by
 refine fO sg0 [2] Tryz.func210 ?_
 refine dEa trivial ?_
 all_goals try (refine zlf ?_;repeat' first|exact zso|refine And.intro ?_ ?_|(refine zim ?_;intro zb hc)|(refine zin ?_;intro zb)|intro j')
 all_goals try refine zbx ?_
end Go.Gl
namespace Go.Gl
open Go Go.Proofs
variable [Amb] [NoQ]
def befB (p q:List Int):Bool:=decide (cmpP p q<0)
theorem bef_ne {a b:List Int} (h:a.length≠b.length):decide (a.length<b.length)=befB a b:=by
 rw[befB,cmpP,if_pos (fun e=>by rw[cmpI_0]at e;omega)]
 unfold cmpI
 by_cases h1:a.length<b.length
 ·rw[if_pos (by omega)];simp[h1]
 ·rw[if_neg (by omega),if_pos (by omega)];simp[h1]
theorem bef_eq {a b:List Int} (h:a.length=b.length):befB a b=decide (cmpL a b<0):=by
 rw[befB,cmpP,if_neg (fun e=>e (cmpI_0.2 (by omega)))]
theorem cmpI_neg {a b:Int}:decide (cmpI a b<0)=decide (a<b):=by
 unfold cmpI;split
 ·rename_i h;simp[h]
 ·split<;>simp<;>omega
theorem spec_l2Before_c {m0 m1:Bool} (a b:List Int) (ha:a.length≤1048576) (hb:b.length≤1048576):Fun Tryz.prog 158 [(.sl (.lent m0) (List.map (PV.int .i64) (a))),(.sl (.lent m1) (List.map (PV.int .i64) (b)))] [(.bool (befB a b))]:=by
 refine fO sg0 [4] Tryz.func158 ?_
 refine dEa trivial ?_
 all_goals try (refine zlf ?_;repeat' first|exact zso|refine And.intro ?_ ?_|(refine zim ?_;intro zb hc)|(refine zin ?_;intro zb)|intro j')
 all_goals try refine zbx ?_
 ·exact bef_ne (by omega)
 have hl:a.length=b.length:=by omega
 rw[bef_eq hl]
 refine v_loopB (fun ms1 S1=>∃(k:Nat),S1.e 0=.p (.sl (.lent m0) (List.map (PV.int .i64) (a)))∧S1.e 1=.p (.sl (.lent m1) (List.map (PV.int .i64) (b)))∧S1.e 5=.p (.int .i64 (k))∧(k≤a.length)∧(cmpL a b=cmpL (a.drop k) (b.drop k))∧ms1=a.length - k) ((fun(k:Nat)=>a.length - k) (0)) ?_ ⟨0,dIa trivial ?_⟩
 all_goals try (refine zlf ?_;repeat' first|exact zso|refine And.intro ?_ ?_|(refine zim ?_;intro zb hc)|(refine zin ?_;intro zb)|intro j')
 all_goals try refine zbx ?_
 rintro ms1 S1 ⟨k,h1_0,h1_1,h1_5,c1_0,c1_1,hm1⟩
 have fL1:=(And.intro h1_0 (And.intro h1_1 h1_5))
 refine dEa fL1 ?_
 all_goals try (refine zlf ?_;repeat' first|exact zso|refine And.intro ?_ ?_|(refine zim ?_;intro zb hc)|(refine zin ?_;intro zb)|intro j')
 all_goals try refine zbx ?_
 ·rw[c1_1,dropI_at (by omega),dropI_at (s:=b) (by omega),cmpL,if_pos (fun e=>hc (cmpI_0.1 e)),cmpI_neg]
 ·focus
   refine q_lp_n ((fun(k:Nat)=>a.length - k) (k+1)) (dC fL1 ?_) ⟨k+1,dC fL1 ?_⟩
   all_goals try (refine zlf ?_;repeat' first|exact zso|refine And.intro ?_ ?_|(refine zim ?_;intro zb hc)|(refine zin ?_;intro zb)|intro j')
   all_goals try refine zbx ?_
  rw[c1_1,dropI_at (by omega),dropI_at (s:=b) (by omega),cmpL,if_neg (fun h=>h (cmpI_0.2 hc))]
 ·rw[c1_1,List.drop_of_length_le (l:=a) (by omega),List.drop_of_length_le (l:=b) (by omega),cmpL];rfl
theorem has_end {p q:List Int}:(!(occ 0 p q q.length []).isEmpty)=hasB p q:=rfl
theorem impl_has0_c {m0 m1:Bool} (p q:List Int) (hp:p.length≤8) (hq:q.length≤8):Fun Tryz.prog 178 [.sl (.lent m0) (List.map (PV.int .i64) p),.sl (.lent m1) (List.map (PV.int .i64) q),.sl (.lent false) []] [.bool (hasB p q)]:=by
 have c1:=impl_has_c (m0:=m0) (m1:=m1) p q hp hq q.length (m2:=false) [] (by simp) (by simp)
 rw[has_end]at c1
 simpa only[List.map_nil]using c1
def avB (L:List (List Int)) (p:List Int):Bool:= !(L.any fun q=>hasB p q)
theorem spec_l12Avoids_c {e0 m0 m1:Bool} (L:List (List Int)) (p:List Int) (hL:L.length≤1099511627776) (hl:∀q∈L,q.length≤8) (hp:p.length≤8):Fun Tryz.prog 191 [(.sl (.lent m0) (List.map (elI e0) (L))),(.sl (.lent m1) (List.map (PV.int .i64) (p)))] [(.bool (avB L p))]:=by
 refine fO sg0 [4] Tryz.func191 ?_
 have cE1:= @spec_l7Has_c
 refine dEa trivial ?_
 all_goals try (refine zlf ?_;repeat' first|exact zso|refine And.intro ?_ ?_|(refine zim ?_;intro zb hc)|(refine zin ?_;intro zb)|intro j')
 all_goals try refine zbx ?_
 refine v_loopB (fun ms1 S1=>∃(k:Nat),S1.e 0=.p (.sl (.lent m0) (List.map (elI e0) (L)))∧S1.e 1=.p (.sl (.lent m1) (List.map (PV.int .i64) (p)))∧S1.e 5=.p (.int .i64 (k))∧(k≤L.length)∧(∀q∈L.take k,hasB p q=false)∧ms1=L.length - k) ((fun(k:Nat)=>L.length - k) (0)) ?_ ⟨0,dIa trivial ?_⟩
 all_goals try (refine zlf ?_;repeat' first|exact zso|refine And.intro ?_ ?_|(refine zim ?_;intro zb hc)|(refine zin ?_;intro zb)|intro j')
 all_goals try refine zbx ?_
 rintro ms1 S1 ⟨k,h1_0,h1_1,h1_5,c1_0,c1_1,hm1⟩
 have fL1:=(And.intro h1_0 (And.intro h1_1 h1_5))
 refine dEa fL1 ?_
 all_goals try (refine zlf ?_;repeat' first|exact zso|refine And.intro ?_ ?_|(refine zim ?_;intro zb hc)|(refine zin ?_;intro zb)|intro j')
 all_goals try refine zbx ?_
 ·exact hl _ (getD_mem hc)
 ·have h1:(L.any fun q=>hasB p q)=true:=List.any_eq_true.2 ⟨_,getD_mem (by omega),hc⟩
  rw[avB,h1];rfl
 ·focus
   refine q_lp_n ((fun(k:Nat)=>L.length - k) (k+1)) (dC fL1 ?_) ⟨k+1,dC fL1 ?_⟩
   all_goals try (refine zlf ?_;repeat' first|exact zso|refine And.intro ?_ ?_|(refine zim ?_;intro zb hc)|(refine zin ?_;intro zb)|intro j')
   all_goals try refine zbx ?_
  intro q hq
  rw[take_getD (d:=[]) (by omega)]at hq
  rcases List.mem_append.1 hq with hq|hq
  ·exact c1_1 q hq
  ·simp at hq;subst hq;simpa using hc
 ·have h1:(L.any fun q=>hasB p q)=false:=by
   rw[Bool.eq_false_iff];intro h
   obtain⟨q,hq,h2⟩:=List.any_eq_true.1 h
   rw[List.take_of_length_le (by omega)]at c1_1
   rw[c1_1 q hq]at h2;cases h2
  rw[avB,h1];rfl
def basK (L:List (List Int)) (k:Nat):Bool:=(List.range k).all fun i=>isPermB (L.getD i [])&& !decide ((L.getD i []).length=0)&&(decide (i=0)||befB (L.getD (i - 1) []) (L.getD i []))&& !((List.range i).any fun j=>hasB (L.getD i []) (L.getD j []))
def basisB (L:List (List Int)):Bool:=decide (L.length≤8)&&basK L L.length
theorem basK_succ {L:List (List Int)} {k:Nat}:basK L (k+1)=(basK L k&&(isPermB (L.getD k [])&& !decide ((L.getD k []).length=0)&&(decide (k=0)||befB (L.getD (k - 1) []) (L.getD k []))&& !((List.range k).any fun j=>hasB (L.getD k []) (L.getD j [])))):=by
 simp[basK,List.range_succ]
theorem basK_perm {L:List (List Int)} {k j:Nat} (h:basK L k=true) (hj:j<k):isPermB (L.getD j [])=true:=by
 rw[basK,List.all_eq_true]at h
 have:=h j (List.mem_range.2 hj)
 simp only[Bool.and_eq_true]at this
 exact this.1.1.1
theorem basK_mono {L:List (List Int)} {k n:Nat} (hk:k≤n) (h:basK L k=false):basK L n=false:=by
 induction hk with
 |refl=>exact h
 |step _ ih=>rw[basK_succ,ih];rfl
theorem basis_f {L:List (List Int)} {k:Nat} (hk:k<L.length) (h:(isPermB (L.getD k [])&& !decide ((L.getD k []).length=0)&&(decide (k=0)||befB (L.getD (k - 1) []) (L.getD k []))&& !((List.range k).any fun j=>hasB (L.getD k []) (L.getD j [])))=false):false=basisB L:=by
 rw[basisB,basK_mono (k:=k+1) (by omega) (by rw[basK_succ,h,Bool.and_false]),Bool.and_false]
set_option maxHeartbeats 1000000 in
theorem spec_IsBasis_c {e0 m0:Bool} (L:List (List Int)) (hL:L.length≤1048576) (hl:∀l∈L,l.length≤1048576):Fun Tryz.prog 190 [(.sl (.lent m0) (List.map (elI e0) (L)))] [(.bool (basisB L))]:=by
 refine fO sg0 [2] Tryz.func190 ?_
 have cE1:= @spec_IsPerm_c;have cE2:= @spec_l2Before_c;have cE3:= @spec_l7Has_c;have cD1:=zdh [false,false,false,false,true,false,false,false,false,false,false,false,false,false,false,false,false,false,false,false,false,false,false,false,false,false,false,true,false,false,false] [];have cD2:=zdh [false,false,false,false,false,false,false,false,true] []
 refine dEa trivial ?_
 all_goals try (refine zlf ?_;repeat' first|exact zso|refine And.intro ?_ ?_|(refine zim ?_;intro zb hc;repeat (have zc:=zb.1;replace zb:=zb.2))|(refine zin ?_;intro zb)|intro j')
 all_goals try refine zbx ?_
 refine v_loopB (fun ms1 S1=>∃(k:Nat),S1.e 0=.p (.sl (.lent m0) (List.map (elI e0) (L)))∧S1.e 3=.p (.int .i64 (k))∧(k≤L.length)∧(basK L k=true)∧ms1=L.length - k) ((fun(k:Nat)=>L.length - k) (0)) ?_ ⟨0,dC trivial ?_⟩
 all_goals try (refine zlf ?_;repeat' first|exact zso|refine And.intro ?_ ?_|(refine zim ?_;intro zb hc;repeat (have zc:=zb.1;replace zb:=zb.2))|(refine zin ?_;intro zb)|intro j')
 all_goals try refine zbx ?_
 rintro ms1 S1 ⟨k,h1_0,h1_3,c1_0,c1_1,hm1⟩
 have fL1:=(And.intro h1_0 h1_3)
 have u1:((k:Int) - 1).toNat=k - 1:=by omega
 by_cases hk:k<L.length
 ·have g1:=hl _ (getD_mem (d:=[]) hk)
  have g2:0<k→(L.getD (k - 1) []).length≤1048576:=fun h=>hl _ (getD_mem (by omega))
  refine dEa (And.intro fL1 @u1) ?_
  all_goals try (refine zlf ?_;repeat' first|exact zso|refine And.intro ?_ ?_|(refine zim ?_;intro zb hc;repeat (have zc:=zb.1;replace zb:=zb.2))|(refine zin ?_;intro zb)|intro j')
  all_goals try refine zbx ?_
  ·refine basis_f hk ?_
   have x1:befB (L.getD (k - 1) []) (L.getD k [])=false:=hc
   have x3:decide (k=0)=false:=decide_eq_false (by omega)
   rw[x1,x3];simp
  ·have w1:isPermB (L.getD k [])=true:=by assumption
   have w2:¬((L.getD k []).length:Int)=0:=by assumption
   have w3:(decide (k=0)||befB (L.getD (k - 1) []) (L.getD k []))=true:=by rw[hc,Bool.or_true]
   have w4:=(isPerm_facts w1).1
   refine v_loopB (fun ms2 S2=>∃(j:Nat),S2.e 0=.p (.sl (.lent m0) (List.map (elI e0) (L)))∧S2.e 3=.p (.int .i64 (k))∧S2.e 4=.p (.int .i64 (j))∧(j≤k)∧(∀i,i<j→hasB (L.getD k []) (L.getD i [])=false)∧S1.n≤S2.n∧ms2=k - j) ((fun(j:Nat)=>k - j) (0)) ?_ ⟨0,dC fL1 ?_⟩
   all_goals try (refine zlf ?_;repeat' first|exact zso|refine And.intro ?_ ?_|(refine zim ?_;intro zb hc;repeat (have zc:=zb.1;replace zb:=zb.2))|(refine zin ?_;intro zb)|intro j')
   all_goals try refine zbx ?_
   rintro ms2 S2 ⟨j,h2_0,h2_3,h2_4,c2_0,c2_1,u2_0,hm2⟩
   have fL2:=(And.intro h2_0 (And.intro h2_3 h2_4))
   have w5:j<k→(L.getD j []).length≤8:=fun h=>(isPerm_facts (basK_perm c1_1 h)).1
   have w6:j<k→(L.take k).getD j []=L.getD j []:=fun h=>by simp only[List.getD_eq_getElem?_getD,List.getElem?_take];rw[if_pos h]
   by_cases hj:j<k
   ·have w7:=w5 hj
    have w8:=w6 hj
    refine dEa fL2 ?_
    all_goals try (refine zlf ?_;repeat' first|exact zso|refine And.intro ?_ ?_|(refine zim ?_;intro zb hc;repeat (have zc:=zb.1;replace zb:=zb.2))|(refine zin ?_;intro zb)|intro j')
    all_goals try refine zbx ?_
    ·have x1:((List.range k).any fun j=>hasB (L.getD k []) (L.getD j []))=true:=List.any_eq_true.2 ⟨j,List.mem_range.2 hj,hc⟩
     exact basis_f hk (by rw[x1];simp)
    ·focus
      refine q_lp_n ((fun(j:Nat)=>k - j) (j+1)) (dC fL2 ?_) ⟨j+1,dC fL2 ?_⟩
      all_goals try (refine zlf ?_;repeat' first|exact zso|refine And.intro ?_ ?_|(refine zim ?_;intro zb hc;repeat (have zc:=zb.1;replace zb:=zb.2))|(refine zin ?_;intro zb)|intro j')
      all_goals try refine zbx ?_
     intro i hi
     by_cases e:i=j
     ·subst e;exact hc
     ·exact c2_1 i (by omega)
   ·refine dEa fL2 ?_
    all_goals try (refine zlf ?_;repeat' first|exact zso|refine And.intro ?_ ?_|(refine zim ?_;intro zb hc;repeat (have zc:=zb.1;replace zb:=zb.2))|(refine zin ?_;intro zb)|intro j')
    all_goals try refine zbx ?_
    ·focus
      refine q_lp_n ((fun(k:Nat)=>L.length - k) (k+1)) (dC fL2 ?_) ⟨k+1,dC fL2 ?_⟩
      all_goals try (refine zlf ?_;repeat' first|exact zso|refine And.intro ?_ ?_|(refine zim ?_;intro zb hc;repeat (have zc:=zb.1;replace zb:=zb.2))|(refine zin ?_;intro zb)|intro j')
      all_goals try refine zbx ?_
     have x1:((List.range k).any fun j=>hasB (L.getD k []) (L.getD j []))=false:=by
      rw[Bool.eq_false_iff];intro h
      obtain⟨i,hi,h2⟩:=List.any_eq_true.1 h
      rw[c2_1 i (by have:=List.mem_range.1 hi;omega)]at h2;cases h2
     rw[basK_succ,c1_1,w1,w3,x1,decide_eq_false (by omega)];rfl
  ·have w1:isPermB (L.getD k [])=true:=by assumption
   have w2:¬((L.getD k []).length:Int)=0:=by assumption
   have w3:(decide (k=0)||befB (L.getD (k - 1) []) (L.getD k []))=true:=by rw[decide_eq_true (by omega),Bool.true_or]
   have w4:=(isPerm_facts w1).1
   refine v_loopB (fun ms3 S3=>∃(j:Nat),S3.e 0=.p (.sl (.lent m0) (List.map (elI e0) (L)))∧S3.e 3=.p (.int .i64 (k))∧S3.e 4=.p (.int .i64 (j))∧(j≤k)∧(∀i,i<j→hasB (L.getD k []) (L.getD i [])=false)∧S1.n≤S3.n∧ms3=k - j) ((fun(j:Nat)=>k - j) (0)) ?_ ⟨0,dC fL1 ?_⟩
   all_goals try (refine zlf ?_;repeat' first|exact zso|refine And.intro ?_ ?_|(refine zim ?_;intro zb hc;repeat (have zc:=zb.1;replace zb:=zb.2))|(refine zin ?_;intro zb)|intro j')
   all_goals try refine zbx ?_
   rintro ms3 S3 ⟨j,h3_0,h3_3,h3_4,c3_0,c3_1,u3_0,hm3⟩
   have fL3:=(And.intro h3_0 (And.intro h3_3 h3_4))
   have w5:j<k→(L.getD j []).length≤8:=fun h=>(isPerm_facts (basK_perm c1_1 h)).1
   have w6:j<k→(L.take k).getD j []=L.getD j []:=fun h=>by simp only[List.getD_eq_getElem?_getD,List.getElem?_take];rw[if_pos h]
   by_cases hj:j<k
   ·omega
   ·refine dEa fL3 ?_
    all_goals try (refine zlf ?_;repeat' first|exact zso|refine And.intro ?_ ?_|(refine zim ?_;intro zb hc;repeat (have zc:=zb.1;replace zb:=zb.2))|(refine zin ?_;intro zb)|intro j')
    all_goals try refine zbx ?_
    ·focus
      refine q_lp_n ((fun(k:Nat)=>L.length - k) (k+1)) (dC fL3 ?_) ⟨k+1,dC fL3 ?_⟩
      all_goals try (refine zlf ?_;repeat' first|exact zso|refine And.intro ?_ ?_|(refine zim ?_;intro zb hc;repeat (have zc:=zb.1;replace zb:=zb.2))|(refine zin ?_;intro zb)|intro j')
      all_goals try refine zbx ?_
     have x1:((List.range k).any fun j=>hasB (L.getD k []) (L.getD j []))=false:=by
      rw[Bool.eq_false_iff];intro h
      obtain⟨i,hi,h2⟩:=List.any_eq_true.1 h
      rw[c3_1 i (by have:=List.mem_range.1 hi;omega)]at h2;cases h2
     rw[basK_succ,c1_1,w1,w3,x1,decide_eq_false (by omega)];rfl
  ·have x2:(L.getD k []).length=0:=by omega
   exact basis_f hk (by rw[decide_eq_true x2];simp)
  ·exact basis_f hk (by rw[hc];rfl)
 ·skip
  refine dEa fL1 ?_
  all_goals try (refine zlf ?_;repeat' first|exact zso|refine And.intro ?_ ?_|(refine zim ?_;intro zb hc;repeat (have zc:=zb.1;replace zb:=zb.2))|(refine zin ?_;intro zb)|intro j')
  all_goals try refine zbx ?_
  obtain rfl:k=L.length:=by omega
  rw[basisB,c1_1,Bool.and_true];congr 1;rw[eq_iff_iff];omega
theorem spec_l2Same_c {m0 m1:Bool} (a b:List Int) (ha:a.length≤1099511627776) (hb:b.length≤1099511627776):Fun Tryz.prog 122 [(.sl (.lent m0) (List.map (PV.int .i64) (a))),(.sl (.lent m1) (List.map (PV.int .i64) (b)))] [(.bool (decide (a=b)))]:=by
 refine fO sg0 [4] Tryz.func122 ?_
 refine dE trivial ?_
 all_goals try (refine zlf ?_;repeat' first|exact zso|refine And.intro ?_ ?_|(refine zim ?_;intro zb hc)|(refine zin ?_;intro zb)|intro j')
 all_goals try refine zbx ?_
 ·rw[decide_eq_false];intro e;subst e;exact hc rfl
 refine v_loopB (fun ms1 S1=>∃(k:Nat),S1.e 0=.p (.sl (.lent m0) (List.map (PV.int .i64) (a)))∧S1.e 1=.p (.sl (.lent m1) (List.map (PV.int .i64) (b)))∧S1.e 5=.p (.int .i64 (k))∧(k≤a.length)∧(a.take k=b.take k)∧ms1=a.length - k) ((fun(k:Nat)=>a.length - k) (0)) ?_ ⟨0,dIa trivial ?_⟩
 all_goals try (refine zlf ?_;repeat' first|exact zso|refine And.intro ?_ ?_|(refine zim ?_;intro zb hc)|(refine zin ?_;intro zb)|intro j')
 all_goals try refine zbx ?_
 rintro ms1 S1 ⟨k,h1_0,h1_1,h1_5,c1_0,c1_1,hm1⟩
 have fL1:=(And.intro h1_0 (And.intro h1_1 h1_5))
 refine dEa fL1 ?_
 all_goals try (refine zlf ?_;repeat' first|exact zso|refine And.intro ?_ ?_|(refine zim ?_;intro zb hc)|(refine zin ?_;intro zb)|intro j')
 all_goals try refine zbx ?_
 ·rw[decide_eq_false];intro e;subst e;exact hc rfl
 ·focus
   refine q_lp_n ((fun(k:Nat)=>a.length - k) (k+1)) (dC fL1 ?_) ⟨k+1,dC fL1 ?_⟩
   all_goals try (refine zlf ?_;repeat' first|exact zso|refine And.intro ?_ ?_|(refine zim ?_;intro zb hc)|(refine zin ?_;intro zb)|intro j')
   all_goals try refine zbx ?_
  rw[take_succ_iff (by omega) (by omega)];exact⟨c1_1,hc⟩
 ·rw[decide_eq_true]
  rw[List.take_of_length_le (by omega),List.take_of_length_le (by omega)]at c1_1;exact c1_1
theorem slices_Equal_int_int_c {m0 m1:Bool} (a b:List Int) (ha:a.length≤1099511627776) (hb:b.length≤1099511627776):Fun Tryz.prog 144 [(.sl (.lent m0) (List.map (PV.int .i64) (a))),(.sl (.lent m1) (List.map (PV.int .i64) (b)))] [(.bool (decide (a=b)))]:=by
 refine fO sg0 [4] Tryz.func144 ?_
 refine dE trivial ?_
 all_goals try (refine zlf ?_;repeat' first|exact zso|refine And.intro ?_ ?_|(refine zim ?_;intro zb hc)|(refine zin ?_;intro zb)|intro j')
 all_goals try refine zbx ?_
 ·rw[decide_eq_false];intro e;subst e;exact hc rfl
 refine v_loopB (fun ms1 S1=>∃(k:Nat),S1.e 0=.p (.sl (.lent m0) (List.map (PV.int .i64) (a)))∧S1.e 1=.p (.sl (.lent m1) (List.map (PV.int .i64) (b)))∧S1.e 12=.p (.int .i64 (a.length))∧S1.e 13=.p (.int .i64 (k))∧(k≤a.length)∧(a.take k=b.take k)∧ms1=a.length - k) ((fun(k:Nat)=>a.length - k) (0)) ?_ ⟨0,dIa trivial ?_⟩
 all_goals try (refine zlf ?_;repeat' first|exact zso|refine And.intro ?_ ?_|(refine zim ?_;intro zb hc)|(refine zin ?_;intro zb)|intro j')
 all_goals try refine zbx ?_
 rintro ms1 S1 ⟨k,h1_0,h1_1,h1_12,h1_13,c1_0,c1_1,hm1⟩
 have fL1:=(And.intro h1_0 (And.intro h1_1 (And.intro h1_12 h1_13)))
 refine dEa fL1 ?_
 all_goals try (refine zlf ?_;repeat' first|exact zso|refine And.intro ?_ ?_|(refine zim ?_;intro zb hc)|(refine zin ?_;intro zb)|intro j')
 all_goals try refine zbx ?_
 ·rw[decide_eq_false];intro e;subst e;exact hc rfl
 ·focus
   refine q_lp_n ((fun(k:Nat)=>a.length - k) (k+1)) (dC fL1 ?_) ⟨k+1,dC fL1 ?_⟩
   all_goals try (refine zlf ?_;repeat' first|exact zso|refine And.intro ?_ ?_|(refine zim ?_;intro zb hc)|(refine zin ?_;intro zb)|intro j')
   all_goals try refine zbx ?_
  rw[take_succ_iff (by omega) (by omega)];exact⟨c1_1,hc⟩
 ·rw[decide_eq_true]
  rw[List.take_of_length_le (by omega),List.take_of_length_le (by omega)]at c1_1;exact c1_1
def atP (L:List (List Int)) (p:List Int):Nat→Nat
 |0=>0
 |k+1=>if befB p (L.getD k [])=true then atP L p k else k+1
theorem atP_spec {L:List (List Int)} {p:List Int}:∀{k:Nat},atP L p k≤k∧(∀i,atP L p k≤i→i<k→befB p (L.getD i [])=true)∧(atP L p k=0∨befB p (L.getD (atP L p k - 1) [])=false)
 |0=>⟨Nat.le_refl _,fun i _ h=>absurd h (by omega),.inl rfl⟩
 |k+1=>by
  rw[atP]
  by_cases e:befB p (L.getD k [])=true
  ·rw[if_pos e]
   obtain⟨h1,h2,h3⟩:=atP_spec (L:=L) (p:=p) (k:=k)
   refine⟨by omega,fun i hi hk=> ?_,h3⟩
   by_cases q:i=k
   ·subst q;exact e
   ·exact h2 i hi (by omega)
  ·rw[if_neg e]
   refine⟨Nat.le_refl _,fun i hi hk=>by omega,.inr ?_⟩
   simpa using e
def insK (L:List (List Int)) (p:List Int) (j:Nat):List (List Int):=L.take j++p::L.drop j
def insS (L:List (List Int)) (p:List Int):List (List Int):=insK L p (atP L p L.length)
def putP (L:List (List Int)) (p:List Int):List (List Int):=if 0<atP L p L.length∧L.getD (atP L p L.length - 1) []=p then L else insS L p
theorem insK_len {L:List (List Int)} {p:List Int} {j:Nat}:(insK L p j).length=L.length+1:=by
 unfold insK;simp;omega
theorem insK_mem {L:List (List Int)} {p x:List Int} {j:Nat}:x∈insK L p j↔x=p∨x∈L:=by
 unfold insK
 rw[List.mem_append,List.mem_cons]
 have:x∈L↔x∈L.take j∨x∈L.drop j:=by rw[←List.mem_append,List.take_append_drop]
 rw[this];constructor
 ·rintro(h|h|h)<;>simp[h]
 ·rintro(h|h|h)<;>simp[h]
theorem putP_mem {L:List (List Int)} {p x:List Int}:x∈putP L p↔x=p∨x∈L:=by
 unfold putP
 split
 ·rename_i h
  constructor
  ·exact .inr
  ·rintro(rfl|h2)
   ·rw[←h.2];exact getD_mem (by have:=(atP_spec (L:=L) (p:=x) (k:=L.length)).1;omega)
   ·exact h2
 ·exact insK_mem
theorem atP_uniq {L:List (List Int)} {p:List Int}:∀{k j:Nat},j≤k→(∀q,j≤q→q<k→befB p (L.getD q [])=true)→(0<j→befB p (L.getD (j - 1) [])=false)→atP L p k=j
 |0,j,h,_,_=>by rw[atP];omega
 |k+1,j,h,h1,h2=>by
  rw[atP]
  by_cases e:j=k+1
  ·subst e
   have:=h2 (by omega)
   rw[Nat.add_sub_cancel]at this
   rw[this];rfl
  ·rw[if_pos (h1 k (by omega) (by omega))]
   exact atP_uniq (by omega) (fun q a b=>h1 q a (by omega)) h2
end Go.Gl
namespace Go.Proofs
open Go.Shelf
def Tryz.lays112_ren:Go.Shelf.Ren:=⟨fun|112=>133|n=>n,fun|28=>22|3=>3|4=>4|0=>0|n=>n,fun|n=>n⟩
theorem Tryz.lays112:Go.Proofs.Lays.n112 Tryz.prog Tryz.lays112_ren:={
 mixed:=by kernel_rfl
 f112:=Tryz.func133.trans (congrArg some (by kernel_rfl))
 t0:=Tryz.underlying0
 a0:=Tryz.isAgg0
 z0:=Tryz.sizeOf0
 v0:=Tryz.zeroValue0
 t3:=Tryz.underlying3
 a3:=Tryz.isAgg3
 z3:=Tryz.sizeOf3
 v3:=Tryz.zeroValue3
 t4:=Tryz.underlying4
 a4:=Tryz.isAgg4
 z4:=Tryz.sizeOf4
 v4:=Tryz.zeroValue4
 t28:=Tryz.underlying22
 a28:=Tryz.isAgg22
 z28:=Tryz.sizeOf22
 v28:=Tryz.zeroValue22}
open Go.RowKit Go.Lib Go.Sort in
theorem Tryz.slices_Reverse_int (blk off cap:Nat) (zs:List Int) (w:World) (hH:Holds (Value.int .i64) w blk off zs.toArray) (hsz:zs.length≤9223372036854775807):
  Calls Tryz.prog 133 #[.slice (some ⟨blk,off,none⟩) zs.length cap] w fun e w'=>e=.returned (.tuple #[])∧∃n,w'=putRow (Value.int .i64) (Sort.ahead w n) blk off zs.reverse.toArray:=Any.slices_Reverse_int Tryz.lays112 blk off cap zs w hH hsz
open Go.RowKit Go.Lib Go.Sort in
theorem Tryz.slices_Reverse_int_empty (a:Option Addr) (cap:Nat) (w:World):
  Calls Tryz.prog 133 #[.slice a 0 cap] w fun e w'=>e=.returned (.tuple #[])∧w'=w:=Any.slices_Reverse_int_empty Tryz.lays112 a cap w
end Go.Proofs
namespace Go.Gl
open Go Go.Proofs
variable [Amb] [NoQ]
def coL (p:List Int):List Int:=if isPermB p then codeGo p else[]
theorem impl_CodeOf_c {m0:Bool} (p:List Int) (hl:p.length≤1048576):Fun Tryz.prog 49 [(.sl (.lent m0) (List.map (PV.int .i64) (p)))] [(.sl .own (List.map (PV.int .i64) (coL p)))]:=by
 by_cases hp:isPermB p=true
 ·refine fO sg0 [2] Tryz.func49 ?_
  have cE1:= @impl_IsPerm_c;have cE2:= @impl_code_c
  refine dEa @hp ?_
  all_goals try (refine zlf ?_;repeat' first|exact zso|refine And.intro ?_ ?_|(refine zim ?_;intro zb hc)|(refine zin ?_;intro zb)|intro j')
  all_goals try refine zbx ?_
  rw[coL,if_pos hp]
 ·rw[Bool.not_eq_true]at hp
  refine fO sg0 [2] Tryz.func49 ?_
  have cE1:= @impl_IsPerm_c;have cE2:= @impl_code_c
  refine dEa @hp ?_
  all_goals try (refine zlf ?_;repeat' first|exact zso|refine And.intro ?_ ?_|(refine zim ?_;intro zb hc)|(refine zin ?_;intro zb)|intro j')
  all_goals try refine zbx ?_
  rw[coL,hp];rfl
def mxI:List Int→Int
 |[]=>0
 |x::l=>max x (mxI l)
theorem mxI_snoc {x:Int} (hx:0≤x):∀{l:List Int},mxI (l++[x])=max (mxI l) x
 |[]=>by simp only[List.nil_append,mxI];omega
 |y::l=>by rw[List.cons_append,mxI,mxI,mxI_snoc hx];omega
theorem mxI_ge:∀{l:List Int},0≤mxI l∧∀x∈l,x≤mxI l
 |[]=>by simp[mxI]
 |y::l=>by
  have h:=mxI_ge (l:=l)
  rw[mxI]
  refine⟨by omega,fun x hx=> ?_⟩
  rcases List.mem_cons.1 hx with q|q
  ·omega
  ·have:=h.2 x q;omega
theorem mxI_le {B:Int} (hB:0≤B):∀{l:List Int},(∀x∈l,x≤B)→mxI l≤B
 |[],_=>hB
 |y::l,h=>by
  have h1:=h y List.mem_cons_self
  have h2:=mxI_le hB fun x hx=>h x (List.mem_cons_of_mem _ hx)
  rw[mxI];omega
def revK (L:List Int) (i:Nat):List Int:=(List.range L.length).map fun q=>if q<i∨L.length≤q+i then L.getD (L.length - 1 - q) 0 else L.getD q 0
theorem revK_len {L:List Int} {i:Nat}:(revK L i).length=L.length:=by simp[revK]
theorem revK_get {L:List Int} {i q:Nat}:(revK L i)[q]? =if q<L.length then some (if q<i∨L.length≤q+i then L.getD (L.length - 1 - q) 0 else L.getD q 0)else none:=by
 unfold revK
 rw[List.getElem?_map]
 by_cases h:q<L.length
 ·rw[if_pos h,List.getElem?_range h];rfl
 ·rw[if_neg h,List.getElem?_eq_none (by simp;omega)];rfl
theorem getI_some {L:List Int} {i:Nat} (h:i<L.length):L[i]? =some (L.getD i 0):=by
 rw[List.getD_eq_getElem?_getD,List.getElem?_eq_getElem h];rfl
theorem revK_0 {L:List Int}:revK L 0=L:=by
 apply List.ext_getElem?;intro q
 rw[revK_get]
 by_cases h:q<L.length
 ·rw[if_pos h,if_neg (by omega),getI_some h]
 ·rw[if_neg h,List.getElem?_eq_none (by omega)]
theorem revK_end {L:List Int} {i:Nat} (h1:2*i≤L.length) (h2:L.length≤2*i+1):revK L i=L.reverse:=by
 apply List.ext_getElem?;intro q
 rw[revK_get]
 by_cases h:q<L.length
 ·rw[if_pos h,List.getElem?_reverse h,getI_some (by omega)]
  by_cases e:q<i∨L.length≤q+i
  ·rw[if_pos e]
  ·rw[if_neg e,show L.length - 1 - q=q by omega]
 ·rw[if_neg h,List.getElem?_eq_none (by simp;omega)]
theorem revK_lo {L:List Int} {i:Nat} (h:2*i+1<L.length):(revK L i).getD i 0=L.getD i 0∧(revK L i).getD (L.length - 1 - i) 0=L.getD (L.length - 1 - i) 0:=by
 constructor
 ·rw[List.getD_eq_getElem?_getD,revK_get,if_pos (by omega),if_neg (by omega)];rfl
 ·rw[List.getD_eq_getElem?_getD,revK_get,if_pos (by omega),if_neg (by omega)];rfl
theorem revK_step {L:List Int} {i:Nat} (h:2*i+1<L.length):((revK L i).set i (L.getD (L.length - 1 - i) 0)).set (L.length - 1 - i) (L.getD i 0)=revK L (i+1):=by
 apply List.ext_getElem?;intro q
 rw[List.getElem?_set,List.getElem?_set,List.length_set,revK_len,revK_get,revK_get]
 by_cases e1:L.length - 1 - i=q
 ·rw[if_pos e1,if_pos (by omega),if_pos (by omega),if_pos (by omega),←e1,show L.length - 1 - (L.length - 1 - i)=i by omega]
 ·rw[if_neg e1]
  by_cases e2:i=q
  ·subst e2;rw[if_pos rfl,if_pos (by omega),if_pos (by omega),if_pos (by omega)]
  ·rw[if_neg e2]
   by_cases hq:q<L.length
   ·rw[if_pos hq,if_pos hq]
    by_cases e3:q<i∨L.length≤q+i
    ·rw[if_pos e3,if_pos (by omega)]
    ·rw[if_neg e3,if_neg (by omega)]
   ·rw[if_neg hq,if_neg hq]
theorem slices_Reverse_int_int_c (L:List Int) (hL:L.length≤1048576):CallT Tryz.prog false 133 [.mu false (List.map (PV.int .i64) (L))] [some (List.map (PV.int .i64) (L.reverse))] []:=by
 refine fX sg0 [] Tryz.func133 ?_
 have cD1:=zdh [false,false,false,false,false,false,false,false,false,false,false,false,false,true,false,true] [(2,13),(3,13)]
 refine dEa trivial ?_
 all_goals try (refine zlf ?_;repeat' first|exact zso|refine And.intro ?_ ?_|(refine zim ?_;intro zb hc)|(refine zin ?_;intro zb)|intro j')
 all_goals try refine zbx ?_
 refine v_loopB (fun ms1 S1=>∃(i:Nat),S1.e 0=.ref 0 0 (revK L i).length∧S1.h 0=.live true (List.map (PV.int .i64) (revK L i))∧0<S1.n∧S1.e 2=.p (.int .i64 (i))∧S1.e 3=.p (.int .i64 (((L.length:Int) - 1 - i)))∧(2*i≤L.length)∧ms1=L.length - i) ((fun(i:Nat)=>L.length - i) (0)) ?_ ⟨0,dC trivial ?_⟩
 all_goals try (refine zlf ?_;repeat' first|exact zso|refine And.intro ?_ ?_|(refine zim ?_;intro zb hc)|(refine zin ?_;intro zb)|intro j')
 all_goals try refine zbx ?_
 rintro ms1 S1 ⟨i,h1_0,b1_0,l1_0,h1_2,h1_3,c1_0,hm1⟩
 have n0:=znds (x:=0) (n:=S1.n)
 have fL1:=(And.intro h1_0 (And.intro b1_0 (And.intro h1_2 (And.intro h1_3 n0))))
 ·have e0:=revK_len (L:=L) (i:=i)
  by_cases hi:2*i+1<L.length
  ·have e1:=revK_lo hi
   have e2:=revK_step hi
   have e3:((L.length:Int) - 1 - i).toNat=L.length - 1 - i:=by omega
   refine dEa (And.intro fL1 (And.intro @e0 (And.intro e1.1 (And.intro e1.2 (And.intro @e2 @e3))))) ?_
   all_goals try (refine zlf ?_;repeat' first|exact zso|refine And.intro ?_ ?_|(refine zim ?_;intro zb hc)|(refine zin ?_;intro zb)|intro j')
   all_goals try refine zbx ?_
   focus
    refine q_lp_n ((fun(i:Nat)=>L.length - i) (i+1)) (dC fL1 ?_) ⟨i+1,dC fL1 ?_⟩
    all_goals try (refine zlf ?_;repeat' first|exact zso|refine And.intro ?_ ?_|(refine zim ?_;intro zb hc)|(refine zin ?_;intro zb)|intro j')
    all_goals try refine zbx ?_
   all_goals first|omega|(rw[e0,revK_len];done)
  ·have e2:=revK_end c1_0 (by omega)
   refine dEa (And.intro fL1 (And.intro @e0 @e2)) ?_
   all_goals try (refine zlf ?_;repeat' first|exact zso|refine And.intro ?_ ?_|(refine zim ?_;intro zb hc)|(refine zin ?_;intro zb)|intro j')
   all_goals try refine zbx ?_
 ·exact revK_len.symm
 ·exact revK_0.symm
def sgRev:FuncId→List Bool:=fun f=>if f=133 then[true]else[]
theorem sgRev_eq {f:FuncId}:sgRev f=if f=133 then[true]else[]:=_root_.id rfl
theorem way_sgRev:wayE sgRev=false∧wayN sgRev=false∧wayS sgRev=false∧wayZ sgRev=false∧wayM sgRev=false:=⟨rfl,rfl,rfl,rfl,rfl⟩
attribute [go_sem] sgRev_eq way_sgRev
theorem impl_reverse_c {m0:Bool} (p:List Int) (hl:p.length≤1048576):Fun Tryz.prog 91 [(.sl (.lent m0) (List.map (PV.int .i64) (p)))] [(.sl .own (List.map (PV.int .i64) (p.reverse)))]:=by
 refine fO sgRev [2] Tryz.func91 ?_
 have cE1:= @slices_Clone_c;have cM1:= @slices_Reverse_int_int_c
 have e1:p.reverse.length=p.length:=List.length_reverse
 have e2:List.take p.length p.reverse=p.reverse:=List.take_of_length_le (by omega)
 refine dEa (And.intro @e1 @e2) ?_
 all_goals try (refine zlf ?_;repeat' first|exact zso|refine And.intro ?_ ?_|(refine zim ?_;intro zb hc)|(refine zin ?_;intro zb)|intro j')
 all_goals try refine zbx ?_
theorem spec_l3Reverse_c {m0:Bool} (p:List Int) (hl:p.length≤1048576):Fun Tryz.prog 70 [(.sl (.lent m0) (List.map (PV.int .i64) (p)))] [(.sl .own (List.map (PV.int .i64) (p.reverse)))]:=by
 refine fO sg0 [2] Tryz.func70 ?_
 refine dEa trivial ?_
 all_goals try (refine zlf ?_;repeat' first|exact zso|refine And.intro ?_ ?_|(refine zim ?_;intro zb hc)|(refine zin ?_;intro zb)|intro j')
 all_goals try refine zbx ?_
 refine v_loopB (fun ms1 S1=>∃(k:Nat),S1.e 0=.p (.sl (.lent m0) (List.map (PV.int .i64) (p)))∧OwnL (S1.e 3) S1.h S1.n (PV.int .i64) (((p.drop k).reverse).length) ((p.drop k).reverse)∧S1.e 4=.p (.int .i64 (((k:Int) - 1)))∧(k≤p.length)∧ms1=k) ((fun(k:Nat)=>k) (p.length)) ?_ ⟨p.length,dC trivial ?_⟩
 all_goals try (refine zlf ?_;repeat' first|exact zso|refine And.intro ?_ ?_|(refine zim ?_;intro zb hc)|(refine zin ?_;intro zb)|intro j')
 all_goals try refine zbx ?_
 rintro ms1 S1 ⟨k,h1_0,o1_3,h1_4,c1_0,hm1⟩
 obtain⟨i1_3,h1_3,b1_3,l1_3⟩:=o1_3.out
 have ni1_3:=znds (x:=i1_3) (n:=S1.n)
 have fL1:=(And.intro h1_0 (And.intro h1_4 (And.intro h1_3 (And.intro b1_3 ni1_3))))
 ·have e1:((k:Int) - 1).toNat=k - 1:=by omega
  have e2:(p.drop k).reverse.length=p.length - k:=by simp
  refine dEa (And.intro fL1 (And.intro @e1 @e2)) ?_
  all_goals try (refine zlf ?_;repeat' first|exact zso|refine And.intro ?_ ?_|(refine zim ?_;intro zb hc)|(refine zin ?_;intro zb)|intro j')
  all_goals try refine zbx ?_
  ·focus
    refine q_lp_n ((fun(k:Nat)=>k) (k-1)) (dC fL1 ?_) ⟨k-1,dC fL1 ?_⟩
    all_goals try (refine zlf ?_;repeat' first|exact zso|refine And.intro ?_ ?_|(refine zim ?_;intro zb hc)|(refine zin ?_;intro zb)|intro j')
    all_goals try refine zbx ?_
   ·simp;omega
   ·obtain⟨j,rfl⟩:∃j,k=j+1:=⟨k - 1,by omega⟩
    rw[Nat.add_sub_cancel,dropI_at (k:=j) (by omega),List.reverse_cons]
  ·obtain rfl:k=0:=by omega
   rw[List.drop_zero,List.take_of_length_le (by simp)]
 ·simp
 ·rw[List.drop_length];rfl
def chF (R:Int→Int→Bool) (x:Int) (L:List (Int×Int)):Int:=L.foldl (fun v y=>if R x y.1=true then max v (y.2+1)else v) 1
def chR (R:Int→Int→Bool):List Int→List Int
 |[]=>[]
 |x::l=>chF R x (l.zip (chR R l))::chR R l
theorem chR_len {R:Int→Int→Bool}:∀{l:List Int},(chR R l).length=l.length
 |[]=>rfl
 |_::l=>by simp[chR,chR_len (l:=l)]
theorem chF_ge {R:Int→Int→Bool} {x m:Int} (hm:2≤m):∀{L:List (Int×Int)} {v:Int},m≤L.foldl (fun v y=>if R x y.1=true then max v (y.2+1)else v) v↔m≤v∨∃y∈L,R x y.1=true∧m≤y.2+1
 |[],v=>by simp
 |y::L,v=>by
  rw[List.foldl_cons,chF_ge hm (L:=L)]
  constructor
  ·rintro(h|⟨z,h1,h2⟩)
   ·split at h
    ·rename_i g
     by_cases q:m≤v
     ·exact .inl q
     ·exact .inr ⟨y,by simp,g,by omega⟩
    ·exact .inl h
   ·exact .inr ⟨z,by simp[h1],h2⟩
  ·rintro(h|⟨z,h1,h2,h3⟩)
   ·exact .inl (by split<;>omega)
   ·rcases List.mem_cons.1 h1 with e|g
    ·subst e;exact .inl (by rw[if_pos h2];omega)
    ·exact .inr ⟨z,g,h2,h3⟩
theorem chF_1 {R:Int→Int→Bool} {x:Int}:∀{L:List (Int×Int)} {v:Int},v≤L.foldl (fun v y=>if R x y.1=true then max v (y.2+1)else v) v
 |[],v=>Int.le_refl _
 |y::L,v=>by
  rw[List.foldl_cons]
  refine Int.le_trans ?_ (chF_1 (L:=L))
  split<;>omega
theorem chR_iff {R:Int→Int→Bool} (tr:∀a b c,R a b=true→R b c=true→R a c=true):∀{l:List Int} {m:Nat},(∃v∈chR R l,(m:Int)+1≤v)↔∃s:List Int,s.length=m+1∧s.Sublist l∧s.Pairwise (fun a b=>R a b=true):=by
 intro l
 have key:∀{l:List Int} (i:Nat),i<l.length→∀m:Nat,((m:Int)+1≤(chR R l).getD i 0↔∃s:List Int,s.length=m∧(l.getD i 0::s).Sublist (l.drop i)∧(l.getD i 0::s).Pairwise (fun a b=>R a b=true)):=by
  intro l
  induction l with
  |nil=>intro i hi;simp at hi
  |cons x l ih=>
   intro i hi m
   cases i with
   |succ i=>
    have hi':i<l.length:=by simpa using hi
    simpa[chR]using ih i hi' m
   |zero=>
    have e1:(chR R (x::l)).getD 0 0=chF R x (l.zip (chR R l)):=rfl
    have e2:(x::l).getD 0 0=x:=rfl
    rw[e1,e2,List.drop_zero]
    cases m with
    |zero=>
     have:=chF_1 (R:=R) (x:=x) (L:=l.zip (chR R l)) (v:=1)
     exact⟨fun _=>⟨[],rfl,by simp,by simp⟩,fun _=>by unfold chF;omega⟩
    |succ m=>
     unfold chF
     rw[chF_ge (by omega)]
     constructor
     ·rintro(h|⟨y,h1,h2,h3⟩)
      ·omega
      ·obtain⟨j,hj,ej⟩:=List.getElem_of_mem h1
       rw[List.length_zip,chR_len]at hj
       rw[List.getElem_zip]at ej
       have a1:l.getD j 0=y.1:=by rw[←ej,List.getD_eq_getElem?_getD,List.getElem?_eq_getElem (by omega)];rfl
       have a2:(chR R l).getD j 0=y.2:=by rw[←ej,List.getD_eq_getElem?_getD,List.getElem?_eq_getElem (by rw[chR_len];omega)];rfl
       obtain⟨s,s1,s2,s3⟩:=(ih j (by omega) m).1 (by rw[a2];omega)
       rw[a1]at s2 s3
       refine⟨y.1::s,by simp[s1],(s2.trans (List.drop_sublist _ _)).cons_cons x,List.pairwise_cons.2 ⟨fun z hz=> ?_,s3⟩⟩
       rcases List.mem_cons.1 hz with e|g
       ·rw[e];exact h2
       ·exact tr _ _ _ h2 ((List.pairwise_cons.1 s3).1 z g)
     ·rintro⟨s,s1,s2,s3⟩
      match s,s1 with
      |y::s,s1=>
       have s2':(y::s).Sublist l:=List.cons_sublist_cons.1 s2
       have fnd:∀{l:List Int},(y::s).Sublist l→∃j,j<l.length∧l.getD j 0=y∧(y::s).Sublist (l.drop j):=fun {l} h=>by
        induction l with
        |nil=>cases h
        |cons z l ih2=>
         rcases List.sublist_cons_iff.1 h with g|⟨r,e,g⟩
         ·obtain⟨j,j1,j2,j3⟩:=ih2 g
          exact⟨j+1,by simpa using j1,by simpa using j2,by simpa using j3⟩
         ·cases e
          exact⟨0,by simp,rfl,by simpa using h⟩
       obtain⟨j,j1,j2,j3⟩:=fnd s2'
       obtain⟨p1,p2⟩:=List.pairwise_cons.1 s3
       have hv:=(ih j j1 m).2 ⟨s,by simpa using s1,by rw[j2];exact j3,by rw[j2];exact p2⟩
       refine .inr ⟨(y,(chR R l).getD j 0), ?_,p1 y (by simp),by simp only;omega⟩
       have hz:j<(l.zip (chR R l)).length:=by rw[List.length_zip,chR_len];omega
       have:(l.zip (chR R l))[j]=(y,(chR R l).getD j 0):=by
        rw[List.getElem_zip]
        congr 1
        ·rw[←j2,List.getD_eq_getElem?_getD,List.getElem?_eq_getElem j1];rfl
        ·rw[List.getD_eq_getElem?_getD,List.getElem?_eq_getElem (by rw[chR_len];omega)];rfl
       rw[←this];exact List.getElem_mem hz
 intro m
 constructor
 ·rintro⟨v,h1,h2⟩
  obtain⟨i,hi,e⟩:=List.getElem_of_mem h1
  rw[chR_len]at hi
  have e':(chR R l).getD i 0=v:=by rw[List.getD_eq_getElem?_getD,List.getElem?_eq_getElem (by rw[chR_len];omega)];exact e
  obtain⟨s,s1,s2,s3⟩:=(key i hi m).1 (by rw[e'];exact h2)
  exact⟨l.getD i 0::s,by simp[s1],s2.trans (List.drop_sublist _ _),s3⟩
 ·rintro⟨s,s1,s2,s3⟩
  match s,s1 with
  |y::s,s1=>
   have fnd:∀{l:List Int},(y::s).Sublist l→∃j,j<l.length∧l.getD j 0=y∧(y::s).Sublist (l.drop j):=fun {l} h=>by
    induction l with
    |nil=>cases h
    |cons z l ih2=>
     rcases List.sublist_cons_iff.1 h with g|⟨r,e,g⟩
     ·obtain⟨j,j1,j2,j3⟩:=ih2 g
      exact⟨j+1,by simpa using j1,by simpa using j2,by simpa using j3⟩
     ·cases e
      exact⟨0,by simp,rfl,by simpa using h⟩
   obtain⟨j,j1,j2,j3⟩:=fnd s2
   have hv:=(key j j1 m).2 ⟨s,by simpa using s1,by rw[j2];exact j3,by rw[j2];exact s3⟩
   exact⟨_,getD_mem (by rw[chR_len];exact j1),hv⟩
theorem mx_iff {l:List Int} {m:Nat}:(m:Int)+1≤mxI l↔∃v∈l,(m:Int)+1≤v:=by
 constructor
 ·intro h
  refine Classical.byContradiction fun g=> ?_
  have:=mxI_le (B:=(m:Int)) (by omega) (l:=l) fun x hx=>by
   by_cases q:x≤m
   ·exact q
   ·exact absurd ⟨x,hx,by omega⟩ g
  omega
 ·rintro⟨v,h1,h2⟩
  have:=(mxI_ge (l:=l)).2 v h1;omega
def upR (a b:Int):Bool:= !decide (b<a)
def dnR (a b:Int):Bool:=decide (b<a)
theorem up_two {p:List Int} (hp:p.Nodup):mxI (chR upR p)=mxI (chR dnR p.reverse):=by
 have key:∀m:Nat,(m:Int)+1≤mxI (chR upR p)↔(m:Int)+1≤mxI (chR dnR p.reverse):=fun m=>by
  rw[mx_iff,mx_iff,chR_iff (fun a b c h1 h2=>by simp only[upR,Bool.not_eq_true',decide_eq_false_iff_not]at*;omega),chR_iff (fun a b c h1 h2=>by simp only[dnR,decide_eq_true_eq]at*;omega)]
  constructor
  ·rintro⟨s,s1,s2,s3⟩
   refine⟨s.reverse,by simpa using s1,List.reverse_sublist.2 s2, ?_⟩
   rw[List.pairwise_reverse]
   have nd:s.Pairwise (·≠·):=List.nodup_iff_pairwise_ne.1 (hp.sublist s2)
   exact List.Pairwise.imp₂ (fun a b h1 h2=>by simp only[upR,dnR,Bool.not_eq_true',decide_eq_false_iff_not,decide_eq_true_eq]at*;omega) s3 nd
  ·rintro⟨s,s1,s2,s3⟩
   refine⟨s.reverse,by simpa using s1,by have:=List.reverse_sublist.2 s2;rwa [List.reverse_reverse]at this, ?_⟩
   rw[List.pairwise_reverse]
   exact List.Pairwise.imp (fun h=>by simp only[upR,dnR,Bool.not_eq_true',decide_eq_false_iff_not,decide_eq_true_eq]at*;omega) s3
 have h1:=(mxI_ge (l:=chR upR p)).1
 have h2:=(mxI_ge (l:=chR dnR p.reverse)).1
 have k1:=key ((mxI (chR upR p)).toNat - 1)
 have k2:=key ((mxI (chR dnR p.reverse)).toNat - 1)
 omega
def rkI (l:List Int) (x:Int) (k:Nat):Int:=((l.take k).filter fun y=>decide (y<x)).length+1
def patL (l:List Int):List Int:=l.map fun x=>rkI l x l.length
theorem rkI_succ {l:List Int} {x:Int} {k:Nat} (h:k<l.length):rkI l x (k+1)=rkI l x k+bitI (decide (l.getD k 0<x)):=by
 rw[rkI,rkI,take_getD (d:=0) h,List.filter_append,List.length_append,List.filter_cons]
 cases decide (l.getD k 0<x)<;>simp[bitI]<;>omega
theorem rkI_b {l:List Int} {x:Int} {k:Nat}:1≤rkI l x k∧rkI l x k≤l.length+1:=by
 have:=List.length_filter_le (fun y=>decide (y<x)) (l.take k)
 rw[List.length_take]at this
 unfold rkI;omega
theorem spec_l2Pattern_c {m0:Bool} (l:List Int) (hl:l.length≤1048576):Fun Tryz.prog 163 [(.sl (.lent m0) (List.map (PV.int .i64) (l)))] [(.sl .own (List.map (PV.int .i64) (patL l)))]:=by
 refine fO sg0 [2] Tryz.func163 ?_
 have cE1:= @spec_l1Bit_c;have cD1:=zdh [false,false,false,false,false,false,false,false,false,false,true,false,false] [(0,10)]
 refine dEa trivial ?_
 all_goals try (refine zlf ?_;repeat' first|exact zso|refine And.intro ?_ ?_|(refine zim ?_;intro zb hc)|(refine zin ?_;intro zb)|intro j')
 all_goals try refine zbx ?_
 refine v_loopB (fun ms1 S1=>∃(k:Nat),S1.e 0=.p (.sl (.lent m0) (List.map (PV.int .i64) (l)))∧OwnL (S1.e 3) S1.h S1.n (PV.int .i64) (((l.take k).map (fun x=>rkI l x l.length)).length) ((l.take k).map (fun x=>rkI l x l.length))∧S1.e 4=.p (.int .i64 (k))∧(k≤l.length)∧ms1=l.length - k) ((fun(k:Nat)=>l.length - k) (0)) ?_ ⟨0,dIa trivial ?_⟩
 all_goals try (refine zlf ?_;repeat' first|exact zso|refine And.intro ?_ ?_|(refine zim ?_;intro zb hc)|(refine zin ?_;intro zb)|intro j')
 all_goals try refine zbx ?_
 rintro ms1 S1 ⟨k,h1_0,o1_3,h1_4,c1_0,hm1⟩
 obtain⟨i1_3,h1_3,b1_3,l1_3⟩:=o1_3.out
 have ni1_3:=znds (x:=i1_3) (n:=S1.n)
 have fL1:=(And.intro h1_0 (And.intro h1_4 (And.intro h1_3 (And.intro b1_3 ni1_3))))
 refine dEa fL1 ?_
 all_goals try (refine zlf ?_;repeat' first|exact zso|refine And.intro ?_ ?_|(refine zim ?_;intro zb hc)|(refine zin ?_;intro zb)|intro j')
 all_goals try refine zbx ?_
 ·refine v_loopB (fun ms2 S2=>∃(j:Nat),S2.e 0=.p (.sl (.lent m0) (List.map (PV.int .i64) (l)))∧OwnL (S2.e 3) S2.h S2.n (PV.int .i64) (((l.take k).map (fun x=>rkI l x l.length)).length) ((l.take k).map (fun x=>rkI l x l.length))∧S2.e 4=.p (.int .i64 (k))∧S2.e 5=.p (.int .i64 (rkI l (l.getD k 0) j))∧S2.e 6=.p (.int .i64 (j))∧(j≤l.length)∧(k<l.length)∧S1.n≤S2.n∧ms2=l.length - j) ((fun(j:Nat)=>l.length - j) (0)) ?_ ⟨0,dIa fL1 ?_⟩
  all_goals try (refine zlf ?_;repeat' first|exact zso|refine And.intro ?_ ?_|(refine zim ?_;intro zb hc)|(refine zin ?_;intro zb)|intro j')
  all_goals try refine zbx ?_
  rintro ms2 S2 ⟨j,h2_0,o2_3,h2_4,h2_5,h2_6,c2_0,c2_1,u2_0,hm2⟩
  obtain⟨i2_3,h2_3,b2_3,l2_3⟩:=o2_3.out
  have ni2_3:=znds (x:=i2_3) (n:=S2.n)
  have fL2:=(And.intro h2_0 (And.intro h2_4 (And.intro h2_5 (And.intro h2_6 (And.intro h2_3 (And.intro b2_3 ni2_3))))))
  have b1:=rkI_b (l:=l) (x:=l.getD k 0) (k:=j)
  have b2:=bitI_r (decide (l.getD j 0<l.getD k 0))
  refine dEa fL2 ?_
  all_goals try (refine zlf ?_;repeat' first|exact zso|refine And.intro ?_ ?_|(refine zim ?_;intro zb hc)|(refine zin ?_;intro zb)|intro j')
  all_goals try refine zbx ?_
  ·focus
    refine q_lp_n ((fun(j:Nat)=>l.length - j) (j+1)) (dC fL2 ?_) ⟨j+1,dC fL2 ?_⟩
    all_goals try (refine zlf ?_;repeat' first|exact zso|refine And.intro ?_ ?_|(refine zim ?_;intro zb hc)|(refine zin ?_;intro zb)|intro j')
    all_goals try refine zbx ?_
   rw[rkI_succ (by omega)]
  ·focus
    refine q_lp_n ((fun(k:Nat)=>l.length - k) (k+1)) (dC fL2 ?_) ⟨k+1,dC fL2 ?_⟩
    all_goals try (refine zlf ?_;repeat' first|exact zso|refine And.intro ?_ ?_|(refine zim ?_;intro zb hc)|(refine zin ?_;intro zb)|intro j')
    all_goals try refine zbx ?_
   all_goals(obtain rfl:j=l.length:=by omega)
   rw[take_getD (d:=0) (by omega),List.map_append];rfl
 ·rw[List.take_of_length_le (by omega)];rfl
theorem impl_pattern_c {m0:Bool} (l:List Int) (hl:l.length≤1048576):Fun Tryz.prog 170 [(.sl (.lent m0) (List.map (PV.int .i64) (l)))] [(.sl .own (List.map (PV.int .i64) (patL l)))]:=by
 refine fO sg0 [2] Tryz.func170 ?_
 refine dEa trivial ?_
 all_goals try (refine zlf ?_;repeat' first|exact zso|refine And.intro ?_ ?_|(refine zim ?_;intro zb hc)|(refine zin ?_;intro zb)|intro j')
 all_goals try refine zbx ?_
 refine v_loopB (fun ms1 S1=>∃(k:Nat),S1.e 0=.p (.sl (.lent m0) (List.map (PV.int .i64) (l)))∧S1.e 10=.p (.sl (.lent m0) (List.map (PV.int .i64) (l)))∧S1.e 11=.p (.int .i64 (l.length))∧S1.e 12=.p (.int .i64 (k))∧OwnL (S1.e 3) S1.h S1.n (PV.int .i64) (((l.take k).map (fun x=>rkI l x l.length)).length) ((l.take k).map (fun x=>rkI l x l.length))∧(k≤l.length)∧ms1=l.length - k) ((fun(k:Nat)=>l.length - k) (0)) ?_ ⟨0,dIa trivial ?_⟩
 all_goals try (refine zlf ?_;repeat' first|exact zso|refine And.intro ?_ ?_|(refine zim ?_;intro zb hc)|(refine zin ?_;intro zb)|intro j')
 all_goals try refine zbx ?_
 rintro ms1 S1 ⟨k,h1_0,h1_10,h1_11,h1_12,o1_3,c1_0,hm1⟩
 obtain⟨i1_3,h1_3,b1_3,l1_3⟩:=o1_3.out
 have ni1_3:=znds (x:=i1_3) (n:=S1.n)
 have fL1:=(And.intro h1_0 (And.intro h1_10 (And.intro h1_11 (And.intro h1_12 (And.intro h1_3 (And.intro b1_3 ni1_3))))))
 refine dEa fL1 ?_
 all_goals try (refine zlf ?_;repeat' first|exact zso|refine And.intro ?_ ?_|(refine zim ?_;intro zb hc)|(refine zin ?_;intro zb)|intro j')
 all_goals try refine zbx ?_
 ·refine v_loopB (fun ms2 S2=>∃(j:Nat),S2.e 0=.p (.sl (.lent m0) (List.map (PV.int .i64) (l)))∧S2.e 10=.p (.sl (.lent m0) (List.map (PV.int .i64) (l)))∧S2.e 11=.p (.int .i64 (l.length))∧S2.e 12=.p (.int .i64 (k))∧OwnL (S2.e 3) S2.h S2.n (PV.int .i64) (((l.take k).map (fun x=>rkI l x l.length)).length) ((l.take k).map (fun x=>rkI l x l.length))∧S2.e 5=.p (.int .i64 (l.getD k 0))∧S2.e 16=.p (.sl (.lent m0) (List.map (PV.int .i64) (l)))∧S2.e 17=.p (.int .i64 (l.length))∧S2.e 18=.p (.int .i64 (j))∧S2.e 6=.p (.int .i64 (rkI l (l.getD k 0) j))∧(j≤l.length)∧(k<l.length)∧S1.n≤S2.n∧ms2=l.length - j) ((fun(j:Nat)=>l.length - j) (0)) ?_ ⟨0,dIa fL1 ?_⟩
  all_goals try (refine zlf ?_;repeat' first|exact zso|refine And.intro ?_ ?_|(refine zim ?_;intro zb hc)|(refine zin ?_;intro zb)|intro j')
  all_goals try refine zbx ?_
  rintro ms2 S2 ⟨j,h2_0,h2_10,h2_11,h2_12,o2_3,h2_5,h2_16,h2_17,h2_18,h2_6,c2_0,c2_1,u2_0,hm2⟩
  obtain⟨i2_3,h2_3,b2_3,l2_3⟩:=o2_3.out
  have ni2_3:=znds (x:=i2_3) (n:=S2.n)
  have fL2:=(And.intro h2_0 (And.intro h2_10 (And.intro h2_11 (And.intro h2_12 (And.intro h2_5 (And.intro h2_16 (And.intro h2_17 (And.intro h2_18 (And.intro h2_6 (And.intro h2_3 (And.intro b2_3 ni2_3)))))))))))
  have b1:=rkI_b (l:=l) (x:=l.getD k 0) (k:=j)
  refine dEa fL2 ?_
  all_goals try (refine zlf ?_;repeat' first|exact zso|refine And.intro ?_ ?_|(refine zim ?_;intro zb hc)|(refine zin ?_;intro zb)|intro j')
  all_goals try refine zbx ?_
  ·focus
    refine q_lp_n ((fun(j:Nat)=>l.length - j) (j+1)) (dC fL2 ?_) ⟨j+1,dC fL2 ?_⟩
    all_goals try (refine zlf ?_;repeat' first|exact zso|refine And.intro ?_ ?_|(refine zim ?_;intro zb hc)|(refine zin ?_;intro zb)|intro j')
    all_goals try refine zbx ?_
   rw[rkI_succ (by omega),decide_eq_true hc];rfl
  ·focus
    refine q_lp_n ((fun(j:Nat)=>l.length - j) (j+1)) (dC fL2 ?_) ⟨j+1,dC fL2 ?_⟩
    all_goals try (refine zlf ?_;repeat' first|exact zso|refine And.intro ?_ ?_|(refine zim ?_;intro zb hc)|(refine zin ?_;intro zb)|intro j')
    all_goals try refine zbx ?_
   rw[rkI_succ (by omega),decide_eq_false (by omega)];simp[bitI]
  ·focus
    refine q_lp_n ((fun(k:Nat)=>l.length - k) (k+1)) (dC fL2 ?_) ⟨k+1,dC fL2 ?_⟩
    all_goals try (refine zlf ?_;repeat' first|exact zso|refine And.intro ?_ ?_|(refine zim ?_;intro zb hc)|(refine zin ?_;intro zb)|intro j')
    all_goals try refine zbx ?_
   all_goals(obtain rfl:j=l.length:=by omega)
   rw[take_getD (d:=0) (by omega),List.map_append];rfl
 ·rw[List.take_of_length_le (by omega)];rfl
def cplL (p:List Int):List Int:=p.map fun v=>(p.length:Int)+1 - v
theorem impl_complement_c {m0:Bool} (p:List Int) (hl:p.length≤1048576) (hb:∀x∈p,0≤x∧x≤1048576):Fun Tryz.prog 154 [(.sl (.lent m0) (List.map (PV.int .i64) (p)))] [(.sl .own (List.map (PV.int .i64) (cplL p)))]:=by
 refine fO sg0 [2] Tryz.func154 ?_
 refine dEa trivial ?_
 all_goals try (refine zlf ?_;repeat' first|exact zso|refine And.intro ?_ ?_|(refine zim ?_;intro zb hc)|(refine zin ?_;intro zb)|intro j')
 all_goals try refine zbx ?_
 refine v_loopB (fun ms1 S1=>∃(k:Nat),S1.e 0=.p (.sl (.lent m0) (List.map (PV.int .i64) (p)))∧S1.e 7=.p (.sl (.lent m0) (List.map (PV.int .i64) (p)))∧S1.e 8=.p (.int .i64 (p.length))∧S1.e 9=.p (.int .i64 (k))∧OwnL (S1.e 3) S1.h S1.n (PV.int .i64) (((p.take k).map (fun v=>(p.length:Int)+1 - v)).length) ((p.take k).map (fun v=>(p.length:Int)+1 - v))∧(k≤p.length)∧ms1=p.length - k) ((fun(k:Nat)=>p.length - k) (0)) ?_ ⟨0,dI trivial ?_⟩
 all_goals try (refine zlf ?_;repeat' first|exact zso|refine And.intro ?_ ?_|(refine zim ?_;intro zb hc)|(refine zin ?_;intro zb)|intro j')
 all_goals try refine zbx ?_
 rintro ms1 S1 ⟨k,h1_0,h1_7,h1_8,h1_9,o1_3,c1_0,hm1⟩
 obtain⟨i1_3,h1_3,b1_3,l1_3⟩:=o1_3.out
 have ni1_3:=znds (x:=i1_3) (n:=S1.n)
 have fL1:=(And.intro h1_0 (And.intro h1_7 (And.intro h1_8 (And.intro h1_9 (And.intro h1_3 (And.intro b1_3 ni1_3))))))
 have b1:k<p.length→0≤p.getD k 0∧p.getD k 0≤1048576:=fun h=>hb _ (getD_mem h)
 refine dE fL1 ?_
 all_goals try (refine zlf ?_;repeat' first|exact zso|refine And.intro ?_ ?_|(refine zim ?_;intro zb hc)|(refine zin ?_;intro zb)|intro j')
 all_goals try refine zbx ?_
 all_goals try have b2:=b1 (by omega)
 all_goals try exact zaut
 ·focus
   refine q_lp_n ((fun(k:Nat)=>p.length - k) (k+1)) (dC fL1 ?_) ⟨k+1,dC fL1 ?_⟩
   all_goals try (refine zlf ?_;repeat' first|exact zso|refine And.intro ?_ ?_|(refine zim ?_;intro zb hc)|(refine zin ?_;intro zb)|intro j')
   all_goals try refine zbx ?_
  rw[take_getD (d:=0) (by omega),List.map_append];rfl
 ·rw[List.take_of_length_le (by omega)];rfl
theorem spec_l3Complement_c {m0:Bool} (p:List Int) (hl:p.length≤1048576) (hb:∀x∈p,0≤x∧x≤1048576):Fun Tryz.prog 159 [(.sl (.lent m0) (List.map (PV.int .i64) (p)))] [(.sl .own (List.map (PV.int .i64) (cplL p)))]:=by
 refine fO sg0 [2] Tryz.func159 ?_
 refine dEa trivial ?_
 all_goals try (refine zlf ?_;repeat' first|exact zso|refine And.intro ?_ ?_|(refine zim ?_;intro zb hc)|(refine zin ?_;intro zb)|intro j')
 all_goals try refine zbx ?_
 refine v_loopB (fun ms1 S1=>∃(k:Nat),S1.e 0=.p (.sl (.lent m0) (List.map (PV.int .i64) (p)))∧S1.e 4=.p (.int .i64 (k))∧OwnL (S1.e 3) S1.h S1.n (PV.int .i64) (((p.take k).map (fun v=>(p.length:Int)+1 - v)).length) ((p.take k).map (fun v=>(p.length:Int)+1 - v))∧(k≤p.length)∧ms1=p.length - k) ((fun(k:Nat)=>p.length - k) (0)) ?_ ⟨0,dI trivial ?_⟩
 all_goals try (refine zlf ?_;repeat' first|exact zso|refine And.intro ?_ ?_|(refine zim ?_;intro zb hc)|(refine zin ?_;intro zb)|intro j')
 all_goals try refine zbx ?_
 rintro ms1 S1 ⟨k,h1_0,h1_4,o1_3,c1_0,hm1⟩
 obtain⟨i1_3,h1_3,b1_3,l1_3⟩:=o1_3.out
 have ni1_3:=znds (x:=i1_3) (n:=S1.n)
 have fL1:=(And.intro h1_0 (And.intro h1_4 (And.intro h1_3 (And.intro b1_3 ni1_3))))
 have b1:k<p.length→0≤p.getD k 0∧p.getD k 0≤1048576:=fun h=>hb _ (getD_mem h)
 refine dE fL1 ?_
 all_goals try (refine zlf ?_;repeat' first|exact zso|refine And.intro ?_ ?_|(refine zim ?_;intro zb hc)|(refine zin ?_;intro zb)|intro j')
 all_goals try refine zbx ?_
 all_goals try have b2:=b1 (by omega)
 all_goals try exact zaut
 ·focus
   refine q_lp_n ((fun(k:Nat)=>p.length - k) (k+1)) (dC fL1 ?_) ⟨k+1,dC fL1 ?_⟩
   all_goals try (refine zlf ?_;repeat' first|exact zso|refine And.intro ?_ ?_|(refine zim ?_;intro zb hc)|(refine zin ?_;intro zb)|intro j')
   all_goals try refine zbx ?_
  rw[take_getD (d:=0) (by omega),List.map_append];rfl
 ·rw[List.take_of_length_le (by omega)];rfl
def invL (p:List Int):Nat→List Int
 |0=>List.replicate p.length 0
 |k+1=>(invL p k).set (p.getD k 0 - 1).toNat ((k:Int)+1)
theorem invL_len {p:List Int}:∀{k:Nat},(invL p k).length=p.length
 |0=>by simp[invL]
 |k+1=>by rw[invL,List.length_set,invL_len]
def inv (p:List Int):List Int:=invL p p.length
theorem impl_inverse_c {m0:Bool} (p:List Int) (h8:p.length≤8) (hp:permB p=true):Fun Tryz.prog 145 [(.sl (.lent m0) (List.map (PV.int .i64) (p)))] [(.sl .own (List.map (PV.int .i64) (inv p)))]:=by
 refine fO sg0 [2] Tryz.func145 ?_
 refine dEa trivial ?_
 all_goals try (refine zlf ?_;repeat' first|exact zso|refine And.intro ?_ ?_|(refine zim ?_;intro zb hc)|(refine zin ?_;intro zb)|intro j')
 all_goals try refine zbx ?_
 refine v_loopB (fun ms1 S1=>∃(k:Nat),S1.e 9=.p (.sl (.lent m0) (List.map (PV.int .i64) (p)))∧OwnL (S1.e 3) S1.h S1.n (PV.int .i64) ((invL p k).length) (invL p k)∧S1.e 10=.p (.int .i64 (p.length))∧S1.e 11=.p (.int .i64 (k))∧(k≤p.length)∧ms1=p.length - k) ((fun(k:Nat)=>p.length - k) (0)) ?_ ⟨0,dIa trivial ?_⟩
 all_goals try (refine zlf ?_;repeat' first|exact zso|refine And.intro ?_ ?_|(refine zim ?_;intro zb hc)|(refine zin ?_;intro zb)|intro j')
 all_goals try refine zbx ?_
 rintro ms1 S1 ⟨k,h1_9,o1_3,h1_10,h1_11,c1_0,hm1⟩
 obtain⟨i1_3,h1_3,b1_3,l1_3⟩:=o1_3.out
 have ni1_3:=znds (x:=i1_3) (n:=S1.n)
 have fL1:=(And.intro h1_9 (And.intro h1_10 (And.intro h1_11 (And.intro h1_3 (And.intro b1_3 ni1_3)))))
 have b1:(invL p k).length=p.length:=invL_len
 have b2:=fun h=>perm_at hp (i:=k) h
 refine dEa fL1 ?_
 all_goals try (refine zlf ?_;repeat' first|exact zso|refine And.intro ?_ ?_|(refine zim ?_;intro zb hc)|(refine zin ?_;intro zb)|intro j')
 all_goals try refine zbx ?_
 ·focus
   refine q_lp_n ((fun(k:Nat)=>p.length - k) (k+1)) (dC fL1 ?_) ⟨k+1,dC fL1 ?_⟩
   all_goals try (refine zlf ?_;repeat' first|exact zso|refine And.intro ?_ ?_|(refine zim ?_;intro zb hc)|(refine zin ?_;intro zb)|intro j')
   all_goals try refine zbx ?_
  all_goals first|(rw[invL_len,invL_len];done)|skip
 ·obtain rfl:k=p.length:=by omega
  rfl
 ·exact invL_len.symm
theorem inv_len {p:List Int}:(inv p).length=p.length:=invL_len
theorem nodup_map {f:Int→Int} {l:List Int} (h:l.Nodup) (hf:∀x∈l,∀y∈l,x≠y→f x≠f y):(l.map f).Nodup:=by
 unfold List.Nodup
 rw[List.pairwise_map]
 exact List.Pairwise.imp_of_mem (fun {a b} ha hb hab=>hf a ha b hb hab) h
theorem rkI_lt {l:List Int} {x y:Int} (hx:x∈l) (h:x<y):rkI l x l.length<rkI l y l.length:=by
 unfold rkI
 rw[List.take_length]
 have h1:=len_two (fun z=>decide (z<x)) (l.filter fun z=>decide (z<y))
 have h2:((l.filter fun z=>decide (z<y)).filter fun z=>decide (z<x))=l.filter fun z=>decide (z<x):=by
  rw[List.filter_filter]
  refine List.filter_congr fun z _=> ?_
  by_cases hz:z<x
  ·simp[hz,show z<y by omega]
  ·simp[hz]
 have h3:x∈(l.filter fun z=>decide (z<y)).filter fun z=> !decide (z<x):=by
  simp only[List.mem_filter,decide_eq_true_eq,Bool.not_eq_true',decide_eq_false_iff_not]
  exact⟨⟨hx,h⟩,by omega⟩
 have h4:=List.length_pos_of_mem h3
 rw[h2]at h1
 omega
theorem patL_len {l:List Int}:(patL l).length=l.length:=by simp[patL]
theorem patL_perm {l:List Int} (hn:l.Nodup):permB (patL l)=true:=by
 rw[permB_iff,patL_len]
 refine⟨fun x hx=> ?_,nodup_map hn fun x hx y hy h=> ?_⟩
 ·obtain⟨y,hy,rfl⟩:=List.mem_map.1 hx
  refine⟨rkI_b.1, ?_⟩
  have h1:=len_two (fun z=>decide (z<y)) l
  have h2:y∈l.filter fun z=> !decide (z<y):=by simp[hy]
  have h3:=List.length_pos_of_mem h2
  unfold rkI
  rw[List.take_length]
  omega
 ·rcases Int.lt_or_gt_of_ne h with h|h
  ·have:=rkI_lt hx h;omega
  ·have:=rkI_lt hy h;omega
theorem cplL_len {p:List Int}:(cplL p).length=p.length:=by simp[cplL]
theorem cplL_perm {p:List Int} (h:permB p=true):permB (cplL p)=true:=by
 rw[permB_iff,cplL_len]
 obtain⟨a1,a2⟩:=permB_iff.1 h
 refine⟨fun x hx=> ?_,nodup_map a2 fun x _ y _ h=>by omega⟩
 obtain⟨y,hy,rfl⟩:=List.mem_map.1 hx
 have:=a1 y hy
 omega
theorem spec_l2Inverse_c {m0:Bool} (p:List Int) (h8:p.length≤8) (hp:permB p=true):Fun Tryz.prog 128 [(.sl (.lent m0) (List.map (PV.int .i64) (p)))] [(.sl .own (List.map (PV.int .i64) (inv p)))]:=by
 refine fO sg0 [2] Tryz.func128 ?_
 refine dEa trivial ?_
 all_goals try (refine zlf ?_;repeat' first|exact zso|refine And.intro ?_ ?_|(refine zim ?_;intro zb hc)|(refine zin ?_;intro zb)|intro j')
 all_goals try refine zbx ?_
 refine v_loopB (fun ms1 S1=>∃(k:Nat),S1.e 0=.p (.sl (.lent m0) (List.map (PV.int .i64) (p)))∧OwnL (S1.e 3) S1.h S1.n (PV.int .i64) ((invL p k).length) (invL p k)∧S1.e 4=.p (.int .i64 (k))∧(k≤p.length)∧ms1=p.length - k) ((fun(k:Nat)=>p.length - k) (0)) ?_ ⟨0,dIa trivial ?_⟩
 all_goals try (refine zlf ?_;repeat' first|exact zso|refine And.intro ?_ ?_|(refine zim ?_;intro zb hc)|(refine zin ?_;intro zb)|intro j')
 all_goals try refine zbx ?_
 rintro ms1 S1 ⟨k,h1_0,o1_3,h1_4,c1_0,hm1⟩
 obtain⟨i1_3,h1_3,b1_3,l1_3⟩:=o1_3.out
 have ni1_3:=znds (x:=i1_3) (n:=S1.n)
 have fL1:=(And.intro h1_0 (And.intro h1_4 (And.intro h1_3 (And.intro b1_3 ni1_3))))
 have b1:(invL p k).length=p.length:=invL_len
 have b2:=fun h=>perm_at hp (i:=k) h
 refine dEa fL1 ?_
 all_goals try (refine zlf ?_;repeat' first|exact zso|refine And.intro ?_ ?_|(refine zim ?_;intro zb hc)|(refine zin ?_;intro zb)|intro j')
 all_goals try refine zbx ?_
 ·focus
   refine q_lp_n ((fun(k:Nat)=>p.length - k) (k+1)) (dC fL1 ?_) ⟨k+1,dC fL1 ?_⟩
   all_goals try (refine zlf ?_;repeat' first|exact zso|refine And.intro ?_ ?_|(refine zim ?_;intro zb hc)|(refine zin ?_;intro zb)|intro j')
   all_goals try refine zbx ?_
  all_goals first|(rw[invL_len,invL_len];done)|skip
 ·obtain rfl:k=p.length:=by omega
  rfl
 ·exact invL_len.symm
def altA (p:List Int) (i:Nat):Bool:=decide (p.getD i 0<p.getD (i - 1) 0)==decide ((i:Int).tmod 2=1)
def altB (p:List Int):Bool:=isPermB p&&(List.range p.length).all fun i=>decide (i=0)||altA p i
theorem alt_no {p:List Int} {k:Nat} (hk:k<p.length) (h0:1≤k) (h:altA p k=false):altB p=false:=by
 rw[altB,Bool.and_eq_false_iff]
 refine .inr (List.all_eq_false.2 ⟨k,List.mem_range.2 hk, ?_⟩)
 rw[h,decide_eq_false (by omega)];decide
theorem alt_yes {p:List Int} (h:∀i,1≤i→i<p.length→altA p i=true):altB p=isPermB p:=by
 have:((List.range p.length).all fun i=>decide (i=0)||altA p i)=true:=List.all_eq_true.2 fun i hi=>by
  rw[List.mem_range]at hi
  by_cases h0:i=0
  ·rw[decide_eq_true h0];rfl
  ·rw[h i (by omega) hi,Bool.or_true]
 rw[altB,this,Bool.and_true]
theorem spec_IsAlternating_c {m0:Bool} (p:List Int) (hp:p.length≤1048576):Fun Tryz.prog 83 [(.sl (.lent m0) (List.map (PV.int .i64) (p)))] [(.bool (altB p))]:=by
 refine fO sg0 [2] Tryz.func83 ?_
 have cE1:= @spec_IsPerm_c
 refine dEa trivial ?_
 all_goals try (refine zlf ?_;repeat' first|exact zso|refine And.intro ?_ ?_|(refine zim ?_;intro zb hc)|(refine zin ?_;intro zb)|intro j')
 all_goals try refine zbx ?_
 refine v_loopB (fun ms1 S1=>∃(k:Nat),S1.e 0=.p (.sl (.lent m0) (List.map (PV.int .i64) (p)))∧S1.e 3=.p (.int .i64 (k))∧(1≤k)∧(k≤p.length∨k=1)∧(∀i,1≤i→i<k→altA p i=true)∧ms1=p.length - k) ((fun(k:Nat)=>p.length - k) (1)) ?_ ⟨1,dC trivial ?_⟩
 all_goals try (refine zlf ?_;repeat' first|exact zso|refine And.intro ?_ ?_|(refine zim ?_;intro zb hc)|(refine zin ?_;intro zb)|intro j')
 all_goals try refine zbx ?_
 rintro ms1 S1 ⟨k,h1_0,h1_3,c1_0,c1_1,c1_2,hm1⟩
 have fL1:=(And.intro h1_0 h1_3)
 by_cases hk:k<p.length
 ·have z:((k:Int) - 1).toNat=k - 1:=by omega
  cases ha:altA p k with
  |true=>
   have ha':(decide (p.getD k 0<p.getD (k - 1) 0)==decide ((k:Int).tmod 2=1))=true:=ha
   refine dEa (And.intro fL1 (And.intro @ha' @z)) ?_
   all_goals try (refine zlf ?_;repeat' first|exact zso|refine And.intro ?_ ?_|(refine zim ?_;intro zb hc)|(refine zin ?_;intro zb)|intro j')
   all_goals try refine zbx ?_
   focus
    refine q_lp_n ((fun(k:Nat)=>p.length - k) (k+1)) (dC fL1 ?_) ⟨k+1,dC fL1 ?_⟩
    all_goals try (refine zlf ?_;repeat' first|exact zso|refine And.intro ?_ ?_|(refine zim ?_;intro zb hc)|(refine zin ?_;intro zb)|intro j')
    all_goals try refine zbx ?_
   all_goals(first|(intro i h1 h2;by_cases e:i=k;(subst e;exact ha);exact c1_2 i h1 (by omega))|omega|skip)
   all_goals trace_state
  |false=>
   have ha':(decide (p.getD k 0<p.getD (k - 1) 0)==decide ((k:Int).tmod 2=1))=false:=ha
   rw[alt_no hk c1_0 ha]
   refine dEa (And.intro fL1 (And.intro @ha' @z)) ?_
   all_goals try (refine zlf ?_;repeat' first|exact zso|refine And.intro ?_ ?_|(refine zim ?_;intro zb hc)|(refine zin ?_;intro zb)|intro j')
   all_goals try refine zbx ?_
   all_goals trace_state
 ·rw[alt_yes fun i h1 h2=>c1_2 i h1 (by omega)]
  refine dEa fL1 ?_
  all_goals try (refine zlf ?_;repeat' first|exact zso|refine And.intro ?_ ?_|(refine zim ?_;intro zb hc)|(refine zin ?_;intro zb)|intro j')
  all_goals try refine zbx ?_
  all_goals trace_state
theorem impl_IsAlternating_c {m0:Bool} (p:List Int) (hp:p.length≤1048576):Fun Tryz.prog 104 [(.sl (.lent m0) (List.map (PV.int .i64) (p)))] [(.bool (altB p))]:=by
 by_cases h:isPermB p=true
 ·refine fO sg0 [2] Tryz.func104 ?_
  have cE1:= @impl_IsPerm_c
  refine dEa @h ?_
  all_goals try (refine zlf ?_;repeat' first|exact zso|refine And.intro ?_ ?_|(refine zim ?_;intro zb hc)|(refine zin ?_;intro zb)|intro j')
  all_goals try refine zbx ?_
  refine v_loopB (fun ms1 S1=>∃(k:Nat),S1.e 0=.p (.sl (.lent m0) (List.map (PV.int .i64) (p)))∧S1.e 3=.p (.int .i64 (k))∧(1≤k)∧(k≤p.length∨k=1)∧(∀i,1≤i→i<k→altA p i=true)∧ms1=p.length - k) ((fun(k:Nat)=>p.length - k) (1)) ?_ ⟨1,dC trivial ?_⟩
  all_goals try (refine zlf ?_;repeat' first|exact zso|refine And.intro ?_ ?_|(refine zim ?_;intro zb hc)|(refine zin ?_;intro zb)|intro j')
  all_goals try refine zbx ?_
  rintro ms1 S1 ⟨k,h1_0,h1_3,c1_0,c1_1,c1_2,hm1⟩
  have fL1:=(And.intro h1_0 h1_3)
  by_cases hk:k<p.length
  ·have z:((k:Int) - 1).toNat=k - 1:=by omega
   cases ha:altA p k with
   |true=>
    have ha':(decide (p.getD k 0<p.getD (k - 1) 0)==decide ((k:Int).tmod 2=1))=true:=ha
    refine dEa (And.intro fL1 (And.intro @ha' @z)) ?_
    all_goals try (refine zlf ?_;repeat' first|exact zso|refine And.intro ?_ ?_|(refine zim ?_;intro zb hc)|(refine zin ?_;intro zb)|intro j')
    all_goals try refine zbx ?_
    focus
     refine q_lp_n ((fun(k:Nat)=>p.length - k) (k+1)) (dC fL1 ?_) ⟨k+1,dC fL1 ?_⟩
     all_goals try (refine zlf ?_;repeat' first|exact zso|refine And.intro ?_ ?_|(refine zim ?_;intro zb hc)|(refine zin ?_;intro zb)|intro j')
     all_goals try refine zbx ?_
    all_goals(first|(intro i h1 h2;by_cases e:i=k;(subst e;exact ha);exact c1_2 i h1 (by omega))|omega|skip)
    all_goals trace_state
   |false=>
    have ha':(decide (p.getD k 0<p.getD (k - 1) 0)==decide ((k:Int).tmod 2=1))=false:=ha
    rw[alt_no hk c1_0 ha]
    refine dEa (And.intro fL1 (And.intro @ha' @z)) ?_
    all_goals try (refine zlf ?_;repeat' first|exact zso|refine And.intro ?_ ?_|(refine zim ?_;intro zb hc)|(refine zin ?_;intro zb)|intro j')
    all_goals try refine zbx ?_
    all_goals trace_state
  ·rw[alt_yes fun i h1 h2=>c1_2 i h1 (by omega),h]
   refine dEa fL1 ?_
   all_goals try (refine zlf ?_;repeat' first|exact zso|refine And.intro ?_ ?_|(refine zim ?_;intro zb hc)|(refine zin ?_;intro zb)|intro j')
   all_goals try refine zbx ?_
   all_goals trace_state
 ·rw[Bool.not_eq_true]at h
  have e:altB p=false:=by rw[altB,h];rfl
  rw[e]
  refine fO sg0 [2] Tryz.func104 ?_
  have cE1:= @impl_IsPerm_c
  refine dEa @h ?_
  all_goals try (refine zlf ?_;repeat' first|exact zso|refine And.intro ?_ ?_|(refine zim ?_;intro zb hc)|(refine zin ?_;intro zb)|intro j')
  all_goals try refine zbx ?_
def ivoB (p:List Int):Bool:=isPermB p&&decide (p=inv p)
theorem spec_IsInvolution_c {m0:Bool} (p:List Int) (hp:p.length≤1048576):Fun Tryz.prog 82 [(.sl (.lent m0) (List.map (PV.int .i64) (p)))] [(.bool (ivoB p))]:=by
 by_cases h:isPermB p=true
 ·obtain⟨h8,hq⟩:=isPerm_facts h
  have i1:(inv p).length=p.length:=inv_len
  rw[ivoB,h,Bool.true_and]
  refine fO sg0 [2] Tryz.func82 ?_
  have cE1:= @spec_IsPerm_c;have cE2:= @spec_l2Inverse_c;have cE3:= @spec_l2Same_c
  refine dEa @h ?_
  all_goals try (refine zlf ?_;repeat' first|exact zso|refine And.intro ?_ ?_|(refine zim ?_;intro zb hc)|(refine zin ?_;intro zb)|intro j')
  all_goals try refine zbx ?_
  all_goals trace_state
 ·rw[Bool.not_eq_true]at h
  rw[ivoB,h,Bool.false_and]
  refine fO sg0 [2] Tryz.func82 ?_
  have cE1:= @spec_IsPerm_c;have cE2:= @spec_l2Inverse_c;have cE3:= @spec_l2Same_c
  refine dEa @h ?_
  all_goals try (refine zlf ?_;repeat' first|exact zso|refine And.intro ?_ ?_|(refine zim ?_;intro zb hc)|(refine zin ?_;intro zb)|intro j')
  all_goals try refine zbx ?_
  all_goals trace_state
theorem impl_IsInvolution_c {m0:Bool} (p:List Int) (hp:p.length≤1048576):Fun Tryz.prog 103 [(.sl (.lent m0) (List.map (PV.int .i64) (p)))] [(.bool (ivoB p))]:=by
 by_cases h:isPermB p=true
 ·obtain⟨h8,hq⟩:=isPerm_facts h
  have i1:(inv p).length=p.length:=inv_len
  rw[ivoB,h,Bool.true_and]
  refine fO sg0 [2] Tryz.func103 ?_
  have cE1:= @impl_IsPerm_c;have cE2:= @impl_inverse_c;have cE3:= @slices_Equal_int_int_c
  refine dEa @h ?_
  all_goals try (refine zlf ?_;repeat' first|exact zso|refine And.intro ?_ ?_|(refine zim ?_;intro zb hc)|(refine zin ?_;intro zb)|intro j')
  all_goals try refine zbx ?_
  all_goals trace_state
 ·rw[Bool.not_eq_true]at h
  rw[ivoB,h,Bool.false_and]
  refine fO sg0 [2] Tryz.func103 ?_
  have cE1:= @impl_IsPerm_c;have cE2:= @impl_inverse_c;have cE3:= @slices_Equal_int_int_c
  refine dEa @h ?_
  all_goals try (refine zlf ?_;repeat' first|exact zso|refine And.intro ?_ ?_|(refine zim ?_;intro zb hc)|(refine zin ?_;intro zb)|intro j')
  all_goals try refine zbx ?_
  all_goals trace_state
def lnS (x:Int) (a:Int×Int) (y:Int×Int×Int):Int×Int:=if y.1<x then a else if y.2.1+1<a.1 then a else if a.1<y.2.1+1 then(y.2.1+1,y.2.2)else(a.1,a.2+y.2.2)
def lnc:List Int→List (Int×Int)
 |[]=>[]
 |x::l=>(l.zip (lnc l)).foldl (lnS x) (1,1)::lnc l
theorem lnc_len:∀{l:List Int},(lnc l).length=l.length
 |[]=>rfl
 |_::l=>by simp[lnc,lnc_len (l:=l)]
theorem lnc_at:∀{l:List Int} {k:Nat},(lnc l).getD k (0,0)=(lnc (l.drop k)).getD 0 (0,0)
 |_,0=>by rw[List.drop_zero]
 |[],k+1=>by simp[lnc]
 |x::l,k+1=>by rw[List.drop_succ_cons,←lnc_at,lnc,List.getD_cons_succ]
theorem lnc_hd {l:List Int} {i:Nat} (h:i<l.length):(lnc (l.drop i)).getD 0 (0,0)=((l.drop (i+1)).zip (lnc (l.drop (i+1)))).foldl (lnS (l.getD i 0)) (1,1):=by
 rw[dropI_at h,lnc,List.getD_cons_zero]
theorem lnS_fst {x:Int} {B:Nat}:∀{l:List Int} {c:List (Int×Int)} {a:Int×Int},((l.zip c).foldl (lnS x) a).1=(l.zip (c.map Prod.fst)).foldl (fun v y=>if upR x y.1=true then max v (y.2+1)else v) a.1
 |[],_,_=>by simp
 |_::_,[],_=>by simp
 |y::l,z::c,a=>by
  simp only[List.map_cons,List.zip_cons_cons,List.foldl_cons]
  rw[lnS_fst (B:=B)]
  congr 1
  unfold lnS upR
  by_cases h:y<x
  ·simp[h]
  ·simp only[h,if_false,decide_false,Bool.not_false,if_true]
   split
   ·omega
   ·split<;>simp only<;>omega
theorem lnc_fst:∀{l:List Int},(lnc l).map Prod.fst=chR upR l
 |[]=>rfl
 |x::l=>by
  rw[lnc,List.map_cons,lnc_fst,chR,chF,←lnc_fst (l:=l),lnS_fst (B:=0)]
theorem lnS_b {x:Int} {n B:Nat}:∀{l:List Int} {c:List (Int×Int)} {a:Int×Int} {m:Nat},(∀y∈c,0≤y.1∧y.1≤(n:Int)∧0≤y.2∧y.2≤(B:Int))→0≤a.1∧a.1≤(n:Int)+1∧0≤a.2∧a.2≤(m:Int)→B≤m→
   0≤((l.zip c).foldl (lnS x) a).1∧((l.zip c).foldl (lnS x) a).1≤(n:Int)+1∧0≤((l.zip c).foldl (lnS x) a).2∧((l.zip c).foldl (lnS x) a).2≤((m+l.length*B:Nat):Int)
 |[],_,a,m,_,h,_=>by simp;omega
 |y::l,[],a,m,_,h,_=>by
  rw[List.zip_nil_right,List.foldl_nil]
  have:=Nat.le_add_right m ((y::l).length*B)
  omega
 |y::l,z::c,a,m,hc,h,hB=>by
  have hz:=hc z List.mem_cons_self
  have hs:0≤(lnS x a (y,z)).1∧(lnS x a (y,z)).1≤(n:Int)+1∧0≤(lnS x a (y,z)).2∧(lnS x a (y,z)).2≤((m+B:Nat):Int):=by
   unfold lnS
   split
   ·omega
   ·split
    ·omega
    ·split<;>simp only<;>omega
  have:=lnS_b (x:=x) (l:=l) (c:=c) (m:=m+B) (fun y hy=>hc y (List.mem_cons_of_mem _ hy)) hs (by omega)
  rw[List.zip_cons_cons,List.foldl_cons,List.length_cons,Nat.succ_mul]
  refine⟨this.1,this.2.1,this.2.2.1, ?_⟩
  have h4:=this.2.2.2
  have e:m+B+l.length*B=m+(l.length*B+B):=by omega
  rw[e]at h4;exact h4
theorem lnc_b:∀{l:List Int},l.length≤8→∀y∈lnc l,0≤y.1∧y.1≤(l.length:Int)∧0≤y.2∧y.2≤((9^l.length:Nat):Int)
 |[],_=>by simp[lnc]
 |x::l,h=>by
  rw[List.length_cons]at h ⊢
  have ih:=lnc_b (l:=l) (by omega)
  have e:9^(l.length+1)=9*9^l.length:=by rw[Nat.pow_succ,Nat.mul_comm]
  have p0:0<9^l.length:=Nat.pow_pos (by decide)
  intro y hy
  rw[lnc]at hy
  rcases List.mem_cons.1 hy with g|g
  ·have:=lnS_b (x:=x) (l:=l) (c:=lnc l) (a:=(1,1)) (m:=9^l.length) ih ⟨by decide,by simp only;omega,by decide,by simp only;omega⟩ (Nat.le_refl _)
   rw[←g]at this
   have h7:=Nat.mul_le_mul_right (9^l.length) (show l.length≤7 by omega)
   have:((l.length+1:Nat):Int)=(l.length:Int)+1:=by omega
   omega
  ·have:=ih y g
   have:((l.length+1:Nat):Int)=(l.length:Int)+1:=by omega
   omega
theorem nine8:∀d,d≤8→9^d≤43046721:=by decide
theorem lnc_r {p:List Int} (h8:p.length≤8) {k:Nat} (hk:k<p.length):0≤((lnc (p.drop k)).getD 0 (0,0)).1∧((lnc (p.drop k)).getD 0 (0,0)).1≤8∧0≤((lnc (p.drop k)).getD 0 (0,0)).2∧((lnc (p.drop k)).getD 0 (0,0)).2≤43046721:=by
 have hl:(p.drop k).length=p.length - k:=List.length_drop
 have:=lnc_b (l:=p.drop k) (by omega) _ (getD_mem (l:=lnc (p.drop k)) (i:=0) (d:=(0,0)) (by rw[lnc_len];omega))
 have:=nine8 (p.drop k).length (by omega)
 omega
def lnP (p:List Int) (i t:Nat):Int×Int:=(((p.drop (i+1)).zip (lnc (p.drop (i+1)))).take t).foldl (lnS (p.getD i 0)) (1,1)
theorem lnP_succ {p:List Int} {i t:Nat} (h:i+1+t<p.length):lnP p i (t+1)=lnS (p.getD i 0) (lnP p i t) (p.getD (i+1+t) 0,(lnc (p.drop (i+1+t))).getD 0 (0,0)):=by
 have hl:t<((p.drop (i+1)).zip (lnc (p.drop (i+1)))).length:=by rw[List.length_zip,lnc_len,List.length_drop];omega
 unfold lnP
 rw[List.take_succ_eq_append_getElem hl,List.foldl_append,List.foldl_cons,List.foldl_nil,List.getElem_zip]
 congr 1
 congr 1
 ·rw[List.getElem_drop,List.getD_eq_getElem?_getD,List.getElem?_eq_getElem (by omega)];rfl
 ·have e:=lnc_at (l:=p.drop (i+1)) (k:=t)
  rw[List.drop_drop]at e
  rw[←e,List.getD_eq_getElem?_getD,List.getElem?_eq_getElem (by rw[lnc_len,List.length_drop];omega)];rfl
theorem lnP_next {p:List Int} {i j:Nat} (h:i+1≤j) (hj:j<p.length):lnP p i (j+1 - (i+1))=lnS (p.getD i 0) (lnP p i (j - (i+1))) (p.getD j 0,(lnc (p.drop j)).getD 0 (0,0)):=by
 have:=lnP_succ (p:=p) (i:=i) (t:=j - (i+1)) (by omega)
 rwa [show i+1+(j - (i+1))=j by omega,show j - (i+1)+1=j+1 - (i+1)by omega]at this
theorem lnP_end {p:List Int} {i t:Nat} (hi:i<p.length) (h:p.length≤i+1+t):lnP p i t=(lnc (p.drop i)).getD 0 (0,0):=by
 rw[lnc_hd hi];unfold lnP
 rw[List.take_of_length_le (by rw[List.length_zip,lnc_len,List.length_drop];omega)]
theorem lnP_b {p:List Int} (h8:p.length≤8) {i:Nat}:∀{t:Nat},i+1+t≤p.length→0≤(lnP p i t).1∧(lnP p i t).1≤9∧0≤(lnP p i t).2∧(lnP p i t).2≤43046721*((t:Int)+1)
 |0,_=>by simp[lnP]
 |t+1,h=>by
  have ih:=lnP_b h8 (i:=i) (t:=t) (by omega)
  have h2:=lnc_r h8 (k:=i+1+t) (by omega)
  rw[lnP_succ (by omega)]
  unfold lnS
  split
  ·omega
  ·split
   ·omega
   ·split<;>simp only<;>omega
theorem gdS {l:List Int} {i k:Nat} {x:Int} (h:k<l.length):(l.set i x).getD k 0=if i=k then x else l.getD k 0:=by
 rw[List.getD_eq_getElem?_getD,List.getElem?_set,List.getD_eq_getElem?_getD]
 by_cases e:i=k
 ·rw[if_pos e,if_pos e,if_pos (by omega)];rfl
 ·rw[if_neg e,if_neg e]
set_option maxHeartbeats 4000000 in
theorem impl_lengths_c {m0:Bool} (p:List Int) (h8:p.length≤8):Fun Tryz.prog 131 [(.sl (.lent m0) (List.map (PV.int .i64) (p)))] [(.sl .own (List.map (PV.int .i64) (chR upR p))),(.sl .own (List.map (PV.int .i64) ((lnc p).map Prod.snd)))]:=by
 refine fO sg0 [2,3] Tryz.func131 ?_
 have cD1:=zdh [false,false,true,false,false,true,false,false] [(2,3),(2,4),(0,5),(1,5),(2,5),(5,6)];have cD2:=zdh [false,false,false,false,false,false,false,false,false,false,false,false,false,false,true,false,true] [(2,14),(3,14)];have cD3:=zdh [false,false,false,false,false,false,false,false,false,false,true] []
 rw[←lnc_fst]
 refine dEa trivial ?_
 all_goals try (refine zlf ?_;repeat' first|exact zso|refine And.intro ?_ ?_|(refine zim ?_;intro zb hc)|(refine zin ?_;intro zb)|intro j')
 all_goals try refine zbx ?_
 refine v_loopB (fun ms1 S1=>∃(i:Nat) (a:List Int) (c:List Int),S1.e 0=.p (.sl (.lent m0) (List.map (PV.int .i64) (p)))∧OwnL (S1.e 4) S1.h S1.n (PV.int .i64) ((a).length) (a)∧OwnL (S1.e 5) S1.h S1.n (PV.int .i64) ((c).length) (c)∧S1.e 6=.p (.int .i64 (((i:Int) - 1)))∧(i≤p.length)∧(a.length=p.length)∧(c.length=p.length)∧(∀k,i≤k→k<p.length→(a.getD k 0,c.getD k 0)=(lnc (p.drop k)).getD 0 (0,0))∧NId (S1.e 5) (S1.e 4)∧ms1=i) ((fun(i:Nat) (a:List Int) (c:List Int)=>i) (p.length) (List.replicate p.length 0) (List.replicate p.length 0)) ?_ ⟨p.length,List.replicate p.length 0,List.replicate p.length 0,dC trivial ?_⟩
 all_goals try (refine zlf ?_;repeat' first|exact zso|refine And.intro ?_ ?_|(refine zim ?_;intro zb hc)|(refine zin ?_;intro zb)|intro j')
 all_goals try refine zbx ?_
 rintro ms1 S1 ⟨i,a,c,h1_0,o1_4,o1_5,h1_6,c1_0,c1_1,c1_2,c1_3,u1_0,hm1⟩
 obtain⟨i1_4,h1_4,b1_4,l1_4⟩:=o1_4.out
 obtain⟨i1_5,h1_5,b1_5,l1_5⟩:=o1_5.out
 have k1_0:=(u1_0).out h1_5 h1_4
 have ni1_4:=znds (x:=i1_4) (n:=S1.n)
 have ni1_5:=znds (x:=i1_5) (n:=S1.n)
 have di1_4i1_5:=zdne (x:=i1_4) (y:=i1_5)
 have fL1:=(And.intro h1_0 (And.intro h1_6 (And.intro h1_4 (And.intro b1_4 (And.intro h1_5 (And.intro b1_5 (And.intro ni1_4 (And.intro ni1_5 di1_4i1_5))))))))
 ·by_cases hi:0<i
  ·obtain⟨x,rfl⟩:∃x,i=x+1:=⟨i - 1,by omega⟩
   have e1:(((x+1:Nat):Int) - 1).toNat=x:=by omega
   have e2:(((x+1:Nat):Int) - 1)+1=((x+1:Nat):Int):=by omega
   refine dEa (And.intro fL1 (And.intro @e1 @e2)) ?_
   all_goals try (refine zlf ?_;repeat' first|exact zso|refine And.intro ?_ ?_|(refine zim ?_;intro zb hc)|(refine zin ?_;intro zb)|intro j')
   all_goals try refine zbx ?_
   refine v_loopB (fun ms2 S2=>∃(j:Nat) (a:List Int) (c:List Int),S2.e 0=.p (.sl (.lent m0) (List.map (PV.int .i64) (p)))∧OwnL (S2.e 4) S2.h S2.n (PV.int .i64) ((a).length) (a)∧OwnL (S2.e 5) S2.h S2.n (PV.int .i64) ((c).length) (c)∧S2.e 6=.p (.int .i64 ((x:Int)))∧S2.e 7=.p (.int .i64 (j))∧(x+1≤j∧j≤p.length)∧(a.length=p.length)∧(c.length=p.length)∧((∀k,x+1≤k→k<p.length→(a.getD k 0,c.getD k 0)=(lnc (p.drop k)).getD 0 (0,0)))∧((a.getD x 0,c.getD x 0)=lnP p x (j - (x+1)))∧NId (S2.e 5) (S2.e 4)∧S1.n≤S2.n∧ms2=p.length - j) ((fun(j:Nat) (a:List Int) (c:List Int)=>p.length - j) (x+1) (a.set x 1) (c.set x 1)) ?_ ⟨x+1,a.set x 1,c.set x 1,dC fL1 ?_⟩
   all_goals try (refine zlf ?_;repeat' first|exact zso|refine And.intro ?_ ?_|(refine zim ?_;intro zb hc)|(refine zin ?_;intro zb)|intro j')
   all_goals try refine zbx ?_
   rintro ms2 S2 ⟨j,a,c,h2_0,o2_4,o2_5,h2_6,h2_7,c2_0,c2_1,c2_2,c2_3,c2_4,u2_0,u2_1,hm2⟩
   obtain⟨i2_4,h2_4,b2_4,l2_4⟩:=o2_4.out
   obtain⟨i2_5,h2_5,b2_5,l2_5⟩:=o2_5.out
   have k2_0:=(u2_0).out h2_5 h2_4
   have ni2_4:=znds (x:=i2_4) (n:=S2.n)
   have ni2_5:=znds (x:=i2_5) (n:=S2.n)
   have di2_4i2_5:=zdne (x:=i2_4) (y:=i2_5)
   have fL2:=(And.intro h2_0 (And.intro h2_6 (And.intro h2_7 (And.intro h2_4 (And.intro b2_4 (And.intro h2_5 (And.intro b2_5 (And.intro ni2_4 (And.intro ni2_5 di2_4i2_5)))))))))
   ·have b1:=lnP_b h8 (i:=x) (t:=j - (x+1)) (by omega)
    rw[←c2_4]at b1
    by_cases ht:j<p.length
    ·have b2:=lnc_r h8 ht
     have b3:=c2_3 j (by omega) ht
     have b4:=lnP_next c2_0.1 ht
     rw[←c2_4,←b3]at b4
     rw[←b3]at b2
     simp only at b1 b2
     unfold lnS at b4
     simp only at b4
     by_cases hA:p.getD j 0<p.getD x 0
     ·rw[if_pos hA]at b4
      refine dEa (And.intro fL2 @hA) ?_
      all_goals try (refine zlf ?_;repeat' first|exact zso|refine And.intro ?_ ?_|(refine zim ?_;intro zb hc)|(refine zin ?_;intro zb)|intro j')
      all_goals try refine zbx ?_
      focus
       refine q_lp_n ((fun(j:Nat) (a:List Int) (c:List Int)=>p.length - j) (j+1) (a) (c)) (dC fL2 ?_) ⟨j+1,a,c,dC fL2 ?_⟩
       all_goals try (refine zlf ?_;repeat' first|exact zso|refine And.intro ?_ ?_|(refine zim ?_;intro zb hc)|(refine zin ?_;intro zb)|intro j')
       all_goals try refine zbx ?_
      all_goals(first|(rw[b4];done)|exact c2_3|skip)
      all_goals trace_state
     ·rw[if_neg hA]at b4
      have hA':(p.getD j 0<p.getD x 0)=False:=eq_false hA
      by_cases hB:a.getD j 0+1<a.getD x 0
      ·rw[if_pos hB]at b4
       refine dEa (And.intro fL2 (And.intro @hA' @hB)) ?_
       all_goals try (refine zlf ?_;repeat' first|exact zso|refine And.intro ?_ ?_|(refine zim ?_;intro zb hc)|(refine zin ?_;intro zb)|intro j')
       all_goals try refine zbx ?_
       focus
        refine q_lp_n ((fun(j:Nat) (a:List Int) (c:List Int)=>p.length - j) (j+1) (a) (c)) (dC fL2 ?_) ⟨j+1,a,c,dC fL2 ?_⟩
        all_goals try (refine zlf ?_;repeat' first|exact zso|refine And.intro ?_ ?_|(refine zim ?_;intro zb hc)|(refine zin ?_;intro zb)|intro j')
        all_goals try refine zbx ?_
       all_goals(first|(rw[b4];done)|exact c2_3|skip)
       all_goals trace_state
      ·rw[if_neg hB]at b4
       have hB':(a.getD j 0+1<a.getD x 0)=False:=eq_false hB
       by_cases hC:a.getD x 0<a.getD j 0+1
       ·rw[if_pos hC]at b4
        refine dEa (And.intro fL2 (And.intro @hA' (And.intro @hB' @hC))) ?_
        all_goals try (refine zlf ?_;repeat' first|exact zso|refine And.intro ?_ ?_|(refine zim ?_;intro zb hc)|(refine zin ?_;intro zb)|intro j')
        all_goals try refine zbx ?_
        focus
         refine q_lp_n ((fun(j:Nat) (a:List Int) (c:List Int)=>p.length - j) (j+1) (a.set x (a.getD j 0+1)) (c.set x (c.getD j 0))) (dC fL2 ?_) ⟨j+1,a.set x (a.getD j 0+1),c.set x (c.getD j 0),dC fL2 ?_⟩
         all_goals try (refine zlf ?_;repeat' first|exact zso|refine And.intro ?_ ?_|(refine zim ?_;intro zb hc)|(refine zin ?_;intro zb)|intro j')
         all_goals try refine zbx ?_
        all_goals(first|(rw[b4,gdS (by omega),gdS (by omega),if_pos rfl,if_pos rfl];done)|(intro k hk1 hk2;rw[gdS (by omega),gdS (by omega),if_neg (by omega),if_neg (by omega)];exact c2_3 k hk1 hk2)|skip)
        all_goals trace_state
       ·rw[if_neg hC]at b4
        have hC':(a.getD x 0<a.getD j 0+1)=False:=eq_false hC
        refine dEa (And.intro fL2 (And.intro @hA' (And.intro @hB' @hC'))) ?_
        all_goals try (refine zlf ?_;repeat' first|exact zso|refine And.intro ?_ ?_|(refine zim ?_;intro zb hc)|(refine zin ?_;intro zb)|intro j')
        all_goals try refine zbx ?_
        focus
         refine q_lp_n ((fun(j:Nat) (a:List Int) (c:List Int)=>p.length - j) (j+1) (a) (c.set x (c.getD x 0+c.getD j 0))) (dC fL2 ?_) ⟨j+1,a,c.set x (c.getD x 0+c.getD j 0),dC fL2 ?_⟩
         all_goals try (refine zlf ?_;repeat' first|exact zso|refine And.intro ?_ ?_|(refine zim ?_;intro zb hc)|(refine zin ?_;intro zb)|intro j')
         all_goals try refine zbx ?_
        all_goals(first|(rw[b4,gdS (by omega),if_pos rfl];done)|(intro k hk1 hk2;rw[gdS (by omega),if_neg (by omega)];exact c2_3 k hk1 hk2)|skip)
        all_goals trace_state
    ·have b5:=lnP_end (p:=p) (i:=x) (t:=j - (x+1)) (by omega) (by omega)
     rw[←c2_4]at b5
     refine dEa fL2 ?_
     all_goals try (refine zlf ?_;repeat' first|exact zso|refine And.intro ?_ ?_|(refine zim ?_;intro zb hc)|(refine zin ?_;intro zb)|intro j')
     all_goals try refine zbx ?_
     focus
      refine q_lp_n ((fun(i:Nat) (a:List Int) (c:List Int)=>i) (x) (a) (c)) (dC fL2 ?_) ⟨x,a,c,dC fL2 ?_⟩
      all_goals try (refine zlf ?_;repeat' first|exact zso|refine And.intro ?_ ?_|(refine zim ?_;intro zb hc)|(refine zin ?_;intro zb)|intro j')
      all_goals try refine zbx ?_
     all_goals(first|(intro k hk1 hk2;rcases Nat.eq_or_lt_of_le hk1 with e|e;(rw[←e];exact b5);exact c2_3 k (by omega) hk2)|skip)
     all_goals trace_state
   all_goals(first|(rw[gdS (by omega),gdS (by omega),if_pos rfl,if_pos rfl];simp[lnP];done)|(intro k hk1 hk2;rw[gdS (by omega),gdS (by omega),if_neg (by omega),if_neg (by omega)];exact c1_3 k hk1 hk2)|skip)
   all_goals trace_state
  ·obtain rfl:i=0:=by omega
   have q1:a=(lnc p).map Prod.fst:=by
    refine List.ext_getElem (by rw[List.length_map,lnc_len,c1_1]) fun k h1 h2=> ?_
    have:=congrArg Prod.fst (c1_3 k (by omega) (by omega))
    rw[←lnc_at]at this
    simp only at this
    rw[List.getD_eq_getElem?_getD,List.getElem?_eq_getElem h1,List.getD_eq_getElem?_getD,List.getElem?_eq_getElem (by rw[lnc_len];omega)]at this
    rw[List.getElem_map];exact this
   have q2:c=(lnc p).map Prod.snd:=by
    refine List.ext_getElem (by rw[List.length_map,lnc_len,c1_2]) fun k h1 h2=> ?_
    have:=congrArg Prod.snd (c1_3 k (by omega) (by omega))
    rw[←lnc_at]at this
    simp only at this
    rw[List.getD_eq_getElem?_getD,List.getElem?_eq_getElem h1,List.getD_eq_getElem?_getD,List.getElem?_eq_getElem (by rw[lnc_len];omega)]at this
    rw[List.getElem_map];exact this
   refine dEa fL1 ?_
   all_goals try (refine zlf ?_;repeat' first|exact zso|refine And.intro ?_ ?_|(refine zim ?_;intro zb hc)|(refine zin ?_;intro zb)|intro j')
   all_goals try refine zbx ?_
   all_goals(first|exact q1|exact q2|(rw[q1];done)|(rw[q2];done)|skip)
   all_goals trace_state
 all_goals trace_state
def luI (p:List Int):Int:=mxI (chR upR p)
theorem chR_b {p:List Int} (h8:p.length≤8):∀v∈chR upR p,0≤v∧v≤8:=fun v hv=>by
 rw[←lnc_fst]at hv
 obtain⟨y,hy,rfl⟩:=List.mem_map.1 hv
 have:=lnc_b h8 y hy;omega
theorem luI_b {p:List Int} (h8:p.length≤8):0≤luI p∧luI p≤8:=⟨(mxI_ge (l:=chR upR p)).1,mxI_le (by omega) fun x hx=>(chR_b h8 x hx).2⟩
theorem mx_tk {l:List Int} (h:∀v∈l,0≤v) {k:Nat} (hk:k<l.length):mxI (l.take (k+1))=max (mxI (l.take k)) (l.getD k 0):=by
 rw[take_getD (d:=0) hk,mxI_snoc (h _ (getD_mem hk))]
theorem impl_longestUp_c {m0:Bool} (p:List Int) (h8:p.length≤8):Fun Tryz.prog 90 [(.sl (.lent m0) (List.map (PV.int .i64) (p)))] [(.int .i64 (luI p))]:=by
 have hb:=chR_b h8
 have hl:=chR_len (R:=upR) (l:=p)
 rw[luI]
 generalize hL:chR upR p=L at*
 refine fO sg0 [2] Tryz.func90 ?_
 have cE1:= @impl_lengths_c
 refine dEa @hL ?_
 all_goals try (refine zlf ?_;repeat' first|exact zso|refine And.intro ?_ ?_|(refine zim ?_;intro zb hc)|(refine zin ?_;intro zb)|intro j')
 all_goals try refine zbx ?_
 refine v_loopB (fun ms1 S1=>∃(k:Nat),S1.e 5=.p (.int .i64 (mxI (L.take k)))∧OwnL (S1.e 13) S1.h S1.n (PV.int .i64) ((L).length) (L)∧S1.e 14=.p (.int .i64 (L.length))∧S1.e 15=.p (.int .i64 (k))∧(k≤L.length)∧ms1=L.length - k) ((fun(k:Nat)=>L.length - k) (0)) ?_ ⟨0,dC trivial ?_⟩
 all_goals try (refine zlf ?_;repeat' first|exact zso|refine And.intro ?_ ?_|(refine zim ?_;intro zb hc)|(refine zin ?_;intro zb)|intro j')
 all_goals try refine zbx ?_
 rintro ms1 S1 ⟨k,h1_5,o1_13,h1_14,h1_15,c1_0,hm1⟩
 obtain⟨i1_13,h1_13,b1_13,l1_13⟩:=o1_13.out
 have ni1_13:=znds (x:=i1_13) (n:=S1.n)
 have fL1:=(And.intro h1_5 (And.intro h1_14 (And.intro h1_15 (And.intro h1_13 (And.intro b1_13 ni1_13)))))
 ·have m1:=(mxI_ge (l:=L.take k)).1
  have m2:=mxI_le (B:=8) (by omega) (l:=L.take k) fun x hx=>(hb x (List.mem_of_mem_take hx)).2
  by_cases hk:k<L.length
  ·have b2:=hb _ (getD_mem (l:=L) (i:=k) (d:=0) hk)
   have e:=mx_tk (fun v hv=>(hb v hv).1) hk
   refine dEa fL1 ?_
   all_goals try (refine zlf ?_;repeat' first|exact zso|refine And.intro ?_ ?_|(refine zim ?_;intro zb hc)|(refine zin ?_;intro zb)|intro j')
   all_goals try refine zbx ?_
   focus
    refine q_lp_n ((fun(k:Nat)=>L.length - k) (k+1)) (dC fL1 ?_) ⟨k+1,dC fL1 ?_⟩
    all_goals try (refine zlf ?_;repeat' first|exact zso|refine And.intro ?_ ?_|(refine zim ?_;intro zb hc)|(refine zin ?_;intro zb)|intro j')
    all_goals try refine zbx ?_
   all_goals(first|(rw[e];done)|skip)
   all_goals trace_state
  ·have e:L.take k=L:=List.take_of_length_le (by omega)
   refine dEa (And.intro fL1 @e) ?_
   all_goals try (refine zlf ?_;repeat' first|exact zso|refine And.intro ?_ ?_|(refine zim ?_;intro zb hc)|(refine zin ?_;intro zb)|intro j')
   all_goals try refine zbx ?_
   all_goals(first|(rw[e];done)|skip)
   all_goals trace_state
 all_goals trace_state
def upB' (p:List Int):Int:=if isPermB p=true then luI p else -1
def dnB' (p:List Int):Int:=if isPermB p=true then luI p.reverse else -1
theorem impl_LongestUp_c {m0:Bool} (p:List Int) (hl:p.length≤1048576):Fun Tryz.prog 45 [(.sl (.lent m0) (List.map (PV.int .i64) (p)))] [(.int .i64 (upB' p))]:=by
 by_cases h:isPermB p=true
 ·have h8:=(isPerm_facts h).1
  rw[upB',if_pos h]
  refine fO sg0 [2] Tryz.func45 ?_
  have cE1:= @impl_IsPerm_c;have cE2:= @impl_longestUp_c
  refine dEa @h ?_
  all_goals try (refine zlf ?_;repeat' first|exact zso|refine And.intro ?_ ?_|(refine zim ?_;intro zb hc)|(refine zin ?_;intro zb)|intro j')
  all_goals try refine zbx ?_
  all_goals trace_state
 ·rw[upB',if_neg h]
  rw[Bool.not_eq_true]at h
  refine fO sg0 [2] Tryz.func45 ?_
  have cE1:= @impl_IsPerm_c;have cE2:= @impl_longestUp_c
  refine dEa @h ?_
  all_goals try (refine zlf ?_;repeat' first|exact zso|refine And.intro ?_ ?_|(refine zim ?_;intro zb hc)|(refine zin ?_;intro zb)|intro j')
  all_goals try refine zbx ?_
  all_goals trace_state
theorem impl_LongestDown_c {m0:Bool} (p:List Int) (hl:p.length≤1048576):Fun Tryz.prog 46 [(.sl (.lent m0) (List.map (PV.int .i64) (p)))] [(.int .i64 (dnB' p))]:=by
 by_cases h:isPermB p=true
 ·have h8:=(isPerm_facts h).1
  have h9:p.reverse.length≤8:=by rw[List.length_reverse];exact h8
  rw[dnB',if_pos h]
  refine fO sg0 [2] Tryz.func46 ?_
  have cE1:= @impl_IsPerm_c;have cE2:= @impl_reverse_c;have cE3:= @impl_longestUp_c
  refine dEa @h ?_
  all_goals try (refine zlf ?_;repeat' first|exact zso|refine And.intro ?_ ?_|(refine zim ?_;intro zb hc)|(refine zin ?_;intro zb)|intro j')
  all_goals try refine zbx ?_
  all_goals trace_state
 ·rw[dnB',if_neg h]
  rw[Bool.not_eq_true]at h
  refine fO sg0 [2] Tryz.func46 ?_
  have cE1:= @impl_IsPerm_c;have cE2:= @impl_reverse_c;have cE3:= @impl_longestUp_c
  refine dEa @h ?_
  all_goals try (refine zlf ?_;repeat' first|exact zso|refine And.intro ?_ ?_|(refine zim ?_;intro zb hc)|(refine zin ?_;intro zb)|intro j')
  all_goals try refine zbx ?_
  all_goals trace_state
def enI (p E:List Int) (x:Int):Nat→Int
 |0=>1
 |j+1=>if p.getD j 0<x then max (enI p E x j) (E.getD j 0+1)else enI p E x j
def enL (p:List Int):Nat→List Int
 |0=>[]
 |k+1=>enL p k++[enI p (enL p k) (p.getD k 0) k]
theorem enL_len {p:List Int}:∀{k:Nat},(enL p k).length=k
 |0=>rfl
 |k+1=>by rw[enL,List.length_append,enL_len];rfl
theorem enI_1 {p E:List Int} {x:Int}:∀{j:Nat},1≤enI p E x j
 |0=>Int.le_refl _
 |j+1=>by have:=enI_1 (p:=p) (E:=E) (x:=x) (j:=j);rw[enI];split<;>omega
theorem enI_ge {p E:List Int} {x m:Int} (hm:2≤m):∀{j:Nat},m≤enI p E x j↔∃t,t<j∧p.getD t 0<x∧m≤E.getD t 0+1
 |0=>⟨fun h=>by rw[enI]at h;omega,fun⟨t,h,_⟩=>by omega⟩
 |j+1=>by
  have ih:=enI_ge (p:=p) (E:=E) (x:=x) hm (j:=j)
  rw[enI]
  constructor
  ·intro h
   split at h
   ·rename_i g
    by_cases q:m≤enI p E x j
    ·obtain⟨t,t1,t2⟩:=ih.1 q;exact⟨t,by omega,t2⟩
    ·exact⟨j,by omega,g,by omega⟩
   ·obtain⟨t,t1,t2⟩:=ih.1 h;exact⟨t,by omega,t2⟩
  ·rintro⟨t,t1,t2,t3⟩
   by_cases e:t=j
   ·subst e;rw[if_pos t2];omega
   ·have:=ih.2 ⟨t,by omega,t2,t3⟩
    split<;>omega
theorem enL_eq {p:List Int}:∀{k:Nat},k≤p.length→enL p k=(chR dnR (p.take k).reverse).reverse
 |0,_=>by simp[enL,chR]
 |k+1,hk=>by
  have ih:=enL_eq (p:=p) (k:=k) (by omega)
  rw[enL,take_getD (d:=0) (show k<p.length by omega),List.reverse_append,List.reverse_singleton,List.singleton_append,chR,List.reverse_cons,←ih]
  congr 2
  have hr:(chR dnR (p.take k).reverse)=(enL p k).reverse:=by rw[ih,List.reverse_reverse]
  have hE:=enL_len (p:=p) (k:=k)
  have hP:(p.take k).length=k:=by rw[List.length_take];omega
  rw[hr]
  have key:∀m:Int,2≤m→(m≤enI p (enL p k) (p.getD k 0) k↔m≤chF dnR (p.getD k 0) ((p.take k).reverse.zip (enL p k).reverse)):=fun m hm=>by
   rw[enI_ge hm,chF,chF_ge hm]
   constructor
   ·rintro⟨t,t1,t2,t3⟩
    refine .inr ⟨(p.getD t 0,(enL p k).getD t 0), ?_,by simpa[dnR]using t2,t3⟩
    have hz:k - 1 - t<((p.take k).reverse.zip (enL p k).reverse).length:=by rw[List.length_zip,List.length_reverse,List.length_reverse];omega
    have:((p.take k).reverse.zip (enL p k).reverse)[k - 1 - t]=(p.getD t 0,(enL p k).getD t 0):=by
     rw[List.getElem_zip,List.getElem_reverse,List.getElem_reverse]
     congr 1
     ·rw[List.getElem_take,List.getD_eq_getElem?_getD,List.getElem?_eq_getElem (by omega)]
      simp only[Option.getD_some];congr 1;omega
     ·rw[List.getD_eq_getElem?_getD,List.getElem?_eq_getElem (by omega)]
      simp only[Option.getD_some];congr 1;omega
    rw[←this];exact List.getElem_mem hz
   ·rintro(h|⟨y,h1,h2,h3⟩)
    ·omega
    ·obtain⟨i,hi,e⟩:=List.getElem_of_mem h1
     rw[List.length_zip,List.length_reverse,List.length_reverse]at hi
     rw[List.getElem_zip,List.getElem_reverse,List.getElem_reverse]at e
     refine⟨k - 1 - i,by omega, ?_, ?_⟩
     ·have a1:p.getD (k - 1 - i) 0=y.1:=by
       rw[←e,List.getElem_take,List.getD_eq_getElem?_getD,List.getElem?_eq_getElem (by omega)]
       simp only[Option.getD_some];congr 1;omega
      rw[a1];simpa[dnR]using h2
     ·have a2:(enL p k).getD (k - 1 - i) 0=y.2:=by
       rw[←e,List.getD_eq_getElem?_getD,List.getElem?_eq_getElem (by omega)]
       simp only[Option.getD_some];congr 1;omega
      rw[a2];exact h3
  have h1:=enI_1 (p:=p) (E:=enL p k) (x:=p.getD k 0) (j:=k)
  have h2:=chF_1 (R:=dnR) (x:=p.getD k 0) (L:=(p.take k).reverse.zip (enL p k).reverse) (v:=1)
  have k1:=key (enI p (enL p k) (p.getD k 0) k)
  have k2:=key (chF dnR (p.getD k 0) ((p.take k).reverse.zip (enL p k).reverse))
  unfold chF at k1 k2 ⊢
  omega
theorem en_lu {p:List Int} (hp:p.Nodup):mxI (enL p p.length)=luI p:=by
 rw[enL_eq (Nat.le_refl _),List.take_length,luI,up_two hp]
 have key:∀m:Nat,(m:Int)+1≤mxI (chR dnR p.reverse).reverse↔(m:Int)+1≤mxI (chR dnR p.reverse):=fun m=>by
  rw[mx_iff,mx_iff];simp only[List.mem_reverse]
 have h1:=(mxI_ge (l:=(chR dnR p.reverse).reverse)).1
 have h2:=(mxI_ge (l:=chR dnR p.reverse)).1
 have k1:=key ((mxI (chR dnR p.reverse).reverse).toNat - 1)
 have k2:=key ((mxI (chR dnR p.reverse)).toNat - 1)
 omega
theorem enI_le {p E:List Int} {x:Int} {k:Nat} (h:∀t,E.getD t 0≤k):∀{j:Nat},enI p E x j≤k+1
 |0=>by rw[enI];omega
 |j+1=>by
  have:=enI_le (p:=p) (x:=x) h (j:=j)
  have:=h j
  rw[enI];split<;>omega
theorem enL_b {p:List Int}:∀{k:Nat},(∀v∈enL p k,1≤v∧v≤k)
 |0=>by simp[enL]
 |k+1=>by
  have ih:=enL_b (p:=p) (k:=k)
  have hE:∀t,(enL p k).getD t 0≤k:=fun t=>by
   by_cases g:t<(enL p k).length
   ·exact(ih _ (getD_mem g)).2
   ·rw[List.getD_eq_getElem?_getD,List.getElem?_eq_none (by omega)];simp
  intro v hv
  rw[enL]at hv
  rcases List.mem_append.1 hv with g|g
  ·have:=ih v g;omega
  ·rw[List.mem_singleton]at g;subst g
   have h1:=enI_1 (p:=p) (E:=enL p k) (x:=p.getD k 0) (j:=k)
   have h2:=enI_le (p:=p) (x:=p.getD k 0) hE (j:=k)
   omega
set_option maxHeartbeats 1600000 in
theorem spec_l20Up_c {m0:Bool} (p:List Int) (h8:p.length≤8) (hn:p.Nodup):Fun Tryz.prog 69 [(.sl (.lent m0) (List.map (PV.int .i64) (p)))] [(.int .i64 (luI p))]:=by
 rw[←en_lu hn]
 refine fO sg0 [2] Tryz.func69 ?_
 have cE1:= @spec_l1Max_c
 refine dEa trivial ?_
 all_goals try (refine zlf ?_;repeat' first|exact zso|refine And.intro ?_ ?_|(refine zim ?_;intro zb hc)|(refine zin ?_;intro zb)|intro j')
 all_goals try refine zbx ?_
 refine v_loopB (fun ms1 S1=>∃(k:Nat),S1.e 0=.p (.sl (.lent m0) (List.map (PV.int .i64) (p)))∧S1.e 3=.p (.int .i64 (mxI (enL p k)))∧OwnL (S1.e 4) S1.h S1.n (PV.int .i64) ((enL p k).length) (enL p k)∧S1.e 5=.p (.int .i64 (k))∧(k≤p.length)∧ms1=p.length - k) ((fun(k:Nat)=>p.length - k) (0)) ?_ ⟨0,dC trivial ?_⟩
 all_goals try (refine zlf ?_;repeat' first|exact zso|refine And.intro ?_ ?_|(refine zim ?_;intro zb hc)|(refine zin ?_;intro zb)|intro j')
 all_goals try refine zbx ?_
 rintro ms1 S1 ⟨k,h1_0,h1_3,o1_4,h1_5,c1_0,hm1⟩
 obtain⟨i1_4,h1_4,b1_4,l1_4⟩:=o1_4.out
 have ni1_4:=znds (x:=i1_4) (n:=S1.n)
 have fL1:=(And.intro h1_0 (And.intro h1_3 (And.intro h1_5 (And.intro h1_4 (And.intro b1_4 ni1_4)))))
 ·have eb:=enL_b (p:=p) (k:=k)
  have el:=enL_len (p:=p) (k:=k)
  have m1:=(mxI_ge (l:=enL p k)).1
  have m2:=mxI_le (B:=8) (by omega) (l:=enL p k) fun x hx=>by have:=eb x hx;omega
  have hE:∀t,(enL p k).getD t 0≤k:=fun t=>by
   by_cases g:t<(enL p k).length
   ·exact(eb _ (getD_mem g)).2
   ·rw[List.getD_eq_getElem?_getD,List.getElem?_eq_none (by omega)];simp
  by_cases hk:k<p.length
  ·have e1:enL p (k+1)=enL p k++[enI p (enL p k) (p.getD k 0) k]:=rfl
   have q1:=enI_1 (p:=p) (E:=enL p k) (x:=p.getD k 0) (j:=k)
   have q2:=enI_le (p:=p) (x:=p.getD k 0) hE (j:=k)
   have e2:mxI (enL p (k+1))=max (mxI (enL p k)) (enI p (enL p k) (p.getD k 0) k):=by rw[e1,mxI_snoc (by omega)]
   generalize hD:enL p k=E at*
   refine dEa fL1 ?_
   all_goals try (refine zlf ?_;repeat' first|exact zso|refine And.intro ?_ ?_|(refine zim ?_;intro zb hc)|(refine zin ?_;intro zb)|intro j')
   all_goals try refine zbx ?_
   refine v_loopB (fun ms2 S2=>∃(j:Nat),S2.e 0=.p (.sl (.lent m0) (List.map (PV.int .i64) (p)))∧S2.e 3=.p (.int .i64 (mxI E))∧OwnL (S2.e 4) S2.h S2.n (PV.int .i64) ((E).length) (E)∧S2.e 5=.p (.int .i64 (k))∧S2.e 6=.p (.int .i64 (enI p E (p.getD k 0) j))∧S2.e 7=.p (.int .i64 (j))∧(j≤k)∧S1.n≤S2.n∧ms2=k - j) ((fun(j:Nat)=>k - j) (0)) ?_ ⟨0,dC fL1 ?_⟩
   all_goals try (refine zlf ?_;repeat' first|exact zso|refine And.intro ?_ ?_|(refine zim ?_;intro zb hc)|(refine zin ?_;intro zb)|intro j')
   all_goals try refine zbx ?_
   rintro ms2 S2 ⟨j,h2_0,h2_3,o2_4,h2_5,h2_6,h2_7,c2_0,u2_0,hm2⟩
   obtain⟨i2_4,h2_4,b2_4,l2_4⟩:=o2_4.out
   have ni2_4:=znds (x:=i2_4) (n:=S2.n)
   have fL2:=(And.intro h2_0 (And.intro h2_3 (And.intro h2_5 (And.intro h2_6 (And.intro h2_7 (And.intro h2_4 (And.intro b2_4 ni2_4)))))))
   ·have r1:=enI_1 (p:=p) (E:=E) (x:=p.getD k 0) (j:=j)
    have r2:=enI_le (p:=p) (x:=p.getD k 0) hE (j:=j)
    by_cases hj:j<k
    ·have b2:=eb _ (getD_mem (l:=E) (i:=j) (d:=0) (by omega))
     by_cases hv:p.getD j 0<p.getD k 0
     ·have e3:enI p E (p.getD k 0) (j+1)=max (enI p E (p.getD k 0) j) (E.getD j 0+1):=by rw[enI,if_pos hv]
      refine dEa (And.intro fL2 @hv) ?_
      all_goals try (refine zlf ?_;repeat' first|exact zso|refine And.intro ?_ ?_|(refine zim ?_;intro zb hc)|(refine zin ?_;intro zb)|intro j')
      all_goals try refine zbx ?_
      focus
       refine q_lp_n ((fun(j:Nat)=>k - j) (j+1)) (dC fL2 ?_) ⟨j+1,dC fL2 ?_⟩
       all_goals try (refine zlf ?_;repeat' first|exact zso|refine And.intro ?_ ?_|(refine zim ?_;intro zb hc)|(refine zin ?_;intro zb)|intro j')
       all_goals try refine zbx ?_
      all_goals(first|(rw[e3];done)|skip)
      all_goals trace_state
     ·have e3:enI p E (p.getD k 0) (j+1)=enI p E (p.getD k 0) j:=by rw[enI,if_neg hv]
      have hv':(p.getD j 0<p.getD k 0)=False:=eq_false hv
      refine dEa (And.intro fL2 @hv') ?_
      all_goals try (refine zlf ?_;repeat' first|exact zso|refine And.intro ?_ ?_|(refine zim ?_;intro zb hc)|(refine zin ?_;intro zb)|intro j')
      all_goals try refine zbx ?_
      focus
       refine q_lp_n ((fun(j:Nat)=>k - j) (j+1)) (dC fL2 ?_) ⟨j+1,dC fL2 ?_⟩
       all_goals try (refine zlf ?_;repeat' first|exact zso|refine And.intro ?_ ?_|(refine zim ?_;intro zb hc)|(refine zin ?_;intro zb)|intro j')
       all_goals try refine zbx ?_
      all_goals(first|(rw[e3];done)|skip)
      all_goals trace_state
    ·obtain rfl:j=k:=by omega
     refine dEa fL2 ?_
     all_goals try (refine zlf ?_;repeat' first|exact zso|refine And.intro ?_ ?_|(refine zim ?_;intro zb hc)|(refine zin ?_;intro zb)|intro j')
     all_goals try refine zbx ?_
     focus
      refine q_lp_n ((fun(k:Nat)=>p.length - k) (j+1)) (dC fL2 ?_) ⟨j+1,dC fL2 ?_⟩
      all_goals try (refine zlf ?_;repeat' first|exact zso|refine And.intro ?_ ?_|(refine zim ?_;intro zb hc)|(refine zin ?_;intro zb)|intro j')
      all_goals try refine zbx ?_
     all_goals(first|(rw[e1];done)|(rw[e2];done)|(rw[e1,List.length_append];rfl)|skip)
     all_goals trace_state
   all_goals trace_state
  ·obtain rfl:k=p.length:=by omega
   refine dEa fL1 ?_
   all_goals try (refine zlf ?_;repeat' first|exact zso|refine And.intro ?_ ?_|(refine zim ?_;intro zb hc)|(refine zin ?_;intro zb)|intro j')
   all_goals try refine zbx ?_
   all_goals trace_state
 all_goals trace_state
theorem perm_nd {p:List Int} (h:isPermB p=true):p.Nodup:=(permB_iff.1 (isPerm_facts h).2).2
theorem spec_LongestUp_c {m0:Bool} (p:List Int) (hl:p.length≤1048576):Fun Tryz.prog 31 [(.sl (.lent m0) (List.map (PV.int .i64) (p)))] [(.int .i64 (upB' p))]:=by
 by_cases h:isPermB p=true
 ·have h8:=(isPerm_facts h).1
  have hn:=perm_nd h
  rw[upB',if_pos h]
  refine fO sg0 [2] Tryz.func31 ?_
  have cE1:= @spec_IsPerm_c;have cE2:= @spec_l20Up_c
  refine dEa @h ?_
  all_goals try (refine zlf ?_;repeat' first|exact zso|refine And.intro ?_ ?_|(refine zim ?_;intro zb hc)|(refine zin ?_;intro zb)|intro j')
  all_goals try refine zbx ?_
  all_goals trace_state
 ·rw[upB',if_neg h]
  rw[Bool.not_eq_true]at h
  refine fO sg0 [2] Tryz.func31 ?_
  have cE1:= @spec_IsPerm_c;have cE2:= @spec_l20Up_c
  refine dEa @h ?_
  all_goals try (refine zlf ?_;repeat' first|exact zso|refine And.intro ?_ ?_|(refine zim ?_;intro zb hc)|(refine zin ?_;intro zb)|intro j')
  all_goals try refine zbx ?_
  all_goals trace_state
theorem spec_LongestDown_c {m0:Bool} (p:List Int) (hl:p.length≤1048576):Fun Tryz.prog 32 [(.sl (.lent m0) (List.map (PV.int .i64) (p)))] [(.int .i64 (dnB' p))]:=by
 by_cases h:isPermB p=true
 ·have h8:=(isPerm_facts h).1
  have h9:p.reverse.length≤8:=by rw[List.length_reverse];exact h8
  have hn:p.reverse.Nodup:=(List.reverse_perm p).nodup_iff.2 (perm_nd h)
  rw[dnB',if_pos h]
  refine fO sg0 [2] Tryz.func32 ?_
  have cE1:= @spec_IsPerm_c;have cE2:= @spec_l3Reverse_c;have cE3:= @spec_l20Up_c
  refine dEa @h ?_
  all_goals try (refine zlf ?_;repeat' first|exact zso|refine And.intro ?_ ?_|(refine zim ?_;intro zb hc)|(refine zin ?_;intro zb)|intro j')
  all_goals try refine zbx ?_
  all_goals trace_state
 ·rw[dnB',if_neg h]
  rw[Bool.not_eq_true]at h
  refine fO sg0 [2] Tryz.func32 ?_
  have cE1:= @spec_IsPerm_c;have cE2:= @spec_l3Reverse_c;have cE3:= @spec_l20Up_c
  refine dEa @h ?_
  all_goals try (refine zlf ?_;repeat' first|exact zso|refine And.intro ?_ ?_|(refine zim ?_;intro zb hc)|(refine zin ?_;intro zb)|intro j')
  all_goals try refine zbx ?_
  all_goals trace_state
def elG (q:List (List Int)):PV:=.sl (.lent false) (List.map (elI false) q)
theorem elG_eq {q:List (List Int)}:elG q=.sl (.lent false) (List.map (elI false) q):=_root_.id rfl
theorem mp_elG {l:List (List (List Int))} {x:List (List Int)} {r:List PV}:List.map elG l++(PV.sl (.lent false) (List.map (elI false) x)::r)=List.map elG (l++[x])++r:=by simp[elG]
instance:NDf elG:=⟨by intro a rows h;cases h⟩
theorem nr_frG {l:List (List Int)}:noRo (elG l)=true:=noRoL_map (fun _=>nr_frI) l
theorem nrL_frG {l:List (List (List Int))}:noRoL (l.map elG)=true:=noRoL_map (fun _=>nr_frG) l
attribute [go_sem] elG_eq mp_elG nrL_frG
end Go.Gl
