/-
  What the functions compute, and what the law asks of it: texts joined. Conditions: those that each lemma names.
-/
import Derived.Test.YtbppfpdgahopeaaGreatDoorT2
import Derived.Test.YtbppfpdgahopeaaGreatDoorT1
import Derived.Test.YtbppfpdgahopeaaGreatDoorGlC
import Derived.Lib.ItoaLen
import Derived.Lib.AppendIntMem
set_option linter.unusedSimpArgs false
set_option linter.unusedVariables false
set_option maxRecDepth 20000
set_option linter.unusedSectionVars false
set_option maxHeartbeats 16000000
namespace Go.Gl
open Go Go.Proofs
variable [Amb] [NoQ]
theorem BH {L D:List (List Int)} {p:List Int} {j:Nat} (h:j≤L.length):List.take (j+1) (L.take j++p::D)=L.take j++[p]:=by
 rw[List.take_append,ah (by simp;omega),aV,Nat.min_eq_left h,Nat.add_sub_cancel_left];rfl
theorem nU {L:List (List Int)} {p:List Int} {j:Nat} (h1:j≤L.length) (h2:∀q,j≤q→q<L.length→dr p (L.getD q [])=true) (h3:0<j→dr p (L.getD (j - 1) [])=false) (h4:0<j→¬L.getD (j - 1) []=p):gm L p=L.take j++p::L.drop j:=by
 have e:=lj h1 h2 h3
 rw[gm,og,e,if_neg fun h=>h4 h.1 h.2];rfl
theorem wV {L:List (List Int)} {p:List Int} {j:Nat} (h1:j≤L.length) (h2:∀q,j≤q→q<L.length→dr p (L.getD q [])=true) (h3:0<j→dr p (L.getD (j - 1) [])=false) (h4:0<j) (h5:L.getD (j - 1) []=p):gm L p=L:=by
 have e:=lj h1 h2 h3
 rw[gm,e,if_pos ⟨h4,h5⟩]
theorem xY {L:List (List Int)} {p:List Int} {j:Nat} (h2:∀q,j≤q→q<L.length→dr p (L.getD q [])=true) (h3:dr p (L.getD (j - 1) [])=true):∀q,j - 1≤q→q<L.length→dr p (L.getD q [])=true:=fun q a b=>by
 by_cases e:q=j - 1
 ·rw[e];exact h3
 ·exact h2 q (by omega) b
theorem ic {m1:Bool} (L:List (List Int)) (p:List Int) (hL:L.length≤1000000000) (hl:∀l∈L,l.length≤1048576) (hp:p.length≤1048576):CallT Tryz.prog true 118 [.mu false (List.map (bW false) (L)),.pv (.sl (.lent m1) (List.map (PV.int .i64) (p)))] [none,none] [(.sl .own (List.map (bW false) (gm L p)))]:=by
 refine fX bA [4] Tryz.func118 ?_
 have cE1:= @ko;have cE2:= @bT;have cD1:=iE [false,false,false,true,false,true,true,true,false,true,false] [(0,3),(1,3),(2,3),(3,4),(0,5),(1,5),(2,5),(0,6),(1,6),(2,6),(3,8),(5,8),(6,8),(7,8)]
 refine lT trivial ?_
 all_goals try(apply aq;repeat' first|exact ao|apply aa|(apply au;intro zb hc;repeat (have zc:=zb.1;replace zb:=zb.2))|(apply ar;intro zb)|intro j')<;>try apply aw
 refine az (fun ms1 S1=>∃(j:Nat),S1.e 0=.ref 0 0 (L).length∧S1.h 0=.live true (List.map (bW false) (L))∧0<S1.n∧S1.e 1=.p (.sl (.lent m1) (List.map (PV.int .i64) (p)))∧S1.e 5=.p (.int .i64 (j))∧(j≤L.length)∧(∀q,j≤q→q<L.length→dr p (L.getD q [])=true)∧ms1=j) ((fun(j:Nat)=>j) (L.length)) ?_ ⟨L.length,dC trivial ?_⟩
 all_goals try(apply aq;repeat' first|exact ao|apply aa|(apply au;intro zb hc;repeat (have zc:=zb.1;replace zb:=zb.2))|(apply ar;intro zb)|intro j')<;>try apply aw
 rintro ms1 S1 ⟨j,h1_0,b1_0,l1_0,h1_1,h1_5,c1_0,c1_1,hm1⟩
 have n0:=bi (x:=0) (n:=S1.n)
 have fL1:=(aa h1_0 (aa b1_0 (aa h1_1 (aa h1_5 n0))))
 ·have e1:((j:Int) - 1).toNat=j - 1:=by omega
  have e3:List.take (L.length - j) (List.drop j L)=L.drop j:=ah (by simp)
  by_cases hj:0<j
  ·have e2:=hl (L.getD (j - 1) []) (aF (by omega))
   have gg:((0:Int)<(j:Int))=True:=eq_true (by omega)
   by_cases h0:j=L.length
   ·have h0':=h0
    subst h0'
    have e4:List.drop L.length L=[]:=List.drop_length
    have e5:List.take L.length L=L:=List.take_length
    have f1:(L.length+1=(L++[p]).length)=True:=eq_true (by simp)
    refine lT (aa fL1 (aa @e1 (aa @e3 (aa @e4 (aa @e5 (aa @f1 @gg)))))) ?_
    all_goals try(apply aq;repeat' first|exact ao|apply aa|(apply au;intro zb hc;repeat (have zc:=zb.1;replace zb:=zb.2))|(apply ar;intro zb)|intro j')<;>try apply aw
    ·focus
      refine ay ((fun(j:Nat)=>j) (L.length - 1)) (dC fL1 ?_) ⟨L.length - 1,dC fL1 ?_⟩
      all_goals try(apply aq;repeat' first|exact ao|apply aa|(apply au;intro zb hc;repeat (have zc:=zb.1;replace zb:=zb.2))|(apply ar;intro zb)|intro j')<;>try apply aw
     exact xY c1_1 hc
    ·exact(wV (am _) c1_1 (fun _=>by assumption) hj hc).symm
    ·rw[nU (am _) c1_1 (fun _=>by assumption) (fun _=>by assumption),ah (by simp)];simp
   ·have f0:(j=L.length)=False:=eq_false h0
    have f1:(j+1≤L.length)=True:=eq_true (by omega)
    have f2:(List.take j L++p::List.drop (j+1) L).length=L.length:=by simp;omega
    have f3:(List.drop j L).length=L.length - j:=by simp
    by_cases h1:j+1=L.length
    ·have f4:(j+1=L.length)=True:=eq_true h1
     refine lT (aa fL1 (aa @e1 (aa @e3 (aa @f0 (aa @f1 (aa @f2 (aa @f3 (aa @f4 @gg)))))))) ?_
     all_goals try(apply aq;repeat' first|exact ao|apply aa|(apply au;intro zb hc;repeat (have zc:=zb.1;replace zb:=zb.2))|(apply ar;intro zb)|intro j')<;>try apply aw
     ·focus
       refine ay ((fun(j:Nat)=>j) (j - 1)) (dC fL1 ?_) ⟨j - 1,dC fL1 ?_⟩
       all_goals try(apply aq;repeat' first|exact ao|apply aa|(apply au;intro zb hc;repeat (have zc:=zb.1;replace zb:=zb.2))|(apply ar;intro zb)|intro j')<;>try apply aw
      exact xY c1_1 hc
     ·exact(wV c1_0 c1_1 (fun _=>by assumption) hj hc).symm
     ·rw[nU c1_0 c1_1 (fun _=>by assumption) (fun _=>by assumption),aL (i:=j+1) (by omega),aR,ah (by simp;omega)]
    ·have f4:(j+1=L.length)=False:=eq_false h1
     have f5:(j+(1+(L.length - j))≤L.length)=False:=eq_false (by omega)
     refine lT (aa fL1 (aa @e1 (aa @e3 (aa @f0 (aa @f1 (aa @f2 (aa @f3 (aa @f4 (aa @f5 @gg))))))))) ?_
     all_goals try(apply aq;repeat' first|exact ao|apply aa|(apply au;intro zb hc;repeat (have zc:=zb.1;replace zb:=zb.2))|(apply ar;intro zb)|intro j')<;>try apply aw
     ·focus
       refine ay ((fun(j:Nat)=>j) (j - 1)) (dC fL1 ?_) ⟨j - 1,dC fL1 ?_⟩
       all_goals try(apply aq;repeat' first|exact ao|apply aa|(apply au;intro zb hc;repeat (have zc:=zb.1;replace zb:=zb.2))|(apply ar;intro zb)|intro j')<;>try apply aw
      exact xY c1_1 hc
     ·exact(wV c1_0 c1_1 (fun _=>by assumption) hj hc).symm
     ·rw[nU c1_0 c1_1 (fun _=>by assumption) (fun _=>by assumption),BH (by omega),ah (by simp;omega),aB];rfl
  ·have gg:((0:Int)<(j:Int))=False:=eq_false (by omega)
   by_cases h0:j=L.length
   ·have h0':=h0
    subst h0'
    have e4:List.drop L.length L=[]:=List.drop_length
    have e5:List.take L.length L=L:=List.take_length
    have f1:(L.length+1=(L++[p]).length)=True:=eq_true (by simp)
    refine lT (aa fL1 (aa @e1 (aa @e3 (aa @e4 (aa @e5 (aa @f1 @gg)))))) ?_
    all_goals try(apply aq;repeat' first|exact ao|apply aa|(apply au;intro zb hc;repeat (have zc:=zb.1;replace zb:=zb.2))|(apply ar;intro zb)|intro j')<;>try apply aw
    rw[nU (am _) c1_1 (fun h=>absurd h hj) (fun h=>absurd h hj),ah (by simp)];simp
   ·have f0:(j=L.length)=False:=eq_false h0
    have f1:(j+1≤L.length)=True:=eq_true (by omega)
    have f2:(List.take j L++p::List.drop (j+1) L).length=L.length:=by simp;omega
    have f3:(List.drop j L).length=L.length - j:=by simp
    by_cases h1:j+1=L.length
    ·have f4:(j+1=L.length)=True:=eq_true h1
     refine lT (aa fL1 (aa @e1 (aa @e3 (aa @f0 (aa @f1 (aa @f2 (aa @f3 (aa @f4 @gg)))))))) ?_
     all_goals try(apply aq;repeat' first|exact ao|apply aa|(apply au;intro zb hc;repeat (have zc:=zb.1;replace zb:=zb.2))|(apply ar;intro zb)|intro j')<;>try apply aw
     rw[nU c1_0 c1_1 (fun h=>absurd h hj) (fun h=>absurd h hj),aL (i:=j+1) (by omega),aR,ah (by simp;omega)]
    ·have f4:(j+1=L.length)=False:=eq_false h1
     have f5:(j+(1+(L.length - j))≤L.length)=False:=eq_false (by omega)
     refine lT (aa fL1 (aa @e1 (aa @e3 (aa @f0 (aa @f1 (aa @f2 (aa @f3 (aa @f4 (aa @f5 @gg))))))))) ?_
     all_goals try(apply aq;repeat' first|exact ao|apply aa|(apply au;intro zb hc;repeat (have zc:=zb.1;replace zb:=zb.2))|(apply ar;intro zb)|intro j')<;>try apply aw
     rw[nU c1_0 c1_1 (fun h=>absurd h hj) (fun h=>absurd h hj),BH (by omega),ah (by simp;omega),aB];rfl
theorem qO {L:List (List Int)}:(bL L).length=L.length:=by unfold bL;rw[sG];simp
theorem isortL_mem {L:List (List Int)} {x:List Int}:x∈bL L↔x∈L:=by unfold bL;rw[ob];simp
theorem u0 {L:List (List Int)} {n:Nat} (h:∀l∈L,l.length≤n):∀l∈oY L,l.length≤n:=fun l hl=>by
 rw[oY,yq]at hl
 rcases hl with hl|hl
 ·exact h l hl
 ·cases hl
theorem u7 {L:List (List Int)}:(oY L).length≤L.length:=by have:=FU L (A:=[]);rw[List.length_nil,Nat.add_zero]at this;exact this
theorem zX {f:Nat→List Int} {k:Nat}:oY ((List.range (k+1)).map f)=gm (oY ((List.range k).map f)) (f k):=by
 rw[List.range_succ,aT,oY,List.foldl_append];rfl
theorem lQ {p:List Int} (h:al p=true):p.length≤8∧bD p=true:=by simpa[al]using h
theorem lD {L:List (List Int)}:∀{j:Nat},j≤L.length→(∀i,0<i→i<j→L.getD i []≠L.getD (i - 1) [])→gn L j=L.take j
 |0,_,_=>by simp[gn]
 |j+1,h,h1=>by
  rw[gn,lD (by omega) fun i a b=>h1 i a (by omega),if_neg (fun q=>h1 j q.1 (by omega) q.2),←aX (by omega)]
theorem gw (Z:List (List Int)) (hl:Z.length≤1099511627776) (hz:∀l∈Z,l.length≤1099511627776):CallT Tryz.prog true 157 [.mu false (List.map (bW false) (Z)),.pv (.fn 144 [] [])] [none,none] [(.sl .own (List.map (bW false) (gn Z Z.length)))]:=by
 refine fX bA [4] Tryz.func157 ?_
 have cD1:=iE [false,false,false,false,false,false,false,false,false,false,true] [];have cD2:=iE [false,false,false,false,false,false,false,false,false,false,true,false] []
 have e0:Z.length<2→gn Z Z.length=Z:=fun h=>by
  rw[lD (am _) (fun i a b=>by omega),List.take_length]
 refine lT trivial ?_
 all_goals try(apply aq;repeat' first|exact ao|apply aa|(apply au;intro zb hc)|(apply ar;intro zb)|intro j')<;>try apply aw
 ·exact(e0 (by omega)).symm
 refine az (fun ms1 S1=>∃(k:Nat),S1.e 0=.ref 0 0 (Z).length∧S1.h 0=.live true (List.map (bW false) (Z))∧0<S1.n∧S1.e 1=.p (.fn 144 [] [])∧S1.e 5=.p (.int .i64 (k))∧(1≤k)∧(k≤Z.length)∧(∀i,0<i→i<k→Z.getD i []≠Z.getD (i - 1) [])∧ms1=Z.length - k) ((fun(k:Nat)=>Z.length - k) (1)) ?_ ⟨1,dC trivial ?_⟩
 all_goals try(apply aq;repeat' first|exact ao|apply aa|(apply au;intro zb hc)|(apply ar;intro zb)|intro j')<;>try apply aw
 rintro ms1 S1 ⟨k,h1_0,b1_0,l1_0,h1_1,h1_5,c1_0,c1_1,c1_2,hm1⟩
 have n0:=bi (x:=0) (n:=S1.n)
 have fL1:=(aa h1_0 (aa b1_0 (aa h1_1 (aa h1_5 n0))))
 ·by_cases hk:k<Z.length
  ·have e1:((k:Int) - 1).toNat=k - 1:=by omega
   have e2:=hz (Z.getD k []) (aF hk)
   have e3:=hz (Z.getD (k - 1) []) (aF (by omega))
   have cE1:= @bV
   refine lT (aa fL1 @e1) ?_
   all_goals try(apply aq;repeat' first|exact ao|apply aa|(apply au;intro zb hc)|(apply ar;intro zb)|intro j')<;>try apply aw
   rotate_left
   ·focus
     refine ay ((fun(k:Nat)=>Z.length - k) (k+1)) (dC fL1 ?_) ⟨k+1,dC fL1 ?_⟩
     all_goals try(apply aq;repeat' first|exact ao|apply aa|(apply au;intro zb hc)|(apply ar;intro zb)|intro j')<;>try apply aw
    intro i h1 h2
    by_cases h3:i=k
    ·subst h3;exact hc
    ·exact c1_2 i h1 (by omega)
   ·have f1:=lD (L:=Z) (j:=k) (by omega) c1_2
    have f2:gn Z (k+1)=Z.take k:=by rw[gn,if_pos ⟨by omega,hc⟩,aN,f1]
    have f3:(Z.take k).length=k:=by simp;omega
    refine az (fun ms2 S2=>∃(j:Nat) (Y:List (List Int)),S2.e 0=.ref 0 0 (Y).length∧S2.h 0=.live true (List.map (bW false) (Y))∧0<S2.n∧S2.e 1=.p (.fn 144 [] [])∧S2.e 5=.p (.int .i64 ((gn Z (k+j)).length))∧S2.e 6=.ref 0 k (Z.length - k)∧S2.e 7=.p (.int .i64 (j))∧(1≤j)∧(k+j≤Z.length)∧(Y.length=Z.length)∧(Y.take (gn Z (k+j)).length=gn Z (k+j))∧((gn Z (k+j)).length<k+j)∧(∀q,k+j≤q+1→q<Z.length→Y.getD q []=Z.getD q [])∧S1.n≤S2.n∧ms2=Z.length - k - j) ((fun(j:Nat) (Y:List (List Int))=>Z.length - k - j) (1) (Z)) ?_ ⟨1,Z,dC fL1 ?_⟩
    all_goals try(apply aq;repeat' first|exact ao|apply aa|(apply au;intro zb hc)|(apply ar;intro zb)|intro j')<;>try apply aw
    rintro ms2 S2 ⟨j,Y,h2_0,b2_0,l2_0,h2_1,h2_5,h2_6,h2_7,c2_0,c2_1,c2_2,c2_3,c2_4,c2_5,u2_0,hm2⟩
    have n0:=bi (x:=0) (n:=S2.n)
    have fL2:=(aa h2_0 (aa b2_0 (aa h2_1 (aa h2_5 (aa h2_6 (aa h2_7 n0))))))
    ·by_cases hj:k+j<Z.length
     ·have g1:=c2_5 (k+j) (by omega) hj
      have g2:=c2_5 (k+j - 1) (by omega) (by omega)
      have g3:=hz (Z.getD (k+j) []) (aF hj)
      have g4:=hz (Z.getD (k+j - 1) []) (aF (by omega))
      have g5:((j:Int) - 1).toNat=j - 1:=by omega
      have g6:k+(j - 1)=k+j - 1:=by omega
      have cE1:= @bV
      refine lT (aa fL2 (aa @g1 (aa @g2 (aa @g5 (aa @g6 @c2_2))))) ?_
      all_goals try(apply aq;repeat' first|exact ao|apply aa|(apply au;intro zb hc)|(apply ar;intro zb)|intro j')<;>try apply aw
      ·have s1:gn Z (k+(j+1))=gn Z (k+j)++[Z.getD (k+j) []]:=by rw[show k+(j+1)=k+j+1 from rfl,gn,if_neg (fun q=>hc q.2)]
       have s2:(gn Z (k+(j+1))).length=(gn Z (k+j)).length+1:=by rw[s1,ak];rfl
       focus
        refine ay ((fun(j:Nat) (Y:List (List Int))=>Z.length - k - j) (j+1) (Y.set (gn Z (k+j)).length (Z.getD (k+j) []))) (dC fL2 ?_) ⟨j+1,Y.set (gn Z (k+j)).length (Z.getD (k+j) []),dC fL2 ?_⟩
        all_goals try(apply aq;repeat' first|exact ao|apply aa|(apply au;intro zb hc)|(apply ar;intro zb)|intro j')<;>try apply aw
       all_goals first|(rw[s2,zT (by omega),c2_3,s1];done)|omega|skip
       all_goals try (intro q h5 h6;rw[ac,List.getElem?_set_ne (by omega),←ac];exact c2_5 q (by omega) h6)
      ·have s1:gn Z (k+(j+1))=gn Z (k+j):=by rw[show k+(j+1)=k+j+1 from rfl,gn,if_pos ⟨by omega,hc⟩,aN]
       focus
        refine ay ((fun(j:Nat) (Y:List (List Int))=>Z.length - k - j) (j+1) (Y)) (dC fL2 ?_) ⟨j+1,Y,dC fL2 ?_⟩
        all_goals try(apply aq;repeat' first|exact ao|apply aa|(apply au;intro zb hc)|(apply ar;intro zb)|intro j')<;>try apply aw
       ·rw[s1]
       ·rw[s1];exact c2_3
       ·rw[s1];omega
       ·intro q h5 h6;exact c2_5 q (by omega) h6
     ·have cE1:=trivial
      refine lT (aa fL2 @c2_2) ?_
      all_goals try(apply aq;repeat' first|exact ao|apply aa|(apply au;intro zb hc)|(apply ar;intro zb)|intro j')<;>try apply aw
      obtain e9:k+j=Z.length:=by omega
      rw[List.take_append_of_le_length (by simp;omega),List.take_take,Nat.min_self,c2_3,e9]
    ·rw[f2,f3]
    ·rw[f2,f3]
    ·rw[f2,f3];omega
  ·have cE1:=trivial
   refine lT fL1 ?_
   all_goals try(apply aq;repeat' first|exact ao|apply aa|(apply au;intro zb hc)|(apply ar;intro zb)|intro j')<;>try apply aw
   obtain rfl:k=Z.length:=by omega
   rw[lD (am _) c1_2,List.take_length]
def qj:FuncId→List Bool:=fun f=>if f=155 then[true]else if f=157 then[true]else[]
theorem Ck {f:FuncId}:qj f=if f=155 then[true]else if f=157 then[true]else[]:=_root_.id rfl
theorem zH:gk qj=false∧gG qj=false∧gF qj=false∧gE qj=false∧gH qj=false:=⟨rfl,rfl,rfl,rfl,rfl⟩
attribute [go_sem] Ck zH
theorem qS {e0 m0:Bool} (L:List (List Int)) (hL:L.length≤12) (hl:∀l∈L,l.length≤1048576):Fun Tryz.prog 117 [(.sl (.lent m0) (List.map (bW e0) (L)))] [(.sl .own (List.map (bW false) (oY L)))]:=by
 refine fO qj [2] Tryz.func117 ?_
 have cE1:= @cA;have cE2:= @ia;have cE3:= @bV;have cM1:= @io;have cM2:= @gw
 refine aQ trivial ?_
 all_goals try(apply aq;repeat' first|exact ao|apply aa|(apply au;intro zb hc)|(apply ar;intro zb)|intro j')<;>try apply aw
 refine az (fun ms1 S1=>∃(k:Nat),S1.e 7=.p (.sl (.lent m0) (List.map (bW e0) (L)))∧S1.e 8=.p (.int .i64 (L.length))∧OwnL (S1.e 3) S1.h S1.n (bW false) ((L.take k).length) (L.take k)∧S1.e 9=.p (.int .i64 (k))∧(k≤L.length)∧ms1=L.length - k) ((fun(k:Nat)=>L.length - k) (0)) ?_ ⟨0,dC trivial ?_⟩
 all_goals try(apply aq;repeat' first|exact ao|apply aa|(apply au;intro zb hc)|(apply ar;intro zb)|intro j')<;>try apply aw
 rintro ms1 S1 ⟨k,h1_7,h1_8,o1_3,h1_9,c1_0,hm1⟩
 obtain⟨i1_3,h1_3,b1_3,l1_3⟩:=o1_3.out
 have ni1_3:=bi (x:=i1_3) (n:=S1.n)
 have fL1:=(aa h1_7 (aa h1_8 (aa h1_9 (aa h1_3 (aa b1_3 ni1_3)))))
 ·have b1:k<L.length→(L.getD k []).length≤1048576:=fun h=>hl _ (aF h)
  refine dE fL1 ?_
  all_goals try(apply aq;repeat' first|exact ao|apply aa|(apply au;intro zb hc)|(apply ar;intro zb)|intro j')<;>try apply aw
  all_goals try have b3:=b1 (by omega)
  all_goals try exact iF
  ·focus
    refine ay ((fun(k:Nat)=>L.length - k) (k+1)) (dC fL1 ?_) ⟨k+1,dC fL1 ?_⟩
    all_goals try(apply aq;repeat' first|exact ao|apply aa|(apply au;intro zb hc)|(apply ar;intro zb)|intro j')<;>try apply aw
   rw[aX (d:=[]) (by omega)]
  ·intro l h;exact hl l (List.mem_of_mem_take h)
  ·rw[qO]
  ·rw[qO];simp;omega
  ·intro l h;have:=hl l (List.mem_of_mem_take (isortL_mem.1 h));omega
  ·rw[ah (by omega),Lm]
theorem tE {e0 m0:Bool} (L:List (List Int)) (hL:L.length≤1048576) (hl:∀l∈L,l.length≤1048576):Fun Tryz.prog 181 [(.sl (.lent m0) (List.map (bW e0) (L)))] [(.bool (L.all al))]:=by
 refine fO bA [2] Tryz.func181 ?_
 have cE1:= @aD
 refine aQ trivial ?_
 all_goals try(apply aq;repeat' first|exact ao|apply aa|(apply au;intro zb hc)|(apply ar;intro zb)|intro j')<;>try apply aw
 refine az (fun ms1 S1=>∃(k:Nat),S1.e 0=.p (.sl (.lent m0) (List.map (bW e0) (L)))∧S1.e 3=.p (.int .i64 (k))∧(k≤L.length)∧(∀q∈L.take k,al q=true)∧ms1=L.length - k) ((fun(k:Nat)=>L.length - k) (0)) ?_ ⟨0,dC trivial ?_⟩
 all_goals try(apply aq;repeat' first|exact ao|apply aa|(apply au;intro zb hc)|(apply ar;intro zb)|intro j')<;>try apply aw
 rintro ms1 S1 ⟨k,h1_0,h1_3,c1_0,c1_1,hm1⟩
 have fL1:=(aa h1_0 h1_3)
 by_cases hk:k<L.length
 ·have g1:=hl _ (aF (d:=[]) hk)
  refine aQ fL1 ?_
  all_goals try(apply aq;repeat' first|exact ao|apply aa|(apply au;intro zb hc)|(apply ar;intro zb)|intro j')<;>try apply aw
  ·exact(List.all_eq_false.2 ⟨_,aF hk,by rw[hc];decide⟩).symm
  ·focus
    refine ay ((fun(k:Nat)=>L.length - k) (k+1)) (dC fL1 ?_) ⟨k+1,dC fL1 ?_⟩
    all_goals try(apply aq;repeat' first|exact ao|apply aa|(apply au;intro zb hc)|(apply ar;intro zb)|intro j')<;>try apply aw
   intro q hq
   rw[aX (d:=[]) (by omega)]at hq
   rcases List.mem_append.1 hq with hq|hq
   ·exact c1_1 q hq
   ·simp at hq;subst hq;simpa using hc
 ·refine aQ fL1 ?_
  all_goals try(apply aq;repeat' first|exact ao|apply aa|(apply au;intro zb hc)|(apply ar;intro zb)|intro j')<;>try apply aw
  rw[ah (by omega)]at c1_1
  exact(List.all_eq_true.2 c1_1).symm
theorem nO {m0:Bool} (b:List UInt8) (s:Cu) (l:List Int) (hb:b.length≤1048576) (hl:l.length≤256) (h0:0<l.length):CallT Tryz.prog false 150 [.mu true (cF b s),.pv (.sl (.lent m0) (List.map (PV.int .i64) l))] [some (cF b (gi b s l.length)),none] [.int .i64 (l.getD (kk b s l.length).toNat 0)]:=by
 have q:=iV (b:=b) (s:=s) (n:=l.length)
 refine fX fV [4] Tryz.func150 ?_
 have cM1:= @bf
 refine aQ trivial ?_
 all_goals try(apply aq;repeat' first|exact ao|apply aa|(apply au;intro zb hc)|(apply ar;intro zb)|intro j')<;>try apply aw
def ET (p:List Int) (L:List (List Int)) (i:Nat):Nat→Int
 |0=>0
 |j+1=>ET p L i j+dM (decide (p.getD j 0<p.getD i 0))*((L.getD j []).length:Int)
def oj (p:List Int) (L:List (List Int)):Nat→List Int
 |0=>[]
 |i+1=>oj p L i++(L.getD i []).map fun x=>ET p L i p.length+x
theorem CP {p:List Int} {L:List (List Int)} {i:Nat}:∀{j:Nat},j≤L.length→0≤ET p L i j∧ET p L i j≤cQ (L.take j)
 |0,_=>by simp[ET,cQ]
 |j+1,h=>by
  have ih:=CP (p:=p) (L:=L) (i:=i) (j:=j) (by omega)
  rw[iB (by omega),ET]
  unfold dM;split<;>push_cast<;>omega
theorem ug {p:List Int} {L:List (List Int)}:∀{i:Nat},i≤L.length→(oj p L i).length=cQ (L.take i)
 |0,_=>by simp[oj,cQ]
 |i+1,h=>by rw[oj,ak,ug (by omega),iB (by omega),an]
def o9 (L:List (List Int)):Bool:=L.all (fun l=>decide (l.length≠0))&&decide (cQ L≤8)
theorem Hf {L:List (List Int)} {k:Nat} (hk:k<L.length) (h:(L.getD k []).length=0∨8<cQ (L.take (k+1))):o9 L=false:=by
 rw[←aI]
 intro q
 simp only[o9,Bool.and_eq_true,List.all_eq_true,decide_eq_true_eq]at q
 rcases h with h|h
 ·exact q.1 _ (aF hk) h
 ·have:=fD (L:=L) (j:=k+1);omega
theorem IV {b:Bool} {n:Nat}:dM b*(n:Int)=if b=true then(n:Int)else 0:=by cases b<;>simp[dM]
theorem jH {m0 e1 m1:Bool} (p:List Int) (L:List (List Int)) (hp:al p=true) (he:L.length=p.length) (hL:L.all al=true):Fun Tryz.prog 151 [(.sl (.lent m0) (List.map (PV.int .i64) (p))),(.sl (.lent m1) (List.map (bW e1) (L)))] [(.sl .own (List.map (PV.int .i64) ((if o9 L=true then oj p L p.length else[])))),(.bool (o9 L))]:=by
 refine fO bA [4,5] Tryz.func151 ?_
 have cE1:= @eC;have cE2:= @aD;have cE3:= @tE;have cD1:=iE [false,false,false,false,false,false,false,false,false,false,true,false,false,false,false,false,false,false,false] [(0,10),(10,11),(10,12),(10,13),(10,14),(10,15)]
 obtain⟨h8,hq⟩:=lQ hp
 obtain⟨q1,q2⟩:=permB_iff.1 hq
 have hr:∀l∈L,l.length≤8∧∀x∈l,1≤x∧x≤8:=fun l hl=>by
  obtain⟨g8,gq⟩:=lQ (List.all_eq_true.1 hL l hl)
  refine⟨g8,fun x hx=> ?_⟩
  have:=(permB_iff.1 gq).1 x hx;omega
 have hr0:∀l∈L,l.length≤1048576:=fun l hl=>by have:=(hr l hl).1;omega
 have g1:((L.length:Int)=(p.length:Int))=True:=eq_true (by omega)
 refine aQ (aa @hp (aa @hL @g1)) ?_
 all_goals try(apply aq;repeat' first|exact ao|apply aa|(apply au;intro zb hc)|(apply ar;intro zb)|intro j')<;>try apply aw
 refine az (fun ms1 S1=>∃(k:Nat),S1.e 0=.p (.sl (.lent m0) (List.map (PV.int .i64) (p)))∧S1.e 1=.p (.sl (.lent m1) (List.map (bW e1) (L)))∧S1.e 6=.p (.int .i64 (cQ (L.take k)))∧S1.e 7=.p (.int .i64 (k))∧(k≤L.length)∧(cQ (L.take k)≤8)∧(∀j,j<k→(L.getD j []).length≠0)∧ms1=L.length - k) ((fun(k:Nat)=>L.length - k) (0)) ?_ ⟨0,dC trivial ?_⟩
 all_goals try(apply aq;repeat' first|exact ao|apply aa|(apply au;intro zb hc)|(apply ar;intro zb)|intro j')<;>try apply aw
 rintro ms1 S1 ⟨k,h1_0,h1_1,h1_6,h1_7,c1_0,c1_1,c1_2,hm1⟩
 have fL1:=(aa h1_0 (aa h1_1 (aa h1_6 h1_7)))
 ·have b0:=fD (L:=L) (j:=k)
  by_cases hk:k<L.length
  ·have r1:=(hr _ (aF (d:=[]) hk)).1
   have r2:=iB hk
   by_cases hz:(L.getD k []).length=0∨8<cQ (L.take (k+1))
   ·have r3:=Hf hk hz
    rw[r3]
    refine aQ fL1 ?_
    all_goals try(apply aq;repeat' first|exact ao|apply aa|(apply au;intro zb hc)|(apply ar;intro zb)|intro j')<;>try apply aw
   ·refine aQ fL1 ?_
    all_goals try(apply aq;repeat' first|exact ao|apply aa|(apply au;intro zb hc)|(apply ar;intro zb)|intro j')<;>try apply aw
    focus
     refine ay ((fun(k:Nat)=>L.length - k) (k+1)) (dC fL1 ?_) ⟨k+1,dC fL1 ?_⟩
     all_goals try(apply aq;repeat' first|exact ao|apply aa|(apply au;intro zb hc)|(apply ar;intro zb)|intro j')<;>try apply aw
    all_goals(first|(intro j hj;rcases Nat.lt_succ_iff_lt_or_eq.1 hj with g|g;exact c1_2 j g;subst g;omega)|skip)
  ·obtain rfl:k=L.length:=by omega
   have g2:o9 L=true:=by
    rw[List.take_length]at c1_1
    simp only[o9,Bool.and_eq_true,List.all_eq_true,decide_eq_true_eq]
    refine⟨fun l hl=> ?_,c1_1⟩
    obtain⟨i,hi,rfl⟩:=bh hl
    have:=c1_2 i hi
    rwa [ac,ae hi]at this
   have g3:cQ L≤8:=by rw[List.take_length]at c1_1;exact c1_1
   rw[g2,if_pos rfl]
   refine aQ fL1 ?_
   all_goals try(apply aq;repeat' first|exact ao|apply aa|(apply au;intro zb hc)|(apply ar;intro zb)|intro j')<;>try apply aw
   refine az (fun ms2 S2=>∃(i:Nat),S2.e 0=.p (.sl (.lent m0) (List.map (PV.int .i64) (p)))∧S2.e 1=.p (.sl (.lent m1) (List.map (bW e1) (L)))∧OwnL (S2.e 8) S2.h S2.n (PV.int .i64) ((oj p L i).length) (oj p L i)∧S2.e 9=.p (.int .i64 (i))∧(i≤p.length)∧S1.n≤S2.n∧ms2=p.length - i) ((fun(i:Nat)=>p.length - i) (0)) ?_ ⟨0,dC fL1 ?_⟩
   all_goals try(apply aq;repeat' first|exact ao|apply aa|(apply au;intro zb hc)|(apply ar;intro zb)|intro j')<;>try apply aw
   rintro ms2 S2 ⟨i,h2_0,h2_1,o2_8,h2_9,c2_0,u2_0,hm2⟩
   obtain⟨i2_8,h2_8,b2_8,l2_8⟩:=o2_8.out
   have ni2_8:=bi (x:=i2_8) (n:=S2.n)
   have fL2:=(aa h2_0 (aa h2_1 (aa h2_9 (aa h2_8 (aa b2_8 ni2_8)))))
   ·have g4:=ug (p:=p) (L:=L) (i:=i) (by omega)
    have g5:=fD (L:=L) (j:=i)
    by_cases hi:i<p.length
    ·have g6:=iB (L:=L) (j:=i) (by omega)
     have g7:=fD (L:=L) (j:=i+1)
     have w1:=hr _ (aF (d:=[]) (show i<L.length by omega))
     refine aQ fL2 ?_
     all_goals try(apply aq;repeat' first|exact ao|apply aa|(apply au;intro zb hc)|(apply ar;intro zb)|intro j')<;>try apply aw
     refine az (fun ms3 S3=>∃(j:Nat),S3.e 0=.p (.sl (.lent m0) (List.map (PV.int .i64) (p)))∧S3.e 1=.p (.sl (.lent m1) (List.map (bW e1) (L)))∧OwnL (S3.e 8) S3.h S3.n (PV.int .i64) ((oj p L i).length) (oj p L i)∧S3.e 9=.p (.int .i64 (i))∧S3.e 10=.p (.int .i64 (ET p L i j))∧S3.e 11=.p (.int .i64 (j))∧(j≤p.length)∧S2.n≤S3.n∧ms3=p.length - j) ((fun(j:Nat)=>p.length - j) (0)) ?_ ⟨0,dC fL2 ?_⟩
     all_goals try(apply aq;repeat' first|exact ao|apply aa|(apply au;intro zb hc)|(apply ar;intro zb)|intro j')<;>try apply aw
     rintro ms3 S3 ⟨j,h3_0,h3_1,o3_8,h3_9,h3_10,h3_11,c3_0,u3_0,hm3⟩
     obtain⟨i3_8,h3_8,b3_8,l3_8⟩:=o3_8.out
     have ni3_8:=bi (x:=i3_8) (n:=S3.n)
     have fL3:=(aa h3_0 (aa h3_1 (aa h3_9 (aa h3_10 (aa h3_11 (aa h3_8 (aa b3_8 ni3_8)))))))
     ·have v1:=CP (p:=p) (L:=L) (i:=i) (j:=j) (by omega)
      have v2:=fD (L:=L) (j:=j)
      by_cases hj:j<p.length
      ·have v3:=CP (p:=p) (L:=L) (i:=i) (j:=j+1) (by omega)
       have v4:=fD (L:=L) (j:=j+1)
       have v5:=(hr _ (aF (d:=[]) (show j<L.length by omega))).1
       have v6:0≤dM (decide (p.getD j 0<p.getD i 0))*((L.getD j []).length:Int)∧dM (decide (p.getD j 0<p.getD i 0))*((L.getD j []).length:Int)≤8:=by rw[IV];split<;>omega
       refine aQ fL3 ?_
       all_goals try(apply aq;repeat' first|exact ao|apply aa|(apply au;intro zb hc)|(apply ar;intro zb)|intro j')<;>try apply aw
       focus
        refine ay ((fun(j:Nat)=>p.length - j) (j+1)) (dC fL3 ?_) ⟨j+1,dC fL3 ?_⟩
        all_goals try(apply aq;repeat' first|exact ao|apply aa|(apply au;intro zb hc)|(apply ar;intro zb)|intro j')<;>try apply aw
      ·obtain rfl:j=p.length:=by omega
       refine aQ fL3 ?_
       all_goals try(apply aq;repeat' first|exact ao|apply aa|(apply au;intro zb hc)|(apply ar;intro zb)|intro j')<;>try apply aw
       refine az (fun ms4 S4=>∃(m:Nat),S4.e 0=.p (.sl (.lent m0) (List.map (PV.int .i64) (p)))∧S4.e 1=.p (.sl (.lent m1) (List.map (bW e1) (L)))∧OwnL (S4.e 8) S4.h S4.n (PV.int .i64) ((oj p L i++((L.getD i []).take m).map (fun x=>ET p L i p.length+x)).length) (oj p L i++((L.getD i []).take m).map (fun x=>ET p L i p.length+x))∧S4.e 9=.p (.int .i64 (i))∧S4.e 12=.p (.int .i64 (m))∧S4.e 10=.p (.int .i64 (ET p L i p.length))∧(m≤(L.getD i []).length)∧S3.n≤S4.n∧ms4=(L.getD i []).length - m) ((fun(m:Nat)=>(L.getD i []).length - m) (0)) ?_ ⟨0,dC fL3 ?_⟩
       all_goals try(apply aq;repeat' first|exact ao|apply aa|(apply au;intro zb hc)|(apply ar;intro zb)|intro j')<;>try apply aw
       rintro ms4 S4 ⟨m,h4_0,h4_1,o4_8,h4_9,h4_12,h4_10,c4_0,u4_0,hm4⟩
       obtain⟨i4_8,h4_8,b4_8,l4_8⟩:=o4_8.out
       have ni4_8:=bi (x:=i4_8) (n:=S4.n)
       have fL4:=(aa h4_0 (aa h4_1 (aa h4_9 (aa h4_12 (aa h4_10 (aa h4_8 (aa b4_8 ni4_8)))))))
       ·by_cases hm:m<(L.getD i []).length
        ·have w2:=w1.2 _ (aF (d:=0) hm)
         refine aQ fL4 ?_
         all_goals try(apply aq;repeat' first|exact ao|apply aa|(apply au;intro zb hc)|(apply ar;intro zb)|intro j')<;>try apply aw
         focus
          refine ay ((fun(m:Nat)=>(L.getD i []).length - m) (m+1)) (dC fL4 ?_) ⟨m+1,dC fL4 ?_⟩
          all_goals try(apply aq;repeat' first|exact ao|apply aa|(apply au;intro zb hc)|(apply ar;intro zb)|intro j')<;>try apply aw
         all_goals(first|(rw[aX (d:=0) hm,aT];rfl)|skip)
        ·refine aQ fL4 ?_
         all_goals try(apply aq;repeat' first|exact ao|apply aa|(apply au;intro zb hc)|(apply ar;intro zb)|intro j')<;>try apply aw
         focus
          refine ay ((fun(i:Nat)=>p.length - i) (i+1)) (dC fL4 ?_) ⟨i+1,dC fL4 ?_⟩
          all_goals try(apply aq;repeat' first|exact ao|apply aa|(apply au;intro zb hc)|(apply ar;intro zb)|intro j')<;>try apply aw
         all_goals(first|(rw[ah (by omega),oj];done)|skip)
    ·obtain rfl:i=p.length:=by omega
     refine aQ fL2 ?_
     all_goals try(apply aq;repeat' first|exact ao|apply aa|(apply au;intro zb hc)|(apply ar;intro zb)|intro j')<;>try apply aw
 all_goals(first|(simp[cQ];done)|skip)
def Bf (s:List UInt8):List Int:=s.map fun c=>(c.toNat:Int) - 48
def sa (s:List UInt8):Bool:=decide (s=[45])||(!decide (s=[])&&al (Bf s))
def eF (s:List UInt8):List Int:=if s=[45]then[]else if sa s=true then Bf s else[]
theorem wo {s:List UInt8} {k:Nat} (h:k<s.length):Bf (s.take (k+1))=Bf (s.take k)++[((s.getD k 0).toNat:Int) - 48]:=by
 rw[aX (d:=0) h,Bf,aT];rfl
theorem pK {s:List UInt8}:(Bf s).length=s.length:=by simp[Bf]
theorem bO (s:List UInt8) (hl:s.length≤1048576):Fun Tryz.prog 148 [(.str (s))] [(.sl .own (List.map (PV.int .i64) (eF s))),(.bool (sa s))]:=by
 refine fO bA [2,3] Tryz.func148 ?_
 have cE1:= @aD
 refine aQ trivial ?_
 all_goals try(apply aq;repeat' first|exact ao|apply aa|(apply au;intro zb hc;repeat (have zc:=zb.1;replace zb:=zb.2))|(apply ar;intro zb)|intro j')<;>try apply aw
 ·subst hc;rfl
 ·subst hc;rfl
 ·have hn:=hc
  refine az (fun ms1 S1=>∃(k:Nat),S1.e 0=.p (.str (s))∧OwnL (S1.e 4) S1.h S1.n (PV.int .i64) ((Bf (s.take k)).length) (Bf (s.take k))∧S1.e 5=.p (.int .i64 (k))∧(k≤s.length)∧ms1=s.length - k) ((fun(k:Nat)=>s.length - k) (0)) ?_ ⟨0,dC trivial ?_⟩
  all_goals try(apply aq;repeat' first|exact ao|apply aa|(apply au;intro zb hc;repeat (have zc:=zb.1;replace zb:=zb.2))|(apply ar;intro zb)|intro j')<;>try apply aw
  rintro ms1 S1 ⟨k,h1_0,o1_4,h1_5,c1_0,hm1⟩
  obtain⟨i1_4,h1_4,b1_4,l1_4⟩:=o1_4.out
  have ni1_4:=bi (x:=i1_4) (n:=S1.n)
  have fL1:=(aa h1_0 (aa h1_5 (aa h1_4 (aa b1_4 ni1_4))))
  have b1:=pK (s:=s.take k)
  rw[aV]at b1
  have b2:=pK (s:=s)
  have b3:(s.getD k 0).toNat<256:=(s.getD k 0).toNat_lt
  have b4:=wo (s:=s) (k:=k)
  by_cases hk:k<s.length
  ·have u5:(Tryz.prog.underlying 5).isSome=true:=by kernel_rfl
   refine dE (aa fL1 @u5) ?_
   all_goals try(apply aq;repeat' first|exact ao|apply aa|(apply au;intro zb hc;repeat (have zc:=zb.1;replace zb:=zb.2))|(apply ar;intro zb)|intro j')<;>try apply aw
   all_goals try (rw[jn];omega)
   all_goals try exact iF
   focus
    refine ay ((fun(k:Nat)=>s.length - k) (k+1)) (dC fL1 ?_) ⟨k+1,dC fL1 ?_⟩
    all_goals try(apply aq;repeat' first|exact ao|apply aa|(apply au;intro zb hc;repeat (have zc:=zb.1;replace zb:=zb.2))|(apply ar;intro zb)|intro j')<;>try apply aw
   all_goals first|(rw[b4 hk];done)|(rw[b4 hk];simp;done)
  ·rw[ah (by omega)]at*
   refine aQ fL1 ?_
   all_goals try(apply aq;repeat' first|exact ao|apply aa|(apply au;intro zb hc;repeat (have zc:=zb.1;replace zb:=zb.2))|(apply ar;intro zb)|intro j')<;>try apply aw
   all_goals(simp_all [eF,sa];done)
theorem c3 (s:List UInt8) (hl:s.length≤1048576):Fun Tryz.prog 177 [(.str (s))] [(.sl .own (List.map (PV.int .i64) (eF s))),(.bool (sa s))]:=by
 refine fO bA [2,3] Tryz.func177 ?_
 have cE1:= @aA
 refine aQ trivial ?_
 all_goals try(apply aq;repeat' first|exact ao|apply aa|(apply au;intro zb hc;repeat (have zc:=zb.1;replace zb:=zb.2))|(apply ar;intro zb)|intro j')<;>try apply aw
 ·subst hc;rfl
 ·subst hc;rfl
 ·have hn:=hc
  refine az (fun ms1 S1=>∃(k:Nat),S1.e 0=.p (.str (s))∧OwnL (S1.e 4) S1.h S1.n (PV.int .i64) ((Bf (s.take k)).length) (Bf (s.take k))∧S1.e 11=.p (.int .i64 (s.length))∧S1.e 12=.p (.int .i64 (k))∧(k≤s.length)∧ms1=s.length - k) ((fun(k:Nat)=>s.length - k) (0)) ?_ ⟨0,dC trivial ?_⟩
  all_goals try(apply aq;repeat' first|exact ao|apply aa|(apply au;intro zb hc;repeat (have zc:=zb.1;replace zb:=zb.2))|(apply ar;intro zb)|intro j')<;>try apply aw
  rintro ms1 S1 ⟨k,h1_0,o1_4,h1_11,h1_12,c1_0,hm1⟩
  obtain⟨i1_4,h1_4,b1_4,l1_4⟩:=o1_4.out
  have ni1_4:=bi (x:=i1_4) (n:=S1.n)
  have fL1:=(aa h1_0 (aa h1_11 (aa h1_12 (aa h1_4 (aa b1_4 ni1_4)))))
  have b1:=pK (s:=s.take k)
  rw[aV]at b1
  have b2:=pK (s:=s)
  have b3:(s.getD k 0).toNat<256:=(s.getD k 0).toNat_lt
  have b4:=wo (s:=s) (k:=k)
  by_cases hk:k<s.length
  ·have u5:(Tryz.prog.underlying 5).isSome=true:=by kernel_rfl
   refine dE (aa fL1 @u5) ?_
   all_goals try(apply aq;repeat' first|exact ao|apply aa|(apply au;intro zb hc;repeat (have zc:=zb.1;replace zb:=zb.2))|(apply ar;intro zb)|intro j')<;>try apply aw
   all_goals try (rw[jn];omega)
   all_goals try exact iF
   focus
    refine ay ((fun(k:Nat)=>s.length - k) (k+1)) (dC fL1 ?_) ⟨k+1,dC fL1 ?_⟩
    all_goals try(apply aq;repeat' first|exact ao|apply aa|(apply au;intro zb hc;repeat (have zc:=zb.1;replace zb:=zb.2))|(apply ar;intro zb)|intro j')<;>try apply aw
   all_goals first|(rw[b4 hk];done)|(rw[b4 hk];simp;done)
  ·rw[ah (by omega)]at*
   refine aQ fL1 ?_
   all_goals try(apply aq;repeat' first|exact ao|apply aa|(apply au;intro zb hc;repeat (have zc:=zb.1;replace zb:=zb.2))|(apply ar;intro zb)|intro j')<;>try apply aw
   all_goals(simp_all [eF,sa];done)
def zS (c:UInt8):List UInt8→List UInt8→List (List UInt8)
 |[],cur=>[cur]
 |x::s,cur=>if x=c then cur::zS c s []else zS c s (cur++[x])
def bB (c:UInt8) (s:List UInt8):List (List UInt8):=zS c s []
theorem py {c:UInt8}:∀{s cur:List UInt8},(zS c s cur).length≤s.length+1
 |[],_=>by simp[zS]
 |x::s,cur=>by
  rw[zS];split
  ·have:=py (c:=c) (s:=s) (cur:=[]);simp;omega
  ·have:=py (c:=c) (s:=s) (cur:=cur++[x]);simp;omega
theorem wN {s:List UInt8} {f k:Nat} (h:k<s.length) (hf:f≤k):(s.take (k+1)).drop f=(s.take k).drop f++[s.getD k 0]:=by
 rw[aX (d:=0) h,List.drop_append_of_le_length (by simp;omega)]
theorem bN (s:List UInt8) (c:UInt8) (hl:s.length≤1048576):Fun Tryz.prog 189 [(.str (s)),(.int .u8 ((c.toNat:Int)))] [(.sl .own (List.map PV.str (bB c s)))]:=by
 refine fO bA [4] Tryz.func189 ?_
 refine aQ trivial ?_
 all_goals try(apply aq;repeat' first|exact ao|apply aa|(apply au;intro zb hc)|(apply ar;intro zb)|intro j')<;>try apply aw
 refine az (fun ms1 S1=>∃(k:Nat) (f:Nat) (out:List (List UInt8)),S1.e 0=.p (.str (s))∧S1.e 1=.p (.int .u8 ((c.toNat:Int)))∧OwnL (S1.e 5) S1.h S1.n PV.str ((out).length) (out)∧S1.e 6=.p (.int .i64 (f))∧S1.e 7=.p (.int .i64 (k))∧(k≤s.length+1)∧(f≤k)∧(out.length≤k)∧(k≤s.length→out++zS c (s.drop k) ((s.take k).drop f)=bB c s)∧(k=s.length+1→out=bB c s)∧ms1=s.length+1 - k) ((fun(k:Nat) (f:Nat) (out:List (List UInt8))=>s.length+1 - k) (0) (0) ([])) ?_ ⟨0,0,[],kj trivial ?_⟩
 all_goals try(apply aq;repeat' first|exact ao|apply aa|(apply au;intro zb hc)|(apply ar;intro zb)|intro j')<;>try apply aw
 rintro ms1 S1 ⟨k,f,out,h1_0,h1_1,o1_5,h1_6,h1_7,c1_0,c1_1,c1_2,c1_3,c1_4,hm1⟩
 obtain⟨i1_5,h1_5,b1_5,l1_5⟩:=o1_5.out
 have ni1_5:=bi (x:=i1_5) (n:=S1.n)
 have fL1:=(aa h1_0 (aa h1_1 (aa h1_6 (aa h1_7 (aa h1_5 (aa b1_5 ni1_5))))))
 have d1:=fun h=>Iu (s:=s) (k:=k) h
 have d2:f≤k→k<s.length→(s.take (k+1)).drop f=(s.take k).drop f++[s.getD k 0]:=fun a b=>wN b a
 refine aQ fL1 ?_
 all_goals try(apply aq;repeat' first|exact ao|apply aa|(apply au;intro zb hc)|(apply ar;intro zb)|intro j')<;>try apply aw
 ·have e:s.getD k 0=c:=UInt8.toNat_inj.1 (by omega)
  focus
   refine ay ((fun(k:Nat) (f:Nat) (out:List (List UInt8))=>s.length+1 - k) (k+1) (k+1) (out++[(s.take k).drop f])) (dC fL1 ?_) ⟨k+1,k+1,out++[(s.take k).drop f],dC fL1 ?_⟩
   all_goals try(apply aq;repeat' first|exact ao|apply aa|(apply au;intro zb hc)|(apply ar;intro zb)|intro j')<;>try apply aw
  ·intro _
   have:=c1_3 (by omega)
   rw[d1 (by omega),zS,if_pos e]at this
   rw[←this,show(s.take (k+1)).drop (k+1)=[]from aL (by simp;omega)]
 ·have e:¬s.getD k 0=c:=fun e=>hc (by rw[e])
  focus
   refine ay ((fun(k:Nat) (f:Nat) (out:List (List UInt8))=>s.length+1 - k) (k+1) (f) (out)) (dC fL1 ?_) ⟨k+1,f,out,dC fL1 ?_⟩
   all_goals try(apply aq;repeat' first|exact ao|apply aa|(apply au;intro zb hc)|(apply ar;intro zb)|intro j')<;>try apply aw
  ·intro _
   have:=c1_3 (by omega)
   rw[d1 (by omega),zS,if_neg e]at this
   rw[d2 (by omega) (by omega)];exact this
 ·focus
   refine ay ((fun(k:Nat) (f:Nat) (out:List (List UInt8))=>s.length+1 - k) (k+1) (k+1) (out++[(s.take k).drop f])) (dC fL1 ?_) ⟨k+1,k+1,out++[(s.take k).drop f],dC fL1 ?_⟩
   all_goals try(apply aq;repeat' first|exact ao|apply aa|(apply au;intro zb hc)|(apply ar;intro zb)|intro j')<;>try apply aw
  ·intro _
   have:=c1_3 (by omega)
   rw[aL (by omega),zS]at this
   exact this
 ·exact c1_4 (by omega)
 ·rfl
def oW (L:List Int) (i:Nat):List Int:=(List.range L.length).map fun q=>if q<i∨L.length≤q+i then L.getD (L.length - 1 - q) 0 else L.getD q 0
theorem revK_len {L:List Int} {i:Nat}:(oW L i).length=L.length:=by simp[oW]
theorem jJ {L:List Int} {i q:Nat}:(oW L i)[q]? =if q<L.length then some (if q<i∨L.length≤q+i then L.getD (L.length - 1 - q) 0 else L.getD q 0)else none:=by
 unfold oW
 rw[ax]
 by_cases h:q<L.length
 ·rw[if_pos h,List.getElem?_range h];rfl
 ·rw[if_neg h,aO (by simp;omega)];rfl
theorem sO {L:List Int} {i:Nat} (h:i<L.length):L[i]? =some (L.getD i 0):=by
 rw[ac,ae h];rfl
theorem revK_0 {L:List Int}:oW L 0=L:=by
 apply List.ext_getElem?;intro q
 rw[jJ]
 by_cases h:q<L.length
 ·rw[if_pos h,if_neg (by omega),sO h]
 ·rw[if_neg h,aO (by omega)]
theorem Ct {L:List Int} {i:Nat} (h1:2*i≤L.length) (h2:L.length≤2*i+1):oW L i=L.reverse:=by
 apply List.ext_getElem?;intro q
 rw[jJ]
 by_cases h:q<L.length
 ·rw[if_pos h,List.getElem?_reverse h,sO (by omega)]
  by_cases e:q<i∨L.length≤q+i
  ·rw[if_pos e]
  ·rw[if_neg e,show L.length - 1 - q=q by omega]
 ·rw[if_neg h,aO (by simp;omega)]
theorem FG {L:List Int} {i:Nat} (h:2*i+1<L.length):(oW L i).getD i 0=L.getD i 0∧(oW L i).getD (L.length - 1 - i) 0=L.getD (L.length - 1 - i) 0:=by
 constructor
 ·rw[ac,jJ,if_pos (by omega),if_neg (by omega)];rfl
 ·rw[ac,jJ,if_pos (by omega),if_neg (by omega)];rfl
theorem zW {L:List Int} {i:Nat} (h:2*i+1<L.length):((oW L i).set i (L.getD (L.length - 1 - i) 0)).set (L.length - 1 - i) (L.getD i 0)=oW L (i+1):=by
 apply List.ext_getElem?;intro q
 rw[List.getElem?_set,List.getElem?_set,List.length_set,revK_len,jJ,jJ]
 by_cases e1:L.length - 1 - i=q
 ·rw[if_pos e1,if_pos (by omega),if_pos (by omega),if_pos (by omega),←e1,show L.length - 1 - (L.length - 1 - i)=i by omega]
 ·rw[if_neg e1]
  by_cases e2:i=q
  ·subst e2;rw[if_pos rfl,if_pos (by omega),if_pos (by omega),if_pos (by omega)]
  ·rw[if_neg e2]
   by_cases hq:q<L.length
   ·rw[if_pos hq,if_pos hq]
    by_cases e3:q<i∨L.length≤q+i
    ·rw[if_pos e3,if_pos (by omega)]
    ·rw[if_neg e3,if_neg (by omega)]
   ·rw[if_neg hq,if_neg hq]
theorem dn (L:List Int) (hL:L.length≤1048576):CallT Tryz.prog false 133 [.mu false (List.map (PV.int .i64) (L))] [some (List.map (PV.int .i64) (L.reverse))] []:=by
 refine fX bA [] Tryz.func133 ?_
 have cD1:=iE [false,false,false,false,false,false,false,false,false,false,false,false,false,true,false,true] [(2,13),(3,13)]
 refine aQ trivial ?_
 all_goals try(apply aq;repeat' first|exact ao|apply aa|(apply au;intro zb hc)|(apply ar;intro zb)|intro j')<;>try apply aw
 refine az (fun ms1 S1=>∃(i:Nat),S1.e 0=.ref 0 0 (oW L i).length∧S1.h 0=.live true (List.map (PV.int .i64) (oW L i))∧0<S1.n∧S1.e 2=.p (.int .i64 (i))∧S1.e 3=.p (.int .i64 (((L.length:Int) - 1 - i)))∧(2*i≤L.length)∧ms1=L.length - i) ((fun(i:Nat)=>L.length - i) (0)) ?_ ⟨0,dC trivial ?_⟩
 all_goals try(apply aq;repeat' first|exact ao|apply aa|(apply au;intro zb hc)|(apply ar;intro zb)|intro j')<;>try apply aw
 rintro ms1 S1 ⟨i,h1_0,b1_0,l1_0,h1_2,h1_3,c1_0,hm1⟩
 have n0:=bi (x:=0) (n:=S1.n)
 have fL1:=(aa h1_0 (aa b1_0 (aa h1_2 (aa h1_3 n0))))
 ·have e0:=revK_len (L:=L) (i:=i)
  by_cases hi:2*i+1<L.length
  ·have e1:=FG hi
   have e2:=zW hi
   have e3:((L.length:Int) - 1 - i).toNat=L.length - 1 - i:=by omega
   refine aQ (aa fL1 (aa @e0 (aa e1.1 (aa e1.2 (aa @e2 @e3))))) ?_
   all_goals try(apply aq;repeat' first|exact ao|apply aa|(apply au;intro zb hc)|(apply ar;intro zb)|intro j')<;>try apply aw
   focus
    refine ay ((fun(i:Nat)=>L.length - i) (i+1)) (dC fL1 ?_) ⟨i+1,dC fL1 ?_⟩
    all_goals try(apply aq;repeat' first|exact ao|apply aa|(apply au;intro zb hc)|(apply ar;intro zb)|intro j')<;>try apply aw
   all_goals first|omega|(rw[e0,revK_len];done)
  ·have e2:=Ct c1_0 (by omega)
   refine aQ (aa fL1 (aa @e0 @e2)) ?_
   all_goals try(apply aq;repeat' first|exact ao|apply aa|(apply au;intro zb hc)|(apply ar;intro zb)|intro j')<;>try apply aw
 ·exact revK_len.symm
 ·exact revK_0.symm
def qh:FuncId→List Bool:=fun f=>if f=133 then[true]else[]
theorem Ci {f:FuncId}:qh f=if f=133 then[true]else[]:=_root_.id rfl
theorem zF:gk qh=false∧gG qh=false∧gF qh=false∧gE qh=false∧gH qh=false:=⟨rfl,rfl,rfl,rfl,rfl⟩
attribute [go_sem] Ci zF
theorem f8 {m0:Bool} (p:List Int) (hl:p.length≤1048576):Fun Tryz.prog 91 [(.sl (.lent m0) (List.map (PV.int .i64) (p)))] [(.sl .own (List.map (PV.int .i64) (p.reverse)))]:=by
 refine fO qh [2] Tryz.func91 ?_
 have cE1:= @cA;have cM1:= @dn
 have e1:p.reverse.length=p.length:=aG
 have e2:List.take p.length p.reverse=p.reverse:=ah (by omega)
 refine aQ (aa @e1 @e2) ?_
 all_goals try(apply aq;repeat' first|exact ao|apply aa|(apply au;intro zb hc)|(apply ar;intro zb)|intro j')<;>try apply aw
theorem bC {m0:Bool} (p:List Int) (hl:p.length≤1048576):Fun Tryz.prog 70 [(.sl (.lent m0) (List.map (PV.int .i64) (p)))] [(.sl .own (List.map (PV.int .i64) (p.reverse)))]:=by
 refine fO bA [2] Tryz.func70 ?_
 refine aQ trivial ?_
 all_goals try(apply aq;repeat' first|exact ao|apply aa|(apply au;intro zb hc)|(apply ar;intro zb)|intro j')<;>try apply aw
 refine az (fun ms1 S1=>∃(k:Nat),S1.e 0=.p (.sl (.lent m0) (List.map (PV.int .i64) (p)))∧OwnL (S1.e 3) S1.h S1.n (PV.int .i64) (((p.drop k).reverse).length) ((p.drop k).reverse)∧S1.e 4=.p (.int .i64 (((k:Int) - 1)))∧(k≤p.length)∧ms1=k) ((fun(k:Nat)=>k) (p.length)) ?_ ⟨p.length,dC trivial ?_⟩
 all_goals try(apply aq;repeat' first|exact ao|apply aa|(apply au;intro zb hc)|(apply ar;intro zb)|intro j')<;>try apply aw
 rintro ms1 S1 ⟨k,h1_0,o1_3,h1_4,c1_0,hm1⟩
 obtain⟨i1_3,h1_3,b1_3,l1_3⟩:=o1_3.out
 have ni1_3:=bi (x:=i1_3) (n:=S1.n)
 have fL1:=(aa h1_0 (aa h1_4 (aa h1_3 (aa b1_3 ni1_3))))
 ·have e1:((k:Int) - 1).toNat=k - 1:=by omega
  have e2:(p.drop k).reverse.length=p.length - k:=by simp
  refine aQ (aa fL1 (aa @e1 @e2)) ?_
  all_goals try(apply aq;repeat' first|exact ao|apply aa|(apply au;intro zb hc)|(apply ar;intro zb)|intro j')<;>try apply aw
  ·focus
    refine ay ((fun(k:Nat)=>k) (k-1)) (dC fL1 ?_) ⟨k-1,dC fL1 ?_⟩
    all_goals try(apply aq;repeat' first|exact ao|apply aa|(apply au;intro zb hc)|(apply ar;intro zb)|intro j')<;>try apply aw
   ·simp;omega
   ·obtain⟨j,rfl⟩:∃j,k=j+1:=⟨k - 1,by omega⟩
    rw[Nat.add_sub_cancel,bH (k:=j) (by omega),List.reverse_cons]
  ·obtain rfl:k=0:=by omega
   rw[List.drop_zero,ah (by simp)]
 ·simp
 ·rw[List.drop_length];rfl
def ks (p:List Int) (k:Nat):List Int:=if k % 2=1 then AA p else p
def eg (p:List Int) (k:Nat):List Int:=if k/2 % 2=1 then(ks p k).reverse else ks p k
def gl (p:List Int) (k:Nat):List Int:=if 4≤k then cU (eg p k)else eg p k
theorem Jv {p:List Int}:∀{k:Nat},k≤p.length→∀x∈od p k,0≤x∧x≤p.length
 |0,_,x,h=>by have:=List.eq_of_mem_replicate h;subst this;omega
 |k+1,hk,x,h=>by
  rw[od]at h
  rcases List.mem_or_eq_of_mem_set h with h|rfl
  ·exact Jv (by omega) x h
  ·omega
theorem RN {p:List Int} {k:Nat} (h8:p.length≤8) (hp:bD p=true):∀x∈eg p k,0≤x∧x≤1048576:=by
 have h1:∀x∈ks p k,0≤x∧x≤1048576:=fun x hx=>by
  unfold ks at hx
  split at hx
  ·have:=Jv (am _) x hx;omega
  ·have:=(permB_iff.1 hp).1 x hx;omega
 intro x hx
 unfold eg at hx
 split at hx
 ·exact h1 x (List.mem_reverse.1 hx)
 ·exact h1 x hx
theorem yj {p:List Int} {k:Nat}:(ks p k).length=p.length:=by unfold ks;split;exact nw;rfl
theorem yi {p:List Int} {k:Nat}:(eg p k).length=p.length:=by unfold eg;split;rw[aG,yj];exact yj
theorem mM {p:List Int} {k:Nat}:(gl p k).length=p.length:=by unfold gl;split;rw[gc,yi];exact yi
theorem VJ:∀k,k<8→((k&&& 1=0↔¬k % 2=1)∧(k&&& 2=0↔¬k/2 % 2=1)∧(k&&& 4=0↔¬4≤k)):=by decide
theorem eY {p:List Int} {k:Nat} (h8:p.length≤8) (hp:bD p=true) {q:List Int} (h:q=eg p k):∀x∈q,0≤x∧x≤1048576:=by subst h;exact RN h8 hp
theorem pe {m0:Bool} (p:List Int) (k:Nat) (hk:k<8) (h8:p.length≤8) (hp:bD p=true):Fun Tryz.prog 116 [(.sl (.lent m0) (List.map (PV.int .i64) (p))),(.int .i64 (k))] [(.sl .own (List.map (PV.int .i64) (gl p k)))]:=by
 refine fO bA [4] Tryz.func116 ?_
 have cE1:= @cA;have cE2:= @iR;have cE3:= @f8;have cE4:= @jq
 obtain⟨k1,k2,k3⟩:=VJ k hk
 have i1:(AA p).length=p.length:=nw
 have i2:List.take p.length (AA p)=AA p:=ah (by omega)
 by_cases a1:k % 2=1
 ·have f1:(((k&&& 1:Nat):Int)=0)=False:=eq_false (by omega)
  by_cases a2:k/2 % 2=1
  ·have f2:(((k&&& 2:Nat):Int)=0)=False:=eq_false (by omega)
   by_cases a3:4≤k
   ·have f3:(((k&&& 4:Nat):Int)=0)=False:=eq_false (by omega)
    have q2:eg p k=eg p k:=rfl
    conv at q2=>lhs;simp only[eg,ks,a1,a2,if_true,if_false]
    refine aQ (aa @f1 (aa @f2 (aa @f3 (aa @i1 @i2)))) ?_
    all_goals try(apply aq;repeat' first|exact ao|apply aa|(apply au;intro zb hc)|(apply ar;intro zb)|intro j')<;>try apply aw
    all_goals first|exact eY h8 hp q2|(simp only[aG,i1];omega)|(simp only[gl,eg,ks,a1,a2,a3,if_true,if_false];done)|exact hp|skip
   ·have f3:(((k&&& 4:Nat):Int)=0)=True:=eq_true (by omega)
    have q2:eg p k=eg p k:=rfl
    conv at q2=>lhs;simp only[eg,ks,a1,a2,if_true,if_false]
    refine aQ (aa @f1 (aa @f2 (aa @f3 (aa @i1 @i2)))) ?_
    all_goals try(apply aq;repeat' first|exact ao|apply aa|(apply au;intro zb hc)|(apply ar;intro zb)|intro j')<;>try apply aw
    all_goals first|exact eY h8 hp q2|(simp only[aG,i1];omega)|(simp only[gl,eg,ks,a1,a2,a3,if_true,if_false];done)|exact hp|skip
  ·have f2:(((k&&& 2:Nat):Int)=0)=True:=eq_true (by omega)
   by_cases a3:4≤k
   ·have f3:(((k&&& 4:Nat):Int)=0)=False:=eq_false (by omega)
    have q2:eg p k=eg p k:=rfl
    conv at q2=>lhs;simp only[eg,ks,a1,a2,if_true,if_false]
    refine aQ (aa @f1 (aa @f2 (aa @f3 (aa @i1 @i2)))) ?_
    all_goals try(apply aq;repeat' first|exact ao|apply aa|(apply au;intro zb hc)|(apply ar;intro zb)|intro j')<;>try apply aw
    all_goals first|exact eY h8 hp q2|(simp only[aG,i1];omega)|(simp only[gl,eg,ks,a1,a2,a3,if_true,if_false];done)|exact hp|skip
   ·have f3:(((k&&& 4:Nat):Int)=0)=True:=eq_true (by omega)
    have q2:eg p k=eg p k:=rfl
    conv at q2=>lhs;simp only[eg,ks,a1,a2,if_true,if_false]
    refine aQ (aa @f1 (aa @f2 (aa @f3 (aa @i1 @i2)))) ?_
    all_goals try(apply aq;repeat' first|exact ao|apply aa|(apply au;intro zb hc)|(apply ar;intro zb)|intro j')<;>try apply aw
    all_goals first|exact eY h8 hp q2|(simp only[aG,i1];omega)|(simp only[gl,eg,ks,a1,a2,a3,if_true,if_false];done)|exact hp|skip
 ·have f1:(((k&&& 1:Nat):Int)=0)=True:=eq_true (by omega)
  by_cases a2:k/2 % 2=1
  ·have f2:(((k&&& 2:Nat):Int)=0)=False:=eq_false (by omega)
   by_cases a3:4≤k
   ·have f3:(((k&&& 4:Nat):Int)=0)=False:=eq_false (by omega)
    have q2:eg p k=eg p k:=rfl
    conv at q2=>lhs;simp only[eg,ks,a1,a2,if_true,if_false]
    refine aQ (aa @f1 (aa @f2 (aa @f3 (aa @i1 @i2)))) ?_
    all_goals try(apply aq;repeat' first|exact ao|apply aa|(apply au;intro zb hc)|(apply ar;intro zb)|intro j')<;>try apply aw
    all_goals first|exact eY h8 hp q2|(simp only[aG,i1];omega)|(simp only[gl,eg,ks,a1,a2,a3,if_true,if_false];done)|exact hp|skip
   ·have f3:(((k&&& 4:Nat):Int)=0)=True:=eq_true (by omega)
    have q2:eg p k=eg p k:=rfl
    conv at q2=>lhs;simp only[eg,ks,a1,a2,if_true,if_false]
    refine aQ (aa @f1 (aa @f2 (aa @f3 (aa @i1 @i2)))) ?_
    all_goals try(apply aq;repeat' first|exact ao|apply aa|(apply au;intro zb hc)|(apply ar;intro zb)|intro j')<;>try apply aw
    all_goals first|exact eY h8 hp q2|(simp only[aG,i1];omega)|(simp only[gl,eg,ks,a1,a2,a3,if_true,if_false];done)|exact hp|skip
  ·have f2:(((k&&& 2:Nat):Int)=0)=True:=eq_true (by omega)
   by_cases a3:4≤k
   ·have f3:(((k&&& 4:Nat):Int)=0)=False:=eq_false (by omega)
    have q2:eg p k=eg p k:=rfl
    conv at q2=>lhs;simp only[eg,ks,a1,a2,if_true,if_false]
    refine aQ (aa @f1 (aa @f2 (aa @f3 (aa @i1 @i2)))) ?_
    all_goals try(apply aq;repeat' first|exact ao|apply aa|(apply au;intro zb hc)|(apply ar;intro zb)|intro j')<;>try apply aw
    all_goals first|exact eY h8 hp q2|(simp only[aG,i1];omega)|(simp only[gl,eg,ks,a1,a2,a3,if_true,if_false];done)|exact hp|skip
   ·have f3:(((k&&& 4:Nat):Int)=0)=True:=eq_true (by omega)
    have q2:eg p k=eg p k:=rfl
    conv at q2=>lhs;simp only[eg,ks,a1,a2,if_true,if_false]
    refine aQ (aa @f1 (aa @f2 (aa @f3 (aa @i1 @i2)))) ?_
    all_goals try(apply aq;repeat' first|exact ao|apply aa|(apply au;intro zb hc)|(apply ar;intro zb)|intro j')<;>try apply aw
    all_goals first|exact eY h8 hp q2|(simp only[aG,i1];omega)|(simp only[gl,eg,ks,a1,a2,a3,if_true,if_false];done)|exact hp|skip
theorem k6 {k:Nat} (h:k<8):oi .i64 ((k:Int).tdiv 2):=by
 show(-9223372036854775808:Int)≤_∧_≤(9223372036854775807:Int)
 rw[Int.tdiv_eq_ediv_of_nonneg (by omega)];omega
theorem mW {m0:Bool} (p:List Int) (k:Nat) (hk:k<8) (h8:p.length≤8) (hp:bD p=true):Fun Tryz.prog 119 [(.sl (.lent m0) (List.map (PV.int .i64) (p))),(.int .i64 (k))] [(.sl .own (List.map (PV.int .i64) (gl p k)))]:=by
 refine fO bA [4] Tryz.func119 ?_
 have cE1:= @gs;have cE2:= @bC;have cE3:= @gZ
 have i1:(AA p).length=p.length:=nw
 have i2:List.take p.length (AA p)=AA p:=ah (by omega)
 by_cases a1:k % 2=1
 ·have f1:((k:Int).tmod 2=1)=True:=eq_true (by rw[Int.tmod_eq_emod_of_nonneg (by omega)];omega)
  by_cases a2:k/2 % 2=1
  ·have f2:(((k:Int).tdiv 2).tmod 2=1)=True:=eq_true (by rw[Int.tdiv_eq_ediv_of_nonneg (by omega),Int.tmod_eq_emod_of_nonneg (by omega)];omega)
   by_cases a3:4≤k
   ·have f3:(4≤(k:Int))=True:=eq_true (by omega)
    have q2:eg p k=eg p k:=rfl
    conv at q2=>lhs;simp only[eg,ks,a1,a2,if_true,if_false]
    refine aQ (aa @f1 (aa @f2 (aa @f3 (aa @i1 @i2)))) ?_
    all_goals try(apply aq;repeat' first|exact ao|apply aa|(apply au;intro zb hc)|(apply ar;intro zb)|intro j')<;>try apply aw
    all_goals first|exact eY h8 hp q2|(simp only[aG,i1];omega)|(simp only[gl,eg,ks,a1,a2,a3,if_true,if_false];done)|exact hp|exact k6 hk|skip
   ·have f3:(4≤(k:Int))=False:=eq_false (by omega)
    have q2:eg p k=eg p k:=rfl
    conv at q2=>lhs;simp only[eg,ks,a1,a2,if_true,if_false]
    refine aQ (aa @f1 (aa @f2 (aa @f3 (aa @i1 @i2)))) ?_
    all_goals try(apply aq;repeat' first|exact ao|apply aa|(apply au;intro zb hc)|(apply ar;intro zb)|intro j')<;>try apply aw
    all_goals first|exact eY h8 hp q2|(simp only[aG,i1];omega)|(simp only[gl,eg,ks,a1,a2,a3,if_true,if_false];done)|exact hp|exact k6 hk|skip
  ·have f2:(((k:Int).tdiv 2).tmod 2=1)=False:=eq_false (by rw[Int.tdiv_eq_ediv_of_nonneg (by omega),Int.tmod_eq_emod_of_nonneg (by omega)];omega)
   by_cases a3:4≤k
   ·have f3:(4≤(k:Int))=True:=eq_true (by omega)
    have q2:eg p k=eg p k:=rfl
    conv at q2=>lhs;simp only[eg,ks,a1,a2,if_true,if_false]
    refine aQ (aa @f1 (aa @f2 (aa @f3 (aa @i1 @i2)))) ?_
    all_goals try(apply aq;repeat' first|exact ao|apply aa|(apply au;intro zb hc)|(apply ar;intro zb)|intro j')<;>try apply aw
    all_goals first|exact eY h8 hp q2|(simp only[aG,i1];omega)|(simp only[gl,eg,ks,a1,a2,a3,if_true,if_false];done)|exact hp|exact k6 hk|skip
   ·have f3:(4≤(k:Int))=False:=eq_false (by omega)
    have q2:eg p k=eg p k:=rfl
    conv at q2=>lhs;simp only[eg,ks,a1,a2,if_true,if_false]
    refine aQ (aa @f1 (aa @f2 (aa @f3 (aa @i1 @i2)))) ?_
    all_goals try(apply aq;repeat' first|exact ao|apply aa|(apply au;intro zb hc)|(apply ar;intro zb)|intro j')<;>try apply aw
    all_goals first|exact eY h8 hp q2|(simp only[aG,i1];omega)|(simp only[gl,eg,ks,a1,a2,a3,if_true,if_false];done)|exact hp|exact k6 hk|skip
 ·have f1:((k:Int).tmod 2=1)=False:=eq_false (by rw[Int.tmod_eq_emod_of_nonneg (by omega)];omega)
  by_cases a2:k/2 % 2=1
  ·have f2:(((k:Int).tdiv 2).tmod 2=1)=True:=eq_true (by rw[Int.tdiv_eq_ediv_of_nonneg (by omega),Int.tmod_eq_emod_of_nonneg (by omega)];omega)
   by_cases a3:4≤k
   ·have f3:(4≤(k:Int))=True:=eq_true (by omega)
    have q2:eg p k=eg p k:=rfl
    conv at q2=>lhs;simp only[eg,ks,a1,a2,if_true,if_false]
    refine aQ (aa @f1 (aa @f2 (aa @f3 (aa @i1 @i2)))) ?_
    all_goals try(apply aq;repeat' first|exact ao|apply aa|(apply au;intro zb hc)|(apply ar;intro zb)|intro j')<;>try apply aw
    all_goals first|exact eY h8 hp q2|(simp only[aG,i1];omega)|(simp only[gl,eg,ks,a1,a2,a3,if_true,if_false];done)|exact hp|exact k6 hk|skip
   ·have f3:(4≤(k:Int))=False:=eq_false (by omega)
    have q2:eg p k=eg p k:=rfl
    conv at q2=>lhs;simp only[eg,ks,a1,a2,if_true,if_false]
    refine aQ (aa @f1 (aa @f2 (aa @f3 (aa @i1 @i2)))) ?_
    all_goals try(apply aq;repeat' first|exact ao|apply aa|(apply au;intro zb hc)|(apply ar;intro zb)|intro j')<;>try apply aw
    all_goals first|exact eY h8 hp q2|(simp only[aG,i1];omega)|(simp only[gl,eg,ks,a1,a2,a3,if_true,if_false];done)|exact hp|exact k6 hk|skip
  ·have f2:(((k:Int).tdiv 2).tmod 2=1)=False:=eq_false (by rw[Int.tdiv_eq_ediv_of_nonneg (by omega),Int.tmod_eq_emod_of_nonneg (by omega)];omega)
   by_cases a3:4≤k
   ·have f3:(4≤(k:Int))=True:=eq_true (by omega)
    have q2:eg p k=eg p k:=rfl
    conv at q2=>lhs;simp only[eg,ks,a1,a2,if_true,if_false]
    refine aQ (aa @f1 (aa @f2 (aa @f3 (aa @i1 @i2)))) ?_
    all_goals try(apply aq;repeat' first|exact ao|apply aa|(apply au;intro zb hc)|(apply ar;intro zb)|intro j')<;>try apply aw
    all_goals first|exact eY h8 hp q2|(simp only[aG,i1];omega)|(simp only[gl,eg,ks,a1,a2,a3,if_true,if_false];done)|exact hp|exact k6 hk|skip
   ·have f3:(4≤(k:Int))=False:=eq_false (by omega)
    have q2:eg p k=eg p k:=rfl
    conv at q2=>lhs;simp only[eg,ks,a1,a2,if_true,if_false]
    refine aQ (aa @f1 (aa @f2 (aa @f3 (aa @i1 @i2)))) ?_
    all_goals try(apply aq;repeat' first|exact ao|apply aa|(apply au;intro zb hc)|(apply ar;intro zb)|intro j')<;>try apply aw
    all_goals first|exact eY h8 hp q2|(simp only[aG,i1];omega)|(simp only[gl,eg,ks,a1,a2,a3,if_true,if_false];done)|exact hp|exact k6 hk|skip
def tx (p:List Int):List (List Int):=if al p then oY ((List.range 8).map (gl p))else[]
theorem uK {p:List Int}:(tx p).length≤8:=by
 unfold tx;split
 ·have:=u7 (L:=(List.range 8).map (gl p));rw[an,List.length_range]at this;exact this
 ·simp
theorem su {p:List Int} (hp:p.length≤1048576):∀l∈tx p,l.length≤1048576:=by
 unfold tx;split
 ·refine u0 fun l hl=> ?_
  obtain⟨k,_,rfl⟩:=List.mem_map.1 hl
  rw[mM];exact hp
 ·intro l hl;cases hl
theorem k8 {m0:Bool} (p:List Int) (hl:p.length≤1048576) (hp:al p=true):Fun Tryz.prog 63 [(.sl (.lent m0) (List.map (PV.int .i64) (p)))] [(.sl .own (List.map (bW false) (tx p)))]:=by
 refine fO bA [2] Tryz.func63 ?_
 have cE1:= @aA;have cE2:= @pe;have cE3:= @qS
 obtain⟨h8,hq⟩:=lQ hp
 refine aQ @hp ?_
 all_goals try(apply aq;repeat' first|exact ao|apply aa|(apply au;intro zb hc)|(apply ar;intro zb)|intro j')<;>try apply aw
 refine az (fun ms1 S1=>∃(k:Nat),S1.e 0=.p (.sl (.lent m0) (List.map (PV.int .i64) (p)))∧OwnL (S1.e 3) S1.h S1.n (bW false) (((List.range k).map (gl p)).length) ((List.range k).map (gl p))∧S1.e 9=.p (.int .i64 (k))∧(k≤8)∧ms1=8 - k) ((fun(k:Nat)=>8 - k) (0)) ?_ ⟨0,dC trivial ?_⟩
 all_goals try(apply aq;repeat' first|exact ao|apply aa|(apply au;intro zb hc)|(apply ar;intro zb)|intro j')<;>try apply aw
 rintro ms1 S1 ⟨k,h1_0,o1_3,h1_9,c1_0,hm1⟩
 obtain⟨i1_3,h1_3,b1_3,l1_3⟩:=o1_3.out
 have ni1_3:=bi (x:=i1_3) (n:=S1.n)
 have fL1:=(aa h1_0 (aa h1_9 (aa h1_3 (aa b1_3 ni1_3))))
 ·have b1:((List.range k).map (gl p)).length=k:=by simp
  refine aQ (aa fL1 @hp) ?_
  all_goals try(apply aq;repeat' first|exact ao|apply aa|(apply au;intro zb hc)|(apply ar;intro zb)|intro j')<;>try apply aw
  ·focus
    refine ay ((fun(k:Nat)=>8 - k) (k+1)) (dC fL1 ?_) ⟨k+1,dC fL1 ?_⟩
    all_goals try(apply aq;repeat' first|exact ao|apply aa|(apply au;intro zb hc)|(apply ar;intro zb)|intro j')<;>try apply aw
   ·simp
   ·rw[aT];rfl
  ·obtain rfl:k=8:=by omega
   intro l h
   obtain⟨k,_,rfl⟩:=List.mem_map.1 h
   rw[mM];exact hl
  ·obtain rfl:k=8:=by omega
   rw[tx,if_pos hp];rfl
def qe:FuncId→List Bool:=fun f=>if f=118 then[true]else[]
theorem Cg {f:FuncId}:qe f=if f=118 then[true]else[]:=_root_.id rfl
theorem zD:gk qe=false∧gG qe=false∧gF qe=false∧gE qe=false∧gH qe=false:=⟨rfl,rfl,rfl,rfl,rfl⟩
attribute [go_sem] Cg zD
theorem kF {m0:Bool} (p:List Int) (hl:p.length≤1048576) (hp:al p=true):Fun Tryz.prog 64 [(.sl (.lent m0) (List.map (PV.int .i64) (p)))] [(.sl .own (List.map (bW false) (tx p)))]:=by
 refine fO qe [2] Tryz.func64 ?_
 have cE1:= @aD;have cE2:= @mW;have cM1:= @ic
 obtain⟨h8,hq⟩:=lQ hp
 refine aQ @hp ?_
 all_goals try(apply aq;repeat' first|exact ao|apply aa|(apply au;intro zb hc)|(apply ar;intro zb)|intro j')<;>try apply aw
 refine az (fun ms1 S1=>∃(k:Nat),S1.e 0=.p (.sl (.lent m0) (List.map (PV.int .i64) (p)))∧OwnL (S1.e 3) S1.h S1.n (bW false) ((oY ((List.range k).map (gl p))).length) (oY ((List.range k).map (gl p)))∧S1.e 4=.p (.int .i64 (k))∧(k≤8)∧ms1=8 - k) ((fun(k:Nat)=>8 - k) (0)) ?_ ⟨0,dC trivial ?_⟩
 all_goals try(apply aq;repeat' first|exact ao|apply aa|(apply au;intro zb hc)|(apply ar;intro zb)|intro j')<;>try apply aw
 rintro ms1 S1 ⟨k,h1_0,o1_3,h1_4,c1_0,hm1⟩
 obtain⟨i1_3,h1_3,b1_3,l1_3⟩:=o1_3.out
 have ni1_3:=bi (x:=i1_3) (n:=S1.n)
 have fL1:=(aa h1_0 (aa h1_4 (aa h1_3 (aa b1_3 ni1_3))))
 ·have b1:=u7 (L:=(List.range k).map (gl p))
  rw[an,List.length_range]at b1
  refine aQ (aa fL1 @hp) ?_
  all_goals try(apply aq;repeat' first|exact ao|apply aa|(apply au;intro zb hc)|(apply ar;intro zb)|intro j')<;>try apply aw
  ·refine u0 fun l h=> ?_
   obtain⟨k,_,rfl⟩:=List.mem_map.1 h
   rw[mM];exact hl
  ·rw[mM];exact hl
  ·focus
    refine ay ((fun(k:Nat)=>8 - k) (k+1)) (dC fL1 ?_) ⟨k+1,dC fL1 ?_⟩
    all_goals try(apply aq;repeat' first|exact ao|apply aa|(apply au;intro zb hc)|(apply ar;intro zb)|intro j')<;>try apply aw
   all_goals rw[←List.range_succ,zX]
  ·obtain rfl:k=8:=by omega
   rw[tx,if_pos hp]
def Fg (p:List Int):List UInt8:=if al p then wL (tx p)else[]
theorem fd {m0:Bool} (p:List Int) (hl:p.length≤1048576):Fun Tryz.prog 22 [(.sl (.lent m0) (List.map (PV.int .i64) (p)))] [(.str (Fg p))]:=by
 refine fO bA [2] Tryz.func22 ?_
 have cE1:= @aA;have cE2:= @k8;have cE3:= @eJ
 have b1:=uK (p:=p)
 have b2:=su hl
 refine aQ trivial ?_
 all_goals try(apply aq;repeat' first|exact ao|apply aa|(apply au;intro zb hc)|(apply ar;intro zb)|intro j')<;>try apply aw
 all_goals(rw[Fg,hc];rfl)
theorem eR {m0:Bool} (p:List Int) (hl:p.length≤1048576):Fun Tryz.prog 23 [(.sl (.lent m0) (List.map (PV.int .i64) (p)))] [(.str (Fg p))]:=by
 refine fO bA [2] Tryz.func23 ?_
 have cE1:= @aD;have cE2:= @kF;have cE3:= @eD
 have b1:=uK (p:=p)
 have b2:=su hl
 refine aQ trivial ?_
 all_goals try(apply aq;repeat' first|exact ao|apply aa|(apply au;intro zb hc)|(apply ar;intro zb)|intro j')<;>try apply aw
 all_goals(rw[Fg,hc];rfl)
theorem df {m0:Bool} (p:List Int) (hl:p.length≤1048576):Fun Tryz.prog 96 [(.sl (.lent m0) (List.map (PV.int .i64) (p)))] [(.bool ((al p&&jx p)))]:=by
 refine fO bA [2] Tryz.func96 ?_
 have cE1:= @aA;have cE2:= @pg
 by_cases hp:al p=true
 ·have h8:=(lQ hp).1
  have hb:=yx hp
  refine aQ (aa @hp @Bool.true_and) ?_
  all_goals try(apply aq;repeat' first|exact ao|apply aa|(apply au;intro zb hc)|(apply ar;intro zb)|intro j')<;>try apply aw
 ·rw[aI]at hp
  refine aQ (aa @hp @Bool.false_and) ?_
  all_goals try(apply aq;repeat' first|exact ao|apply aa|(apply au;intro zb hc)|(apply ar;intro zb)|intro j')<;>try apply aw
theorem drP {b:List UInt8} {s:Cu} {n:Nat} (h:n≤8):al (jF b s n).1=true:=by
 simp only[al,wc,lA,Bool.and_true,decide_eq_true_eq];exact h
def Pp (b:List UInt8) (s:Cu):Int:=[1,1,1,2,(3:Int)].getD (kk b s 5).toNat 0
theorem EH {b:List UInt8} {s:Cu}:1≤Pp b s∧Pp b s≤3:=by
 have q:=iV (b:=b) (s:=s) (n:=5)
 have h:Pp b s∈[1,1,1,2,(3:Int)]:=aF (by simp;omega)
 simp at h;omega
theorem JI {m0:Bool} (b:List UInt8) (s:Cu) (hb:b.length≤1048576):CallT Tryz.prog false 150 [.mu true (cF b s),.pv (.sl (.lent m0) [.int .i64 1,.int .i64 1,.int .i64 1,.int .i64 2,.int .i64 3])] [some (cF b (gi b s 5)),none] [.int .i64 (Pp b s)]:=
 nO (m0:=m0) b s [1,1,1,2,3] hb (by decide) (by decide)
def pH (b:List UInt8) (s:Cu):Nat→List (List Int)×Cu
 |0=>([],s)
 |k+1=>((pH b s k).1++[(jF b (gi b (pH b s k).2 5) (Pp b (pH b s k).2).toNat).1],(jF b (gi b (pH b s k).2 5) (Pp b (pH b s k).2).toNat).2)
theorem ibL_p {b:List UInt8} {s:Cu}:∀{k:Nat},(pH b s k).1.length=k∧∀l∈(pH b s k).1,al l=true
 |0=>by simp[pH]
 |k+1=>by
  obtain⟨h1,h2⟩:=ibL_p (b:=b) (s:=s) (k:=k)
  rw[pH]
  refine⟨by simp[h1],fun x hx=> ?_⟩
  rcases List.mem_append.1 hx with q|q
  ·exact h2 x q
  ·rw[aP]at q;subst q
   have:=EH (b:=b) (s:=(pH b s k).2)
   exact drP (by omega)
def ibT:List (List UInt8):=[[50,52,49,51],[51,49,52,50],[50,52,49,53,51],[50,53,51,49,52],[51,49,53,50,52]]
theorem M4:∀t∈ibT,t.length≤100∧al (eF t)=true:=by decide+kernel
theorem yT (b:List UInt8) (s:Cu) (p:List Int) (hb:b.length≤1048576) (hp:al p=true):(pH b s p.length).1.length=p.length∧(pH b s p.length).1.all al=true:=
 ⟨ibL_p.1,List.all_eq_true.2 ibL_p.2⟩
theorem sL {p:List Int} {L:List (List Int)} (h:o9 L=true) (he:L.length=p.length):(oj p L p.length).length≤8:=by
 rw[ug (by omega)]
 simp only[o9,Bool.and_eq_true,decide_eq_true_eq]at h
 have:=fD (L:=L) (j:=p.length)
 omega
theorem mV (b:List UInt8) (s:Cu) (hb:b.length≤1048576):∃s' p,CallT Tryz.prog false 109 [.mu true (cF b s)] [some (cF b s')] [.sl .own (List.map (PV.int .i64) p)]∧p.length≤1048576:=by
 have q:=iV (b:=b) (s:=s) (n:=5)
 obtain⟨N,hN⟩:∃N:Nat,kk b s 5=(N:Int):=Int.eq_ofNat_of_zero_le (by omega)
 rw[hN]at q
 have hN4:N<5:=by omega
 have nn:(1+(N:Int)).toNat=N+1:=by omega
 obtain⟨s2,hs2⟩:∃s2,(jF b (gi b s 5) (N+1)).2=s2:=⟨_,rfl⟩
 obtain⟨x,hx⟩:∃x,kk b s2 2=x:=⟨_,rfl⟩
 by_cases h0:x=0
 ·subst h0
  obtain⟨s3,t,c1,ht⟩:=rY (m0:=true) b (gi b s2 2) ibT hb (by decide) (by decide)
  obtain⟨t1,hp⟩:=M4 t ht
  simp only[ibT,List.map_cons,List.map_nil]at c1
  generalize hP:eF t=P at*
  obtain⟨L,hL⟩:∃L,(pH b s3 P.length).1=L:=⟨_,rfl⟩
  obtain⟨y1,y2⟩:=yT b s3 P hb hp
  rw[hL]at y1 y2
  have y3:∀l∈L,l.length≤8:=fun l hl=>(lQ (List.all_eq_true.1 y2 l hl)).1
  have h8:=(lQ hp).1
  refine⟨(pH b s3 P.length).2,if o9 L=true then oj P L P.length else P, ?_,by split;exact Nat.le_trans (sL (by assumption) y1) (by decide);omega⟩
  refine fX fV [2] Tryz.func109 ?_
  have cE1:= @bO;have cE2:= @jH;have cM1:= @bf;have cM2:= @dT;have cM3:= @bw
  have cM4:= @c1
  refine aQ (aa @hN (aa @nn (aa @hs2 (aa @hx @hP)))) ?_
  all_goals try(apply aq;repeat' first|exact ao|apply aa|(apply au;intro zb hc;repeat (have zc:=zb.1;replace zb:=zb.2))|(apply ar;intro zb)|intro j')<;>try apply aw
  refine az (fun ms1 S1=>∃(k:Nat),S1.e 0=.ptr 0 0∧S1.h 0=.live true (cF b (pH b s3 k).2)∧0<S1.n∧OwnL (S1.e 3) S1.h S1.n (PV.int .i64) ((P).length) (P)∧OwnL (S1.e 4) S1.h S1.n (bW false) (((pH b s3 k).1).length) ((pH b s3 k).1)∧S1.e 5=.p (.int .i64 (k))∧(k≤P.length)∧NId (S1.e 4) (S1.e 3)∧NId (S1.e 3) (.ref 0 0 0)∧NId (S1.e 4) (.ref 0 0 0)∧ms1=P.length - k) ((fun(k:Nat)=>P.length - k) (0)) ?_ ⟨0,dC trivial ?_⟩
  all_goals try(apply aq;repeat' first|exact ao|apply aa|(apply au;intro zb hc;repeat (have zc:=zb.1;replace zb:=zb.2))|(apply ar;intro zb)|intro j')<;>try apply aw
  rintro ms1 S1 ⟨k,h1_0,b1_0,l1_0,o1_3,o1_4,h1_5,c1_0,u1_0,u1_1,u1_2,hm1⟩
  obtain⟨i1_3,h1_3,b1_3,l1_3⟩:=o1_3.out
  obtain⟨i1_4,h1_4,b1_4,l1_4⟩:=o1_4.out
  have k1_0:=(u1_0).out h1_4 h1_3
  have k1_1:=(u1_1).out h1_3 rfl
  have k1_2:=(u1_2).out h1_4 rfl
  have ni1_3:=bi (x:=i1_3) (n:=S1.n)
  have ni1_4:=bi (x:=i1_4) (n:=S1.n)
  have n0:=bi (x:=0) (n:=S1.n)
  have di1_3i1_4:=ds (x:=i1_3) (y:=i1_4)
  have di1_30:=ds (x:=i1_3) (y:=0)
  have di1_40:=ds (x:=i1_4) (y:=0)
  have fL1:=(aa h1_0 (aa b1_0 (aa h1_5 (aa h1_3 (aa b1_3 (aa h1_4 (aa b1_4 (aa ni1_3 (aa ni1_4 (aa n0 (aa di1_3i1_4 (aa di1_30 di1_40))))))))))))
  ·obtain⟨w1,w2⟩:=ibL_p (b:=b) (s:=s3) (k:=k)
   by_cases hk:k<P.length
   ·have g5:=EH (b:=b) (s:=(pH b s3 k).2)
    have cM4:= @JI
    refine aQ fL1 ?_
    all_goals try(apply aq;repeat' first|exact ao|apply aa|(apply au;intro zb hc;repeat (have zc:=zb.1;replace zb:=zb.2))|(apply ar;intro zb)|intro j')<;>try apply aw
    focus
     refine ay ((fun(k:Nat)=>P.length - k) (k+1)) (dC fL1 ?_) ⟨k+1,dC fL1 ?_⟩
     all_goals try(apply aq;repeat' first|exact ao|apply aa|(apply au;intro zb hc;repeat (have zc:=zb.1;replace zb:=zb.2))|(apply ar;intro zb)|intro j')<;>try apply aw
    all_goals(first|(rw[ibL_p.1,ibL_p.1];done)|skip)
   ·obtain rfl:k=P.length:=by omega
    cases ho:o9 L with
    |true=>
     have z1:(if true=true then oj P L P.length else[])=oj P L P.length:=if_pos rfl
     have z2:(if true=true then oj P L P.length else P)=oj P L P.length:=if_pos rfl
     have cM4:=trivial
     refine aQ (aa fL1 (aa @hL (aa @ho (aa @z1 (aa @z2 (aa @hp @y2)))))) ?_
     all_goals try(apply aq;repeat' first|exact ao|apply aa|(apply au;intro zb hc;repeat (have zc:=zb.1;replace zb:=zb.2))|(apply ar;intro zb)|intro j')<;>try apply aw
    |false=>
     have z1:(if false=true then oj P L P.length else[])=[]:=if_neg (by decide)
     have z2:(if false=true then oj P L P.length else P)=P:=if_neg (by decide)
     have cM4:=trivial
     refine aQ (aa fL1 (aa @hL (aa @ho (aa @z1 (aa @z2 (aa @hp @y2)))))) ?_
     all_goals try(apply aq;repeat' first|exact ao|apply aa|(apply au;intro zb hc;repeat (have zc:=zb.1;replace zb:=zb.2))|(apply ar;intro zb)|intro j')<;>try apply aw
 ·have f0:(x=0)=False:=eq_false h0
  have hp:al (jF b (gi b s 5) (N+1)).1=true:=drP (by omega)
  generalize hP:(jF b (gi b s 5) (N+1)).1=P at*
  obtain⟨L,hL⟩:∃L,(pH b (gi b s2 2) P.length).1=L:=⟨_,rfl⟩
  obtain⟨y1,y2⟩:=yT b (gi b s2 2) P hb hp
  rw[hL]at y1 y2
  have y3:∀l∈L,l.length≤8:=fun l hl=>(lQ (List.all_eq_true.1 y2 l hl)).1
  have h8:=(lQ hp).1
  refine⟨(pH b (gi b s2 2) P.length).2,if o9 L=true then oj P L P.length else P, ?_,by split;exact Nat.le_trans (sL (by assumption) y1) (by decide);omega⟩
  refine fX fV [2] Tryz.func109 ?_
  have cE1:= @bO;have cE2:= @jH;have cM1:= @bf;have cM2:= @dT;have cM3:= @bw
  refine aQ (aa @hN (aa @nn (aa @hs2 (aa @hx (aa @f0 @hP))))) ?_
  all_goals try(apply aq;repeat' first|exact ao|apply aa|(apply au;intro zb hc;repeat (have zc:=zb.1;replace zb:=zb.2))|(apply ar;intro zb)|intro j')<;>try apply aw
  refine az (fun ms1 S1=>∃(k:Nat),S1.e 0=.ptr 0 0∧S1.h 0=.live true (cF b (pH b (gi b s2 2) k).2)∧0<S1.n∧OwnL (S1.e 3) S1.h S1.n (PV.int .i64) ((P).length) (P)∧OwnL (S1.e 4) S1.h S1.n (bW false) (((pH b (gi b s2 2) k).1).length) ((pH b (gi b s2 2) k).1)∧S1.e 5=.p (.int .i64 (k))∧(k≤P.length)∧NId (S1.e 4) (S1.e 3)∧NId (S1.e 3) (.ref 0 0 0)∧NId (S1.e 4) (.ref 0 0 0)∧ms1=P.length - k) ((fun(k:Nat)=>P.length - k) (0)) ?_ ⟨0,dC trivial ?_⟩
  all_goals try(apply aq;repeat' first|exact ao|apply aa|(apply au;intro zb hc;repeat (have zc:=zb.1;replace zb:=zb.2))|(apply ar;intro zb)|intro j')<;>try apply aw
  rintro ms1 S1 ⟨k,h1_0,b1_0,l1_0,o1_3,o1_4,h1_5,c1_0,u1_0,u1_1,u1_2,hm1⟩
  obtain⟨i1_3,h1_3,b1_3,l1_3⟩:=o1_3.out
  obtain⟨i1_4,h1_4,b1_4,l1_4⟩:=o1_4.out
  have k1_0:=(u1_0).out h1_4 h1_3
  have k1_1:=(u1_1).out h1_3 rfl
  have k1_2:=(u1_2).out h1_4 rfl
  have ni1_3:=bi (x:=i1_3) (n:=S1.n)
  have ni1_4:=bi (x:=i1_4) (n:=S1.n)
  have n0:=bi (x:=0) (n:=S1.n)
  have di1_3i1_4:=ds (x:=i1_3) (y:=i1_4)
  have di1_30:=ds (x:=i1_3) (y:=0)
  have di1_40:=ds (x:=i1_4) (y:=0)
  have fL1:=(aa h1_0 (aa b1_0 (aa h1_5 (aa h1_3 (aa b1_3 (aa h1_4 (aa b1_4 (aa ni1_3 (aa ni1_4 (aa n0 (aa di1_3i1_4 (aa di1_30 di1_40))))))))))))
  ·obtain⟨w1,w2⟩:=ibL_p (b:=b) (s:=(gi b s2 2)) (k:=k)
   by_cases hk:k<P.length
   ·have g5:=EH (b:=b) (s:=(pH b (gi b s2 2) k).2)
    have cM4:= @JI
    refine aQ fL1 ?_
    all_goals try(apply aq;repeat' first|exact ao|apply aa|(apply au;intro zb hc;repeat (have zc:=zb.1;replace zb:=zb.2))|(apply ar;intro zb)|intro j')<;>try apply aw
    focus
     refine ay ((fun(k:Nat)=>P.length - k) (k+1)) (dC fL1 ?_) ⟨k+1,dC fL1 ?_⟩
     all_goals try(apply aq;repeat' first|exact ao|apply aa|(apply au;intro zb hc;repeat (have zc:=zb.1;replace zb:=zb.2))|(apply ar;intro zb)|intro j')<;>try apply aw
    all_goals(first|(rw[ibL_p.1,ibL_p.1];done)|skip)
   ·obtain rfl:k=P.length:=by omega
    cases ho:o9 L with
    |true=>
     have z1:(if true=true then oj P L P.length else[])=oj P L P.length:=if_pos rfl
     have z2:(if true=true then oj P L P.length else P)=oj P L P.length:=if_pos rfl
     have cM4:=trivial
     refine aQ (aa fL1 (aa @hL (aa @ho (aa @z1 (aa @z2 (aa @hp @y2)))))) ?_
     all_goals try(apply aq;repeat' first|exact ao|apply aa|(apply au;intro zb hc;repeat (have zc:=zb.1;replace zb:=zb.2))|(apply ar;intro zb)|intro j')<;>try apply aw
    |false=>
     have z1:(if false=true then oj P L P.length else[])=[]:=if_neg (by decide)
     have z2:(if false=true then oj P L P.length else P)=P:=if_neg (by decide)
     have cM4:=trivial
     refine aQ (aa fL1 (aa @hL (aa @ho (aa @z1 (aa @z2 (aa @hp @y2)))))) ?_
     all_goals try(apply aq;repeat' first|exact ao|apply aa|(apply au;intro zb hc;repeat (have zc:=zb.1;replace zb:=zb.2))|(apply ar;intro zb)|intro j')<;>try apply aw
theorem rV (b:List UInt8) (s:Cu) (hb:b.length≤1048576):∃s' p,CallT Tryz.prog false 52 [.mu true (cF b s)] [some (cF b s')] [.sl .own (List.map (PV.int .i64) p)]∧p.length≤1048576:=by
 obtain⟨x,hx⟩:∃x,kk b s 3=x:=⟨_,rfl⟩
 by_cases h0:x=0
 ·subst h0
  obtain⟨s1,p,c1,hp⟩:=ju b (gi b s 3) hb
  refine⟨s1,p, ?_,Nat.le_trans hp.len (by decide)⟩
  refine fX fV [2] Tryz.func52 ?_
  have cM1:= @bw
  have cM2:= @c1
  refine aQ @hx ?_
  all_goals try(apply aq;repeat' first|exact ao|apply aa|(apply au;intro zb hc)|(apply ar;intro zb)|intro j')<;>try apply aw
 ·have f0:(x=0)=False:=eq_false h0
  obtain⟨s1,p,c1,hp⟩:=mV b (gi b s 3) hb
  refine⟨s1,p, ?_,hp⟩
  refine fX fV [2] Tryz.func52 ?_
  have cM1:= @bw
  have cM2:= @c1
  refine aQ (aa @hx @f0) ?_
  all_goals try(apply aq;repeat' first|exact ao|apply aa|(apply au;intro zb hc)|(apply ar;intro zb)|intro j')<;>try apply aw
section
variable {α:Type} {f:α→PV} {m:Bool} {cs:List Nat} {L:List (Option (List α))} {h:Nat→Blk} {k:Nat} {C:R→Prop}
def iZ (f:α→PV) (m:Bool) (cs:List Nat) (L:List (Option (List α))):Blk:=.deep m (cs.map .row) (L.map (Option.map (List.map f)))
def Ix (f:α→PV) (m:Bool) (cs:List Nat) (L:List (Option (List α))):Blk:=.deep m (cs.map .row++[.v (.sl .own [])]) (L.map (Option.map (List.map f)))
theorem Oh {L:List (List α)}:dk f m L=iZ f m (List.range L.length) (L.map some):=by
 simp only[dk,iZ,canon,List.map_map];rfl
theorem mz {r:Nat}:(L.map (Option.map (List.map f)))[r]? =(L[r]?).map (Option.map (List.map f)):=ax ..
def WZ (id r:Nat):Option (Option (List α))→AV
 |some (some l)=>.inn id r 0 l.length
 |_=>.p .any
theorem OX {id r:Nat} {l:List α}:WZ id r (some (some l))=.inn id r 0 l.length:=_root_.id rfl
theorem V9 {id r:Nat}:DC.av id (L.map (Option.map (List.map f))) (.row r)=WZ id r (L[r]?):=by
 simp only[DC.av,mz]
 cases L[r]? with
 |none=>rfl
 |some o=>cases o with
  |none=>rfl
  |some l=>simp[WZ]
theorem Tx {id off:Nat}:sc (iZ f m cs L) id off C=(off<cs.length∧C ⟨WZ id (cs.getD off 0) (L[cs.getD off 0]?),[],[id]⟩):=by
 simp only[sc,iZ,gt,Int.toNat_natCast,Int.natCast_nonneg,true_and,KD,ax]
 by_cases ho:off<cs.length
 ·rw[ae ho,ac,ae ho]
  simp only[Option.map_some,V9,ho,true_and,Option.getD_some]
 ·rw[aO (by omega)];simp[ho]
theorem Jt {id off:Nat} (h:off=cs.length):sc (Ix f m cs L) id off C=C ⟨.p (.sl .own []),[],[id]⟩:=by
 subst h
 simp[sc,Ix,gt,KD,DC.av]
def ldO (f:α→PV) (id off:Nat) (C:R→Prop):Option (Option (List α))→Prop
 |some (some l)=>gt (l.map f) off (KX id C)
 |_=>False
theorem MA {id off:Nat} {l:List α}:ldO f id off C (some (some l))=gt (l.map f) off (KX id C):=_root_.id rfl
theorem Tv {id r off:Nat}:Pi (iZ f m cs L) id r off C=ldO f id off C (L[r]?):=by
 simp only[Pi,iZ,mz]
 cases L[r]? with
 |none=>rfl
 |some o=>cases o<;>rfl
def ctO (f:α→PV) (id off len:Nat) (F:List PV→List Nat→Prop):Option (Option (List α))→Prop
 |some (some l)=>off+len≤l.length∧F (((l.map f).drop off).take len) [id]
 |_=>False
theorem OE {id off len:Nat} {F:List PV→List Nat→Prop} {l:List α}:ctO f id off len F (some (some l))=(off+len≤l.length∧F (((l.map f).drop off).take len) [id]):=_root_.id rfl
theorem OC {id r off len:Nat} {F:List PV→List Nat→Prop}:JG (iZ f m cs L) id r off len F=ctO f id off len F (L[r]?):=by
 simp only[JG,iZ,mz]
 cases L[r]? with
 |none=>rfl
 |some o=>cases o with
  |none=>rfl
  |some l=>simp[ctO]
def M3 (f:α→PV) (id off len:Nat) (F:PV→List Nat→Prop):Option (Option (List α))→Prop
 |some (some l)=>off+len≤l.length∧F (.sl (.lent true) (((l.map f).drop off).take len)) [id]
 |_=>False
theorem Hg {id off len:Nat} {F:PV→List Nat→Prop} {l:List α}:M3 f id off len F (some (some l))=(off+len≤l.length∧F (.sl (.lent true) (((l.map f).drop off).take len)) [id]):=_root_.id rfl
theorem TX {id r off len:Nat} {F:PV→List Nat→Prop}:Be (iZ f m cs L) id r off len F=M3 f id off len F (L[r]?):=by
 simp only[Be,iZ,mz]
 cases L[r]? with
 |none=>rfl
 |some o=>cases o with
  |none=>rfl
  |some l=>simp only[Option.map_some,M3,an];rfl
def W0 (f:α→PV) (m:Bool) (cs:List Nat) (L:List (Option (List α))) (id r len k:Nat) (C:R→Prop) (ys:List PV) (rd:List Nat):Option (Option (List α))→Prop
 |some (some l)=>len=l.length∧id∉rd∧len+ys.length≤1099511627776∧C ⟨.ref k 0 (len+ys.length),[(id,iZ f m cs (L.set r none)),(k,.live m (l.map f++ys))],id::rd⟩
 |_=>False
theorem EM {id r len:Nat} {ys:List PV} {rd:List Nat} {l:List α}:W0 f m cs L id r len k C ys rd (some (some l))=(len=l.length∧id∉rd∧len+ys.length≤1099511627776∧C ⟨.ref k 0 (len+ys.length),[(id,iZ f m cs (L.set r none)),(k,.live m (l.map f++ys))],id::rd⟩):=_root_.id rfl
theorem EK {id r len:Nat} {ys:List PV} {rd:List Nat}:Pr (iZ f m cs L) id r len k C ys rd=W0 f m cs L id r len k C ys rd (L[r]?):=by
 simp only[Pr,iZ,mz]
 have e:(L.map (Option.map (List.map f))).set r none=(L.set r none).map (Option.map (List.map f)):=by rw[List.map_set];rfl
 cases L[r]? with
 |none=>rfl
 |some o=>cases o with
  |none=>rfl
  |some l=>simp only[Option.map_some,W0,an,iZ,e]
theorem BT {m':Bool} {l:List α} {id off id' off' len:Nat}:kC (iZ f m cs L) (.live m' (l.map f)) id off id' off' len C=((m'=true→m=true)∧off'=0∧len=l.length∧off<cs.length∧id'≠id∧C ⟨.p .any,[(id',.dead),(id,iZ f m (cs.set off L.length) (L++[some l]))],[id,id']⟩):=by
 simp only[kC,iZ,an,aT,List.map_set,List.map_cons,List.map_nil,Option.map_some]
theorem Kh {m':Bool} {l:List α} {id off id' off' len:Nat} (h:off=cs.length):kC (Ix f m cs L) (.live m' (l.map f)) id off id' off' len C=((m'=true→m=true)∧off'=0∧len=l.length∧id'≠id∧C ⟨.p .any,[(id',.dead),(id,iZ f m (cs++[L.length]) (L++[some l]))],[id,id']⟩):=by
 subst h
 have e:(cs.map DC.row++[DC.v (.sl .own [])]).set cs.length (.row L.length)=(cs++[L.length]).map .row:=by
  rw[List.set_append_right _ _ (by simp)];simp
 simp only[kC,Ix,iZ,an,ak,List.length_singleton,e,aT,List.map_cons,List.map_nil,Option.map_some,Nat.lt_succ_self,true_and]
def Pg (b:Blk) (id r off:Nat) (v:PV) (C:R→Prop):Prop:=v.cell.cellOk=true∧(match b with
  | .deep m cs rs=>(match rs[r]? with
   |some (some c)=>off<c.length∧C ⟨.p .any,[(id,.deep m cs (rs.set r (some (c.set off v.cell))))],[id]⟩
   |_=>False)
  |_=>False)
theorem Fk {id r off:Nat} {v:PV}:wD (some (1,false)) h (.iptr id r off) (.p v) C=Pg (h id) id r off v C:=by
 simp only[wD,zV,Pg,true_and]
 cases h id<;>rfl
def Zg (m:Bool) (cs:List Nat) (L:List (Option (List Int))) (id r off:Nat) (n:Int) (C:R→Prop):Option (Option (List Int))→Prop
 |some (some l)=>off<l.length∧C ⟨.p .any,[(id,iZ (PV.int .i64) m cs (L.set r (some (l.set off n))))],[id]⟩
 |_=>False
theorem KI {L:List (Option (List Int))} {id r off:Nat} {n:Int} {l:List Int}:Zg m cs L id r off n C (some (some l))=(off<l.length∧C ⟨.p .any,[(id,iZ (PV.int .i64) m cs (L.set r (some (l.set off n))))],[id]⟩):=_root_.id rfl
theorem RO {L:List (Option (List Int))} {id r off:Nat} {n:Int}:Pg (iZ (PV.int .i64) m cs L) id r off (.int .i64 n) C=Zg m cs L id r off n C (L[r]?):=by
 simp only[Pg,iZ,mz,PV.cell,PV.cellOk,true_and]
 cases L[r]? with
 |none=>rfl
 |some o=>cases o with
  |none=>rfl
  |some l=>
   have e:(L.map (Option.map (List.map (PV.int .i64)))).set r (some ((l.map (PV.int .i64)).set off (.int .i64 n)))=(L.set r (some (l.set off n))).map (Option.map (List.map (PV.int .i64))):=by
    rw[List.map_set,Option.map_some,List.map_set]
   simp only[Option.map_some,Zg,an,e,iZ]
theorem RP {L:List (List Int)} {id r off:Nat} {n:Int}:Pg (dk (PV.int .i64) m L) id r off (.int .i64 n) C=(r<L.length∧off<(L.getD r []).length∧C ⟨.p .any,[(id,dk (PV.int .i64) m (L.set r ((L.getD r []).set off n)))],[id]⟩):=by
 simp only[Pg,dk,PV.cell,PV.cellOk,true_and]
 by_cases hr:r<L.length
 ·rw[d5 hr]
  have e:(L.map fun l=>some (l.map (PV.int .i64))).set r (some (((L.getD r []).map (PV.int .i64)).set off (.int .i64 n)))=(L.set r ((L.getD r []).set off n)).map fun l=>some (l.map (PV.int .i64)):=by
   rw[List.map_set,List.map_set]
  simp only[hr,true_and,an,e,List.length_set]
 ·rw[aO (by simp;omega)];simp[hr]
theorem ov:(cs.map DC.row).all DC.noSelf=true:=by rw[List.all_eq_true];intro x hx;obtain⟨_,_,rfl⟩:=List.mem_map.1 hx;rfl
theorem Ue {n:Nat} {q:Nat}:(canon n).map (DC.up q)=((List.range n).map (q+·)).map .row:=by
 simp only[canon,List.map_map];rfl
theorem Wi {L':List (List α)} {id len j n:Nat}:zy (iZ f m cs L) (dk f false L') id len j n k C=(n=L'.length∧id≠j∧len=cs.length∧len+n≤1099511627776∧
  C ⟨.ref k 0 (len+n),[(j,.dead),(id,.dead),(k,iZ f m (cs++(List.range L'.length).map (L.length+·)) (L++L'.map some))],[id,j]⟩):=by
 simp only[zy,dk,iZ,c5,iw,ov,an,true_and,Ue,aT]
 rw[show(L'.map fun l=>some (l.map f))=(L'.map some).map (Option.map (List.map f))by rw[List.map_map];rfl]
theorem Wj {id len j n:Nat}:zy (iZ f m cs L) (.deep false [.v (.sl .own [])] []) id len j n k C=(n=1∧id≠j∧len=cs.length∧len+n≤1099511627776∧
  C ⟨.ref k 0 (len+n),[(j,.dead),(id,.dead),(k,Ix f m cs L)],[id,j]⟩):=by
 simp only[zy,iZ,Ix,ov,an,List.length_singleton,List.all_cons,List.all_nil,DC.noSelf,Bool.and_self,true_and,List.map_cons,List.map_nil,DC.up,aN]
theorem Wk {id len j n:Nat}:zy (iZ f m cs L) (.deep false [.row 0] [some []]) id len j n k C=(n=1∧id≠j∧len=cs.length∧len+n≤1099511627776∧
  C ⟨.ref k 0 (len+n),[(j,.dead),(id,.dead),(k,iZ f m (cs++[L.length]) (L++[some []]))],[id,j]⟩):=by
 simp only[zy,iZ,ov,an,List.length_singleton,List.all_cons,List.all_nil,DC.noSelf,Bool.and_self,true_and,List.map_cons,List.map_nil,DC.up,Nat.add_zero,aT,Option.map_some,List.map_nil]
theorem DM {β:Type} {l:List β} {i:Nat} {x d:β} (h:i<l.length):(l.set i x).getD i d=x:=by rw[ac,List.getElem?_set_self h];rfl
theorem DL {β:Type} {l:List β} {i j:Nat} {x d:β} (h:i≠j):(l.set i x).getD j d=l.getD j d:=by rw[ac,List.getElem?_set_ne h,←ac]
theorem Jy {β:Type} {l:List β} {j:Nat} {x d:β} (h:j<l.length):(l++[x]).getD j d=l.getD j d:=by rw[ac,aE h,←ac]
theorem DR {β:Type} {l:List β} {j:Nat} {x d:β} (h:j=l.length):(l++[x]).getD j d=x:=by
 subst h;rw[ac,aM (am _),Nat.sub_self];rfl
theorem DP {β:Type} {l:List β} {j:Nat} {x:β} (h:j=l.length):(l++[x])[j]? =some x:=by
 subst h;rw[aM (am _),Nat.sub_self];rfl
structure Tb (cs:List Nat) (L:List (Option (List α))) (T:List (List α)):Prop where
 len:cs.length=T.length
 at_:∀i,i<T.length→L[cs.getD i 0]? =some (some (T.getD i []))
 nd:cs.Nodup
 lt:∀r∈cs,r<L.length
theorem Tb.nil:Tb (α:=α) [] [] []:=⟨rfl,fun i hi=>absurd hi (by simp),List.nodup_nil,fun r hr=>by cases hr⟩
theorem BI {T:List (List α)}:Tb (List.range T.length) (T.map some) T:=by
 refine⟨by simp,fun i hi=> ?_,List.nodup_range,fun r hr=>by simpa using hr⟩
 rw[ac,List.getElem?_range hi,Option.getD_some,ax,ae hi,ac,ae hi];rfl
theorem Jx {cs:List Nat} (hn:cs.Nodup) {i j:Nat} (hi:i<cs.length) (hj:j<cs.length) (e:i≠j):cs.getD i 0≠cs.getD j 0:=by
 rw[ac,ac,ae hi,ae hj]
 intro q
 exact e ((List.getElem_inj hn).1 q)
theorem xA {cs:List Nat} {i:Nat} (hi:i<cs.length):cs.getD i 0∈cs:=by
 rw[ac,ae hi];exact List.getElem_mem hi
theorem Kf {T:List (List α)} {i:Nat} {l:List α} (h:Tb cs L T) (hi:i<T.length):Tb cs (L.set (cs.getD i 0) (some l)) (T.set i l):=by
 have hl:=h.len
 refine⟨by rw[List.length_set];exact hl,fun j hj=> ?_,h.nd,fun r hr=>by rw[List.length_set];exact h.lt r hr⟩
 rw[List.length_set]at hj
 rw[List.getElem?_set]
 by_cases e:i=j
 ·subst e
  rw[if_pos rfl,if_pos (h.lt _ (xA (by omega))),DM hj]
 ·rw[if_neg (Jx h.nd (by omega) (by omega) e),h.at_ j hj,DL e]
theorem mK {T:List (List α)} {i:Nat} {l:List α} (h:Tb cs L T) (hi:i<T.length):Tb (cs.set i (L.set (cs.getD i 0) none).length) (L.set (cs.getD i 0) none++[some l]) (T.set i l):=by
 have hl:=h.len
 refine⟨by rw[List.length_set,List.length_set];exact hl,fun j hj=> ?_, ?_,fun r hr=> ?_⟩
 ·rw[List.length_set]at hj
  by_cases e:i=j
  ·subst e
   rw[DM (by omega),DP rfl,DM hj]
  ·have h1:=h.lt _ (xA (cs:=cs) (i:=j) (by omega))
   rw[DL e,aE (by rw[List.length_set];exact h1),List.getElem?_set_ne (Jx h.nd (by omega) (by omega) e),h.at_ j hj,DL e]
 ·rw[List.length_set]
  refine List.nodup_iff_pairwise_ne.2 ?_
  rw[List.pairwise_iff_getElem]
  intro a b ha hb hab
  rw[List.length_set]at ha hb
  rw[List.getElem_set,List.getElem_set]
  have g:∀q (hq:q<cs.length),cs[q]<L.length:=fun q hq=>h.lt _ (List.getElem_mem hq)
  have:=g a ha;have:=g b hb
  split<;>split
  ·omega
  ·omega
  ·omega
  ·exact fun q=>by have:=(List.getElem_inj h.nd).1 q;omega
 ·rcases List.mem_or_eq_of_mem_set hr with q|q
  ·have:=h.lt r q;simp;omega
  ·rw[q];simp
theorem tu {T:List (List α)} {l:List α} (h:Tb cs L T):Tb (cs++[L.length]) (L++[some l]) (T++[l]):=by
 have hl:=h.len
 refine⟨by simp[hl],fun j hj=> ?_, ?_,fun r hr=> ?_⟩
 ·by_cases e:j<T.length
  ·have h1:=h.lt _ (xA (cs:=cs) (i:=j) (by omega))
   rw[Jy (by omega),aE h1,h.at_ j e,Jy e]
  ·simp only[ak,List.length_singleton]at hj
   obtain rfl:j=T.length:=by omega
   rw[DR (j:=T.length) hl.symm,DP rfl,DR rfl]
 ·rw[List.nodup_append]
  refine⟨h.nd,by simp,fun a ha b hb e=> ?_⟩
  simp at hb;subst hb;subst e
  exact absurd (h.lt _ ha) (Nat.lt_irrefl _)
 ·rcases List.mem_append.1 hr with q|q
  ·have:=h.lt r q;simp;omega
  ·simp at q;subst q;simp
theorem y8 {F:List (Nat×Nat×Pl)→Prop} {tk:Bool} {id len:Nat} {T:List (List α)} {rows:List (List PV)} (h:Tb cs L T) (hm:m=true→tk=true) (hr:rows=T.map (List.map f)) (hl:len=T.length) (hF:F [(k,id,.d 0 (cs.map some))]):wG (iZ f m cs L) tk k id 0 len rows F:=by
 subst hl
 have hc:=h.len
 simp only[wG,iZ,Nat.zero_add,List.drop_zero,an]
 refine⟨by omega,hm,cs.map some, ?_, ?_,hF⟩
 ·rw[ah (by simp;omega),hr]
  refine lq (fun i hi=>⟨cs.getD i 0, ?_, ?_⟩) (by simp[hc])
  ·rw[ac,ae hi];rfl
  ·rw[mz,h.at_ i (by omega),ax,ac,ae (by omega)];rfl
 ·rw[List.filterMap_map]
  simpa[Function.comp_def]using h.nd
theorem UF:qX (iZ f m cs L)=m:=_root_.id rfl
def GwnL (v:AV) (h:Nat→Blk) (n:Nat) (f:α→PV) (cs:List Nat) (L:List (Option (List α))):Prop:=∃id,v=.ref id 0 cs.length∧h id=iZ f false cs L∧id<n
theorem GwnL.out {v:AV} {n:Nat} (ho:GwnL v h n f cs L):∃id,v=.ref id 0 cs.length∧h id=iZ f false cs L∧id<n:=ho
def WP (b:Blk) (f:α→PV) (cs:List Nat) (L:List (Option (List α))):Prop:=b=iZ f false cs L
theorem Hp {n id len':Nat}:GwnL (.ref id 0 len') h n f cs L=(len'=cs.length∧WP (h id) f cs L∧id<n):=by
 unfold GwnL WP
 apply propext;constructor
 ·rintro⟨i,e1,e2,e3⟩;cases e1;exact⟨rfl,e2,e3⟩
 ·rintro⟨e1,e2,e3⟩;exact⟨id,by rw[e1],e2,e3⟩
theorem M9 {cs':List Nat} {L':List (Option (List α))}:WP (iZ f false cs' L') f cs L=(iZ f false cs' L'=iZ f false cs L):=_root_.id rfl
theorem T3:WP (.deep false [] []) f ([]:List Nat) ([]:List (Option (List α))):=_root_.id rfl
end
attribute [go_sem] OX Tx MA Tv OE OC Hg TX EM EK BT Fk KI RO RP Wi Wj Wk UF Hp M9 T3
end Go.Gl
namespace Go.Gl
open Go Go.Proofs
variable [Amb] [NoQ]
@[reducible] def EO (w:World) (g:Nat):Amb:=⟨fun B=>if B=g then w.heap[B]? else none,false⟩
theorem Wb {w:World} {g B:Nat} {o:Obj} (h:(EO w g).tb B=some o):w.heap[B]? =some o:=by
 have h:(if B=g then w.heap[B]? else none)=some o:=h
 split at h
 ·exact h
 ·cases h
class TabA [Amb]:Prop where
 has:∀w:World,(∀B o,Amb.tb B=some o→w.heap[B]? =some o)→Lib.TabIs Tryz.prog w "internal/strconv.uint64pow10" .u64 Lib.pow10Tab
theorem Pt {w:World} {g:Nat} (hg:Tryz.prog.globalNamed "internal/strconv.uint64pow10" =some g) (h:Lib.TabIs Tryz.prog w "internal/strconv.uint64pow10" .u64 Lib.pow10Tab): @TabA (EO w g):= @TabA.mk (EO w g) (fun w' hw=>by
 unfold Lib.TabIs World.var? at h ⊢
 rw[hg,Option.bind_some]at h ⊢
 cases e:w.heap[g]? with
 |none=>rw[e]at h;cases h
 |some o=>rw[hw g o (show(if g=g then w.heap[g]? else none)=some o by rw[if_pos rfl];exact e)];rw[e]at h;exact h)
variable [TabA]
theorem wm:∀(m:Nat) (acc:List UInt8),m≠0→m<9223372036854775809→rx m acc=Lib.decDigits m++acc:=by
 intro m
 induction m using Nat.strongRecOn with
 |_ m ih=>
  intro acc h hb
  rw[lC h hb,Lib.decDigits]
  have e:zm ((m % 10:Nat):Int)=UInt8.ofNat (48+m % 10):=by unfold zm;congr 1
  split
  ·rw[show m/10=0 by omega,uw,e,show m % 10=m by omega];rfl
  ·rw[ih (m/10) (by omega) _ (by omega) (by omega),e,aB];rfl
theorem sS {n:Int} (h0: -9223372036854775808≤n) (h1:n≤9223372036854775807):Lib.itoa n=gb n:=by
 unfold Lib.itoa gb
 by_cases hz:n=0
 ·subst hz;rw[if_neg (by omega),if_pos rfl,Lib.decDigits,dif_pos (by omega)];rfl
 ·rw[if_neg hz]
  by_cases hn:n<0
  ·rw[if_pos hn,if_pos hn,wm _ _ (by omega) (by omega),aN]
  ·rw[if_neg hn,if_neg hn,wm _ _ (by omega) (by omega),aN,show n.toNat=n.natAbs by omega]
theorem gQ {n:Int} (h0: -9223372036854775808≤n) (h1:n≤9223372036854775807):(gb n).length≤21:=by
 rw[←sS h0 h1];exact Lib.itoa_length_le n h0 h1
theorem pY (n:Int) (h0: -9223372036854775808≤n) (h1:n≤9223372036854775807):Fun Tryz.prog 88 [.int .i64 n] [.str (gb n)]:=by
 refine Fun.of_plain Tryz.func88 rfl rfl rfl ?_
 intro w F G vs hamb hv
 simp only[RepL]at hv
 obtain⟨a,vs1,rfl,ha,rfl⟩:=hv
 have ha:=wU ha
 subst ha
 refine(Tryz.strconv_Itoa n h0 h1 w (TabA.has w hamb)).mono fun e w' h=> ?_
 obtain⟨he,k,os,hw⟩:=h
 subst hw
 exact⟨by rw[he,sS h0 h1],Lib.below_grow _ _ (am _) k os⟩
theorem eK (n:Int) (h0: -9223372036854775808≤n) (h1:n≤9223372036854775807):Fun Tryz.prog 41 [(.int .i64 (n))] [(.str (gb n))]:=by
 refine fO bA [2] Tryz.func41 ?_
 have cE1:= @pY
 refine aQ trivial ?_
 all_goals try(apply aq;repeat' first|exact ao|apply aa|(apply au;intro zb hc)|(apply ar;intro zb)|intro j')<;>try apply aw
def gP (l:List Int):List (List UInt8):=l.map gb
theorem sR {l:List Int} {k:Nat}:gP (l.take k)=(gP l).take k:=by simp[gP,List.map_take]
def kU (l:List Int):List UInt8:=if l=[]then[45]else Lib.join (gP l) [44]
theorem qV {l:List Int} (hb:∀x∈l, -9223372036854775808≤x∧x≤9223372036854775807):(Lib.join (gP l) [44]).length≤l.length*22:=by
 have:=fE (n:=21) (sep:=[44]) (l:=gP l) (fun x hx=>by
  obtain⟨y,hy,rfl⟩:=List.mem_map.1 hx
  exact gQ (hb y hy).1 (hb y hy).2)
 simpa[gP]using this
theorem nh {l:List Int} (hb:∀x∈l, -9223372036854775808≤x∧x≤9223372036854775807):(kU l).length≤l.length*22+1:=by
 unfold kU;split
 ·simp
 ·have:=qV hb;omega
theorem p7 {m0:Bool} (l:List Int) (hl:l.length≤1048576) (hb:∀x∈l, -9223372036854775808≤x∧x≤9223372036854775807):Fun Tryz.prog 60 [(.sl (.lent m0) (List.map (PV.int .i64) (l)))] [(.str (Lib.join (gP l) [44]))]:=by
 refine fO bA [2] Tryz.func60 ?_
 have cE1:= @dt;have cE2:= @cH
 have b9:=qV hb
 have b8:(gP l).length=l.length:=by simp[gP]
 refine dE trivial ?_
 all_goals try(apply aq;repeat' first|exact ao|apply aa|(apply au;intro zb hc)|(apply ar;intro zb)|intro j')<;>try apply aw
 refine az (fun ms1 S1=>∃(k:Nat),S1.e 0=.p (.sl (.lent m0) (List.map (PV.int .i64) (l)))∧OwnL (S1.e 3) S1.h S1.n PV.str ((gP (l.take k)).length) (gP (l.take k))∧S1.e 4=.p (.int .i64 (k))∧(k≤l.length)∧ms1=l.length - k) ((fun(k:Nat)=>l.length - k) (0)) ?_ ⟨0,kj trivial ?_⟩
 all_goals try(apply aq;repeat' first|exact ao|apply aa|(apply au;intro zb hc)|(apply ar;intro zb)|intro j')<;>try apply aw
 rintro ms1 S1 ⟨k,h1_0,o1_3,h1_4,c1_0,hm1⟩
 obtain⟨i1_3,h1_3,b1_3,l1_3⟩:=o1_3.out
 have ni1_3:=bi (x:=i1_3) (n:=S1.n)
 have fL1:=(aa h1_0 (aa h1_4 (aa h1_3 (aa b1_3 ni1_3))))
 have b7:(gP (l.take k)).length=k:=by simp[gP];omega
 have b6:=f7 (l:=gP l) (sep:=[44]) (k:=k)
 rw[←sR]at b6
 have q:k<l.length→ -9223372036854775808≤l.getD k 0∧l.getD k 0≤9223372036854775807:=fun h=>hb _ (aF h)
 refine aQ fL1 ?_
 all_goals try(apply aq;repeat' first|exact ao|apply aa|(apply au;intro zb hc)|(apply ar;intro zb)|intro j')<;>try apply aw
 ·focus
   refine ay ((fun(k:Nat)=>l.length - k) (k+1)) (dC fL1 ?_) ⟨k+1,dC fL1 ?_⟩
   all_goals try(apply aq;repeat' first|exact ao|apply aa|(apply au;intro zb hc)|(apply ar;intro zb)|intro j')<;>try apply aw
  all_goals simp[gP,aX (d:=0) (show k<l.length by omega)]
 all_goals(rw[ah (by omega)])
theorem vf {l:List Int} (h:(l.length:Int)=0):kU l=[45]:=by rw[kU,if_pos (ai (by omega))]
theorem sC {l:List Int} (h:¬(l.length:Int)=0):kU l=Lib.join (gP l) [44]:=by rw[kU,if_neg (by rintro rfl;exact h rfl)]
theorem ck {m0:Bool} (l:List Int) (hl:l.length≤1048576) (hb:∀x∈l, -9223372036854775808≤x∧x≤9223372036854775807):Fun Tryz.prog 17 [(.sl (.lent m0) (List.map (PV.int .i64) (l)))] [(.str (kU l))]:=by
 refine fO bA [2] Tryz.func17 ?_
 have cE1:= @p7
 refine aQ trivial ?_
 all_goals try(apply aq;repeat' first|exact ao|apply aa|(apply au;intro zb hc)|(apply ar;intro zb)|intro j')<;>try apply aw
 ·rw[vf hc]
 ·rw[sC hc]
theorem cq {m0:Bool} (l:List Int) (hl:l.length≤1048576) (hb:∀x∈l, -9223372036854775808≤x∧x≤9223372036854775807):Fun Tryz.prog 16 [(.sl (.lent m0) (List.map (PV.int .i64) (l)))] [(.str (kU l))]:=by
 refine fO bA [2] Tryz.func16 ?_
 have cE1:= @eK;have cE2:= @bz
 have b9:=qV hb
 have b8:(gP l).length=l.length:=by simp[gP]
 refine aQ trivial ?_
 all_goals try(apply aq;repeat' first|exact ao|apply aa|(apply au;intro zb hc)|(apply ar;intro zb)|intro j')<;>try apply aw
 ·rw[vf hc]
 ·have hn:=hc
  rw[sC hc]
  refine az (fun ms1 S1=>∃(k:Nat),S1.e 10=.p (.sl (.lent m0) (List.map (PV.int .i64) (l)))∧OwnL (S1.e 3) S1.h S1.n PV.str ((gP (l.take k)).length) (gP (l.take k))∧S1.e 11=.p (.int .i64 (l.length))∧S1.e 12=.p (.int .i64 (k))∧(k≤l.length)∧ms1=l.length - k) ((fun(k:Nat)=>l.length - k) (0)) ?_ ⟨0,kj trivial ?_⟩
  all_goals try(apply aq;repeat' first|exact ao|apply aa|(apply au;intro zb hc)|(apply ar;intro zb)|intro j')<;>try apply aw
  rintro ms1 S1 ⟨k,h1_10,o1_3,h1_11,h1_12,c1_0,hm1⟩
  obtain⟨i1_3,h1_3,b1_3,l1_3⟩:=o1_3.out
  have ni1_3:=bi (x:=i1_3) (n:=S1.n)
  have fL1:=(aa h1_10 (aa h1_11 (aa h1_12 (aa h1_3 (aa b1_3 ni1_3)))))
  have b7:(gP (l.take k)).length=k:=by simp[gP];omega
  have b6:=f7 (l:=gP l) (sep:=[44]) (k:=k)
  rw[←sR]at b6
  have q:k<l.length→ -9223372036854775808≤l.getD k 0∧l.getD k 0≤9223372036854775807:=fun h=>hb _ (aF h)
  refine aQ fL1 ?_
  all_goals try(apply aq;repeat' first|exact ao|apply aa|(apply au;intro zb hc)|(apply ar;intro zb)|intro j')<;>try apply aw
  ·focus
    refine ay ((fun(k:Nat)=>l.length - k) (k+1)) (dC fL1 ?_) ⟨k+1,dC fL1 ?_⟩
    all_goals try(apply aq;repeat' first|exact ao|apply aa|(apply au;intro zb hc)|(apply ar;intro zb)|intro j')<;>try apply aw
   all_goals simp[gP,aX (d:=0) (show k<l.length by omega)]
  all_goals(rw[ah (by omega)])
end Go.Gl
namespace Go.Gl
open Go Go.Proofs
variable [Amb] [NoQ]
variable [TabA]
def go (L:List (List Int)):List (List UInt8):=L.map kU
def rT (L:List (List Int)):List UInt8:=if L=[]then[45]else Lib.join (go L) [47]
theorem nu:∀{L:List (List Int)},(∀l∈L,∀x∈l, -9223372036854775808≤x∧x≤9223372036854775807)→(Lib.joinTail [47] (go L)).length≤22*mO (L.map List.length)+2*L.length
 |[],_=>by simp[Lib.joinTail,go]
 |l::L,h=>by
  have h1:=nu (L:=L) fun l hl=>h l (by simp[hl])
  have h2:=nh (h l (by simp))
  have e:(Lib.joinTail [47] (go (l::L)))=[47]++kU l++Lib.joinTail [47] (go L):=by simp[Lib.joinTail,go]
  rw[e];simp only[ak,List.map_cons,mO,aC,List.length_nil];omega
theorem pW {L:List (List Int)} (h:∀l∈L,∀x∈l, -9223372036854775808≤x∧x≤9223372036854775807):(Lib.join (go L) [47]).length≤22*mO (L.map List.length)+2*L.length:=by
 cases L with
 |nil=>simp[go,Lib.join_nil]
 |cons l L=>
  have h1:=nu (L:=L) fun l hl=>h l (by simp[hl])
  have h2:=nh (h l (by simp))
  have e:Lib.join (go (l::L)) [47]=kU l++Lib.joinTail [47] (go L):=by simp[go,Lib.join_cons]
  rw[e,ak,List.map_cons,mO,aC];omega
theorem mL {L:List (List Int)} (h:∀l∈L,∀x∈l, -9223372036854775808≤x∧x≤9223372036854775807):(rT L).length≤22*mO (L.map List.length)+2*L.length+1:=by
 unfold rT;split
 ·simp
 ·have:=pW h;omega
theorem sr {L:List (List Int)} {k:Nat}:go (L.take k)=(go L).take k:=by simp[go,List.map_take]
theorem uJ {L:List (List Int)} (h:(L.length:Int)=0):rT L=[45]:=by rw[rT,if_pos (ai (by omega))]
theorem sq {L:List (List Int)} (h:¬(L.length:Int)=0):rT L=Lib.join (go L) [47]:=by rw[rT,if_neg (by rintro rfl;exact h rfl)]
theorem ch {e0 m0:Bool} (L:List (List Int)) (hL:L.length≤1048576) (hl:∀l∈L,l.length≤1048576) (hs:mO (L.map List.length)≤1048576) (hb:∀l∈L,∀x∈l, -9223372036854775808≤x∧x≤9223372036854775807):Fun Tryz.prog 19 [(.sl (.lent m0) (List.map (bW e0) (L)))] [(.str (rT L))]:=by
 refine fO bA [2] Tryz.func19 ?_
 have cE1:= @ck;have cE2:= @cH
 have b9:=pW hb
 refine dE trivial ?_
 all_goals try(apply aq;repeat' first|exact ao|apply aa|(apply au;intro zb hc)|(apply ar;intro zb)|intro j')<;>try apply aw
 refine az (fun ms1 S1=>∃(k:Nat),S1.e 0=.p (.sl (.lent m0) (List.map (bW e0) (L)))∧OwnL (S1.e 3) S1.h S1.n PV.str ((go (L.take k)).length) (go (L.take k))∧S1.e 4=.p (.int .i64 (k))∧(k≤L.length)∧ms1=L.length - k) ((fun(k:Nat)=>L.length - k) (0)) ?_ ⟨0,dI trivial ?_⟩
 all_goals try(apply aq;repeat' first|exact ao|apply aa|(apply au;intro zb hc)|(apply ar;intro zb)|intro j')<;>try apply aw
 rintro ms1 S1 ⟨k,h1_0,o1_3,h1_4,c1_0,hm1⟩
 obtain⟨i1_3,h1_3,b1_3,l1_3⟩:=o1_3.out
 have ni1_3:=bi (x:=i1_3) (n:=S1.n)
 have fL1:=(aa h1_0 (aa h1_4 (aa h1_3 (aa b1_3 ni1_3))))
 have b7:(go (L.take k)).length=k:=by simp[go];omega
 have b6:=f7 (l:=go L) (sep:=[47]) (k:=k)
 rw[←sr]at b6
 have q:k<L.length→∀x∈L.getD k [], -9223372036854775808≤x∧x≤9223372036854775807:=fun h=>hb _ (aF h)
 have q2:k<L.length→(L.getD k []).length≤1048576:=fun h=>hl _ (aF h)
 refine dE fL1 ?_
 all_goals try(apply aq;repeat' first|exact ao|apply aa|(apply au;intro zb hc)|(apply ar;intro zb)|intro j')<;>try apply aw
 all_goals try exact q hc
 all_goals try exact q2 hc
 all_goals try exact iF
 ·focus
   refine ay ((fun(k:Nat)=>L.length - k) (k+1)) (dC fL1 ?_) ⟨k+1,dC fL1 ?_⟩
   all_goals try(apply aq;repeat' first|exact ao|apply aa|(apply au;intro zb hc)|(apply ar;intro zb)|intro j')<;>try apply aw
  all_goals simp[go,aX (d:=[]) (show k<L.length by omega)]
 ·rw[uJ (by omega)]
 ·rw[sq (by omega),ah (by omega)]
theorem co {e0 m0:Bool} (L:List (List Int)) (hL:L.length≤1048576) (hl:∀l∈L,l.length≤1048576) (hs:mO (L.map List.length)≤1048576) (hb:∀l∈L,∀x∈l, -9223372036854775808≤x∧x≤9223372036854775807):Fun Tryz.prog 18 [(.sl (.lent m0) (List.map (bW e0) (L)))] [(.str (rT L))]:=by
 refine fO bA [2] Tryz.func18 ?_
 have cE1:= @cq;have cE2:= @bz
 have b9:=pW hb
 refine aQ trivial ?_
 all_goals try(apply aq;repeat' first|exact ao|apply aa|(apply au;intro zb hc)|(apply ar;intro zb)|intro j')<;>try apply aw
 ·rw[uJ hc]
 ·rw[sq hc]
  have hn:=hc
  refine az (fun ms1 S1=>∃(k:Nat),S1.e 10=.p (.sl (.lent m0) (List.map (bW e0) (L)))∧OwnL (S1.e 3) S1.h S1.n PV.str ((go (L.take k)).length) (go (L.take k))∧S1.e 11=.p (.int .i64 (L.length))∧S1.e 12=.p (.int .i64 (k))∧(k≤L.length)∧ms1=L.length - k) ((fun(k:Nat)=>L.length - k) (0)) ?_ ⟨0,dI trivial ?_⟩
  all_goals try(apply aq;repeat' first|exact ao|apply aa|(apply au;intro zb hc)|(apply ar;intro zb)|intro j')<;>try apply aw
  rintro ms1 S1 ⟨k,h1_10,o1_3,h1_11,h1_12,c1_0,hm1⟩
  obtain⟨i1_3,h1_3,b1_3,l1_3⟩:=o1_3.out
  have ni1_3:=bi (x:=i1_3) (n:=S1.n)
  have fL1:=(aa h1_10 (aa h1_11 (aa h1_12 (aa h1_3 (aa b1_3 ni1_3)))))
  have b7:(go (L.take k)).length=k:=by simp[go];omega
  have b6:=f7 (l:=go L) (sep:=[47]) (k:=k)
  rw[←sr]at b6
  have q:k<L.length→∀x∈L.getD k [], -9223372036854775808≤x∧x≤9223372036854775807:=fun h=>hb _ (aF h)
  have q2:k<L.length→(L.getD k []).length≤1048576:=fun h=>hl _ (aF h)
  refine dE fL1 ?_
  all_goals try(apply aq;repeat' first|exact ao|apply aa|(apply au;intro zb hc)|(apply ar;intro zb)|intro j')<;>try apply aw
  all_goals try exact q hc
  all_goals try exact q2 hc
  all_goals try exact iF
  ·focus
    refine ay ((fun(k:Nat)=>L.length - k) (k+1)) (dC fL1 ?_) ⟨k+1,dC fL1 ?_⟩
    all_goals try(apply aq;repeat' first|exact ao|apply aa|(apply au;intro zb hc)|(apply ar;intro zb)|intro j')<;>try apply aw
   all_goals simp[go,aX (d:=[]) (show k<L.length by omega)]
  ·rw[ah (by omega)]
end Go.Gl
