/-
  What the functions compute, and what the law asks of it: texts joined. Conditions: those that each lemma names.
-/
import Derived.Test.YtbppfpdgahopeaaGreatDoorT2
import Derived.Test.YtbppfpdgahopeaaGreatDoorT12
import Derived.Test.YtbppfpdgahopeaaGreatDoorT6
import Derived.Test.YtbppfpdgahopeaaGreatDoorT4
import Derived.Test.YtbppfpdgahopeaaGreatDoorT8
import Derived.Test.YtbppfpdgahopeaaGreatDoorT10
import Derived.Test.YtbppfpdgahopeaaGreatDoorT1
import Derived.Test.YtbppfpdgahopeaaGreatDoorT5
import Derived.Test.YtbppfpdgahopeaaGreatDoorT9
import Derived.Test.YtbppfpdgahopeaaGreatDoorT11
import Derived.Test.YtbppfpdgahopeaaGreatDoorT7
set_option linter.unusedSimpArgs false
set_option linter.unusedVariables false
set_option maxRecDepth 20000
set_option linter.unusedSectionVars false
set_option maxHeartbeats 16000000
namespace Go.Gl
open Go Go.Proofs
variable [Amb] [NoQ]
def du (p:List Int) (T:List (List Int)):Bool:=ae p&&AN T p
theorem DI {p:List Int} {T:List (List Int)} (h:ae p=false):du p T=false:=by rw[du,h];rfl
theorem DG {p:List Int} {T:List (List Int)} (h:ae p=true):du p T=AN T p:=by rw[du,h];rfl
theorem IA {p:List Int} {W:List (List UInt8)} {k:Nat} (hk:k<W.length) (h:iC p (dQ (W.getD k []))=true):AN (W.map dQ) p=false:=by
 have h1:((W.map dQ).any fun q=>iC p q)=true:=List.any_eq_true.2 ⟨_,List.mem_map.2 ⟨_,ar hk,rfl⟩,h⟩
 rw[AN,h1];rfl
theorem Ef {p:List Int} {W:List (List UInt8)} (h:∀t∈W,iC p (dQ t)=false):AN (W.map dQ) p=true:=by
 rw[AN,Bool.not_eq_true',←Bool.not_eq_true,List.any_eq_true]
 rintro⟨q,hq,h1⟩
 obtain⟨t,ht,rfl⟩:=List.mem_map.1 hq
 rw[h t ht]at h1;cases h1
theorem ca {m0 m1:Bool} (p:List Int) (W:List (List UInt8)) (hp:p.length≤1048576) (hW:W.length≤8) (hw:∀t∈W,t.length≤100∧(dQ t).length≤8):Fun Tryz.prog 143 [(.sl (.lent m0) (List.map (PV.int .i64) (p))),(.sl (.lent m1) (List.map PV.str (W)))] [(.bool (du p (W.map dQ)))]:=by
 by_cases h:ae p=true
 ·have h8:=(aw h).1
  rw[DG h]
  refine fO aR [4] Tryz.func143 ?_
  have cE1:= @ao;have cE2:= @cz
  have cE1:= @kA;have cE2:= @ao;have cE3:= @cz
  refine ax @h ?_
  all_goals try(apply ai;repeat' first|exact ah|apply aa|(apply ak;intro zb hc)|(apply aj;intro zb)|intro j')<;>try apply al
  refine an (fun ms1 S1=>∃(k:Nat),S1.e 0=.p (.sl (.lent m0) (List.map (PV.int .i64) (p)))∧S1.e 12=.p (.sl (.lent m1) (List.map PV.str (W)))∧S1.e 13=.p (.int .i64 (W.length))∧S1.e 14=.p (.int .i64 (k))∧(k≤W.length)∧(∀t∈W.take k,iC p (dQ t)=false)∧ms1=W.length - k) ((fun(k:Nat)=>W.length - k) (0)) ?_ ⟨0,dC trivial ?_⟩
  all_goals try(apply ai;repeat' first|exact ah|apply aa|(apply ak;intro zb hc)|(apply aj;intro zb)|intro j')<;>try apply al
  rintro ms1 S1 ⟨k,h1_0,h1_12,h1_13,h1_14,c1_0,c1_1,hm1⟩
  have fL1:=(aa h1_0 (aa h1_12 (aa h1_13 h1_14)))
  by_cases hk:k<W.length
  ·obtain⟨w1,w2⟩:=hw _ (ar (d:=[]) hk)
   cases hc0:iC p (dQ (W.getD k []))with
   |true=>
    rw[IA hk hc0]
    have cE1:= @kA;have cE2:= @ao;have cE3:= @cz
    refine ax (aa fL1 @hc0) ?_
    all_goals try(apply ai;repeat' first|exact ah|apply aa|(apply ak;intro zb hc)|(apply aj;intro zb)|intro j')<;>try apply al
   |false=>
    have cE1:= @kA;have cE2:= @ao;have cE3:= @cz
    refine ax (aa fL1 @hc0) ?_
    all_goals try(apply ai;repeat' first|exact ah|apply aa|(apply ak;intro zb hc)|(apply aj;intro zb)|intro j')<;>try apply al
    focus
     refine am ((fun(k:Nat)=>W.length - k) (k+1)) (dC fL1 ?_) ⟨k+1,dC fL1 ?_⟩
     all_goals try(apply ai;repeat' first|exact ah|apply aa|(apply ak;intro zb hc)|(apply aj;intro zb)|intro j')<;>try apply al
    all_goals(first|(intro t ht;rw[az (d:=[]) hk]at ht;rcases List.mem_append.1 ht with g|g;exact c1_1 t g;rw[List.mem_singleton]at g;subst g;exact hc0)|skip)
  ·rw[List.take_of_length_le (by omega)]at c1_1
   rw[Ef c1_1]
   have cE1:= @ao;have cE2:= @cz;have cE3:=trivial
   refine ax fL1 ?_
   all_goals try(apply ai;repeat' first|exact ah|apply aa|(apply ak;intro zb hc)|(apply aj;intro zb)|intro j')<;>try apply al
 ·rw[Bool.not_eq_true]at h
  rw[DI h]
  refine fO aR [4] Tryz.func143 ?_
  have cE1:= @ao;have cE2:= @cz
  refine ax @h ?_
  all_goals try(apply ai;repeat' first|exact ah|apply aa|(apply ak;intro zb hc)|(apply aj;intro zb)|intro j')<;>try apply al
theorem Vl {L:List (List Int)} (h:eP L=true):∀q∈L,q.length≤8:=by
 simp only[eP,Bool.and_eq_true]at h
 intro q hq
 obtain⟨i,hi,rfl⟩:=List.getElem_of_mem hq
 have:=nT h.2 hi
 rw[List.getD_eq_getElem?_getD,List.getElem?_eq_getElem hi]at this
 exact(aw this).1
theorem j6 {e0 m0 m1:Bool} (L:List (List Int)) (p:List Int) (hL:L.length≤1048576) (hl:∀l∈L,l.length≤1048576) (hp:p.length≤1048576):Fun Tryz.prog 166 [(.sl (.lent m0) (List.map (bt e0) (L))),(.sl (.lent m1) (List.map (PV.int .i64) (p)))] [(.bool ((eP L&&du p L)))]:=by
 by_cases h1:eP L=true
 ·have h2:=Vl h1
  by_cases h:ae p=true
  ·have h8:=(aw h).1
   rw[DG h,h1]
   refine fO aR [4] Tryz.func166 ?_
   have cE1:= @bj;have cE2:= @aq;have cE3:= @fS
   refine ax (aa @h @h1) ?_
   all_goals try(apply ai;repeat' first|exact ah|apply aa|(apply ak;intro zb hc)|(apply aj;intro zb)|intro j')<;>try apply al
  ·rw[Bool.not_eq_true]at h
   rw[DI h,h1]
   refine fO aR [4] Tryz.func166 ?_
   have cE1:= @bj;have cE2:= @aq;have cE3:= @fS
   refine ax (aa @h @h1) ?_
   all_goals try(apply ai;repeat' first|exact ah|apply aa|(apply ak;intro zb hc)|(apply aj;intro zb)|intro j')<;>try apply al
 ·rw[Bool.not_eq_true]at h1
  rw[h1]
  refine fO aR [4] Tryz.func166 ?_
  have cE1:= @bj;have cE2:= @aq;have cE3:= @fS
  refine ax @h1 ?_
  all_goals try(apply ai;repeat' first|exact ah|apply aa|(apply ak;intro zb hc)|(apply aj;intro zb)|intro j')<;>try apply al
theorem bM {m0:Bool} (p:List Int) (t:List UInt8) (hp:p.length≤1048576) (ht:t.length≤100) (h1:(wu t).length≤8) (h2:∀l∈wu t,l.length≤8):Fun Tryz.prog 127 [(.sl (.lent m0) (List.map (PV.int .i64) (p))),(.str (t))] [(.bool ((eP (wu t)&&du p (wu t))))]:=by
 refine fO aR [4] Tryz.func127 ?_
 have cE1:= @mq;have cE2:= @gw;have cE3:= @j6
 have cp:=gw t (by omega)
 have h3:∀l∈wu t,l.length≤1048576:=fun l hl=>by have:=h2 l hl;omega
 have cE1:= @cp;have cE2:= @j6;have cE3:=trivial
 refine ax trivial ?_
 all_goals try(apply ai;repeat' first|exact ah|apply aa|(apply ak;intro zb hc)|(apply aj;intro zb)|intro j')<;>try apply al
def sO:List (List Int):=[[2,1,4,3]]
def td:List (List Int):=[[2,1,4,3],[3,4,1,2]]
def tY:List (List Int):=[[3,2,1]]
def tc:List (List Int):=[[3,4,1,2],[4,2,3,1]]
theorem Iz {a b p:List Int}:AN [a,b] p=AN [b,a] p:=by
 unfold AN;simp only[List.any_cons,List.any_nil,Bool.or_false];rw[Bool.or_comm]
theorem ch {m0:Bool} (p:List Int) (hp:p.length≤1048576):Fun Tryz.prog 100 [(.sl (.lent m0) (List.map (PV.int .i64) (p)))] [(.bool (du p sO))]:=by
 refine fO aR [2] Tryz.func100 ?_
 have cE1:= @ca
 have c1:=ca (m0:=m0) (m1:=true) p [[50,49,52,51]] hp (by decide) (by decide+kernel)
 have e:du p (([[50,49,52,51]]:List (List UInt8)).map dQ)=du p sO:=by
  rw[show([[50,49,52,51]]:List (List UInt8)).map dQ=sO from by decide+kernel]
 rw[e]at c1
 simp only[List.map_cons,List.map_nil]at c1
 have cE1:= @c1
 refine ax trivial ?_
 all_goals try(apply ai;repeat' first|exact ah|apply aa|(apply ak;intro zb hc)|(apply aj;intro zb)|intro j')<;>try apply al
theorem hU {m0:Bool} (p:List Int) (hp:p.length≤1048576):Fun Tryz.prog 79 [(.sl (.lent m0) (List.map (PV.int .i64) (p)))] [(.bool (du p sO))]:=by
 refine fO aR [2] Tryz.func79 ?_
 have cE1:= @bM
 have c1:=bM (m0:=m0) p [50,49,52,51] hp (by decide) (by decide+kernel) (by decide+kernel)
 have e1:wu [50,49,52,51]=sO:=by decide+kernel
 have e2:eP sO=true:=by decide+kernel
 rw[e1,e2,Bool.true_and]at c1
 have cE1:= @c1
 refine ax trivial ?_
 all_goals try(apply ai;repeat' first|exact ah|apply aa|(apply ak;intro zb hc)|(apply aj;intro zb)|intro j')<;>try apply al
theorem bV {m0:Bool} (p:List Int) (hp:p.length≤1048576):Fun Tryz.prog 102 [(.sl (.lent m0) (List.map (PV.int .i64) (p)))] [(.bool (du p td))]:=by
 refine fO aR [2] Tryz.func102 ?_
 have cE1:= @ca
 have c1:=ca (m0:=m0) (m1:=true) p [[51,52,49,50],[50,49,52,51]] hp (by decide) (by decide+kernel)
 have e:du p (([[51,52,49,50],[50,49,52,51]]:List (List UInt8)).map dQ)=du p td:=by
  rw[show([[51,52,49,50],[50,49,52,51]]:List (List UInt8)).map dQ=[[3,4,1,2],[2,1,4,3]]from by decide+kernel,du,du,td,Iz]
 rw[e]at c1
 simp only[List.map_cons,List.map_nil]at c1
 have cE1:= @c1
 refine ax trivial ?_
 all_goals try(apply ai;repeat' first|exact ah|apply aa|(apply ak;intro zb hc)|(apply aj;intro zb)|intro j')<;>try apply al
theorem gy {m0:Bool} (p:List Int) (hp:p.length≤1048576):Fun Tryz.prog 81 [(.sl (.lent m0) (List.map (PV.int .i64) (p)))] [(.bool (du p td))]:=by
 refine fO aR [2] Tryz.func81 ?_
 have cE1:= @bM
 have c1:=bM (m0:=m0) p [50,49,52,51,32,51,52,49,50] hp (by decide) (by decide+kernel) (by decide+kernel)
 have e1:wu [50,49,52,51,32,51,52,49,50]=td:=by decide+kernel
 have e2:eP td=true:=by decide+kernel
 rw[e1,e2,Bool.true_and]at c1
 have cE1:= @c1
 refine ax trivial ?_
 all_goals try(apply ai;repeat' first|exact ah|apply aa|(apply ak;intro zb hc)|(apply aj;intro zb)|intro j')<;>try apply al
theorem bN {m0:Bool} (p:List Int) (hp:p.length≤1048576):Fun Tryz.prog 101 [(.sl (.lent m0) (List.map (PV.int .i64) (p)))] [(.bool (du p tY))]:=by
 refine fO aR [2] Tryz.func101 ?_
 have cE1:= @ca
 have c1:=ca (m0:=m0) (m1:=true) p [[51,50,49]] hp (by decide) (by decide+kernel)
 have e:du p (([[51,50,49]]:List (List UInt8)).map dQ)=du p tY:=by
  rw[show([[51,50,49]]:List (List UInt8)).map dQ=tY from by decide+kernel]
 rw[e]at c1
 simp only[List.map_cons,List.map_nil]at c1
 have cE1:= @c1
 refine ax trivial ?_
 all_goals try(apply ai;repeat' first|exact ah|apply aa|(apply ak;intro zb hc)|(apply aj;intro zb)|intro j')<;>try apply al
theorem gc {m0:Bool} (p:List Int) (hp:p.length≤1048576):Fun Tryz.prog 80 [(.sl (.lent m0) (List.map (PV.int .i64) (p)))] [(.bool (du p tY))]:=by
 refine fO aR [2] Tryz.func80 ?_
 have cE1:= @bM
 have c1:=bM (m0:=m0) p [51,50,49] hp (by decide) (by decide+kernel) (by decide+kernel)
 have e1:wu [51,50,49]=tY:=by decide+kernel
 have e2:eP tY=true:=by decide+kernel
 rw[e1,e2,Bool.true_and]at c1
 have cE1:= @c1
 refine ax trivial ?_
 all_goals try(apply ai;repeat' first|exact ah|apply aa|(apply ak;intro zb hc)|(apply aj;intro zb)|intro j')<;>try apply al
theorem cH {m0:Bool} (p:List Int) (hp:p.length≤1048576):Fun Tryz.prog 99 [(.sl (.lent m0) (List.map (PV.int .i64) (p)))] [(.bool (du p tc))]:=by
 refine fO aR [2] Tryz.func99 ?_
 have cE1:= @ca
 have c1:=ca (m0:=m0) (m1:=true) p [[51,52,49,50],[52,50,51,49]] hp (by decide) (by decide+kernel)
 have e:du p (([[51,52,49,50],[52,50,51,49]]:List (List UInt8)).map dQ)=du p tc:=by
  rw[show([[51,52,49,50],[52,50,51,49]]:List (List UInt8)).map dQ=tc from by decide+kernel]
 rw[e]at c1
 simp only[List.map_cons,List.map_nil]at c1
 have cE1:= @c1
 refine ax trivial ?_
 all_goals try(apply ai;repeat' first|exact ah|apply aa|(apply ak;intro zb hc)|(apply aj;intro zb)|intro j')<;>try apply al
theorem jO {m0:Bool} (p:List Int) (hp:p.length≤1048576):Fun Tryz.prog 78 [(.sl (.lent m0) (List.map (PV.int .i64) (p)))] [(.bool (du p tc))]:=by
 refine fO aR [2] Tryz.func78 ?_
 have cE1:= @bM
 have c1:=bM (m0:=m0) p [51,52,49,50,32,52,50,51,49] hp (by decide) (by decide+kernel) (by decide+kernel)
 have e1:wu [51,52,49,50,32,52,50,51,49]=tc:=by decide+kernel
 have e2:eP tc=true:=by decide+kernel
 rw[e1,e2,Bool.true_and]at c1
 have cE1:= @c1
 refine ax trivial ?_
 all_goals try(apply ai;repeat' first|exact ah|apply aa|(apply ak;intro zb hc)|(apply aj;intro zb)|intro j')<;>try apply al
def lH (p:List Int):Bool:=ae p&&(aN p).all Ew
theorem xI {p:List Int} (hp:ae p=true):(aN p).length≤8∧∀q∈aN p,ae q=true:=⟨(iJ hp).2.2.1,fun q hq=>((iJ hp).2.2.2 q hq).1⟩
theorem c7 {m0:Bool} (q:List Int) (hq:ae q=true):Fun Tryz.prog 141 [(.sl (.lent m0) (List.map (PV.int .i64) (q)))] [(.bool (!(Ew q)))]:=by
 refine fO aR [2] Tryz.func141 ?_
 have cE1:= @nI
 refine ax trivial ?_
 all_goals try(apply ai;repeat' first|exact ah|apply aa|(apply ak;intro zb hc)|(apply aj;intro zb)|intro j')<;>try apply al
theorem cA {m0:Bool} (p:List Int) (hp:p.length≤1048576):Fun Tryz.prog 98 [(.sl (.lent m0) (List.map (PV.int .i64) (p)))] [(.bool (lH p))]:=by
 by_cases h:ae p=true
 ·obtain⟨h8,_⟩:=aw h
  have hb:=fv h
  obtain⟨s1,s2⟩:=xI h
  have e1:(dg lu p p.length).1=aN p:=rfl
  have e2:lH p= !((aN p).any fun q=> !(Ew q)):=by
   rw[lH,h,Bool.true_and,List.not_any_eq_all_not];simp
  have c1:=fun(e0 m0:Bool)=>aK (e0:=e0) (m0:=m0) (aN p) 141 [] (fun q=> !(Ew q)) (by omega) (fun q hq=>c7 (m0:=e0) q (s2 q hq))
  rw[e2]
  refine fO aR [2] Tryz.func98 ?_
  have cE1:= @ao;have cE2:= @di;have cE3:= @aK;have cE4:= @c7
  have cE1:= @c1;have cE2:= @ao;have cE3:= @di;have cE4:= @aK;have cE5:= @c7
  refine ax (aa @h @e1) ?_
  all_goals try(apply ai;repeat' first|exact ah|apply aa|(apply ak;intro zb hc)|(apply aj;intro zb)|intro j')<;>try apply al
 ·rw[Bool.not_eq_true]at h
  have e:lH p=false:=by rw[lH,h];rfl
  rw[e]
  refine fO aR [2] Tryz.func98 ?_
  have cE1:= @ao;have cE2:= @di;have cE3:= @aK;have cE4:= @c7
  refine ax @h ?_
  all_goals try(apply ai;repeat' first|exact ah|apply aa|(apply ak;intro zb hc)|(apply aj;intro zb)|intro j')<;>try apply al
theorem je {m0:Bool} (p:List Int) (hp:p.length≤1048576):Fun Tryz.prog 77 [(.sl (.lent m0) (List.map (PV.int .i64) (p)))] [(.bool (lH p))]:=by
 by_cases h:ae p=true
 ·obtain⟨h8,hq⟩:=aw h
  obtain⟨s1,s2⟩:=xI h
  have e1:(dg lz p p.length).1=aN p:=jX hq
  refine fO aR [2] Tryz.func77 ?_
  have cE1:= @iK;have cE2:= @df;have cE3:= @aT;have cE4:= @ba;have cE5:= @bo;have cE6:= @aq
  have cD1:=gY [false,false,false,false,true,false,false,false,false,false,true,true,false] [(4,5),(4,6),(4,7),(4,8),(4,9)]
  have cE1:= @df;have cE2:= @aT;have cE3:= @ba;have cE4:= @bo;have cE5:= @aq;have cE6:=trivial
  refine ax (aa @h @e1) ?_
  all_goals try(apply ai;repeat' first|exact ah|apply aa|(apply ak;intro zb hc)|(apply aj;intro zb)|intro j')<;>try apply al
  refine an (fun ms1 S1=>∃(k:Nat),S1.e 0=.p (.sl (.lent m0) (List.map (PV.int .i64) (p)))∧OwnL (S1.e 3) S1.h S1.n (bt false) ((aN p).length) (aN p)∧S1.e 4=.p (.int .i64 (k))∧(k≤(aN p).length)∧(∀q∈(aN p).take k,Ew q=true)∧ms1=(aN p).length - k) ((fun(k:Nat)=>(aN p).length - k) (0)) ?_ ⟨0,dC trivial ?_⟩
  all_goals try(apply ai;repeat' first|exact ah|apply aa|(apply ak;intro zb hc)|(apply aj;intro zb)|intro j')<;>try apply al
  rintro ms1 S1 ⟨k,h1_0,o1_3,h1_4,c1_0,c1_1,hm1⟩
  obtain⟨i1_3,h1_3,b1_3,l1_3⟩:=o1_3.out
  have ni1_3:=aG (x:=i1_3) (n:=S1.n)
  have fL1:=(aa h1_0 (aa h1_4 (aa h1_3 (aa b1_3 ni1_3))))
  by_cases hk:k<(aN p).length
  ·have r1:=s2 _ (ar (d:=[]) hk)
   obtain⟨r2,r3⟩:=aw r1
   have r4:((aN p).getD k []).reverse.length=((aN p).getD k []).length:=List.length_reverse
   have r5:(nL ((aN p).getD k []).length).length=((aN p).getD k []).length:=f7
   have r6:decide (((aN p).getD k []).reverse=nL ((aN p).getD k []).length)=Ew ((aN p).getD k []):=rfl
   cases hd:Ew ((aN p).getD k [])with
   |true=>
    have cE1:= @aT;have cE2:= @ba;have cE3:= @bo;have cE4:= @aq;have cE5:=trivial;have cE6:=trivial
    refine ax (aa fL1 (aa @r6 @hd)) ?_
    all_goals try(apply ai;repeat' first|exact ah|apply aa|(apply ak;intro zb hc)|(apply aj;intro zb)|intro j')<;>try apply al
    focus
     refine am ((fun(k:Nat)=>(aN p).length - k) (k+1)) (dC fL1 ?_) ⟨k+1,dC fL1 ?_⟩
     all_goals try(apply ai;repeat' first|exact ah|apply aa|(apply ak;intro zb hc)|(apply aj;intro zb)|intro j')<;>try apply al
    all_goals(first|(intro q hq;rw[az (d:=[]) hk]at hq;rcases List.mem_append.1 hq with g|g;exact c1_1 q g;rw[List.mem_singleton]at g;subst g;exact hd)|skip)
   |false=>
    have e:lH p=false:=by
     rw[lH,Bool.and_eq_false_iff]
     exact .inr (List.all_eq_false.2 ⟨_,ar (d:=[]) hk,by rw[hd];decide⟩)
    rw[e]
    have cE1:= @aT;have cE2:= @ba;have cE3:= @bo;have cE4:= @aq;have cE5:=trivial;have cE6:=trivial
    refine ax (aa fL1 (aa @r6 @hd)) ?_
    all_goals try(apply ai;repeat' first|exact ah|apply aa|(apply ak;intro zb hc)|(apply aj;intro zb)|intro j')<;>try apply al
  ·rw[List.take_of_length_le (by omega)]at c1_1
   have e:lH p=true:=by rw[lH,h,Bool.true_and];exact List.all_eq_true.2 c1_1
   rw[e]
   have cE1:= @aT;have cE2:= @ba;have cE3:= @bo;have cE4:= @aq;have cE5:=trivial;have cE6:=trivial
   refine ax (aa fL1 @h) ?_
   all_goals try(apply ai;repeat' first|exact ah|apply aa|(apply ak;intro zb hc)|(apply aj;intro zb)|intro j')<;>try apply al
 ·rw[Bool.not_eq_true]at h
  have e:lH p=false:=by rw[lH,h];rfl
  rw[e]
  refine fO aR [2] Tryz.func77 ?_
  have cE1:= @iK;have cE2:= @df;have cE3:= @aT;have cE4:= @ba;have cE5:= @bo;have cE6:= @aq
  have cD1:=gY [false,false,false,false,true,false,false,false,false,false,true,true,false] [(4,5),(4,6),(4,7),(4,8),(4,9)]
  have cE2:= @aT;have cE3:= @ba;have cE4:= @bo;have cE5:= @aq;have cE6:=trivial
  refine ax @h ?_
  all_goals try(apply ai;repeat' first|exact ah|apply aa|(apply ak;intro zb hc)|(apply aj;intro zb)|intro j')<;>try apply al
  refine an (fun ms1 S1=>∃(k:Nat),S1.e 0=.p (.sl (.lent m0) (List.map (PV.int .i64) (p)))∧OwnL (S1.e 3) S1.h S1.n (bt false) ((([]:List (List Int))).length) (([]:List (List Int)))∧S1.e 4=.p (.int .i64 (k))∧(k=0)∧ms1=0) ((fun(k:Nat)=>0) (0)) ?_ ⟨0,jK trivial ?_⟩
  all_goals try(apply ai;repeat' first|exact ah|apply aa|(apply ak;intro zb hc)|(apply aj;intro zb)|intro j')<;>try apply al
  rintro ms1 S1 ⟨k,h1_0,o1_3,h1_4,c1_0,hm1⟩
  obtain⟨i1_3,h1_3,b1_3,l1_3⟩:=o1_3.out
  have ni1_3:=aG (x:=i1_3) (n:=S1.n)
  have fL1:=(aa h1_0 (aa h1_4 (aa h1_3 (aa b1_3 ni1_3))))
  subst c1_0
  have cE1:= @aT;have cE2:= @ba;have cE3:= @bo;have cE4:= @aq;have cE5:=trivial;have cE6:=trivial
  refine ax (aa fL1 @h) ?_
  all_goals try(apply ai;repeat' first|exact ah|apply aa|(apply ak;intro zb hc)|(apply aj;intro zb)|intro j')<;>try apply al
theorem RX:∀d,d≤8→9^d≤43046721:=by decide
theorem tJ:∀(d:Nat) {m0:Bool} (p:List Int),d≤8→ae p=true→p.length≤d→Fun Tryz.prog 138 [.sl (.lent m0) (List.map (PV.int .i64) p)] [.sl .own (List.map (bt false) (ng d p))]:=by
 intro d
 induction d with
 |zero=>
  intro m0 p hd hp hl
  rw[xP (by omega)]
  refine fO aR [2] Tryz.func138 ?_
  have cE1:= @bT
  refine ax trivial ?_
  all_goals try(apply ai;repeat' first|exact ah|apply aa|(apply ak;intro zb hc)|(apply aj;intro zb)|intro j')<;>try apply al
 |succ d ih=>
  intro m0 p hd hp hl
  by_cases h2:p.length<2
  ·rw[xP h2]
   refine fO aR [2] Tryz.func138 ?_
   have cE1:= @bT
   refine ax trivial ?_
   all_goals try(apply ai;repeat' first|exact ah|apply aa|(apply ak;intro zb hc)|(apply aj;intro zb)|intro j')<;>try apply al
  ·have hf:=me hp (by omega)
   obtain⟨n1,n2⟩:=md hp
   have e:ng (d+1) p=(aO p).1::(aO p).2.flatMap (ng d):=by rw[ng,if_neg h2]
   have h9:=RX d (by omega)
   rw[e]
   refine fO aR [2] Tryz.func138 ?_
   have cE1:= @bT
   have cE1:= @ih;have cE2:= @bT
   refine ax @hp ?_
   all_goals try(apply ai;repeat' first|exact ah|apply aa|(apply ak;intro zb hc)|(apply aj;intro zb)|intro j')<;>try apply al
   refine an (fun ms1 S1=>∃(k:Nat),OwnL (S1.e 4) S1.h S1.n (bt false) (((aO p).1::((aO p).2.take k).flatMap (ng d)).length) ((aO p).1::((aO p).2.take k).flatMap (ng d))∧S1.e 16=.p (.sl (.lent false) (List.map (bt false) ((aO p).2)))∧S1.e 17=.p (.int .i64 ((aO p).2.length))∧S1.e 18=.p (.int .i64 (k))∧(k≤(aO p).2.length)∧ms1=(aO p).2.length - k) ((fun(k:Nat)=>(aO p).2.length - k) (0)) ?_ ⟨0,dC trivial ?_⟩
   all_goals try(apply ai;repeat' first|exact ah|apply aa|(apply ak;intro zb hc)|(apply aj;intro zb)|intro j')<;>try apply al
   rintro ms1 S1 ⟨k,o1_4,h1_16,h1_17,h1_18,c1_0,hm1⟩
   obtain⟨i1_4,h1_4,b1_4,l1_4⟩:=o1_4.out
   have ni1_4:=aG (x:=i1_4) (n:=S1.n)
   have fL1:=(aa h1_16 (aa h1_17 (aa h1_18 (aa h1_4 (aa b1_4 ni1_4)))))
   ·have g1:=yy (L:=(aO p).2.take k) (f:=ng d) (n:=9^d) fun q hq=>oY (hf q (List.mem_of_mem_take hq)).1
    have g2:=Nat.mul_le_mul_right (9^d) (show((aO p).2.take k).length≤8 by rw[List.length_take];omega)
    by_cases hk:k<(aO p).2.length
    ·obtain⟨q1,q2⟩:=hf _ (ar (d:=[]) hk)
     have q3:=oY (d:=d) q1
     have q4:((aO p).2.take (k+1)).flatMap (ng d)=((aO p).2.take k).flatMap (ng d)++ng d ((aO p).2.getD k []):=by
      rw[az (d:=[]) hk,List.flatMap_append];simp
     have cE1:= @ih;have cE2:= @bT
     refine ax (aa fL1 @q1) ?_
     all_goals try(apply ai;repeat' first|exact ah|apply aa|(apply ak;intro zb hc)|(apply aj;intro zb)|intro j')<;>try apply al
     focus
      refine am ((fun(k:Nat)=>(aO p).2.length - k) (k+1)) (dC fL1 ?_) ⟨k+1,dC fL1 ?_⟩
      all_goals try(apply ai;repeat' first|exact ah|apply aa|(apply ak;intro zb hc)|(apply aj;intro zb)|intro j')<;>try apply al
     all_goals(first|(rw[q4,List.length_append];omega)|(rw[q4];done)|skip)
    ·have cE1:= @bT;have cE2:=trivial
     refine ax fL1 ?_
     all_goals try(apply ai;repeat' first|exact ah|apply aa|(apply ak;intro zb hc)|(apply aj;intro zb)|intro j')<;>try apply al
     rw[List.take_of_length_le (by omega)]
def oo (p:List Int):Bool:=ae p&& !((ng 8 p).any fun q=>decide ((2:Int)<(q.length:Int)))
theorem cK {m0:Bool} (q:List Int) (hq:q.length≤1048576):Fun Tryz.prog 139 [(.sl (.lent m0) (List.map (PV.int .i64) (q)))] [(.bool (decide ((2:Int)<(q.length:Int))))]:=by
 refine fO aR [2] Tryz.func139 ?_
 refine ax trivial ?_
 all_goals try(apply ai;repeat' first|exact ah|apply aa|(apply ak;intro zb hc)|(apply aj;intro zb)|intro j')<;>try apply al
theorem ck {m0:Bool} (p:List Int) (hp:p.length≤1048576):Fun Tryz.prog 97 [(.sl (.lent m0) (List.map (PV.int .i64) (p)))] [(.bool (oo p))]:=by
 by_cases h:ae p=true
 ·obtain⟨h8,_⟩:=aw h
  have b1:=oY (d:=8) h
  have b2:=th (d:=8) h
  have c1:=fun(e0 m0:Bool)=>aK (e0:=e0) (m0:=m0) (ng 8 p) 139 [] (fun q=>decide ((2:Int)<(q.length:Int))) (by omega) (fun q hq=>cK (m0:=e0) q (by have:=b2 q hq;omega))
  have c2:=fun(m0:Bool)=>tJ 8 (m0:=m0) p (by decide) h h8
  rw[oo,h,Bool.true_and]
  refine fO aR [2] Tryz.func97 ?_
  have cE1:= @ao;have cE2:= @aK;have cE3:= @cK
  have cE1:= @c1;have cE2:= @c2;have cE3:= @ao;have cE4:= @aK;have cE5:= @cK
  refine ax @h ?_
  all_goals try(apply ai;repeat' first|exact ah|apply aa|(apply ak;intro zb hc)|(apply aj;intro zb)|intro j')<;>try apply al
 ·rw[Bool.not_eq_true]at h
  rw[oo,h,Bool.false_and]
  refine fO aR [2] Tryz.func97 ?_
  have cE1:= @ao;have cE2:= @aK;have cE3:= @cK
  refine ax @h ?_
  all_goals try(apply ai;repeat' first|exact ah|apply aa|(apply ak;intro zb hc)|(apply aj;intro zb)|intro j')<;>try apply al
def pG:FuncId→List Bool:=fun f=>if f=164 then[false,true]else if f=118 then[true]else[]
theorem E0 {f:FuncId}:pG f=if f=164 then[false,true]else if f=118 then[true]else[]:=_root_.id rfl
theorem AW:fJ pG=false∧ga pG=false∧f9 pG=false∧f8 pG=false∧gb pG=false:=⟨rfl,rfl,rfl,rfl,rfl⟩
attribute [go_sem] E0 AW
theorem pz:∀(d:Nat) {m0:Bool} (p:List Int) (out:List (List Int)),d≤8→ae p=true→p.length≤d→(∀l∈out,l.length≤8)→out.length+9^d≤1000000000→
  CallT Tryz.prog true 164 [.pv (.sl (.lent m0) (List.map (PV.int .i64) p)),.mu false (List.map (bt false) out)] [none,none] [.sl .own (List.map (bt false) (or d p out))]:=by
 intro d
 induction d with
 |zero=>
  intro m0 p out hd hp hl hr ho
  rw[show or 0 p out=out from rfl]
  refine CallT.of (sg:=pG) (ts:=[4]) mo Tryz.func164 rfl rfl rfl rfl (by kernel_rfl) (by simp only[go_sem]) rfl rfl ?_
  have cE1:= @fj;have cM1:= @gD
  refine lp trivial ?_
  all_goals try(apply ai;repeat' first|exact ah|apply aa|(apply ak;intro zb hc)|(apply aj;intro zb)|intro j')<;>try apply al
 |succ d ih=>
  intro m0 p out hd hp hl hr ho
  by_cases h2:p.length<2
  ·have e:or (d+1) p out=out:=by rw[or,if_pos h2]
   rw[e]
   refine CallT.of (sg:=pG) (ts:=[4]) mo Tryz.func164 rfl rfl rfl rfl (by kernel_rfl) (by simp only[go_sem]) rfl rfl ?_
   have cE1:= @fj;have cM1:= @gD
   refine lp trivial ?_
   all_goals try(apply ai;repeat' first|exact ah|apply aa|(apply ak;intro zb hc)|(apply aj;intro zb)|intro j')<;>try apply al
  ·have hf:=me hp (by omega)
   obtain⟨n1,n2⟩:=md hp
   have e:or (d+1) p out=zh d (aO p).2 (fL out (aO p).1):=by rw[or,if_neg h2];rfl
   have h9:=RX d (by omega)
   have h10:9^(d+1)=9*9^d:=by rw[Nat.pow_succ,Nat.mul_comm]
   have h11:0<9^d:=Nat.pow_pos (by decide)
   have p1:=xW (L:=out) (p:=(aO p).1)
   have p2:∀l∈fL out (aO p).1,l.length≤8:=fun l hl=>by
    rcases putP_mem.1 hl with g|g
    ·rw[g];exact n2
    ·exact hr l g
   have hr':∀l∈out,l.length≤1048576:=fun l hl=>by have:=hr l hl;omega
   rw[e]
   refine CallT.of (sg:=pG) (ts:=[4]) mo Tryz.func164 rfl rfl rfl rfl (by kernel_rfl) (by simp only[go_sem]) rfl rfl ?_
   have cE1:= @fj;have cM1:= @gD
   refine lp @hp ?_
   all_goals try(apply ai;repeat' first|exact ah|apply aa|(apply ak;intro zb hc)|(apply aj;intro zb)|intro j')<;>try apply al
   refine an (fun ms1 S1=>∃(k:Nat),S1.e 0=.p (.sl (.lent m0) (List.map (PV.int .i64) (p)))∧OwnM (S1.e 1) S1.h S1.n (bt false) ((zh d ((aO p).2.take k) (fL out (aO p).1)).length) (zh d ((aO p).2.take k) (fL out (aO p).1))∧PtrL (S1.e 5) S1.h S1.n (.live false [.sl (.lent false) (List.map (PV.int .i64) (aO p).1),.sl (.lent false) (List.map (bt false) (aO p).2)])∧S1.e 6=.p (.int .i64 (k))∧(k≤(aO p).2.length)∧NId (mZ (S1.e 5)) (S1.e 1)∧ms1=(aO p).2.length - k) ((fun(k:Nat)=>(aO p).2.length - k) (0)) ?_ ⟨0,dC trivial ?_⟩
   all_goals try(apply ai;repeat' first|exact ah|apply aa|(apply ak;intro zb hc)|(apply aj;intro zb)|intro j')<;>try apply al
   rintro ms1 S1 ⟨k,h1_0,o1_1,o1_5,h1_6,c1_0,u1_0,hm1⟩
   obtain⟨i1_1,mm1_1,h1_1,b1_1,l1_1⟩:=o1_1.out
   obtain⟨i1_5,h1_5,b1_5,l1_5⟩:=o1_5.out
   have k1_0:=(u1_0).out (cO h1_5) h1_1
   have ni1_1:=aG (x:=i1_1) (n:=S1.n)
   have ni1_5:=aG (x:=i1_5) (n:=S1.n)
   have di1_1i1_5:=cQ (x:=i1_1) (y:=i1_5)
   have fL1:=(aa h1_0 (aa h1_6 (aa h1_1 (aa b1_1 (aa h1_5 (aa b1_5 (aa ni1_1 (aa ni1_5 di1_1i1_5))))))))
   ·obtain⟨g1,g2⟩:=xR (d:=d) (L:=(aO p).2.take k) (o:=fL out (aO p).1) (fun q hq=>(hf q (List.mem_of_mem_take hq)).1) p2
    have g3:=Nat.mul_le_mul_right (9^d) (show((aO p).2.take k).length≤8 by rw[List.length_take];omega)
    by_cases hk:k<(aO p).2.length
    ·obtain⟨q1,q2⟩:=hf _ (ar (d:=[]) hk)
     have q4:zh d ((aO p).2.take (k+1)) (fL out (aO p).1)=or d ((aO p).2.getD k []) (zh d ((aO p).2.take k) (fL out (aO p).1)):=by
      rw[az (d:=[]) hk,BZ]
     have g5:=Nat.mul_le_mul_right (9^d) (show((aO p).2.take k).length≤7 by rw[List.length_take];omega)
     have cM2:= @ih
     refine lp (aa fL1 (aa @q1 @OM)) ?_
     all_goals try(apply ai;repeat' first|exact ah|apply aa|(apply ak;intro zb hc)|(apply aj;intro zb)|intro j')<;>try apply al
     focus
      refine am ((fun(k:Nat)=>(aO p).2.length - k) (k+1)) (dC fL1 ?_) ⟨k+1,dC fL1 ?_⟩
      all_goals try(apply ai;repeat' first|exact ah|apply aa|(apply ak;intro zb hc)|(apply aj;intro zb)|intro j')<;>try apply al
     all_goals(first|(rw[q4];done)|skip)
    ·have cM2:=trivial
     refine lp fL1 ?_
     all_goals try(apply ai;repeat' first|exact ah|apply aa|(apply ak;intro zb hc)|(apply aj;intro zb)|intro j')<;>try apply al
     rw[List.take_of_length_le (by omega)]
theorem pC {m0:Bool} (p:List Int) (hp:p.length≤1048576):Fun Tryz.prog 125 [(.sl (.lent m0) (List.map (PV.int .i64) (p)))] [(.sl .own (List.map (bt false) ((if ae p=true then or 8 p []else[]))))]:=by
 by_cases h:ae p=true
 ·obtain⟨h8,_⟩:=aw h
  have c1:=fun(m0:Bool)=>pz 8 (m0:=m0) p [] (by decide) h h8 (fun l hl=>by cases hl) (by decide)
  simp only[List.map_nil]at c1
  rw[if_pos h]
  refine fO pG [2] Tryz.func125 ?_
  have cE1:= @aq
  have cM1:= @c1
  refine ax @h ?_
  all_goals try(apply ai;repeat' first|exact ah|apply aa|(apply ak;intro zb hc)|(apply aj;intro zb)|intro j')<;>try apply al
 ·rw[if_neg h]
  rw[Bool.not_eq_true]at h
  refine fO pG [2] Tryz.func125 ?_
  have cE1:= @aq
  refine ax @h ?_
  all_goals try(apply ai;repeat' first|exact ah|apply aa|(apply ak;intro zb hc)|(apply aj;intro zb)|intro j')<;>try apply al
theorem Rd {p:List Int}:∃X,(if ae p=true then or 8 p []else[])=X∧X.length≤43046721∧(∀q∈X,q.length≤8)∧(∀q∈X,2<q.length→oo p=false)∧((∀q∈X,¬2<q.length)→oo p=ae p):=by
 refine⟨_,rfl, ?_⟩
 by_cases h:ae p=true
 ·rw[if_pos h]
  have hm:∀x,x∈or 8 p []↔x∈ng 8 p:=fun x=>by rw[rsL_mem];simp
  refine⟨by have:=ti (d:=8) (out:=[]) h;simpa using this,xQ h (fun l hl=>by cases hl),fun q hq h2=> ?_,fun h2=> ?_⟩
  ·rw[oo,Bool.and_eq_false_iff]
   refine .inr ?_
   rw[Bool.not_eq_false',List.any_eq_true]
   exact⟨q,(hm q).1 hq,decide_eq_true (by omega)⟩
  ·rw[oo]
   have:((ng 8 p).any fun q=>decide ((2:Int)<(q.length:Int)))=false:=by
    rw[←Bool.not_eq_true,List.any_eq_true]
    rintro⟨q,hq,g⟩
    have:=h2 q ((hm q).2 hq)
    have:=of_decide_eq_true g
    omega
   rw[this];simp
 ·rw[if_neg h]
  rw[Bool.not_eq_true]at h
  refine⟨by simp,fun q hq=>(by cases hq),fun q hq=>(by cases hq),fun _=> ?_⟩
  rw[oo,h];rfl
theorem hY {m0:Bool} (p:List Int) (hp:p.length≤1048576):Fun Tryz.prog 76 [(.sl (.lent m0) (List.map (PV.int .i64) (p)))] [(.bool (oo p))]:=by
 refine fO aR [2] Tryz.func76 ?_
 have cE1:= @pC;have cE2:= @aq
 obtain⟨X,x0,x1,x2,x3,x4⟩:=Rd (p:=p)
 refine ax @x0 ?_
 all_goals try(apply ai;repeat' first|exact ah|apply aa|(apply ak;intro zb hc)|(apply aj;intro zb)|intro j')<;>try apply al
 refine an (fun ms1 S1=>∃(k:Nat),S1.e 0=.p (.sl (.lent m0) (List.map (PV.int .i64) (p)))∧OwnL (S1.e 3) S1.h S1.n (bt false) ((X).length) (X)∧S1.e 4=.p (.int .i64 (k))∧(k≤X.length)∧(∀q∈X.take k,¬2<q.length)∧ms1=X.length - k) ((fun(k:Nat)=>X.length - k) (0)) ?_ ⟨0,dC trivial ?_⟩
 all_goals try(apply ai;repeat' first|exact ah|apply aa|(apply ak;intro zb hc)|(apply aj;intro zb)|intro j')<;>try apply al
 rintro ms1 S1 ⟨k,h1_0,o1_3,h1_4,c1_0,c1_1,hm1⟩
 obtain⟨i1_3,h1_3,b1_3,l1_3⟩:=o1_3.out
 have ni1_3:=aG (x:=i1_3) (n:=S1.n)
 have fL1:=(aa h1_0 (aa h1_4 (aa h1_3 (aa b1_3 ni1_3))))
 by_cases hk:k<X.length
 ·by_cases hd:2<(X.getD k []).length
  ·rw[x3 _ (ar hk) hd]
   refine ax fL1 ?_
   all_goals try(apply ai;repeat' first|exact ah|apply aa|(apply ak;intro zb hc)|(apply aj;intro zb)|intro j')<;>try apply al
  ·refine ax fL1 ?_
   all_goals try(apply ai;repeat' first|exact ah|apply aa|(apply ak;intro zb hc)|(apply aj;intro zb)|intro j')<;>try apply al
   focus
    refine am ((fun(k:Nat)=>X.length - k) (k+1)) (dC fL1 ?_) ⟨k+1,dC fL1 ?_⟩
    all_goals try(apply ai;repeat' first|exact ah|apply aa|(apply ak;intro zb hc)|(apply aj;intro zb)|intro j')<;>try apply al
   all_goals(first|(intro q hq;rw[az (d:=[]) hk]at hq;rcases List.mem_append.1 hq with g|g;exact c1_1 q g;rw[List.mem_singleton]at g;subst g;exact hd)|skip)
 ·rw[List.take_of_length_le (by omega)]at c1_1
  rw[x4 c1_1]
  refine ax fL1 ?_
  all_goals try(apply ai;repeat' first|exact ah|apply aa|(apply ak;intro zb hc)|(apply aj;intro zb)|intro j')<;>try apply al
def Ad:Nat→List UInt8
 |0=>[115,105,109,112,108,101]
 |1=>[115,101,112,97,114,97,98,108,101]
 |2=>[108,97,121,101,114,101,100]
 |3=>[115,109,111,111,116,104]
 |4=>[118,101,120,105,108,108,97,114,121]
 |5=>[99,111,109,109,117,116,97,116,105,118,101]
 |6=>[109,101,114,103,101,100]
 |7=>[105,110,118,111,108,117,116,105,111,110]
 |_=>[97,108,116,101,114,110,97,116,105,110,103]
def ZW (p:List Int):Nat→Bool
 |0=>ae p&&iX p
 |1=>oo p
 |2=>lH p
 |3=>du p tc
 |4=>du p sO
 |5=>du p tY
 |6=>du p td
 |7=>tG p
 |_=>ri p
def wd (L:List (List UInt8)) (b:Bool) (w:List UInt8):List (List UInt8):=if b=true then L++[w]else L
def iF (p:List Int):Nat→List (List UInt8)
 |0=>[]
 |k+1=>wd (iF p k) (ZW p k) (Ad k)
def Ae (p:List Int):List UInt8:=if ae p=true then(if iF p 9=[]then[45]else Lib.join (iF p 9) [32])else[]
theorem IH {L:List (List UInt8)} {b:Bool} {w:List UInt8}:(wd L b w).length≤L.length+1:=by unfold wd;split<;>simp
theorem eG {p:List Int}:∀{k:Nat},(iF p k).length≤k∧∀w∈iF p k,w.length≤11
 |0=>by simp[iF]
 |k+1=>by
  obtain⟨h1,h2⟩:=eG (p:=p) (k:=k)
  have h3:(Ad k).length≤11:=by
   match k with
   |0|1|2|3|4|5|6|7=>decide
   |n+8=>exact Nat.le_of_ble_eq_true rfl
  rw[iF]
  refine⟨Nat.le_trans IH (by omega),fun w hw=> ?_⟩
  unfold wd at hw;split at hw
  ·rcases List.mem_append.1 hw with q|q
   ·exact h2 w q
   ·rw[List.mem_singleton.1 q];exact h3
  ·exact h2 w hw
theorem tN {p:List Int}:(Lib.join (iF p 9) [32]).length≤108:=by
 obtain⟨h1,h2⟩:=eG (p:=p) (k:=9)
 have:=eW (sep:=[32]) h2
 have h3:=Nat.mul_le_mul_right (11+([32]:List UInt8).length) h1
 exact Nat.le_trans this h3
def tf:FuncId→List Bool:=fun f=>if f=74 then[true]else[]
theorem E7 {f:FuncId}:tf f=if f=74 then[true]else[]:=_root_.id rfl
theorem A2:fJ tf=false∧ga tf=false∧f9 tf=false∧f8 tf=false∧gb tf=false:=⟨rfl,rfl,rfl,rfl,rfl⟩
attribute [go_sem] E7 A2
theorem bB (L:List (List UInt8)) (b:Bool) (w:List UInt8) (hL:L.length≤1000):CallT Tryz.prog true 74 [.mu false (List.map PV.str (L)),.pv (.bool (b)),.pv (.str (w))] [none,none,none] [(.sl .own (List.map PV.str (wd L b w)))]:=by
 refine fX tf [6] Tryz.func74 ?_
 cases b with
 |true=>
  have e:wd L true w=L++[w]:=rfl
  rw[e]
  refine lp trivial ?_
  all_goals try(apply ai;repeat' first|exact ah|apply aa|(apply ak;intro zb hc)|(apply aj;intro zb)|intro j')<;>try apply al
 |false=>
  have e:wd L false w=L:=rfl
  rw[e]
  refine lp trivial ?_
  all_goals try(apply ai;repeat' first|exact ah|apply aa|(apply ak;intro zb hc)|(apply aj;intro zb)|intro j')<;>try apply al
theorem d6 {m0:Bool} (p:List Int) (hp:p.length≤1048576):Fun Tryz.prog 36 [(.sl (.lent m0) (List.map (PV.int .i64) (p)))] [(.str (Ae p))]:=by
 by_cases h:ae p=true
 ·have n1:=eG (p:=p) (k:=1)
  have n2:=eG (p:=p) (k:=2)
  have n3:=eG (p:=p) (k:=3)
  have n4:=eG (p:=p) (k:=4)
  have n5:=eG (p:=p) (k:=5)
  have n6:=eG (p:=p) (k:=6)
  have n7:=eG (p:=p) (k:=7)
  have n8:=eG (p:=p) (k:=8)
  have n9:=eG (p:=p) (k:=9)
  have nj:=tN (p:=p)
  have a0:=bB [] (ae p&&iX p) [115,105,109,112,108,101] (by decide)
  have a1:=bB (iF p 1) (oo p) [115,101,112,97,114,97,98,108,101] (by omega)
  have a2:=bB (iF p 2) (lH p) [108,97,121,101,114,101,100] (by omega)
  have a3:=bB (iF p 3) (du p tc) [115,109,111,111,116,104] (by omega)
  have a4:=bB (iF p 4) (du p sO) [118,101,120,105,108,108,97,114,121] (by omega)
  have a5:=bB (iF p 5) (du p tY) [99,111,109,109,117,116,97,116,105,118,101] (by omega)
  have a6:=bB (iF p 6) (du p td) [109,101,114,103,101,100] (by omega)
  have a7:=bB (iF p 7) (tG p) [105,110,118,111,108,117,116,105,111,110] (by omega)
  have a8:=bB (iF p 8) (ri p) [97,108,116,101,114,110,97,116,105,110,103] (by omega)
  rw[show wd [] (ae p&&iX p) [115,105,109,112,108,101]=iF p 1 from rfl]at a0
  rw[show wd (iF p 1) (oo p) [115,101,112,97,114,97,98,108,101]=iF p 2 from rfl]at a1
  rw[show wd (iF p 2) (lH p) [108,97,121,101,114,101,100]=iF p 3 from rfl]at a2
  rw[show wd (iF p 3) (du p tc) [115,109,111,111,116,104]=iF p 4 from rfl]at a3
  rw[show wd (iF p 4) (du p sO) [118,101,120,105,108,108,97,114,121]=iF p 5 from rfl]at a4
  rw[show wd (iF p 5) (du p tY) [99,111,109,109,117,116,97,116,105,118,101]=iF p 6 from rfl]at a5
  rw[show wd (iF p 6) (du p td) [109,101,114,103,101,100]=iF p 7 from rfl]at a6
  rw[show wd (iF p 7) (tG p) [105,110,118,111,108,117,116,105,111,110]=iF p 8 from rfl]at a7
  rw[show wd (iF p 8) (ri p) [97,108,116,101,114,110,97,116,105,110,103]=iF p 9 from rfl]at a8
  have e:Ae p=if iF p 9=[]then[45]else Lib.join (iF p 9) [32]:=by rw[Ae,if_pos h]
  rw[e]
  have cp:=fun m0:Bool=>aq (m0:=m0) p hp
  rw[h]at cp
  simp only[List.map_nil]at a0
  refine fO tf [2] Tryz.func36 ?_
  have cE1:= @aq;have cE2:= @jP;have cE3:= @hY;have cE4:= @je;have cE5:= @jO;have cE6:= @hU
  have cE7:= @gc;have cE8:= @gy;have cE9:= @gz;have cE10:= @ge;have cE11:= @bZ;have cM1:= @bB
  have cE1:= @cp;have cM1:= @a0;have cM2:= @a1;have cM3:= @a2;have cM4:= @a3;have cM5:= @a4
  have cM6:= @a5;have cM7:= @a6;have cM8:= @a7;have cM9:= @a8
  refine ax trivial ?_
  all_goals try(apply ai;repeat' first|exact ah|apply aa|(apply ak;intro zb hc)|(apply aj;intro zb)|intro j')<;>try apply al
  ·rw[if_pos (List.eq_nil_of_length_eq_zero (by omega))]
  ·rw[if_neg (fun e=>hc (by rw[e];rfl))]
 ·have e:Ae p=[]:=by rw[Ae,if_neg h]
  rw[e]
  rw[Bool.not_eq_true]at h
  refine fO tf [2] Tryz.func36 ?_
  have cE1:= @aq;have cE2:= @jP;have cE3:= @hY;have cE4:= @je;have cE5:= @jO;have cE6:= @hU
  have cE7:= @gc;have cE8:= @gy;have cE9:= @gz;have cE10:= @ge;have cE11:= @bZ;have cM1:= @bB
  refine ax @h ?_
  all_goals try(apply ai;repeat' first|exact ah|apply aa|(apply ak;intro zb hc)|(apply aj;intro zb)|intro j')<;>try apply al
def Dp:Nat→FuncId
 |0=>96
 |1=>97
 |2=>98
 |3=>99
 |4=>100
 |5=>101
 |6=>102
 |7=>103
 |_=>104
def fmCs:List PV:=[.str (Ad 0),.fn (Dp 0) [] [],.str (Ad 1),.fn (Dp 1) [] [],.str (Ad 2),.fn (Dp 2) [] [],.str (Ad 3),.fn (Dp 3) [] [],.str (Ad 4),.fn (Dp 4) [] [],.str (Ad 5),.fn (Dp 5) [] [],.str (Ad 6),.fn (Dp 6) [] [],.str (Ad 7),.fn (Dp 7) [] [],.str (Ad 8),.fn (Dp 8) [] []]
theorem vu:fmCs.length=18:=rfl
theorem Uc {k:Nat} (hk:k<9):List.take 2 (List.drop (k*2) fmCs)=[.str (Ad k),.fn (Dp k) [] []]:=by
 obtain rfl|rfl|rfl|rfl|rfl|rfl|rfl|rfl|rfl:k=0∨k=1∨k=2∨k=3∨k=4∨k=5∨k=6∨k=7∨k=8:=by omega
 all_goals rfl
theorem RB:kk Tryz.prog 58=true:=by kernel_rfl
theorem Ih:PV.cellOk .nilf=true:=_root_.id rfl
theorem Im:PV.cell .nilf=.nilf:=_root_.id rfl
theorem Va {f:FuncId} {a b:List PV}:PV.cell (.fn f a b)=.fn f a b:=_root_.id rfl
attribute [local go_sem] RB Ih Im Va
theorem G8 {m0:Bool} {k:Nat} (hk:k<9) (p:List Int) (hp:p.length≤1048576):Fun Tryz.prog (Dp k) [.sl (.lent m0) (List.map (PV.int .i64) p)] [.bool (ZW p k)]:=by
 obtain rfl|rfl|rfl|rfl|rfl|rfl|rfl|rfl|rfl:k=0∨k=1∨k=2∨k=3∨k=4∨k=5∨k=6∨k=7∨k=8:=by omega
 ·exact cI p hp
 ·exact ck p hp
 ·exact cA p hp
 ·exact cH p hp
 ·exact ch p hp
 ·exact bN p hp
 ·exact bV p hp
 ·exact bW p hp
 ·exact bO p hp
theorem ep {m0:Bool} (p:List Int) (hp:p.length≤1048576):Fun Tryz.prog 50 [(.sl (.lent m0) (List.map (PV.int .i64) (p)))] [(.str (Ae p))]:=by
 by_cases h:ae p=true
 ·have e:Ae p=if iF p 9=[]then[45]else Lib.join (iF p 9) [32]:=by rw[Ae,if_pos h]
  have nj:=tN (p:=p)
  rw[e]
  refine fO aR [2] Tryz.func50 ?_
  have cE1:= @ao;have cE2:= @cI;have cE3:= @ck;have cE4:= @cA;have cE5:= @cH;have cE6:= @ch
  have cE7:= @bN;have cE8:= @bV;have cE9:= @bW;have cE10:= @bO;have cE11:= @aQ
  refine ax @h ?_
  all_goals try(apply ai;repeat' first|exact ah|apply aa|(apply ak;intro zb hc)|(apply aj;intro zb)|intro j')<;>try apply al
  refine an (fun ms1 S1=>∃(k:Nat),S1.e 0=.p (.sl (.lent m0) (List.map (PV.int .i64) (p)))∧OwnL (S1.e 4) S1.h S1.n PV.str ((iF p k).length) (iF p k)∧PrsL (S1.e 21) S1.h S1.n (9) (fmCs)∧S1.e 22=.p (.int .i64 (9))∧S1.e 23=.p (.int .i64 (k))∧(k≤9)∧NId (mZ (S1.e 21)) (S1.e 4)∧ms1=9 - k) ((fun(k:Nat)=>9 - k) (0)) ?_ ⟨0,dC trivial ?_⟩
  all_goals try(apply ai;repeat' first|exact ah|apply aa|(apply ak;intro zb hc)|(apply aj;intro zb)|intro j')<;>try apply al
  rintro ms1 S1 ⟨k,h1_0,o1_4,o1_21,h1_22,h1_23,c1_0,u1_0,hm1⟩
  obtain⟨i1_4,h1_4,b1_4,l1_4⟩:=o1_4.out
  obtain⟨i1_21,h1_21,b1_21,l1_21⟩:=o1_21.out
  have k1_0:=(u1_0).out (Oz h1_21) h1_4
  have ni1_4:=aG (x:=i1_4) (n:=S1.n)
  have ni1_21:=aG (x:=i1_21) (n:=S1.n)
  have di1_4i1_21:=cQ (x:=i1_4) (y:=i1_21)
  have fL1:=(aa h1_0 (aa h1_22 (aa h1_23 (aa h1_4 (aa b1_4 (aa h1_21 (aa b1_21 (aa ni1_4 (aa ni1_21 di1_4i1_21)))))))))
  ·obtain⟨n1,_⟩:=eG (p:=p) (k:=k)
   by_cases hk:k<9
   ·have e1:=Uc hk
    have c9:=fun m0:Bool=>G8 (m0:=m0) hk p hp
    cases hb:ZW p k with
    |true=>
     have e2:iF p (k+1)=iF p k++[Ad k]:=by rw[iF,hb];rfl
     have cE1:= @c9;have cE2:= @ao;have cE3:= @cI;have cE4:= @ck;have cE5:= @cA;have cE6:= @cH
     have cE7:= @ch;have cE8:= @bN;have cE9:= @bV;have cE10:= @bW;have cE11:= @bO;have cE12:= @aQ
     refine ax (aa fL1 (aa @e1 (aa @vu @hb))) ?_
     all_goals try(apply ai;repeat' first|exact ah|apply aa|(apply ak;intro zb hc)|(apply aj;intro zb)|intro j')<;>try apply al
     focus
      refine am ((fun(k:Nat)=>9 - k) (k+1)) (dC fL1 ?_) ⟨k+1,dC fL1 ?_⟩
      all_goals try(apply ai;repeat' first|exact ah|apply aa|(apply ak;intro zb hc)|(apply aj;intro zb)|intro j')<;>try apply al
     all_goals(first|(rw[e2];done)|(rw[e2,List.length_append];rfl)|skip)
    |false=>
     have e2:iF p (k+1)=iF p k:=by rw[iF,hb];rfl
     have cE1:= @c9;have cE2:= @ao;have cE3:= @cI;have cE4:= @ck;have cE5:= @cA;have cE6:= @cH
     have cE7:= @ch;have cE8:= @bN;have cE9:= @bV;have cE10:= @bW;have cE11:= @bO;have cE12:= @aQ
     refine ax (aa fL1 (aa @e1 (aa @vu @hb))) ?_
     all_goals try(apply ai;repeat' first|exact ah|apply aa|(apply ak;intro zb hc)|(apply aj;intro zb)|intro j')<;>try apply al
     focus
      refine am ((fun(k:Nat)=>9 - k) (k+1)) (dC fL1 ?_) ⟨k+1,dC fL1 ?_⟩
      all_goals try(apply ai;repeat' first|exact ah|apply aa|(apply ak;intro zb hc)|(apply aj;intro zb)|intro j')<;>try apply al
     all_goals(first|(rw[e2];done)|skip)
   ·obtain rfl:k=9:=by omega
    have cE1:= @ao;have cE2:= @cI;have cE3:= @ck;have cE4:= @cA;have cE5:= @cH;have cE6:= @ch
    have cE7:= @bN;have cE8:= @bV;have cE9:= @bW;have cE10:= @bO;have cE11:= @aQ;have cE12:=trivial
    refine ax fL1 ?_
    all_goals try(apply ai;repeat' first|exact ah|apply aa|(apply ak;intro zb hc)|(apply aj;intro zb)|intro j')<;>try apply al
    ·rw[if_pos (List.eq_nil_of_length_eq_zero (by omega))]
    ·rw[if_neg (fun e=>hc (by rw[e];rfl))]
 ·have e:Ae p=[]:=by rw[Ae,if_neg h]
  rw[e]
  rw[Bool.not_eq_true]at h
  refine fO aR [2] Tryz.func50 ?_
  have cE1:= @ao;have cE2:= @cI;have cE3:= @ck;have cE4:= @cA;have cE5:= @cH;have cE6:= @ch
  have cE7:= @bN;have cE8:= @bV;have cE9:= @bW;have cE10:= @bO;have cE11:= @aQ
  refine ax @h ?_
  all_goals try(apply ai;repeat' first|exact ah|apply aa|(apply ak;intro zb hc)|(apply aj;intro zb)|intro j')<;>try apply al
end Go.Gl
namespace Go.Gl
open Go Go.Proofs
variable [Amb] [NoQ]
variable [TabA]
def H8 (t:List UInt8):List UInt8:=if t=[]then[45]else t
theorem H7 {t:List UInt8}:(H8 t).length≤t.length+1:=by unfold H8;split<;>simp
theorem i7 (t:List UInt8) (ht:t.length≤1099511627776):Fun Tryz.prog 38 [(.str (t))] [(.str (H8 t))]:=by
 refine fO aR [2] Tryz.func38 ?_
 by_cases h:t=[]
 ·have e:H8 t=[45]:=if_pos h
  rw[e]
  subst h
  refine ax trivial ?_
  all_goals try(apply ai;repeat' first|exact ah|apply aa|(apply ak;intro zb hc)|(apply aj;intro zb)|intro j')<;>try apply al
 ·have e:H8 t=t:=if_neg h
  rw[e]
  refine ax trivial ?_
  all_goals try(apply ai;repeat' first|exact ah|apply aa|(apply ak;intro zb hc)|(apply aj;intro zb)|intro j')<;>try apply al
  all_goals(first|(exact absurd hc h)|skip)
def Aq (p:List Int):List (List UInt8):=[[116,114,101,101],H8 (oT p),[100,101,115,99,101,110,116,115],kp (xg p),[105,110,118,101,114,115,105,111,110,115],fC (eK p p.length),[109,97,106,111,114],fC (CE p),[99,121,99,108,101,115],fC (DU p),[117,112],fC (pr p),[100,111,119,110],fC (qQ p),[115,116,97,99,107],fC (sT nW p),[112,111,112],fC (sT nm p),[99,111,100,101],kp (bm p),Ae p]
def Jd (p:List Int):List UInt8:=if ae p=true then Lib.join (Aq p) [32]else[]
omit [TabA]in
theorem NO {p:List Int} (h:ae p=true):(0≤eK p p.length∧eK p p.length≤64)∧(-1≤pr p∧pr p≤8)∧(-1≤qQ p∧qQ p≤8)∧(∀x∈xg p, -9223372036854775808≤x∧x≤9223372036854775807)∧(bm p).length≤8∧∀x∈bm p, -9223372036854775808≤x∧x≤9223372036854775807:=by
 obtain⟨h8,hq⟩:=aw h
 refine⟨?_, ?_, ?_,fun x hx=>by have:=dsL_f.2 x hx;omega,by rw[ja];exact h8,fun x hx=> ?_⟩
 ·have h1:=Da (p:=p) (k:=p.length) (Nat.le_refl _)
  have i2:p.length*p.length≤64:=Nat.mul_le_mul h8 h8
  omega
 ·have:=IX h8
  rw[pr,if_pos h];omega
 ·have:=IX (p:=p.reverse) (by rw[List.length_reverse];exact h8)
  rw[qQ,if_pos h];omega
 ·obtain⟨i,hi,rfl⟩:=List.getElem_of_mem hx
  have:=nR p i
  rw[List.getD_eq_getElem?_getD,List.getElem?_eq_getElem hi]at this
  simp only[Option.getD_some]at this;omega
theorem US {p:List Int} (h:ae p=true):(kp (xg p)).length≤177∧(kp (bm p)).length≤177∧(fC (eK p p.length)).length≤21∧(fC (CE p)).length≤21∧(fC (DU p)).length≤21∧(fC (pr p)).length≤21∧(fC (qQ p)).length≤21∧(fC (sT nW p)).length≤21∧(fC (sT nm p)).length≤21∧(Ae p).length≤108∧(H8 (oT p)).length≤1300000001:=by
 obtain⟨i1,i2,i3,i4,i5,i6⟩:=NO h
 have m1:=CD (p:=p)
 have m2:=DT (p:=p)
 have m3:=rN (f:=nW) (p:=p)
 have m4:=rN (f:=nm) (p:=p)
 have n1:=mG i4
 have n2:=mG i6
 have n3:=(dsL_f (p:=p)).1
 have t1:=sS (p:=p)
 have t2:=H7 (t:=oT p)
 refine⟨by omega,by omega,gk (by omega) (by omega),gk (by omega) (by omega),gk (by omega) (by omega),gk (by omega) (by omega),gk (by omega) (by omega),gk (by omega) (by omega),gk (by omega) (by omega), ?_,by omega⟩
 rw[Ae,if_pos h]
 split
 ·exact(by decide:([45]:List UInt8).length≤108)
 ·exact tN
theorem aad {p:List Int} (h:ae p=true):(Lib.join (Aq p) [32]).length≤1099511627776:=by
 obtain⟨l1,l2,l3,l4,l5,l6,l7,l8,l9,l10,l11⟩:=US h
 have:=eW (sep:=[32]) (n:=1300000001) (l:=Aq p) fun x hx=>by
  simp only[Aq,List.mem_cons,List.not_mem_nil,or_false]at hx
  rcases hx with rfl|rfl|rfl|rfl|rfl|rfl|rfl|rfl|rfl|rfl|rfl|rfl|rfl|rfl|rfl|rfl|rfl|rfl|rfl|rfl|rfl<;>first|omega|(simp only[List.length_cons,List.length_nil];omega)
 have e:(Aq p).length=21:=rfl
 rw[e]at this
 simp only[List.length_singleton]at this;omega
theorem eq {m0:Bool} (p:List Int) (hl:p.length≤1048576):Fun Tryz.prog 7 [(.sl (.lent m0) (List.map (PV.int .i64) (p)))] [(.str (Jd p))]:=by
 by_cases h:ae p=true
 ·obtain⟨i1,i2,i3,i4,i5,i6⟩:=NO h
  have m1:=CD (p:=p)
  have m2:=DT (p:=p)
  have m3:=rN (f:=nW) (p:=p)
  have m4:=rN (f:=nm) (p:=p)
  have n3:=(dsL_f (p:=p)).1
  have t1:=sS (p:=p)
  have j1:=aad h
  have f1:(if ae p=true then eK p p.length else -1)=eK p p.length:=if_pos h
  have f2:Wv p=bm p:=if_pos h
  have e:Jd p=Lib.join (Aq p) [32]:=if_pos h
  have cj:=fun m0:Bool=>aQ (m0:=m0) (Aq p) [32] (by rw[show(Aq p).length=21 from rfl];decide) j1
  simp only[Aq,List.map_cons,List.map_nil]at cj
  rw[e,Aq]
  refine fO aR [2] Tryz.func7 ?_
  have cE1:= @ao;have cE2:= @gr;have cE3:= @i7;have cE4:= @cL;have cE5:= @bJ;have cE6:= @c8
  have cE7:= @dU;have cE8:= @ip;have cE9:= @eN;have cE10:= @f6;have cE11:= @eM;have cE12:= @fA
  have cE13:= @gs;have cE14:= @i8;have cE15:= @ep;have cE16:= @aQ
  have cE1:= @cj;have cE2:= @ao;have cE3:= @gr;have cE4:= @i7;have cE5:= @cL;have cE6:= @bJ
  have cE7:= @c8;have cE8:= @dU;have cE9:= @ip;have cE10:= @eN;have cE11:= @f6;have cE12:= @eM
  have cE13:= @fA;have cE14:= @gs;have cE15:= @i8;have cE16:= @ep
  refine ax (aa @h (aa @f1 @f2)) ?_
  all_goals try(apply ai;repeat' first|exact ah|apply aa|(apply ak;intro zb hc)|(apply aj;intro zb)|intro j')<;>try apply al
 ·have e:Jd p=[]:=if_neg h
  rw[e]
  rw[Bool.not_eq_true]at h
  refine fO aR [2] Tryz.func7 ?_
  have cE1:= @ao;have cE2:= @gr;have cE3:= @i7;have cE4:= @cL;have cE5:= @bJ;have cE6:= @c8
  have cE7:= @dU;have cE8:= @ip;have cE9:= @eN;have cE10:= @f6;have cE11:= @eM;have cE12:= @fA
  have cE13:= @gs;have cE14:= @i8;have cE15:= @ep;have cE16:= @aQ
  refine ax @h ?_
  all_goals try(apply ai;repeat' first|exact ah|apply aa|(apply ak;intro zb hc)|(apply aj;intro zb)|intro j')<;>try apply al
theorem d7 {m0:Bool} (p:List Int) (hl:p.length≤1048576):Fun Tryz.prog 5 [(.sl (.lent m0) (List.map (PV.int .i64) (p)))] [(.str (Jd p))]:=by
 by_cases h:ae p=true
 ·obtain⟨i1,i2,i3,i4,i5,i6⟩:=NO h
  obtain⟨l1,l2,l3,l4,l5,l6,l7,l8,l9,l10,l11⟩:=US h
  have m1:=CD (p:=p)
  have m2:=DT (p:=p)
  have m3:=rN (f:=nW) (p:=p)
  have m4:=rN (f:=nm) (p:=p)
  have n3:=(dsL_f (p:=p)).1
  have t1:=sS (p:=p)
  have f1:(if ae p=true then eK p p.length else -1)=eK p p.length:=if_pos h
  have f2:(if ae p=true then bm p else[])=bm p:=if_pos h
  have e:Jd p=Lib.join (Aq p) [32]:=if_pos h
  rw[e,Aq]
  simp only[Lib.join_cons,Lib.joinTail,List.map_cons,List.map_nil,List.flatten_cons,List.flatten_nil,List.append_nil]
  by_cases h0:oT p=[]
  ·have f3:H8 (oT p)=[45]:=if_pos h0
   rw[f3]
   refine fO aR [2] Tryz.func5 ?_
   have cE1:= @aq;have cE2:= @gm;have cE3:= @cJ;have cE4:= @bF;have cE5:= @cZ;have cE6:= @cR
   have cE7:= @hR;have cE8:= @eJ;have cE9:= @fT;have cE10:= @eI;have cE11:= @fk;have cE12:= @gn
   have cE13:= @iW;have cE14:= @d6
   refine ax (aa @h (aa @f1 (aa @f2 @h0))) ?_
   all_goals try(apply ai;repeat' first|exact ah|apply aa|(apply ak;intro zb hc)|(apply aj;intro zb)|intro j')<;>try apply al
  ·have f3:H8 (oT p)=oT p:=if_neg h0
   have f4:(oT p=[])=False:=eq_false h0
   rw[f3]
   refine fO aR [2] Tryz.func5 ?_
   have cE1:= @aq;have cE2:= @gm;have cE3:= @cJ;have cE4:= @bF;have cE5:= @cZ;have cE6:= @cR
   have cE7:= @hR;have cE8:= @eJ;have cE9:= @fT;have cE10:= @eI;have cE11:= @fk;have cE12:= @gn
   have cE13:= @iW;have cE14:= @d6
   refine ax (aa @h (aa @f1 (aa @f2 @f4))) ?_
   all_goals try(apply ai;repeat' first|exact ah|apply aa|(apply ak;intro zb hc)|(apply aj;intro zb)|intro j')<;>try apply al
 ·have e:Jd p=[]:=if_neg h
  rw[e]
  rw[Bool.not_eq_true]at h
  refine fO aR [2] Tryz.func5 ?_
  have cE1:= @aq;have cE2:= @gm;have cE3:= @cJ;have cE4:= @bF;have cE5:= @cZ;have cE6:= @cR
  have cE7:= @hR;have cE8:= @eJ;have cE9:= @fT;have cE10:= @eI;have cE11:= @fk;have cE12:= @gn
  have cE13:= @iW;have cE14:= @d6
  refine ax @h ?_
  all_goals try(apply ai;repeat' first|exact ah|apply aa|(apply ak;intro zb hc)|(apply aj;intro zb)|intro j')<;>try apply al
end Go.Gl
namespace Go.Gl
open Go Go.Proofs
variable [Amb] [NoQ]
variable [TabA]
omit [TabA]in
theorem txE {a:List UInt8}:decide (a=a)=true:=by simp
omit [TabA]in
theorem UT {p:List Int}:decide (Jd p=[])= !ae p:=by
 unfold Jd
 cases h:ae p with
 |true=>rw[if_pos rfl];simp[Aq,Lib.join_cons]
 |false=>rw[if_neg (by decide)];rfl
omit [TabA]in
theorem MW:∀i:Nat,i<12→(fC ((i:Int) - 1)).length≠0∧((fC ((i:Int) - 1)).getD 0 0≠45∨2≤(fC ((i:Int) - 1)).length):=by decide+kernel
omit [TabA]in
theorem K6 {l:List Int} (hb:∀x∈l, -1≤x∧x≤10):decide (kp l=[45])=decide ((l.length:Int)=0):=by
 unfold kp
 match l,hb with
 |[],_=>simp
 |x::r,hb=>
  have hx:=hb x List.mem_cons_self
  obtain⟨i,rfl⟩:∃i:Nat,x=(i:Int) - 1:=⟨(x+1).toNat,by omega⟩
  obtain⟨h1,h2⟩:=MW i (by omega)
  have e1:decide ((((((i:Int) - 1)::r).length:Nat):Int)=0)=false:=decide_eq_false (by simp only[List.length_cons];omega)
  rw[e1,if_neg (by simp),decide_eq_false_iff_not,gj,List.map_cons,Lib.join_cons]
  intro e
  cases hf:fC ((i:Int) - 1)with
  |nil=>rw[hf]at h1;exact h1 rfl
  |cons c t=>
   rw[hf]at e h2
   rw[List.cons_append]at e
   injection e with e2 e3
   rcases h2 with g|g
   ·exact g e2
   ·have:=congrArg List.length e3
    simp only[List.length_append,List.length_nil,List.length_cons]at this g;omega
theorem zW (b:List UInt8):Fun Tryz.prog 4 [(.sl (.lent false) (List.map jW (b)))] [(.bool (true))]:=by
 by_cases hs:b.length≤1048576
 ·obtain⟨p,d1,hp⟩:=jg b hs
  obtain⟨L,d2,l1,l2⟩:=j7 b hs
  obtain⟨n,d3,hn⟩:=jA b hs
  obtain⟨T,d4,hT⟩:=jz b hs
  have n1:=hn.len
  have n2:∀x∈n, -9223372036854775808≤x∧x≤9223372036854775807:=fun x hx=>by have:=hn.rg x hx;omega
  have t1:=hT.len
  have t2:∀l∈T,l.length≤1048576:=fun l hl=>by have:=hT.row l hl;omega
  have t3:∀l∈T,∀x∈l, -9223372036854775808≤x∧x≤9223372036854775807:=fun l hl x hx=>by have:=hT.rg l hl x hx;omega
  have t4:mc (T.map List.length)≤1048576:=by
   have:=mb (B:=8) (l:=T.map List.length) fun x hx=>by
    obtain⟨l,hl,rfl⟩:=List.mem_map.1 hx
    exact hT.row l hl
   rw[List.length_map]at this;omega
  have l3:∀l∈L,l.length≤1048576:=fun l hl=>by have:=l2 l hl;omega
  have e1:=UT (p:=p)
  have e2:=K6 hn.rg
  refine fO aR [2] Tryz.func4 ?_
  have cE1:= @lI;have cE2:= @eq;have cE3:= @d7;have cE4:= @dT;have cE5:= @dO;have cE6:= @bJ
  have cE7:= @bF;have cE8:= @bI;have cE9:= @bE;have cE10:= @dL;have cE11:= @dF;have cE12:= @ee
  have cE13:= @d0;have cE14:= @aq
  have cE1:= @d1;have cE2:= @d2;have cE3:= @d3;have cE4:= @d4;have cE5:= @lI;have cE6:= @eq
  have cE7:= @d7;have cE8:= @dT;have cE9:= @dO;have cE10:= @bJ;have cE11:= @bF;have cE12:= @bI
  have cE13:= @bE;have cE14:= @dL;have cE15:= @dF;have cE16:= @ee;have cE17:= @d0;have cE18:= @aq
  refine ax (aa @txE (aa @e1 @e2)) ?_
  all_goals try(apply ai;repeat' first|exact ah|apply aa|(apply ak;intro zb hc)|(apply aj;intro zb)|intro j')<;>try apply al
  ·simp
  ·exfalso;revert hc;cases ae p<;>decide
 ·refine fO aR [2] Tryz.func4 ?_
  have cE1:= @lI;have cE2:= @eq;have cE3:= @d7;have cE4:= @dT;have cE5:= @dO;have cE6:= @bJ
  have cE7:= @bF;have cE8:= @bI;have cE9:= @bE;have cE10:= @dL;have cE11:= @dF;have cE12:= @ee
  have cE13:= @d0;have cE14:= @aq
  have c1:decide ((1048576:Int)<b.length)=true:=decide_eq_true (by omega)
  refine dE @c1 ?_
  all_goals try(apply ai;repeat' first|exact ah|apply aa|(apply ak;intro zb hc)|(apply aj;intro zb)|intro j')<;>try apply al
end Go.Gl
