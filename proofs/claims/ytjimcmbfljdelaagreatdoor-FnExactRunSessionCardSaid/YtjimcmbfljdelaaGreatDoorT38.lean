/-
  What the functions compute, and what the law asks of it: texts joined. Conditions: those that each lemma names.
-/
import Derived.Test.YtjimcmbfljdelaaGreatDoorT37
import Derived.Test.YtjimcmbfljdelaaGreatDoorT36
import Derived.Test.YtjimcmbfljdelaaGreatDoorT5
import Derived.Test.YtjimcmbfljdelaaGreatDoorT1
set_option linter.unusedSimpArgs false
set_option linter.unusedVariables false
set_option maxRecDepth 20000
set_option linter.unusedSectionVars false
set_option maxHeartbeats 16000000
namespace Go.Gl
open Go Go.Proofs
variable [Amb][NoQ]
variable [TabA][SplA][AtoA]
def xS(X:List (List UInt8)):Nat->Se×List (List UInt8)
 |0=>(([2,4,1,3],[2,4,1,3],Fe 1),[])
 |k+1=>((KS (X.getD k []) (xS X k).1).1,(xS X k).2++[(KS (X.getD k []) (xS X k).1).2])
theorem lz{X:List (List UInt8)}:∀{k:Nat},(xS X k).2.length=k
 |0=>rfl
 |k+1=>by rw[xS,zA3,lz];rfl
theorem DT{X:List (List UInt8)}(hX:∀x∈X,x.length<=1048576):∀{k:Nat},k<=X.length->Dz (xS X k).1
 |0,_=>by
  have h1:=(uS (k:=1)).1;have h2:=(uS (k:=1)).2;exact⟨by simp[xS],by simp[xS],by show(Fe 1).length<=_;omega,λl hl=>by have:=h2 l hl;omega⟩
 |k+1,h=>VT (DT hX (by omega)) (hX _ (am (d:=[]) (by omega)))
def HN(s:List UInt8):List (List UInt8):=if(ar 10 s).length<=40 then(xS (ar 10 s) (ar 10 s).length).2 else[]
set_option maxHeartbeats 3200000
theorem iK(s:List UInt8)(hs:s.length<=1048576):Fun Tryz.prog 4 [.str s] [.sl .own (List.map PV.str (HN s)),.bool (decide ((ar 10 s).length<=40))]:=by
 have b9:∀x∈ar 10 s,x.length<=1048576:=λx hx=>by have:=iN x hx;simp at this;omega
 have b8:=lA (c:=10) (s:=s) (cur:=[]);have hS:=aB s 10 (by omega);rw[show(((10:UInt8).toNat:Nat):Int)=10 from rfl]at hS;unfold HN;generalize ar 10 s=X at*
 by_cases h:X.length<=40
 .have g:((40:Int)<(X.length:Int))=False:=zC6 (by omega)
  rw[zB0 h,zB6 h];refine fO au [2,3] Tryz.func4 ?_;have cE1:=@cR;have cE2:=@aB;have cE3:=@cH;have cD1:=d7 (d8 12 [5,9,10]) [(0,9),(1,9),(2,9),(3,9),(4,9),(5,9),(6,9),(7,9),(8,9),(8,10)];have cE1:=@hS;have cE2:=@cR;have cE3:=@aB;have cE4:=@cH;refine dE ai @g (aD λzb=> ?_);refine ao (λ(k:Nat) S1=>eI S1 7 k/\OwnL (S1.e 4) S1.h S1.n PV.str ((X).length) X/\OwnL (S1.e 5) S1.h S1.n PV.str (((xS X k).2).length) ((xS X k).2)/\PtrL (S1.e 6) S1.h S1.n (.live false [.sl (.lent false) (List.map (PV.int .i64) (xS X k).1.1),.sl (.lent false) (List.map (PV.int .i64) (xS X k).1.2.1),.sl (.lent false) (List.map (cK false) (xS X k).1.2.2)])/\k<=X.length/\NId (S1.e 5) (S1.e 4)/\NId (nk (S1.e 6)) (S1.e 4)/\NId (nk (S1.e 6)) (S1.e 5)) (λk=>X.length-k) 0 ?_ (dC trivial aj);rintro k S1 ⟨fF1,B7,A7,C3,A1,A8,H4,H5⟩;obtain⟨C4,B2,C8⟩:=B7.ou;obtain⟨B4,A5,B8⟩:=A7.ou;obtain⟨C5,B9,E0⟩:=C3.ou;have di1_5i1_4:=(A8).ou A5.1 B2.1;have di1_6i1_4:=(H4).ou (cc B9.1) B2.1;have di1_6i1_5:=(H5).ou (cc B9.1) A5.1;have fL1:=(aa fF1 (aa B2 (aa A5 (aa B9 (aa di1_5i1_4 (aa di1_6i1_4 di1_6i1_5))))));have ok:=DT b9 A1;have oL:=lz (X:=X) (k:=k);by_cases hk:k<X.length
  .have b2:=b9 _ (am (d:=[]) hk)
   obtain⟨o1,o2,o3,o4⟩:=id ok;have cE1:=@cR;have cE2:=@aB;have cE3:=@cH;have cE4:=trivial;refine dE ai fL1 (aI λzb hc=> ?_);refine ak (k+1) (dC fL1 aj) (dC fL1 (aD λzb=> ?_));all_goals first|exact ok|rfl|(rw[lz,lz];done)|trace_state
  .obtain rfl:k=X.length:=by omega
   have cE1:=@cR;have cE2:=@aB;have cE3:=@cH;have cE4:=trivial;exact dE ai fL1 aj
 .have g:((40:Int)<(X.length:Int))=True:=zF5 (by omega)
  rw[zA8 h,zB8 h];refine fO au [2,3] Tryz.func4 ?_;have cE1:=@cR;have cE2:=@aB;have cE3:=@cH;have cD1:=d7 (d8 12 [5,9,10]) [(0,9),(1,9),(2,9),(3,9),(4,9),(5,9),(6,9),(7,9),(8,9),(8,10)];have cE1:=@hS;have cE2:=@cR;have cE3:=@aB;have cE4:=@cH;exact dE ai @g aj
theorem cT  :Fun Tryz.prog 13 [] [.agg [lI false ([2,4,1,3]),lI false ([2,4,1,3]),lE false false ((Fe 1))]]:=by
 refine Fun.ofR (sg:=au) (rs:=[.cell 0 32]) mo Tryz.func13 rfl rfl rfl rfl (by kernel_rfl) (by simp only[go_sem]) rfl ?_;have cE1:=@jh;exact dE ai trivial aj
theorem iV(s:List UInt8)(hs:s.length<=1048576):Fun Tryz.prog 5 [.str s] [.sl .own (List.map PV.str (HN s)),.bool (decide ((ar 10 s).length<=40))]:=by
 have b9:∀x∈ar 10 s,x.length<=1048576:=λx hx=>by have:=iN x hx;simp at this;omega
 have hS:=aO s 10 (by omega);rw[show(((10:UInt8).toNat:Nat):Int)=10 from rfl]at hS;unfold HN;generalize ar 10 s=X at*
 by_cases h:X.length<=40
 .have g:((40:Int)<(X.length:Int))=False:=zC6 (by omega)
  rw[zB0 h,zB6 h];refine fO ml [2,3] Tryz.func5 ?_;have cE1:=@cT;have cE2:=@aO;have cM1:=@kY;have cE1:=@hS;have cE2:=@cT;have cE3:=@aO;refine dE ai @g (aD λzb=> ?_);refine ao (λ(k:Nat) S1=>(eI S1 18 X.length/\eI S1 19 k)/\PtrL (S1.e 5) S1.h S1.n (.live false [.sl (.lent false) (List.map (PV.int .i64) (xS X k).1.1),.sl (.lent false) (List.map (PV.int .i64) (xS X k).1.2.1),.sl (.lent false) (List.map (cK false) (xS X k).1.2.2)])/\OwnL (S1.e 6) S1.h S1.n PV.str (((xS X k).2).length) ((xS X k).2)/\OwnL (S1.e 17) S1.h S1.n PV.str ((X).length) X/\k<=X.length/\NId (S1.e 6) (nk (S1.e 5))/\NId (S1.e 17) (nk (S1.e 5))/\NId (S1.e 17) (S1.e 6)) (λk=>X.length-k) 0 ?_ (dC trivial aj);rintro k S1 ⟨fF1,A7,C3,o1_17,A1,A8,H4,H5⟩;obtain⟨B4,A5,B8⟩:=A7.ou;obtain⟨C5,B9,E0⟩:=C3.ou;obtain⟨i1_17,P5,l1_17⟩:=o1_17.ou;have di1_6i1_5:=(A8).ou B9.1 (cc A5.1);have di1_17i1_5:=(H4).ou P5.1 (cc A5.1);have di1_17i1_6:=(H5).ou P5.1 B9.1;have fL1:=(aa fF1 (aa A5 (aa B9 (aa P5 (aa di1_6i1_5 (aa di1_17i1_5 di1_17i1_6))))));have ok:=DT b9 A1;have oL:=lz (X:=X) (k:=k);by_cases hk:k<X.length
  .have b2:=b9 _ (am (d:=[]) hk)
   obtain⟨o1,o2,o3,o4⟩:=id ok;have cE1:=@cT;have cE2:=@aO;have cE3:=trivial;refine dE ai fL1 (aI λzb hc=> ?_);have hR:=Qz (l:=X.getD k []) (s:=(xS X k).1);refine ak (k+1) (dC fL1 aj) (dC fL1 (yQ ?_ ?_ ?_))<;>intro zb;all_goals first|exact ok|(rw[hR];rfl)|(rw[lz,lz];done)|trace_state
  .obtain rfl:k=X.length:=by omega
   have cE1:=@cT;have cE2:=@aO;have cE3:=trivial;exact dE ai fL1 aj
 .have g:((40:Int)<(X.length:Int))=True:=zF5 (by omega)
  rw[zA8 h,zB8 h];refine fO ml [2,3] Tryz.func5 ?_;have cE1:=@cT;have cE2:=@aO;have cM1:=@kY;have cE1:=@hS;have cE2:=@cT;have cE3:=@aO;exact dE ai @g aj
def Bo:FuncId->List Bool:=λf=>if f=7 then[true]else[]
theorem Qk{f:FuncId}:Bo f=if f=7 then[true]else[]:=_root_.id rfl
theorem JL:ga Bo=false/\gu Bo=false/\gs Bo=false/\gr Bo=false/\gB Bo=false:=⟨rfl,rfl,rfl,rfl,rfl⟩
attribute [go_sem] Qk JL
set_option maxHeartbeats 3200000
theorem QB{s:List UInt8}:(HN s).length<=40:=by
 unfold HN;split
 .rw[lz];assumption
 .simp
theorem xz(s:List UInt8):Fun Tryz.prog 3 [.str s] [.bool true]:=by
 by_cases hs:s.length<=1048576
 .have hl:=QB (s:=s)
  have f0:((1048576:Int)<(s.length:Int))=False:=zC6 (by omega);have c1:=dA (m0:=true) (HN s).length 1 (by omega) (by omega) (by omega);have c2:=dA (m0:=false) (HN s).length 1 (by omega) (by omega) (by omega);refine fO Bo [2] Tryz.func3 ?_;have cE1:=@iK;have cE2:=@iV;have cE3:=@jp;have cE4:=@dA;have cM1:=@kQ;have f1:(qH (HN s).length 1).length=(HN s).length:=Ca;have f2:List.take (HN s).length (qH (HN s).length 1)=qH (HN s).length 1:=zA2 (by omega);have f3:=beq_self_eq_true (decide ((ar 10 s).length<=40));have cE1:=@c1;have cE2:=@c2;have cE3:=@iK;have cE4:=@iV;have cE5:=@jp;have cE6:=@dA;exact dE ai (aa @f0 (aa @f1 (aa @f2 @f3))) aj
 .have f0:((1048576:Int)<(s.length:Int))=True:=zF5 (by omega)
  refine fO Bo [2] Tryz.func3 ?_;have cE1:=@iK;have cE2:=@iV;have cE3:=@jp;have cE4:=@dA;have cM1:=@kQ;exact dE ai @f0 aj
end Go.Gl
