/-
  What the functions compute, and what the law asks of it: texts joined. Conditions: those that each lemma names.
-/
import Derived.Test.YtjimcmbfljdelaaGreatDoorT35
set_option linter.unusedSimpArgs false
set_option linter.unusedVariables false
set_option maxRecDepth 20000
set_option linter.unusedSectionVars false
set_option maxHeartbeats 16000000
namespace Go.Gl
open Go Go.Proofs
variable [Amb][NoQ]
variable [TabA]
set_option maxHeartbeats 16000000
theorem cH(l:List UInt8)(a b:List Int)(L:List (List Int))(ha:a.length<=1048576)(hb:b.length<=1048576)(hL:L.length<=1048576)(hl:∀l∈L,l.length<=1048576)(hs:l.length<=1048576):Fun Tryz.prog 11 [.agg [lI false a,lI false b,lE false false L],.str l] [.agg [lI false ((KS l (a,b,L)).1.1),lI false ((KS l (a,b,L)).1.2.1),lE false false ((KS l (a,b,L)).1.2.2)],.str ((KS l (a,b,L)).2)]:=by
 have hX:∀x∈ar 32 l,x.length<=1048576:=λx hx=>by have:=iN x hx;simp at this;omega
 have hj:(Lib.join (ar 32 l) [32]).length<=1048576:=by rw[ar,og];simpa using hs
 have h0:1<=(ar 32 l).length:=spB_1.1;have hS:=aB l 32 (by omega);rw[show(((32:UInt8).toNat:Nat):Int)=32 from rfl]at hS;have q1:=UC (X:=ar 32 l) (b:=b) ha hX;have q2:=UD hj;unfold KS;generalize ar 32 l=X at*
 have c1:=λm:Bool=>iG (m1:=m) X a b L ha hb h0 hX;have c2:=λm:Bool=>gP (m0:=m) X h0 hX hj;generalize Ez X a b=m at*
 generalize qI X=n at*
 obtain⟨m1,m2,m3⟩:=m;obtain⟨n1,n2,n3⟩:=n
 dsimp only at*
 by_cases g1:l=[107,101,101,112]
 .have f1:(l=[107,101,101,112])=True:=zF5 g1
  rw[zB0 g1];refine Fun.ofR (sg:=au) (rs:=[.cell 4 32,.tmp 5]) mo Tryz.func11 rfl rfl rfl rfl (by kernel_rfl) (by simp only[go_sem]) rfl ?_;have cE1:=@dx;have cE2:=@eq;have cE3:=@aB;have cE4:=@iG;have cE5:=@gP;have cE6:=@aH;have cE7:=@du;have cE8:=@dt;have cD1:=d7 (d8 6 [3,4]) [(0,3)];have cD2:=d7 (d8 6 [2,3,4]) [(0,2),(0,3)];have cD3:=d7 (d8 6 [3,4]) [(0,3)];have cE1:=@hS;have cE2:=@c1;have cE3:=@c2;have cE4:=@dx;have cE5:=@eq;have cE6:=@aB;have cE7:=@aH;have cE8:=@du;have cE9:=@dt;exact dE ai @f1 aj
 .have f1:(l=[107,101,101,112])=False:=zC6 g1
  rw[zA8 g1];by_cases g2:l=[115,119,97,112]
  .have f2:(l=[115,119,97,112])=True:=zF5 g2
   rw[zB0 g2];refine Fun.ofR (sg:=au) (rs:=[.cell 4 32,.tmp 5]) mo Tryz.func11 rfl rfl rfl rfl (by kernel_rfl) (by simp only[go_sem]) rfl ?_;have cE1:=@dx;have cE2:=@eq;have cE3:=@aB;have cE4:=@iG;have cE5:=@gP;have cE6:=@aH;have cE7:=@du;have cE8:=@dt;have cD1:=d7 (d8 6 [3,4]) [(0,3)];have cD2:=d7 (d8 6 [2,3,4]) [(0,2),(0,3)];have cD3:=d7 (d8 6 [3,4]) [(0,3)];have cE1:=@hS;have cE2:=@c1;have cE3:=@c2;have cE4:=@dx;have cE5:=@eq;have cE6:=@aB;have cE7:=@aH;have cE8:=@du;have cE9:=@dt;exact dE ai (aa @f1 @f2) aj
  .have f2:(l=[115,119,97,112])=False:=zC6 g2
   rw[zA8 g2];refine Fun.ofR (sg:=au) (rs:=[.cell 4 32,.tmp 5]) mo Tryz.func11 rfl rfl rfl rfl (by kernel_rfl) (by simp only[go_sem]) rfl ?_;have cE1:=@dx;have cE2:=@eq;have cE3:=@aB;have cE4:=@iG;have cE5:=@gP;have cE6:=@aH;have cE7:=@du;have cE8:=@dt;have cD1:=d7 (d8 6 [3,4]) [(0,3)];have cD2:=d7 (d8 6 [2,3,4]) [(0,2),(0,3)];have cD3:=d7 (d8 6 [3,4]) [(0,3)];have cE1:=@hS;have cE2:=@c1;have cE3:=@c2;have cE4:=@dx;have cE5:=@eq;have cE6:=@aB;have cE7:=@aH;have cE8:=@du;have cE9:=@dt;refine dE ai (aa @f1 @f2) ?_;all_goals try(apply nn;repeat' first|exact jb|apply aa|(apply nq;intro zb hc;repeat (have zc:=zb.1;replace zb:=zb.2))|(apply np;intro zb)|intro j')<;>try apply nu
   all_goals first|(simp_all [Dk,Fs];done)|trace_state
theorem cR  :Fun Tryz.prog 10 [] [.agg [lI false ([2,4,1,3]),lI false ([2,4,1,3]),lE false false ((Fe 1))]]:=by
 refine Fun.ofR (sg:=au) (rs:=[.cell 0 32]) mo Tryz.func10 rfl rfl rfl rfl (by kernel_rfl) (by simp only[go_sem]) rfl ?_;have cE1:=@cD;exact dE ai trivial aj
end Go.Gl
