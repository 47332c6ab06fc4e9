/-
  What the functions compute, and what the law asks of it: texts joined. Conditions: those that each lemma names.
-/
import Derived.Test.YtjimcmbfljdelaaGreatDoorT35
set_option linter.unusedSimpArgs false
set_option linter.unusedVariables false
set_option maxRecDepth 20000
set_option linter.unusedSectionVars false
set_option maxHeartbeats 16000000
namespace Go.Gl
open Go Go.Proofs
variable [Amb][NoQ]
variable [TabA][SplA][AtoA]
set_option maxHeartbeats 16000000
theorem ee(w:List UInt8)(s:Se)(h:Dz s):CallT Tryz.prog false 29 [.mu true [lI false s.1,lI false s.2.1,lE false false s.2.2],.pv (.str w)] [some [lI false ((Up w s).1.1),lI false ((Up w s).1.2.1),lE false false ((Up w s).1.2.2)],none] [.str ((Up w s).2)]:=by
 obtain⟨h1,h2,h3,h4⟩:=id h;have q1:=T0 (w:=w) (b:=s.2.1) h1;refine fX ml [4] Tryz.func29 ?_;have cE1:=@qP;have cE2:=@qO;have cE3:=@nS;have cE4:=@uu;have cE5:=@tp;have cE6:=@wi;have cE7:=@sk;have cE8:=@Al;have cE9:=@tq;have cE10:=@aW;have cM1:=@gy;have cM2:=@pM;have cD1:=d7 (d8 14 [9,12]) [(0,9)];have cD2:=d7 (d8 14 [9,12]) [(0,9)];have cD3:=d7 (d8 16 [12,15]) [(1,12)];refine dE ai trivial ?_;all_goals try(apply nn;repeat' first|exact jb|apply aa|(apply nq;intro zb hc;repeat (have zc:=zb.1;replace zb:=zb.2))|(apply np;intro zb)|intro j')<;>try apply nu
 all_goals first|(simp_all [Up,AW];done)|trace_state
theorem nR(w:List UInt8)(n:Int)(s:Se)(h:Dz s):CallT Tryz.prog false 70 [.mu true [lI false s.1,lI false s.2.1,lE false false s.2.2],.pv (.str w),.pv (.int .i64 n)] [some [lI false ((Uq w n s).1.1),lI false ((Uq w n s).1.2.1),lE false false ((Uq w n s).1.2.2)],none,none] [.str ((Uq w n s).2)]:=by
 obtain⟨h1,h2,h3,h4⟩:=id h;have t6:=Dq (L:=s.2.2) (n:=n);obtain⟨t9,t7⟩:=UM (L:=s.2.2) (n:=n);have t8:=Vi (L:=s.2.2) (n:=n);obtain⟨e1,e3⟩:=uS (k:=n);have e2:∀l∈Fe n,l.length<=1048576:=λl hl=>by have:=e3 l hl;omega
 have l1:(if ac s.1=true/\0<=n/\n<=7 then jN s.1 n.toNat else[]).length<=1048576:=itL (by rw[Bc];exact h1);have l2:(if ac s.1=true/\1<=n/\n<=s.1.length then TY s.1 (n-1).toNat else[]).length<=1048576:=by
  split
  .rename_i h;rw[FF (by omega)];omega
  .simp
 have l3:(if wN s.1 n then uA s.1 n.toNat else[]).length<=1048576:=by
  split
  .rename_i h;rw[uV];have:=h.2.1;omega
  .simp
 clear e3;refine fX ml [6] Tryz.func70 ?_;have cE1:=@jh;have cE2:=@si;have cE3:=@pK;have cE4:=@wj;have cE5:=@bc;have cE6:=@ba;have cE7:=@uw;have cM1:=@gy;have cM2:=@bS;refine dE ai trivial (yP ?_ ?_ ?_ ?_ ?_ ?_ ?_ ?_ ?_ ?_ ?_ ?_ ?_ ?_)<;>(intro zb hc;repeat (have zc:=zb.1;replace zb:=zb.2));all_goals first|assumption|(simp_all [Uq,xM];done)|trace_state
theorem fh(w t:List UInt8)(s:Se)(h:Dz s)(ht:t.length<=1048576):CallT Tryz.prog false 30 [.mu true [lI false s.1,lI false s.2.1,lE false false s.2.2],.pv (.str w),.pv (.str t)] [some [lI false ((Pe w t s).1.1),lI false ((Pe w t s).1.2.1),lE false false ((Pe w t s).1.2.2)],none,none] [.str ((Pe w t s).2)]:=by
 obtain⟨h1,h2,h3,h4⟩:=id h;have t1:=Uu (s:=t);have t2:=Uv (s:=t);have t3:=jD (s:=t);have t4:=Un (p:=s.1) (P:=Ia t) (J:=Ib t);have t5:=Vf (p:=s.1) (q:=cq t);refine fX ml [6] Tryz.func30 ?_;have cE1:=@tt;have cE2:=@tu;have cE3:=@aQ;have cE4:=@bf;have cE5:=@pR;have cE6:=@ut;have cM1:=@gy;have cM2:=@nR;have cD1:=d7 (d8 8 [5,6]) [];refine dE ai trivial (aap ?_ ?_ ?_ ?_ ?_ ?_ ?_ ?_ ?_ ?_ ?_ ?_ ?_ ?_ ?_ ?_)<;>(intro zb hc;repeat (have zc:=zb.1;replace zb:=zb.2));all_goals first|(simp_all [Pe,PI,T6,ZS];done)|trace_state
theorem kY(l:List UInt8)(s:Se)(h:Dz s)(hs:l.length<=1048576):CallT Tryz.prog false 14 [.mu true [lI false s.1,lI false s.2.1,lE false false s.2.2],.pv (.str l)] [some [lI false ((Eg l s).1.1),lI false ((Eg l s).1.2.1),lE false false ((Eg l s).1.2.2)],none] [.str ((Eg l s).2)]:=by
 obtain⟨h1,h2,h3,h4⟩:=id h;have hX:∀x∈ar 32 l,x.length<=1048576:=λx hx=>by have:=iN x hx;simp at this;omega
 have hj:(Lib.join (ar 32 l) [32]).length<=1048576:=by rw[ar,og];simpa using hs
 have h0:1<=(ar 32 l).length:=spB_1.1;have hS:=aO l 32 (by omega);rw[show(((32:UInt8).toNat:Nat):Int)=32 from rfl]at hS;unfold Eg;generalize ar 32 l=X at*
 have b2:=acq hj;have e0:List.take (X.length-1) (X.drop 1)=X.drop 1:=zA2 (by simp);by_cases g1:X.getD 0 []=[98,97,115,105,115]
 .have b1:=Ya g1 hj
  have f1:=zF5 g1;obtain⟨p1,p2⟩:=zS (s:=Lib.join (X.drop 1) [32]);have p3:∀l∈uJ (Lib.join (X.drop 1) [32]),l.length<=1048576:=λl hl=>by have:=p2 l hl;omega
  rw[zB0 g1];refine fX ml [4] Tryz.func14 ?_;have cE1:=@aO;have cE2:=@az;have cE3:=@bo;have cM1:=@bS;have cM2:=@ee;have cM3:=@fh;have cD1:=d7 (d8 9 [7]) [];have cE1:=@hS;have cE2:=@bo;have cE3:=@aO;have cE4:=@az;exact dE ai (aa @f1 @e0) aj;all_goals first|assumption|trace_state
 .have f1:(X.getD 0 []=[98,97,115,105,115])=False:=zC6 g1
  rw[zA8 g1];by_cases g2:X.length=1
  .have f2:((X.length:Int)=1)=True:=zF5 (by omega)
   rw[zB0 g2];refine fX ml [4] Tryz.func14 ?_;have cE1:=@aO;have cE2:=@az;have cE3:=@bo;have cM1:=@bS;have cM2:=@ee;have cM3:=@fh;have cD1:=d7 (d8 9 [7]) [];have cE1:=@hS;have cE2:=@aO;have cE3:=@az;have cE4:=@bo;exact dE ai (aa @f1 @f2) aj;all_goals first|assumption|trace_state
  .have f2:((X.length:Int)=1)=False:=zC6 (by omega)
   rw[zA8 g2];by_cases g3:X.length=2
   .have f3:((X.length:Int)=2)=True:=zF5 (by omega)
    have b1:=hX _ (am (d:=[]) (show 1<X.length by omega));rw[zB0 g3];refine fX ml [4] Tryz.func14 ?_;have cE1:=@aO;have cE2:=@az;have cE3:=@bo;have cM1:=@bS;have cM2:=@ee;have cM3:=@fh;have cD1:=d7 (d8 9 [7]) [];have cE1:=@hS;have cE2:=@aO;have cE3:=@az;have cE4:=@bo;exact dE ai (aa @f1 (aa @f2 @f3)) aj;all_goals first|assumption|trace_state
   .have f3:((X.length:Int)=2)=False:=zC6 (by omega)
    rw[zA8 g3];refine fX ml [4] Tryz.func14 ?_;have cE1:=@aO;have cE2:=@az;have cE3:=@bo;have cM1:=@bS;have cM2:=@ee;have cM3:=@fh;have cD1:=d7 (d8 9 [7]) [];have cE1:=@hS;have cE2:=@aO;have cE3:=@az;have cE4:=@bo;exact dE ai (aa @f1 (aa @f2 @f3)) aj;all_goals first|assumption|trace_state
end Go.Gl
