/-
  What the functions compute, and what the law asks of it: texts joined. Conditions: those that each lemma names.
-/
import Derived.Test.YtjimcmbfljdelaaGreatDoorT13
set_option linter.unusedSimpArgs false
set_option linter.unusedVariables false
set_option maxRecDepth 20000
set_option linter.unusedSectionVars false
set_option maxHeartbeats 16000000
variable{e0 m0:Bool}{L:List (List Int)}{n:Nat}{l p:List Int}
namespace Go.Gl
open Go Go.Proofs
variable [Amb][NoQ]
theorem wf(n:Nat)(h1:n<=8):Fun Tryz.prog 338 [.int .i64 n] [.sl .own (List.map (cK false) (dz n))]:=by
 refine fO au [2] Tryz.func338 ?_;have cE1:=@cA;have cE2:=@aW;refine dE zF trivial (aD λzb=> ?_);refine ao (λ(i:Nat) S1=>(eI S1 0 n/\eI S1 10 n/\eI S1 11 i)/\OwnL (S1.e 3) S1.h S1.n (cK false) ((fx n i [[]]).length) (fx n i [[]])/\i<=n) (λi=>n-i) 0 ?_ (dI zF trivial aj);rintro i S1 ⟨fF1,A4,A1⟩;obtain⟨A9,A2,B6⟩:=A4.ou;have fL1:=(aa fF1 A2);have b1:(fx n i [[]]).length<=8^8:=ML h1 (by omega);refine dE zF fL1 (f9 ?_ ?_)<;>intro zb hc;refine ao (λ(j:Nat) S2=>(eI S2 0 n/\eI S2 10 n/\eI S2 11 i/\eI S2 15 ((fx n i [[]]).length)/\eI S2 16 j)/\OwnL (S2.e 14) S2.h S2.n (cK false) ((fx n i [[]]).length) (fx n i [[]])/\OwnL (S2.e 4) S2.h S2.n (cK false) ((((fx n i [[]]).take j).flatMap (λp=>fD p n)).length) (((fx n i [[]]).take j).flatMap (λp=>fD p n))/\j<=(fx n i [[]]).length/\NId (S2.e 4) (S2.e 14)/\S1.n<=S2.n) (λj=>(fx n i [[]]).length-j) 0 ?_ (dI ai fL1 aj);rintro j S2 ⟨fF2,L1,E5,A6,B1,D3⟩;obtain⟨S5,I5,S6⟩:=L1.ou;obtain⟨I6,D4,I7⟩:=E5.ou;have di2_4i2_14:=(B1).ou D4.1 I5.1;have fL2:=(aa fF2 (aa I5 (aa D4 di2_4i2_14)));have b2:((fx n i [[]]).take j).length<=8^8:=by simp;omega
 have b3:=zE0 (sq (n:=n) (L:=(fx n i [[]]).take j)) (zI9 b2 h1);refine dE ai fL2 (f9 ?_ ?_)<;>intro zb hc
 .refine ao (λ(v:Nat) S4=>(eI S4 0 n/\S4.e 6=.p (lI false ((fx n i [[]]).getD j []))/\eI S4 7 ((v+1))/\eI S4 10 n/\eI S4 11 i/\eI S4 15 ((fx n i [[]]).length)/\eI S4 16 j)/\OwnL (S4.e 14) S4.h S4.n (cK false) ((fx n i [[]]).length) (fx n i [[]])/\OwnL (S4.e 4) S4.h S4.n (cK false) ((((fx n i [[]]).take j).flatMap (λp=>fD p n)++fD ((fx n i [[]]).getD j []) v).length) (((fx n i [[]]).take j).flatMap (λp=>fD p n)++fD ((fx n i [[]]).getD j []) v)/\v<=n/\j<(fx n i [[]]).length/\NId (S4.e 4) (S4.e 14)/\S2.n<=S4.n) (λv=>n-v) 0 ?_ (dI ai fL2 (bu (λzb=> ?_) λzb=> ?_))
  rintro v S4 ⟨fF4,L2,L3,I9,K4,E9,K5⟩;obtain⟨L4,Q5,U4⟩:=L2.ou;obtain⟨L6,Q6,U6⟩:=L3.ou;have di4_4i4_14:=(E9).ou Q6.1 Q5.1;have fL4:=(aa fF4 (aa Q5 (aa Q6 di4_4i4_14)));have b4:=su (p:=(fx n i [[]]).getD j []) (j:=v);have b5:((fx n i [[]]).getD j []).length=0+i:=uM (by simp) _ (am K4);refine dE ai (aa fL4 @T7) (pC ?_ ?_ ?_)<;>intro zb hc
  .refine ak (v+1) (dC fL4 aj) (dC fL4 (bu ?_ ?_))<;>intro zb
   all_goals(rw[kj,hc,zA8 (by decide)]<;>simp only[zA7,zA3,zC1,List.length_nil,zE9])
  .refine ak (v+1) (dC fL4 aj) (dC fL4 (bu ?_ ?_))<;>intro zb
   all_goals(rw[kj,hc,zB0 rfl,zC0])
  .refine ak (j+1) (dC fL4 aj) (dC fL4 (bu ?_ ?_))<;>intro zb
   all_goals(obtain rfl:v=n:=by omega)
   all_goals(rw[aq (d:=[]) (by omega),List.flatMap_append];simp)
  .simp[fD,jg]
  .simp[fD,jg]
 .refine ak (i+1) (dC fL2 aj) (dC fL2 (bu ?_ ?_))<;>intro zb
  all_goals(rw[oz,zA2 (by omega)])
 .obtain rfl:i=n:=by omega
  rfl
theorem di(n:Int):Fun Tryz.prog 270 [.int .i64 n] [.bool ((decide (0<=n)&&decide (n<=6)))]:=by
 refine fO au [2] Tryz.func270 ?_;exact dE ai trivial aj
def aM(L:List (List Int))(n:Nat):List (List Int):=(dz n).filter (pB L)
theorem dm(L:List (List Int))(n:Nat)(hL:L.length<=1099511627776)(hl:∀q∈L,q.length<=8)(hn:n<=8):Fun Tryz.prog 271 [lE m0 e0 L,.int .i64 n] [.sl .own (List.map (cK false) (aM L n))]:=by
 refine fO au [4] Tryz.func271 ?_;have cE1:=@wf;have cE2:=@na;have cE3:=@dp;have b1:=s9 hn;have cE2:=@dp;have cE3:=trivial;refine dE ai trivial (aD λzb=> ?_);refine ao (λ(k:Nat) S1=>(S1.e 0=.p (lE m0 e0 L)/\eI S1 11 ((dz n).length)/\eI S1 12 k)/\OwnL (S1.e 10) S1.h S1.n (cK false) ((dz n).length) (dz n)/\OwnL (S1.e 5) S1.h S1.n (cK false) ((((dz n).take k).filter (pB L)).length) (((dz n).take k).filter (pB L))/\k<=(dz n).length/\NId (S1.e 5) (S1.e 10)) (λk=>(dz n).length-k) 0 ?_ (dC trivial aj);rintro k S1 ⟨fF1,J2,A7,A1,A8⟩;obtain⟨P8,H9,P9⟩:=J2.ou;obtain⟨B4,A5,B8⟩:=A7.ou;have di1_5i1_10:=(A8).ou A5.1 H9.1;have fL1:=(aa fF1 (aa H9 (aa A5 di1_5i1_10)));have b2:(((dz n).take k).filter (pB L)).length<=8^8:=zE0 (zG8 _ _) (by rw[zD3];omega);by_cases hk:k<(dz n).length
 .have b3:=ke _ (am (d:=[]) hk)
  have cE2:=@na;have cE3:=@dp;refine dE ai fL1 (f9 ?_ ?_)<;>intro zb hc
  .refine ak (k+1) (dC fL1 aj) (dC fL1 (bu ?_ ?_))<;>intro zb
   all_goals(rw[aq (d:=[]) hk,List.filter_append,List.filter_cons,zB0 hc];simp)
  .refine ak (k+1) (dC fL1 aj) (dC fL1 (bu ?_ ?_))<;>intro zb
   all_goals(rw[aq (d:=[]) hk,List.filter_append,List.filter_cons,zA8 (by rw[hc];decide)];simp)
 .have cE2:=@na;have cE3:=@dp
  refine dE ai fL1 (aI λzb hc=> ?_);rw[zA2 (by omega)];rfl
def ij(L:List (List Int))(n:Int):List (List Int):=if aG L=true/\0<=n/\n<=6 then aM L n.toNat else[]
theorem gn(h:aG L=true):∀q∈L,q.length<=8:=λq hq=>by
 simp only[aG,zB9]at h;obtain⟨i,hi,rfl⟩:=zE7 hq;have:=(al (js h.2 hi)).1
 rwa [zA0,zA1 hi]at this
theorem ko(hn:n<=8):(aM L n).length<=8^8:=zE0 (zG8 _ _) (s9 hn)
theorem ii(hn:n<=8)(h:p∈aM L n):ac p=true/\p.length=n:=⟨zQ hn (List.mem_filter.1 h).1,ke _ (List.mem_filter.1 h).1⟩
theorem cL(L:List (List Int))(n:Int)(hL:L.length<=1048576)(hl:∀l∈L,l.length<=1048576):Fun Tryz.prog 209 [lE m0 e0 L,.int .i64 n] [.sl .own (List.map (cK false) (ij L n))]:=by
 by_cases hc0:aG L=true/\0<=n/\n<=6
 .have e1:ij L n=aM L n.toNat:=zB0 hc0
  have e2:s8 n=dz n.toNat:=zB0 hc0.2;have hb:=gn hc0.1;have b1:=s9 (n:=n.toNat) (by omega);have e3:=hc0.1;rw[e1];refine fO au [4] Tryz.func209 ?_;have cE1:=@aA;have cE2:=@ob;have cE3:=@ay;have cE4:=@cE;refine dE ai (aa @e2 @e3) (aI ?_)<;>(intro zb hc;repeat (have zc:=zb.1;replace zb:=zb.2));refine ao (λ(k:Nat) S1=>(S1.e 0=.p (lE m0 e0 L)/\eI S1 7 k)/\OwnL (S1.e 6) S1.h S1.n (cK false) ((dz n.toNat).length) (dz n.toNat)/\OwnL (S1.e 5) S1.h S1.n (cK false) ((((dz n.toNat).take k).filter (pB L)).length) (((dz n.toNat).take k).filter (pB L))/\k<=(dz n.toNat).length/\NId (S1.e 5) (S1.e 6)) (λk=>(dz n.toNat).length-k) 0 ?_ (dC trivial aj);rintro k S1 ⟨fF1,C3,A7,A1,A8⟩;obtain⟨C5,B9,E0⟩:=C3.ou;obtain⟨B4,A5,B8⟩:=A7.ou;have di1_5i1_6:=(A8).ou A5.1 B9.1;have fL1:=(aa fF1 (aa B9 (aa A5 di1_5i1_6)));have b2:(((dz n.toNat).take k).filter (pB L)).length<=8^8:=zE0 (zG8 _ _) (by rw[zD3];omega);by_cases hk:k<(dz n.toNat).length
  .have b3:=ke _ (am (d:=[]) hk)
   refine dE ai fL1 (f9 ?_ ?_)<;>(intro zb hc;repeat (have zc:=zb.1;replace zb:=zb.2))
   .refine ak (k+1) (dC fL1 aj) (dC fL1 (bu ?_ ?_))<;>intro zb
    all_goals(rw[aq (d:=[]) hk,List.filter_append,List.filter_cons,zB0 hc];simp)
   .refine ak (k+1) (dC fL1 aj) (dC fL1 (bu ?_ ?_))<;>intro zb
    all_goals(rw[aq (d:=[]) hk,List.filter_append,List.filter_cons,zA8 (by rw[hc];decide)];simp)
  .refine dE ai fL1 (aI ?_)<;>(intro zb hc;repeat (have zc:=zb.1;replace zb:=zb.2))
   rw[zA2 (by omega)];rfl
 .have e1:ij L n=[]:=zA8 hc0
  rw[e1];refine fO au [4] Tryz.func209 ?_;have cE1:=@aA;have cE2:=@ob;have cE3:=@ay;have cE4:=@cE;refine dE ai trivial (aI ?_)<;>(intro zb hc;repeat (have zc:=zb.1;replace zb:=zb.2));exact absurd ⟨by assumption,by assumption⟩ hc0
def La(l:List Int):Bool:=(List.range l.length).all λi=>decide (i=0)||decide (l.getD (i-1) 0<=l.getD i 0)
theorem srtB_iff:La l=true↔∀i,i<l.length->0<i->l.getD (i-1) 0<=l.getD i 0:=by
 simp only[La,zC8,zD5,zI8,zC2];constructor
 .intro h i hi h0;rcases h i hi with h|h
  .omega
  .exact h
 .intro h i hi
  by_cases h0:i=0
  .exact .inl h0
  .exact .inr (h i hi (by omega))
theorem aah(x:Int)(y:Int):Fun Tryz.prog 382 [.int .i64 x,.int .i64 y] [.bool (decide (x<y))]:=by
 refine fO au [4] Tryz.func382 ?_;have cE1:=@uy;exact dE ai trivial aj
theorem lp(l:List Int)(hl:l.length<=1048576):Fun Tryz.prog 359 [lI m0 l] [.bool (La l)]:=by
 refine fO au [2] Tryz.func359 ?_;have cE1:=@aah;have cD1:=d7 (d8 10 [9]) [];refine dE ai trivial (aD λzb=> ?_);refine ao (λ(k:Nat) S1=>(S1.e 0=.p (lI m0 l)/\eI S1 3 (k-1))/\k<=l.length/\(∀i,k<=i->i<l.length->0<i->l.getD (i-1) 0<=l.getD i 0)) (λk=>k) l.length ?_ (dI ai trivial aj);rintro k S1 ⟨fL1,A1,A0⟩;have e1:((k:Int)-1).toNat=k-1:=by omega
 have e2:((k:Int)-1-1).toNat=k-1-1:=by omega
 refine dE ai fL1 (pC ?_ ?_ ?_)<;>intro zb hc
 .refine(Bool.eq_false_iff.2 λh=> ?_).symm
  have:=srtB_iff.1 h (k-1) (by omega) (by omega);rw[e1,e2]at hc;omega
 .refine ak (k-1) (dC fL1 aj) (dC fL1 (aD λzb=> ?_))
  intro i h1 h2 h3;by_cases h4:i=k-1
  .subst h4;rw[e1,e2]at hc;exact hc
  .exact A0 i (by omega) h2 h3
 .refine(srtB_iff.2 λi h1 h2=>A0 i (by omega) h1 h2).symm
end Go.Gl
