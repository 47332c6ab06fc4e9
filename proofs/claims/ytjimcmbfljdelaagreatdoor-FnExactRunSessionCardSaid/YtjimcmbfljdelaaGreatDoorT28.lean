/-
  What the functions compute, and what the law asks of it: texts joined. Conditions: those that each lemma names.
-/
import Derived.Test.YtjimcmbfljdelaaGreatDoorT22
import Derived.Test.YtjimcmbfljdelaaGreatDoorT19
import Derived.Test.YtjimcmbfljdelaaGreatDoorT18
import Derived.Test.YtjimcmbfljdelaaGreatDoorT20
set_option linter.unusedSimpArgs false
set_option linter.unusedVariables false
set_option maxRecDepth 20000
set_option linter.unusedSectionVars false
set_option maxHeartbeats 16000000
variable{L P:List (List Int)}{f:Go.FuncId}{e0 m0:Bool}
namespace Go.Gl
open Go Go.Proofs
variable [Amb][NoQ]
theorem LQ:∀n,n<7->(dz n).length<=720:=by decide+kernel
theorem tF{n:Nat}(h:n<=6):(aM L n).length<=720:=zE0 (zG8 _ _) (LQ n (by omega))
def Ik(L P:List (List Int)):List Int:=P.map λp=>((FD L p).length:Int)
theorem Ad:(Ik L P).length=P.length:=by simp[Ik]
theorem Cf{k:Nat}(h:k<P.length):Ik L (P.take (k+1))=Ik L (P.take k)++[((FD L (P.getD k [])).length:Int)]:=by
 unfold Ik;rw[aq (d:=[]) h,zE2];rfl
def MV(L:List (List Int))(n:Int):List Int:=if aG L=true/\0<=n/\n<=6 then cW (Ik L (aM L n.toNat))else[]
def DX:FuncId->List Bool:=λf=>if f=339 then[true]else[]
theorem Qf:DX f=if f=339 then[true]else[]:=_root_.id rfl
theorem JG:ga DX=false/\gu DX=false/\gs DX=false/\gr DX=false/\gB DX=false:=⟨rfl,rfl,rfl,rfl,rfl⟩
attribute [go_sem] Qf JG
theorem lY{e1 m1:Bool}(L P:List (List Int))(hL:L.length<=1099511627776)(hl:∀q∈L,q.length<=8)(hP:P.length<=1000)(hp:∀p∈P,p.length<=7):Fun Tryz.prog 272 [lE m0 e0 L,lE m1 e1 P] [oI (cW (Ik L P))]:=by
 refine fO DX [4] Tryz.func272 ?_;have cE1:=@lZ;have cM1:=@je;have cM2:=@ir;refine dE ai trivial (aD λzb=> ?_);refine ao (λ(k:Nat) S1=>(S1.e 0=.p (lE m0 e0 L)/\S1.e 9=.p (lE m1 e1 P)/\eI S1 10 P.length/\eI S1 11 k)/\OwnL (S1.e 5) S1.h S1.n (PV.int .i64) ((Ik L (P.take k)).length) (Ik L (P.take k))/\k<=P.length) (λk=>P.length-k) 0 ?_ (dC trivial aj);rintro k S1 ⟨fF1,A7,A1⟩;obtain⟨B4,A5,B8⟩:=A7.ou;have fL1:=(aa fF1 A5);have b2:=Ad (L:=L) (P:=P.take k);have b3:(P.take k).length=k:=by simp;omega
 by_cases hk:k<P.length
 .have b1:=Cf (L:=L) hk
  have b4:=hp _ (am (d:=[]) hk);have b5:=sC (L:=L) (p:=P.getD k []);refine dE ai fL1 (aI λzb hc=> ?_);refine ak (k+1) (dC fL1 aj) (dC fL1 (bu ?_ ?_))<;>intro zb;all_goals(rw[b1];try simp)
 .obtain rfl:k=P.length:=by omega
  have e1:P.take P.length=P:=zA2 (by omega);rw[e1]at b2;have e2:=me (L:=Ik L P);have cM1:=@ir;have cM2:=@je;refine dE ai (aa fL1 @e1) (aI λzb hc=> ?_);all_goals(rw[zA2 (by omega)])
theorem uw(L:List (List Int))(n:Int)(hL:L.length<=1048576)(hl:∀l∈L,l.length<=1048576):Fun Tryz.prog 154 [lE m0 e0 L,.int .i64 n] [oI (MV L n)]:=by
 by_cases hc0:aG L=true/\0<=n/\n<=6
 .obtain⟨h1,h2,h3⟩:=id hc0
  have h8:=gn h1;rw[MV,zB0 hc0];obtain⟨k,rfl⟩:∃k:Nat,n=k:=⟨n.toNat,by omega⟩;rw[zC9];have b1:=tF (L:=L) (n:=k) (by omega);have b2:∀p∈aM L k,p.length<=7:=λp hp=>by have:=(ii (n:=k) (by omega) hp).2;omega
  refine fO au [4] Tryz.func154 ?_;have cE1:=@di;have cE2:=@aw;have cE3:=@dm;have cE4:=@lY;exact dE ai @h1 aj
 .rw[MV,zA8 hc0]
  by_cases h1:aG L=true
  .have h2:¬(0<=n/\n<=6):=λh=>hc0 ⟨h1,h⟩
   refine fO au [4] Tryz.func154 ?_;have cE1:=@di;have cE2:=@aw;have cE3:=@dm;have cE4:=@lY;exact dE ai @h1 aj
  .rw[zA9]at h1
   refine fO au [4] Tryz.func154 ?_;have cE1:=@di;have cE2:=@aw;have cE3:=@dm;have cE4:=@lY;exact dE ai @h1 aj
theorem XX{n:Int}:MV L n=cW (Ik L (ij L n)):=by
 unfold MV ij;split<;>rfl
theorem ug(L:List (List Int))(n:Int)(hL:L.length<=1048576)(hl:∀l∈L,l.length<=1048576):Fun Tryz.prog 107 [lE m0 e0 L,.int .i64 n] [oI (MV L n)]:=by
 refine fO au [4] Tryz.func107 ?_;have cE1:=@cL;have cE2:=@gR;have cE3:=@vl;rw[XX];have b0:(ij L n).length<=720/\∀p∈ij L n,p.length<=7:=by
  unfold ij;split
  .rename_i h
   exact⟨tF (by omega),λp hp=>by have:=(ii (n:=n.toNat) (by omega) hp).2;omega⟩
  .exact⟨by simp,λp hp=>by cases hp⟩
 have b6:0<(ij L n).length->∀q∈L,q.length<=8:=λh=>by
  unfold ij at h;split at h
  .rename_i h1;exact gn h1.1
  .simp at h
 obtain⟨b1,b2⟩:=b0;have c1:=cL (e0:=e0) (m0:=m0) L n hL hl;generalize ij L n=P at*
 have cE1:=@c1;refine dE ai trivial (aD λzb=> ?_);refine ao (λ(k:Nat) S1=>(S1.e 0=.p (lE m0 e0 L)/\eI S1 7 k)/\OwnL (S1.e 6) S1.h S1.n (cK false) ((P).length) P/\OwnL (S1.e 5) S1.h S1.n (PV.int .i64) ((Ik L (P.take k)).length) (Ik L (P.take k))/\k<=P.length/\NId (S1.e 5) (S1.e 6)) (λk=>P.length-k) 0 ?_ (dC trivial aj);rintro k S1 ⟨fF1,C3,A7,A1,A8⟩;obtain⟨C5,B9,E0⟩:=C3.ou;obtain⟨B4,A5,B8⟩:=A7.ou;have di1_5i1_6:=(A8).ou A5.1 B9.1;have fL1:=(aa fF1 (aa B9 (aa A5 di1_5i1_6)));have b3:=Ad (L:=L) (P:=P.take k);have b4:(P.take k).length=k:=by simp;omega
 by_cases hk:k<P.length
 .have b5:=Cf (L:=L) hk
  have b7:=b2 _ (am (d:=[]) hk);have b8:=sC (L:=L) (p:=P.getD k []);have b9:=b6 (by omega);have cE1:=@cL;refine dE ai fL1 (aI λzb hc=> ?_);refine ak (k+1) (dC fL1 aj) (dC fL1 (bu ?_ ?_))<;>intro zb;all_goals(rw[b5];try simp)
 .obtain rfl:k=P.length:=by omega
  have e1:P.take P.length=P:=zA2 (by omega);rw[e1]at b3;have cE1:=@cL;exact dE ai (aa fL1 @e1) aj
end Go.Gl
