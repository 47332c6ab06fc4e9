/-
  What the functions compute, and what the law asks of it: texts joined. Conditions: those that each lemma names.
-/
import Derived.Test.YtjimcmbfljdelaaGreatDoorT17
import Derived.Test.YtjimcmbfljdelaaGreatDoorShelfS
import Derived.Test.YtjimcmbfljdelaaGreatDoorT1
import Derived.Test.YtjimcmbfljdelaaGreatDoorT2
import Derived.Test.YtjimcmbfljdelaaGreatDoorT3
import Derived.Test.YtjimcmbfljdelaaGreatDoorT14
import Derived.Test.YtjimcmbfljdelaaGreatDoorT19
set_option linter.unusedSimpArgs false
set_option linter.unusedVariables false
set_option maxRecDepth 20000
set_option linter.unusedSectionVars false
set_option maxHeartbeats 16000000
variable{L p q s:List Int}{f j k:Nat}{m0:Bool}{nx:Int}
namespace Go.Gl
open Go Go.Proofs
variable [Amb][NoQ]
def nH(p:List Int)(k:Nat):List Int:=if k % 2=1 then jM p else p
def fS(p:List Int)(k:Nat):List Int:=if k/2 % 2=1 then(nH p k).reverse else nH p k
def jN(p:List Int)(k:Nat):List Int:=if 4<=k then dg (fS p k)else fS p k
theorem UV{p:List Int}:∀{k:Nat},k<=p.length->∀x∈qM p k,0<=x/\x<=p.length
 |0,_,x,h=>by have:=List.eq_of_mem_replicate h;subst this;omega
 |k+1,hk,x,h=>by
  rw[qM]at h;rcases List.mem_or_eq_of_mem_set h with h|rfl
  .exact UV (by omega) x h
  .omega
theorem abi(h8:p.length<=8)(hp:aF p=true):∀x∈fS p k,0<=x/\x<=1048576:=by
 have h1:∀x∈nH p k,0<=x/\x<=1048576:=λx hx=>by
  unfold nH at hx;split at hx
  .have:=UV (zB1 _) x hx;omega
  grind [permB_iff]
 grind [fS]
theorem Ga:(nH p k).length=p.length:=by grind [nH,j5]
theorem FY:(fS p k).length=p.length:=by grind [fS,Ga]
theorem Bc:(jN p k).length=p.length:=by grind [jN,gM,FY]
theorem adH:∀k,k<8->((k&&& 1=0↔¬k % 2=1)/\(k&&& 2=0↔¬k/2 % 2=1)/\(k&&& 4=0↔¬4<=k)):=by decide
theorem gw(h8:p.length<=8)(hp:aF p=true)(h:q=fS p k):∀x∈q,0<=x/\x<=1048576:=by subst h;exact abi h8 hp
theorem jR(p:List Int)(k:Nat)(hk:k<8)(h8:p.length<=8)(hp:aF p=true):Fun Tryz.prog 267 [lI m0 p,.int .i64 k] [oI (jN p k)]:=by
 refine fO au [4] Tryz.func267 ?_;have cE1:=@aW;have cE2:=@bD;have cE3:=@eJ;have cE4:=@fM;obtain⟨k1,k2,k3⟩:=adH k hk;have i1:(jM p).length=p.length:=j5;have i2:List.take p.length (jM p)=jM p:=zA2 (by omega);by_cases a1:k % 2=1
 .have f1:(((k&&& 1:Nat):Int)=0)=False:=zC6 (by omega)
  by_cases a2:k/2 % 2=1
  .have f2:(((k&&& 2:Nat):Int)=0)=False:=zC6 (by omega)
   by_cases a3:4<=k
   .have f3:(((k&&& 4:Nat):Int)=0)=False:=zC6 (by omega)
    have q2:fS p k=fS p k:=rfl
    conv at q2=>lhs;simp only[fS,nH,a1,a2,zH3,zE3]
    refine dE ai (aa @f1 (aa @f2 (aa @f3 (aa @i1 @i2)))) (yQ ?_ ?_ ?_)<;>intro zb;all_goals first|exact gw h8 hp q2|(simp only[zC4,i1];omega)|(simp only[jN,fS,nH,a1,a2,a3,zH3,zE3];done)|exact hp|skip
   .have f3:(((k&&& 4:Nat):Int)=0)=True:=zF5 (by omega)
    have q2:fS p k=fS p k:=rfl
    conv at q2=>lhs;simp only[fS,nH,a1,a2,zH3,zE3]
    refine dE ai (aa @f1 (aa @f2 (aa @f3 (aa @i1 @i2)))) (aD λzb=> ?_);all_goals first|exact gw h8 hp q2|(simp only[zC4,i1];omega)|(simp only[jN,fS,nH,a1,a2,a3,zH3,zE3];done)|exact hp|skip
  .have f2:(((k&&& 2:Nat):Int)=0)=True:=zF5 (by omega)
   by_cases a3:4<=k
   .have f3:(((k&&& 4:Nat):Int)=0)=False:=zC6 (by omega)
    have q2:fS p k=fS p k:=rfl
    conv at q2=>lhs;simp only[fS,nH,a1,a2,zH3,zE3]
    refine dE ai (aa @f1 (aa @f2 (aa @f3 (aa @i1 @i2)))) (bu ?_ ?_)<;>intro zb;all_goals first|exact gw h8 hp q2|(simp only[zC4,i1];omega)|(simp only[jN,fS,nH,a1,a2,a3,zH3,zE3];done)|exact hp|skip
   .have f3:(((k&&& 4:Nat):Int)=0)=True:=zF5 (by omega)
    have q2:fS p k=fS p k:=rfl
    conv at q2=>lhs;simp only[fS,nH,a1,a2,zH3,zE3]
    refine dE ai (aa @f1 (aa @f2 (aa @f3 (aa @i1 @i2)))) (aD λzb=> ?_);all_goals first|exact gw h8 hp q2|(simp only[zC4,i1];omega)|(simp only[jN,fS,nH,a1,a2,a3,zH3,zE3];done)|exact hp|skip
 .have f1:(((k&&& 1:Nat):Int)=0)=True:=zF5 (by omega)
  by_cases a2:k/2 % 2=1
  .have f2:(((k&&& 2:Nat):Int)=0)=False:=zC6 (by omega)
   by_cases a3:4<=k
   .have f3:(((k&&& 4:Nat):Int)=0)=False:=zC6 (by omega)
    have q2:fS p k=fS p k:=rfl
    conv at q2=>lhs;simp only[fS,nH,a1,a2,zH3,zE3]
    refine dE ai (aa @f1 (aa @f2 (aa @f3 (aa @i1 @i2)))) (yQ ?_ ?_ ?_)<;>intro zb;all_goals first|exact gw h8 hp q2|(simp only[zC4,i1];omega)|(simp only[jN,fS,nH,a1,a2,a3,zH3,zE3];done)|exact hp|skip
   .have f3:(((k&&& 4:Nat):Int)=0)=True:=zF5 (by omega)
    have q2:fS p k=fS p k:=rfl
    conv at q2=>lhs;simp only[fS,nH,a1,a2,zH3,zE3]
    refine dE ai (aa @f1 (aa @f2 (aa @f3 (aa @i1 @i2)))) (aD λzb=> ?_);all_goals first|exact gw h8 hp q2|(simp only[zC4,i1];omega)|(simp only[jN,fS,nH,a1,a2,a3,zH3,zE3];done)|exact hp|skip
  .have f2:(((k&&& 2:Nat):Int)=0)=True:=zF5 (by omega)
   by_cases a3:4<=k
   .have f3:(((k&&& 4:Nat):Int)=0)=False:=zC6 (by omega)
    have q2:fS p k=fS p k:=rfl
    conv at q2=>lhs;simp only[fS,nH,a1,a2,zH3,zE3]
    refine dE ai (aa @f1 (aa @f2 (aa @f3 (aa @i1 @i2)))) (bu ?_ ?_)<;>intro zb;all_goals first|exact gw h8 hp q2|(simp only[zC4,i1];omega)|(simp only[jN,fS,nH,a1,a2,a3,zH3,zE3];done)|exact hp|skip
   .have f3:(((k&&& 4:Nat):Int)=0)=True:=zF5 (by omega)
    have q2:fS p k=fS p k:=rfl
    conv at q2=>lhs;simp only[fS,nH,a1,a2,zH3,zE3]
    refine dE ai (aa @f1 (aa @f2 (aa @f3 (aa @i1 @i2)))) (aD λzb=> ?_);all_goals first|exact gw h8 hp q2|(simp only[zC4,i1];omega)|(simp only[jN,fS,nH,a1,a2,a3,zH3,zE3];done)|exact hp|skip
theorem oE(h:k<8):sf .i64 ((k:Int).tdiv 2):=by
 show(-9223372036854775808:Int)<=_/\_<=(9223372036854775807:Int);grind
theorem iF(p:List Int)(k:Nat)(hk:k<8)(h8:p.length<=8)(hp:aF p=true):Fun Tryz.prog 164 [lI m0 p,.int .i64 k] [oI (jN p k)]:=by
 refine fO au [4] Tryz.func164 ?_;have cE1:=@bJ;have cE2:=@aK;have cE3:=@d9;have i1:(jM p).length=p.length:=j5;have i2:List.take p.length (jM p)=jM p:=zA2 (by omega);by_cases a1:k % 2=1
 .have f1:((k:Int).tmod 2=1)=True:=zF5 (by grind)
  by_cases a2:k/2 % 2=1
  .have f2:(((k:Int).tdiv 2).tmod 2=1)=True:=zF5 (by grind)
   by_cases a3:4<=k
   .have f3:(4<=(k:Int))=True:=zF5 (by omega)
    have q2:fS p k=fS p k:=rfl
    conv at q2=>lhs;simp only[fS,nH,a1,a2,zH3,zE3]
    refine dE ai (aa @f1 (aa @f2 (aa @f3 (aa @i1 @i2)))) (Pu ?_ ?_ ?_ ?_)<;>intro zb;all_goals first|exact gw h8 hp q2|(simp only[zC4,i1];omega)|(simp only[jN,fS,nH,a1,a2,a3,zH3,zE3];done)|exact hp|exact oE hk|skip
   .have f3:(4<=(k:Int))=False:=zC6 (by omega)
    have q2:fS p k=fS p k:=rfl
    conv at q2=>lhs;simp only[fS,nH,a1,a2,zH3,zE3]
    refine dE ai (aa @f1 (aa @f2 (aa @f3 (aa @i1 @i2)))) (bu ?_ ?_)<;>intro zb;all_goals first|exact gw h8 hp q2|(simp only[zC4,i1];omega)|(simp only[jN,fS,nH,a1,a2,a3,zH3,zE3];done)|exact hp|exact oE hk|skip
  .have f2:(((k:Int).tdiv 2).tmod 2=1)=False:=zC6 (by rw[Int.tdiv_eq_ediv_of_nonneg (by omega),zI5 (by omega)];omega)
   by_cases a3:4<=k
   .have f3:(4<=(k:Int))=True:=zF5 (by omega)
    have q2:fS p k=fS p k:=rfl
    conv at q2=>lhs;simp only[fS,nH,a1,a2,zH3,zE3]
    refine dE ai (aa @f1 (aa @f2 (aa @f3 (aa @i1 @i2)))) (yQ ?_ ?_ ?_)<;>intro zb;all_goals first|exact gw h8 hp q2|(simp only[zC4,i1];omega)|(simp only[jN,fS,nH,a1,a2,a3,zH3,zE3];done)|exact hp|exact oE hk|skip
   .have f3:(4<=(k:Int))=False:=zC6 (by omega)
    have q2:fS p k=fS p k:=rfl
    conv at q2=>lhs;simp only[fS,nH,a1,a2,zH3,zE3]
    refine dE ai (aa @f1 (aa @f2 (aa @f3 (aa @i1 @i2)))) (bu ?_ ?_)<;>intro zb;all_goals first|exact gw h8 hp q2|(simp only[zC4,i1];omega)|(simp only[jN,fS,nH,a1,a2,a3,zH3,zE3];done)|exact hp|exact oE hk|skip
 .have f1:((k:Int).tmod 2=1)=False:=zC6 (by rw[zI5 (by omega)];omega)
  by_cases a2:k/2 % 2=1
  .have f2:(((k:Int).tdiv 2).tmod 2=1)=True:=zF5 (by rw[Int.tdiv_eq_ediv_of_nonneg (by omega),zI5 (by omega)];omega)
   by_cases a3:4<=k
   .have f3:(4<=(k:Int))=True:=zF5 (by omega)
    have q2:fS p k=fS p k:=rfl
    conv at q2=>lhs;simp only[fS,nH,a1,a2,zH3,zE3]
    refine dE ai (aa @f1 (aa @f2 (aa @f3 (aa @i1 @i2)))) (Pu ?_ ?_ ?_ ?_)<;>intro zb;all_goals first|exact gw h8 hp q2|(simp only[zC4,i1];omega)|(simp only[jN,fS,nH,a1,a2,a3,zH3,zE3];done)|exact hp|exact oE hk|skip
   .have f3:(4<=(k:Int))=False:=zC6 (by omega)
    have q2:fS p k=fS p k:=rfl
    conv at q2=>lhs;simp only[fS,nH,a1,a2,zH3,zE3]
    refine dE ai (aa @f1 (aa @f2 (aa @f3 (aa @i1 @i2)))) (bu ?_ ?_)<;>intro zb;all_goals first|exact gw h8 hp q2|(simp only[zC4,i1];omega)|(simp only[jN,fS,nH,a1,a2,a3,zH3,zE3];done)|exact hp|exact oE hk|skip
  .have f2:(((k:Int).tdiv 2).tmod 2=1)=False:=zC6 (by rw[Int.tdiv_eq_ediv_of_nonneg (by omega),zI5 (by omega)];omega)
   by_cases a3:4<=k
   .have f3:(4<=(k:Int))=True:=zF5 (by omega)
    have q2:fS p k=fS p k:=rfl
    conv at q2=>lhs;simp only[fS,nH,a1,a2,zH3,zE3]
    refine dE ai (aa @f1 (aa @f2 (aa @f3 (aa @i1 @i2)))) (yQ ?_ ?_ ?_)<;>intro zb;all_goals first|exact gw h8 hp q2|(simp only[zC4,i1];omega)|(simp only[jN,fS,nH,a1,a2,a3,zH3,zE3];done)|exact hp|exact oE hk|skip
   .have f3:(4<=(k:Int))=False:=zC6 (by omega)
    have q2:fS p k=fS p k:=rfl
    conv at q2=>lhs;simp only[fS,nH,a1,a2,zH3,zE3]
    refine dE ai (aa @f1 (aa @f2 (aa @f3 (aa @i1 @i2)))) (bu ?_ ?_)<;>intro zb;all_goals first|exact gw h8 hp q2|(simp only[zC4,i1];omega)|(simp only[jN,fS,nH,a1,a2,a3,zH3,zE3];done)|exact hp|exact oE hk|skip
def TY(p:List Int)(k:Nat):List Int:=kM (p.take k++p.drop (k+1))
theorem FF(h:k<p.length):(TY p k).length=p.length-1:=by
 rw[TY,eE];simp;omega
def DV:FuncId->List Bool:=λf=>if f=299 then[true]else[]
theorem Qb{f:FuncId}:DV f=if f=299 then[true]else[]:=_root_.id rfl
theorem JD:ga DV=false/\gu DV=false/\gs DV=false/\gr DV=false/\gB DV=false:=⟨rfl,rfl,rfl,rfl,rfl⟩
attribute [go_sem] Qb JD
theorem kU(p:List Int)(k:Nat)(hk:k<p.length)(h8:p.length<=8):Fun Tryz.prog 268 [lI m0 p,.int .i64 k] [oI (TY p k)]:=by
 refine fO DV [4] Tryz.func268 ?_;have cE1:=@aW;have cE2:=@kX;have e1:((k:Int)+1).toNat=k+1:=by omega
 have cM1:=@nG;refine dE ai @e1 (aD λzb=> ?_);all_goals first|rfl|(simp;omega)|skip
theorem jl(p:List Int)(k:Nat)(hk:k<p.length)(h8:p.length<=8):Fun Tryz.prog 165 [lI m0 p,.int .i64 k] [oI (TY p k)]:=by
 refine fO au [4] Tryz.func165 ?_;have cE1:=@gb;have cD1:=d7 (d8 12 [0,4,9,10]) [(0,1),(0,2),(0,3),(0,5),(4,5),(0,6),(4,6),(0,7),(4,7),(0,8),(4,8)];have e1:((k:Int)+1).toNat=k+1:=by omega
 have e2:(p.take k).length+(p.drop (k+1)).length=(p.take k++p.drop (k+1)).length:=by simp
 have e3:(p.take k++p.drop (k+1)).length<=8:=by simp;omega
 have e4:List.take ((p.take k).length+(p.drop (k+1)).length) (p.take k++p.drop (k+1))=p.take k++p.drop (k+1):=zA2 (by omega);have e5:(p.take k).length<=8:=by simp;omega
 refine dE ai (aa @e1 @e4) (aD λzb=> ?_);rfl
theorem dM(p:List Int)(hl:p.length<=1048576):Fun Tryz.prog 237 [lI m0 p] [.bool ((ac p&&lW p))]:=by
 refine fO au [2] Tryz.func237 ?_;have cE1:=@ae;have cE2:=@uq;by_cases hp:ac p=true
 .have h8:=(fK hp).1
  have hb:=Gr hp;exact dE ai (aa @hp @zF4) aj
 .rw[zA9]at hp
  exact dE ai (aa @hp @zH9) aj
theorem so{A B:List Int}{i:Nat}(h:i<A.length):(A++B).getD i 0=A.getD i 0:=by
 rw[zA0,zA0,zD8 h]
theorem Be{v:Int}{st:List Int}:xT (v::p) st nx=(73::(List.replicate (iB (st.length+1) (st++[v]) nx) 79++(xT p ((st++[v]).take (st.length+1-iB (st.length+1) (st++[v]) nx)) (nx+iB (st.length+1) (st++[v]) nx)).1),(xT p ((st++[v]).take (st.length+1-iB (st.length+1) (st++[v]) nx)) (nx+iB (st.length+1) (st++[v]) nx)).2):=rfl
theorem xX{x:Int}:iB (f+1) (s++[x]) x=iB f s (x+1)+1:=by
 rw[iB,zB0 ⟨by simp,o0⟩,pu]
theorem xW(h:s=[]\/Ba s≠nx):iB f s nx=0:=by
 cases f with
 |zero=>rfl
 |succ f=>
  rw[iB,zA8];rintro⟨a,b⟩;rcases h with h|h
  .exact a h
  .exact h b
def nZ(p:List Int):Bool:=ac p&&(xT p [] 1).2.isEmpty
def Jm(p:List Int):List UInt8:=if nZ p then(xT p [] 1).1 else[]
theorem pL(p:List Int)(hl:p.length<=1048576):Fun Tryz.prog 133 [lI m0 p] [.str (Jm p),.bool (nZ p)]:=by
 by_cases hp:ac p=true
 .obtain⟨h8,hq⟩:=fK hp
  have e1:nZ p=(xT p [] 1).2.isEmpty:=by rw[nZ,hp,zF4]
  refine fO au [2,3] Tryz.func133 ?_;have cE1:=@ae;refine dE ai @hp (aD λzb=> ?_);refine xN (λ(i:Nat) (out:List UInt8) (st:List Int) (junk:List Int) (nx:Int) S1=>(S1.e 0=.p (lI m0 p)/\S1.e 4=.p (.str out)/\eI S1 6 nx/\S1.e 13=.p (lI m0 p)/\eI S1 14 p.length/\eI S1 15 i)/\OwnL (S1.e 5) S1.h S1.n (PV.int .i64) st.length (st++junk)/\i<=p.length/\(xT p [] 1).1=out++(xT (p.drop i) st nx).1/\(xT p [] 1).2=(xT (p.drop i) st nx).2/\nx+st.length=i+1/\1<=nx/\(out.length:Int)=i+nx-1) (λi _ _ _ _=>p.length-i) 0 [] [] [] 1 ?_ (dC trivial aj);rintro i out st junk nx S1 ⟨fF1,A7,A1,A0,A3,B5,C7,E4⟩;obtain⟨B4,A5,B8⟩:=A7.ou;have fL1:=(aa fF1 A5)
  .by_cases hi:i<p.length
   .rw[aN hi,Be]at A0 A3
    obtain⟨v,ev⟩:∃v,p.getD i 0=v:=⟨_,rfl⟩;rw[ev]at A0 A3;obtain⟨c0,hc0⟩:∃c,iB (st.length+1) (st++[v]) nx=c:=⟨_,rfl⟩;have hcl:=(s7 (f:=st.length+1) (st:=st++[v]) (nx:=nx) (by simp)).1;rw[hc0,zA3,zC5]at hcl;rw[hc0]at A0 A3;refine dE ai (aa fL1 @ev) ?_;all_goals try(apply nn;repeat' first|exact jb|apply aa|(apply nq;intro zb hc)|(apply np;intro zb)|intro j')<;>try apply nu
    refine ku (λ(c:Nat) (s2:List Int) (j2:List Int) S2=>(S2.e 0=.p (lI m0 p)/\S2.e 4=.p (.str (((out++[73])++List.replicate c 79)))/\eI S2 6 ((nx+c))/\eI S2 8 v/\S2.e 13=.p (lI m0 p)/\eI S2 14 p.length/\eI S2 15 i)/\OwnL (S2.e 5) S2.h S2.n (PV.int .i64) s2.length (s2++j2)/\s2=(st++[v]).take (st.length+1-c)/\c<=st.length+1/\s2.length=st.length+1-c/\iB s2.length s2 (nx+c)+c=c0/\S1.n<=S2.n) (λ_ s2 _=>s2.length) 0 (st++[v]) j' ?_ (dC fL1 (bu (λzb=> ?_) λzb=> ?_));rintro c s2 j2 S2 ⟨fF2,D2,A6,B3,C1,D0,B1⟩;obtain⟨D7,D1,G1⟩:=D2.ou;have fL2:=(aa fF2 D1)
    .by_cases hd:s2≠[]/\Ba s2=nx+c
     .obtain⟨s,x,hs⟩:=ze hd.1
      have ls:=zB5 List.length hs;rw[zA3,zC5]at ls;have e3:(s2++j2).getD ((s2.length:Int)-1).toNat 0=nx+c:=by
       rw[show((s2.length:Int)-1).toNat=s2.length-1 by omega,so (by omega)];exact hd.2
      have e9:s2.take (s2.length-1)=s:=by rw[hs,pu]
      have e8:iB s2.length s2 (nx+c)=iB s.length s (nx+c+1)+1:=by
       have:x=nx+c:=by rw[<-hd.2,hs,o0]
       rw[hs,zA3,zC5,<-this,xX]
      refine dE ai (aa fL2 @e3) (aI λzb hc=> ?_)
      .refine gG (c+1) s (s2.drop (s2.length-1)++j2) (dC fL2 aj) (dC fL2 (Pu ?_ ?_ ?_ ?_))<;>intro zb
       .rw[List.replicate_succ']
       .rw[<-zA7];congr 1;rw[<-e9,zF0]
       .rw[<-e9,C1,A6,List.take_take];congr 1;omega
       .rw[show nx+((c+1:Nat):Int)=nx+c+1 by omega];omega
     .have e4:=xW (f:=s2.length) (s:=s2) (nx:=nx+c) (by
       by_cases q:s2=[]
       .exact .inl q
       .exact .inr λg=>hd ⟨q,g⟩)
      obtain rfl:c=c0:=by omega
      by_cases hz:s2=[]
      .have f0:s2.length=0:=by rw[hz];rfl
       refine dE ai fL2 (aI λzb hc=> ?_);refine nI (i+1) ((out++[73])++List.replicate c 79) s2 j2 (nx+c) (dC fL2 aj) (dC fL2 (bu ?_ ?_))<;>intro zb
       .rw[A0,<-A6]
       .rw[A3,<-A6]
       all_goals first|(simp;omega)|trace_state
      .have hp1:=List.length_pos_iff.2 hz
       have e3:((s2++j2).getD ((s2.length:Int)-1).toNat 0=nx+c)=False:=by
        rw[show((s2.length:Int)-1).toNat=s2.length-1 by omega,so (by omega)];exact zC6 λg=>hd ⟨hz,g⟩
       refine dE ai (aa fL2 @e3) (aI λzb hc=> ?_);refine nI (i+1) ((out++[73])++List.replicate c 79) s2 j2 (nx+c) (dC fL2 aj) (dC fL2 (bu ?_ ?_))<;>intro zb
       .rw[A0,<-A6]
       .rw[A3,<-A6]
       all_goals first|(simp;omega)|trace_state
    .exact(zA2 (by simp)).symm
    .rw[zA3,zC5,Int.add_zero,hc0]
   .rw[zA6 (by omega),xT,zC0]at A0
    rw[zA6 (by omega),xT]at A3;simp only at A3;by_cases hz:st=[]
    .have f0:st.length=0:=by rw[hz];rfl
     have e5:nZ p=true:=by rw[e1,A3,hz];rfl
     refine dE ai fL1 (f9 ?_ ?_)<;>intro zb hc
     .rw[Jm,zB0 e5,A0]
     .exact e5.symm
    .have hp1:=List.length_pos_iff.2 hz
     have e5:nZ p=false:=by rw[e1,A3];cases st with|nil=>exact absurd rfl hz|cons=>rfl
     refine dE ai fL1 (f9 ?_ ?_)<;>intro zb hc
     .rw[Jm,e5];rfl
     .exact e5.symm
 .rw[zA9]at hp
  have e1:nZ p=false:=by rw[nZ,hp,zH9]
  have e2:Jm p=[]:=by rw[Jm,e1];rfl
  rw[e1,e2];refine fO au [2,3] Tryz.func133 ?_;have cE1:=@ae;exact dE ai @hp aj
theorem pF(p:List Int)(hl:p.length<=1048576):Fun Tryz.prog 202 [lI m0 p] [.str (Jm p),.bool (nZ p)]:=by
 by_cases hp:ac p=true
 .obtain⟨h8,hq⟩:=fK hp
  have e1:nZ p=(xT p [] 1).2.isEmpty:=by rw[nZ,hp,zF4]
  refine fO au [2,3] Tryz.func202 ?_;have cE1:=@ah;refine dE ai @hp (aD λzb=> ?_);refine xN (λ(i:Nat) (out:List UInt8) (st:List Int) (junk:List Int) (nx:Int) S1=>(S1.e 0=.p (lI m0 p)/\S1.e 4=.p (.str out)/\eI S1 6 nx/\eI S1 7 i)/\OwnL (S1.e 5) S1.h S1.n (PV.int .i64) st.length (st++junk)/\i<=p.length/\(xT p [] 1).1=out++(xT (p.drop i) st nx).1/\(xT p [] 1).2=(xT (p.drop i) st nx).2/\nx+st.length=i+1/\1<=nx/\(out.length:Int)=i+nx-1) (λi _ _ _ _=>p.length-i) 0 [] [] [] 1 ?_ (dC trivial aj);rintro i out st junk nx S1 ⟨fF1,A7,A1,A0,A3,B5,C7,E4⟩;obtain⟨B4,A5,B8⟩:=A7.ou;have fL1:=(aa fF1 A5)
  .by_cases hi:i<p.length
   .rw[aN hi,Be]at A0 A3
    obtain⟨v,ev⟩:∃v,p.getD i 0=v:=⟨_,rfl⟩;rw[ev]at A0 A3;obtain⟨c0,hc0⟩:∃c,iB (st.length+1) (st++[v]) nx=c:=⟨_,rfl⟩;have hcl:=(s7 (f:=st.length+1) (st:=st++[v]) (nx:=nx) (by simp)).1;rw[hc0,zA3,zC5]at hcl;rw[hc0]at A0 A3;refine dE ai (aa fL1 @ev) ?_;all_goals try(apply nn;repeat' first|exact jb|apply aa|(apply nq;intro zb hc)|(apply np;intro zb)|intro j')<;>try apply nu
    refine ku (λ(c:Nat) (s2:List Int) (j2:List Int) S2=>(S2.e 0=.p (lI m0 p)/\S2.e 4=.p (.str (((out++[73])++List.replicate c 79)))/\eI S2 6 ((nx+c))/\eI S2 7 i)/\OwnL (S2.e 5) S2.h S2.n (PV.int .i64) s2.length (s2++j2)/\s2=(st++[v]).take (st.length+1-c)/\c<=st.length+1/\s2.length=st.length+1-c/\iB s2.length s2 (nx+c)+c=c0/\S1.n<=S2.n) (λ_ s2 _=>s2.length) 0 (st++[v]) j' ?_ (dC fL1 (bu (λzb=> ?_) λzb=> ?_));rintro c s2 j2 S2 ⟨fF2,D2,A6,B3,C1,D0,B1⟩;obtain⟨D7,D1,G1⟩:=D2.ou;have fL2:=(aa fF2 D1)
    .by_cases hd:s2≠[]/\Ba s2=nx+c
     .obtain⟨s,x,hs⟩:=ze hd.1
      have ls:=zB5 List.length hs;rw[zA3,zC5]at ls;have e3:(s2++j2).getD ((s2.length:Int)-1).toNat 0=nx+c:=by
       rw[show((s2.length:Int)-1).toNat=s2.length-1 by omega,so (by omega)];exact hd.2
      have e9:s2.take (s2.length-1)=s:=by rw[hs,pu]
      have e8:iB s2.length s2 (nx+c)=iB s.length s (nx+c+1)+1:=by
       have:x=nx+c:=by rw[<-hd.2,hs,o0]
       rw[hs,zA3,zC5,<-this,xX]
      refine dE ai (aa fL2 (aa @e3 @ev)) (aI λzb hc=> ?_)
      .refine gG (c+1) s (s2.drop (s2.length-1)++j2) (dC fL2 aj) (dC fL2 (Pu ?_ ?_ ?_ ?_))<;>intro zb
       .rw[List.replicate_succ']
       .rw[<-zA7];congr 1;rw[<-e9,zF0]
       .rw[<-e9,C1,A6,List.take_take];congr 1;omega
       .rw[show nx+((c+1:Nat):Int)=nx+c+1 by omega];omega
     .have e4:=xW (f:=s2.length) (s:=s2) (nx:=nx+c) (by
       by_cases q:s2=[]
       .exact .inl q
       .exact .inr λg=>hd ⟨q,g⟩)
      obtain rfl:c=c0:=by omega
      by_cases hz:s2=[]
      .have f0:s2.length=0:=by rw[hz];rfl
       refine dE ai fL2 (aI λzb hc=> ?_);refine nI (i+1) ((out++[73])++List.replicate c 79) s2 j2 (nx+c) (dC fL2 aj) (dC fL2 (bu ?_ ?_))<;>intro zb
       .rw[A0,<-A6]
       .rw[A3,<-A6]
       all_goals first|(simp;omega)|trace_state
      .have hp1:=List.length_pos_iff.2 hz
       have e3:((s2++j2).getD ((s2.length:Int)-1).toNat 0=nx+c)=False:=by
        rw[show((s2.length:Int)-1).toNat=s2.length-1 by omega,so (by omega)];exact zC6 λg=>hd ⟨hz,g⟩
       refine dE ai (aa fL2 (aa @e3 @ev)) (aI λzb hc=> ?_);refine nI (i+1) ((out++[73])++List.replicate c 79) s2 j2 (nx+c) (dC fL2 aj) (dC fL2 (bu ?_ ?_))<;>intro zb
       .rw[A0,<-A6]
       .rw[A3,<-A6]
       all_goals first|(simp;omega)|trace_state
    .exact(zA2 (by simp)).symm
    .rw[zA3,zC5,Int.add_zero,hc0]
   .rw[zA6 (by omega),xT,zC0]at A0
    rw[zA6 (by omega),xT]at A3;simp only at A3;by_cases hz:st=[]
    .have f0:st.length=0:=by rw[hz];rfl
     have e5:nZ p=true:=by rw[e1,A3,hz];rfl
     refine dE ai fL1 (f9 ?_ ?_)<;>intro zb hc
     .rw[Jm,zB0 e5,A0]
     .exact e5.symm
    .have hp1:=List.length_pos_iff.2 hz
     have e5:nZ p=false:=by rw[e1,A3];cases st with|nil=>exact absurd rfl hz|cons=>rfl
     refine dE ai fL1 (f9 ?_ ?_)<;>intro zb hc
     .rw[Jm,e5];rfl
     .exact e5.symm
 .rw[zA9]at hp
  have e1:nZ p=false:=by rw[nZ,hp,zH9]
  have e2:Jm p=[]:=by rw[Jm,e1];rfl
  rw[e1,e2];refine fO au [2,3] Tryz.func202 ?_;have cE1:=@ah;exact dE ai @hp aj
theorem FJ{D:List Int}{p:Int}(h:j<=L.length):List.take (j+1) (L.take j++p::D)=L.take j++[p]:=by
 rw[List.take_append,zA2 (by simp;omega),zD3,Nat.min_eq_left h,Nat.add_sub_cancel_left];rfl
theorem pp{p:Int}(h1:j<=L.length)(h2:∀q,j<=q->q<L.length->p<L.getD q 0)(h3:0<j->¬p<L.getD (j-1) 0):un L p=L.take j++p::L.drop j:=by
 rw[un,sB h1 h2 h3];rfl
theorem vl(l:List Int)(hl:l.length<=1000):Fun Tryz.prog 210 [lI m0 l] [oI (cW l)]:=by
 refine fO au [2] Tryz.func210 ?_;have cD1:=d7 (d8 12 [7,8,10]) [(0,7),(1,7),(2,7),(7,9),(8,9)];refine dE ai trivial (aD λzb=> ?_);refine ao (λ(k:Nat) S1=>(S1.e 0=.p (lI m0 l)/\eI S1 4 k)/\OwnL (S1.e 3) S1.h S1.n (PV.int .i64) ((cW (l.take k)).length) (cW (l.take k))/\k<=l.length) (λk=>l.length-k) 0 ?_ (dC trivial aj);rintro k S1 ⟨fF1,A4,A1⟩;obtain⟨A9,A2,B6⟩:=A4.ou;have fL1:=(aa fF1 A2)
 .have e0:=FU (L:=l) (i:=k) (by omega)
  refine dE ai (aa fL1 @e0) (f9 ?_ ?_)<;>intro zb hc
  .refine ao (λ(j:Nat) S2=>(S2.e 0=.p (lI m0 l)/\eI S2 4 k/\eI S2 5 j)/\OwnL (S2.e 3) S2.h S2.n (PV.int .i64) ((cW (l.take k)).length) (cW (l.take k))/\j<=k/\k<l.length/\(∀q,j<=q->q<(cW (l.take k)).length->l.getD k 0<(cW (l.take k)).getD q 0)/\S1.n<=S2.n) (λj=>j) k ?_ (dC fL1 aj)
   rintro j S2 ⟨fF2,C9,A6,B3,C1,B1⟩;obtain⟨F3,C6,F4⟩:=C9.ou;have fL2:=(aa fF2 C6)
   .have e1:((j:Int)-1).toNat=j-1:=by omega
    have e3:List.take (k-j) (List.drop j (cW (l.take k)))=(cW (l.take k)).drop j:=zA2 (by simp;omega);generalize hS:cW (l.take k)=S at*
    have dn:(∀q,j<=q->q<S.length->l.getD k 0<S.getD q 0)->l.getD k 0<S.getD (j-1) 0->∀q,j-1<=q->q<S.length->l.getD k 0<S.getD q 0:=λh2 h3 q a b=>by
     by_cases e:q=j-1
     .rw[e];exact h3
     .exact h2 q (by omega) b
    by_cases hj:0<j
    .have gg:((0:Int)<(j:Int))=True:=zF5 (by omega)
     by_cases h0:j=k
     .have h0':=h0
      subst h0';have e4:List.drop j S=[]:=zA6 (by omega);have e5:List.take j S=S:=zA2 (by omega);have f1:(j+1=(S++[l.getD j 0]).length)=True:=zF5 (by simp;omega);refine dE ai (aa fL2 (aa @e0 (aa @e1 (aa @e3 (aa @e4 (aa @e5 (aa @f1 @gg))))))) ?_;all_goals try(apply nn;repeat' first|exact jb|apply aa|(apply nq;intro zb hc)|(apply np;intro zb)|intro j')<;>try apply nu
      .refine ak (j-1) (dC fL2 aj) (dC fL2 (aD λzb=> ?_))
       exact dn C1 hc
      .refine ak (j+1) (dC fL2 aj) (dC fL2 (bu ?_ ?_))<;>intro zb
       all_goals(rw[iq (by omega),hS,pp (j:=j) (by omega) C1 (λ_=>by omega)])
       all_goals first|(simp;omega)|rw[e5,e4]
     .have f0:(j=k)=False:=zC6 h0
      have f1:(j+1<=k)=True:=zF5 (by omega);have f2:(List.take j S++l.getD k 0::List.drop (j+1) S).length=k:=by simp;omega
      have f3:(List.drop j S).length=k-j:=by simp;omega
      by_cases h1:j+1=k
      .have f4:(j+1=k)=True:=zF5 h1
       refine dE ai (aa fL2 (aa @e0 (aa @e1 (aa @e3 (aa @f0 (aa @f1 (aa @f2 (aa @f3 (aa @f4 @gg))))))))) ?_;all_goals try(apply nn;repeat' first|exact jb|apply aa|(apply nq;intro zb hc)|(apply np;intro zb)|intro j')<;>try apply nu
       .refine ak (j-1) (dC fL2 aj) (dC fL2 (aD λzb=> ?_))
        exact dn C1 hc
       .refine ak (k+1) (dC fL2 aj) (dC fL2 (bu ?_ ?_))<;>intro zb
        all_goals(rw[iq (by omega),hS,pp (j:=j) (by omega) C1 (λ_=>by omega)])
        all_goals first|(simp;omega)|rw[zA6 (i:=j+1) (by omega),zE1]
      .have f4:(j+1=k)=False:=zC6 h1
       have f5:(j+(1+(k-j))<=k)=False:=zC6 (by omega);refine dE ai (aa fL2 (aa @e0 (aa @e1 (aa @e3 (aa @f0 (aa @f1 (aa @f2 (aa @f3 (aa @f4 (aa @f5 @gg)))))))))) ?_;all_goals try(apply nn;repeat' first|exact jb|apply aa|(apply nq;intro zb hc)|(apply np;intro zb)|intro j')<;>try apply nu
       .refine ak (j-1) (dC fL2 aj) (dC fL2 (aD λzb=> ?_))
        exact dn C1 hc
       .refine ak (k+1) (dC fL2 aj) (dC fL2 (bu ?_ ?_))<;>intro zb
        all_goals(rw[iq (by omega),hS,pp (j:=j) (by omega) C1 (λ_=>by omega)])
        all_goals first|(simp;omega)|(rw[FJ (by omega),zA7];rfl)
    .have gg:((0:Int)<(j:Int))=False:=zC6 (by omega)
     by_cases h0:j=k
     .have h0':=h0
      subst h0';have e4:List.drop j S=[]:=zA6 (by omega);have e5:List.take j S=S:=zA2 (by omega);have f1:(j+1=(S++[l.getD j 0]).length)=True:=zF5 (by simp;omega);refine dE ai (aa fL2 (aa @e0 (aa @e1 (aa @e3 (aa @e4 (aa @e5 (aa @f1 @gg))))))) ?_;all_goals try(apply nn;repeat' first|exact jb|apply aa|(apply nq;intro zb hc)|(apply np;intro zb)|intro j')<;>try apply nu
      .refine ak (j+1) (dC fL2 aj) (dC fL2 (bu ?_ ?_))<;>intro zb
       all_goals(rw[iq (by omega),hS,pp (j:=j) (by omega) C1 (λh=>absurd h hj)])
       all_goals first|(simp;omega)|rw[e5,e4]
     .have f0:(j=k)=False:=zC6 h0
      have f1:(j+1<=k)=True:=zF5 (by omega);have f2:(List.take j S++l.getD k 0::List.drop (j+1) S).length=k:=by simp;omega
      have f3:(List.drop j S).length=k-j:=by simp;omega
      by_cases h1:j+1=k
      .have f4:(j+1=k)=True:=zF5 h1
       refine dE ai (aa fL2 (aa @e0 (aa @e1 (aa @e3 (aa @f0 (aa @f1 (aa @f2 (aa @f3 (aa @f4 @gg))))))))) ?_;all_goals try(apply nn;repeat' first|exact jb|apply aa|(apply nq;intro zb hc)|(apply np;intro zb)|intro j')<;>try apply nu
       .refine ak (k+1) (dC fL2 aj) (dC fL2 (bu ?_ ?_))<;>intro zb
        all_goals(rw[iq (by omega),hS,pp (j:=j) (by omega) C1 (λh=>absurd h hj)])
        all_goals first|(simp;omega)|rw[zA6 (i:=j+1) (by omega),zE1]
      .have f4:(j+1=k)=False:=zC6 h1
       have f5:(j+(1+(k-j))<=k)=False:=zC6 (by omega);refine dE ai (aa fL2 (aa @e0 (aa @e1 (aa @e3 (aa @f0 (aa @f1 (aa @f2 (aa @f3 (aa @f4 (aa @f5 @gg)))))))))) ?_;all_goals try(apply nn;repeat' first|exact jb|apply aa|(apply nq;intro zb hc)|(apply np;intro zb)|intro j')<;>try apply nu
       .refine ak (k+1) (dC fL2 aj) (dC fL2 (bu ?_ ?_))<;>intro zb
        all_goals(rw[iq (by omega),hS,pp (j:=j) (by omega) C1 (λh=>absurd h hj)])
        all_goals first|(simp;omega)|(rw[FJ (by omega),zA7];rfl)
  .have e:List.take k l=l:=zA2 (by omega)
   rw[e];exact zA2 (by rw[me];omega)
end Go.Gl
