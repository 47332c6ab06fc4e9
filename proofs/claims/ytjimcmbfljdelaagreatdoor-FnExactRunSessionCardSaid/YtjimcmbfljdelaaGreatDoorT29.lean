/-
  What the functions compute, and what the law asks of it: texts joined. Conditions: those that each lemma names.
-/
import Derived.Test.YtjimcmbfljdelaaGreatDoorT27
import Derived.Test.YtjimcmbfljdelaaGreatDoorT1
set_option linter.unusedSimpArgs false
set_option linter.unusedVariables false
set_option maxRecDepth 20000
set_option linter.unusedSectionVars false
set_option maxHeartbeats 16000000
variable{n:Int}{J P p:List Int}{k:Nat}{m0 m1 m2:Bool}
namespace Go.Gl
open Go Go.Proofs
variable [Amb][NoQ]
def GO(n:Int)(J:List Int)(k:Nat):Bool:=(List.range k).all λi=>decide (1<=J.getD i 0)&&decide (J.getD i 0<n)&&(decide (i=0)||decide (J.getD (i-1) 0<J.getD i 0))
theorem acr:GO n J (k+1)=(GO n J k&&(decide (1<=J.getD k 0)&&decide (J.getD k 0<n)&&(decide (k=0)||decide (J.getD (k-1) 0<J.getD k 0)))):=by simp[GO,zF7]
theorem Nc{m:Nat}(h:k<m)(g:¬(1<=J.getD k 0/\J.getD k 0<n/\(k=0\/J.getD (k-1) 0<J.getD k 0))):GO n J m=false:=by
 rw[<-zA9];intro q;rw[GO,zC8]at q;have:=q k (zD5.2 h);simp only[zB9,zI8,zC2,and_assoc]at this;exact g this
theorem Nd(h:GO n J k=true)(g:1<=J.getD k 0/\J.getD k 0<n/\(k=0\/J.getD (k-1) 0<J.getD k 0)):GO n J (k+1)=true:=by
 rw[acr,h,zF4];simp only[zB9,zI8,zC2,and_assoc];exact g
def xg(P J:List Int):Bool:=ac P&&GO P.length J J.length
theorem UR(h:GO n J J.length=true):∀x∈J,1<=x/\x<n:=λx hx=>by
 obtain⟨i,hi,rfl⟩:=zE7 hx;rw[GO,zC8]at h;have:=h i (zD5.2 hi);simp only[zB9,zC2,and_assoc]at this;rw[zA0,zA1 hi]at this;exact⟨this.1,this.2.1⟩
theorem dq(P J:List Int)(hP:P.length<=1048576)(hJ:J.length<=1048576):Fun Tryz.prog 145 [.agg [lI m1 P,lI m2 J]] [.bool (xg P J)]:=by
 cases hp:ac P with
 |false=>
  rw[xg,hp,zH9];refine fO au [2] Tryz.func145 ?_;have cE1:=@ae;exact dE ai @hp aj
 |true=>
  rw[xg,hp,zF4];refine fO au [2] Tryz.func145 ?_;have cE1:=@ae;refine dE ai @hp (aD λzb=> ?_);refine ao (λ(k:Nat) S1=>(S1.e 10=.p (lI m2 J)/\eI S1 11 J.length/\eI S1 12 k)/\PtrL (S1.e 1) S1.h S1.n (.live false [lI m1 P,lI m2 J])/\k<=J.length/\GO P.length J k=true) (λk=>J.length-k) 0 ?_ (dC trivial aj);rintro k S1 ⟨fF1,E3,A1,A0⟩;obtain⟨I2,D6,I3⟩:=E3.ou;have fL1:=(aa fF1 D6);have f1:=Nc (n:=(P.length:Int)) (J:=J) (k:=k) (m:=J.length);have f2:=Nd (n:=(P.length:Int)) (J:=J) (k:=k) A0;by_cases hk:k<J.length
  .have e0:((k:Int)-1).toNat=k-1:=by omega
   refine dE ai (aa fL1 @e0) (Vp ?_ ?_ ?_ ?_ ?_)<;>intro zb hc
   .rw[f1 hk (by omega)]
   .refine ak (k+1) (dC fL1 aj) (dC fL1 (aD λzb=> ?_))
    all_goals exact f2 (by omega)
   .refine ak (k+1) (dC fL1 aj) (dC fL1 (aD λzb=> ?_))
    all_goals exact f2 (by omega)
   .rw[f1 hk (by omega)]
   .rw[f1 hk (by omega)]
  .obtain rfl:k=J.length:=by omega
   refine dE ai fL1 (aI λzb hc=> ?_);all_goals(rw[A0])
theorem fv(P J:List Int)(hP:P.length<=1048576)(hJ:J.length<=1048576):Fun Tryz.prog 204 [.agg [lI m1 P,lI m2 J]] [.bool (xg P J)]:=by
 refine fO au [2] Tryz.func204 ?_;have cE1:=@aA;have cE2:=@ah;have cD1:=d7 (d8 29 [9]) [];refine dE ai trivial (aD λzb=> ?_);refine ao (λ(k:Nat) S1=>eI S1 3 k/\PtrL (S1.e 1) S1.h S1.n (.live false [lI m1 P,lI m2 J])/\k<=J.length/\GO P.length J k=true) (λk=>J.length-k) 0 ?_ (dC trivial aj);rintro k S1 ⟨fF1,E3,A1,A0⟩;obtain⟨I2,D6,I3⟩:=E3.ou;have fL1:=(aa fF1 D6);have f1:=Nc (n:=(P.length:Int)) (J:=J) (k:=k) (m:=J.length);have f2:=Nd (n:=(P.length:Int)) (J:=J) (k:=k) A0;by_cases hk:k<J.length
 .have e0:((k:Int)-1).toNat=k-1:=by omega
  by_cases hx:1<=J.getD k 0/\J.getD k 0<=(P.length:Int)-1
  .have e1:(decide (1<=J.getD k 0)&&decide (J.getD k 0<=(P.length:Int)-1))=true:=by rw[zB6 hx.1,zB6 hx.2];rfl
   refine dE ai (aa fL1 (aa @e0 @e1)) (pC ?_ ?_ ?_)<;>intro zb hc
   .have e2:xg P J=false:=by rw[xg,f1 hk (by omega),Bool.and_false]
    rw[e2]
   .refine ak (k+1) (dC fL1 aj) (dC fL1 (aD λzb=> ?_))
    all_goals exact f2 (by omega)
   .refine ak (k+1) (dC fL1 aj) (dC fL1 (aD λzb=> ?_))
    all_goals exact f2 (by omega)
  .have e1:(decide (1<=J.getD k 0)&&decide (J.getD k 0<=(P.length:Int)-1))=false:=by
    rw[<-zA9];intro h;apply hx;simpa using h
   have e2:xg P J=false:=by rw[xg,f1 hk (by omega),Bool.and_false]
   refine dE ai (aa fL1 (aa @e0 @e1)) (aI λzb hc=> ?_);all_goals(rw[e2])
 .obtain rfl:k=J.length:=by omega
  have e2:xg P J=ac P:=by rw[xg,A0,zG1]
  rw[e2];exact dE ai fL1 aj
def Yb(l:List Int)(i:Int):Bool:=decide (l.getD i.toNat 0=l.getD (i-1).toNat 0+1)
def GA(J l:List Int):Bool:=J.all (Yb l)
def Jo(p P J:List Int):Int:=if ac p&&xg P J then(((eO 1 p P P.length []).filter (GA J)).length:Int)else -1
theorem Xp{l:List Int}:(J.any λi=> !Yb l i)= !GA J l:=by rw[GA,List.all_eq_not_any_not,Bool.not_not]
theorem qR(i:Int)(l:List Int)(m1:Bool)(hl:l.length<=8)(h1:1<=i)(h2:i<l.length)(hb:∀x∈l,1<=x/\x<=8):Fun Tryz.prog 148 [.int .i64 i,.pc [lI m1 l]] [.bool (!Yb l i)]:=by
 refine fO au [3] Tryz.func148 ?_;have b1:=hb _ (am (l:=l) (i:=i.toNat) (d:=0) (by omega));have b2:=hb _ (am (l:=l) (i:=(i-1).toNat) (d:=0) (by omega));refine dE ai trivial (aD λzb=> ?_);all_goals(try rfl)
theorem lS(l J:List Int)(hl:l.length<=8)(hJ:J.length<=1048576)(h1:∀x∈J,1<=x/\x<l.length)(hb:∀x∈l,1<=x/\x<=8):Fun Tryz.prog 207 [lI m0 l,lI m1 J] [.bool (GA J l)]:=by
 refine fO au [4] Tryz.func207 ?_;refine dE ai trivial (aD λzb=> ?_);refine ao (λ(k:Nat) S1=>(S1.e 0=.p (lI m0 l)/\S1.e 1=.p (lI m1 J)/\eI S1 5 k)/\k<=J.length/\(J.take k).all (Yb l)=true) (λk=>J.length-k) 0 ?_ (dC trivial aj);rintro k S1 ⟨fL1,A1,A0⟩;by_cases hk:k<J.length
 .have a1:=h1 _ (am (d:=0) hk)
  have b1:=hb _ (am (l:=l) (i:=(J.getD k 0).toNat) (d:=0) (by omega));have b2:=hb _ (am (l:=l) (i:=(J.getD k 0-1).toNat) (d:=0) (by omega));by_cases hx:l.getD (J.getD k 0).toNat 0=l.getD (J.getD k 0-1).toNat 0+1
  .refine dE ai (aa fL1 @hx) (aI λzb hc=> ?_)
   refine ak (k+1) (dC fL1 aj) (dC fL1 (aD λzb=> ?_));all_goals(rw[aq (d:=0) hk,List.all_append,A0,zF4,zH7,List.all_nil,zG1,Yb,zB6 hx])
  .have e1:GA J l=false:=by
    rw[<-zA9];intro h;rw[GA,zC8]at h;have:=h _ (am (d:=0) hk);rw[Yb,zB8 hx]at this;cases this
   refine dE ai (aa fL1 @hx) (aI λzb hc=> ?_);all_goals(rw[e1])
 .rw[zA2 (by omega)]at A0
  refine dE ai fL1 (aI λzb hc=> ?_);all_goals exact A0.symm
def Pg(p P J:List Int)(k:Nat):Int:=((((eO 1 p P P.length []).take k).filter (GA J)).length:Nat)
theorem Uw(h:k<(eO 1 p P P.length []).length):Pg p P J (k+1)=Pg p P J k+bU (GA J ((eO 1 p P P.length []).getD k [])):=by
 unfold Pg;rw[aq (d:=[]) h,List.filter_append,zA3,List.filter_cons];cases GA J ((eO 1 p P P.length []).getD k [])<;>simp[bU]
theorem Ux:0<=Pg p P J k/\Pg p P J k<=k:=by
 have:=zG8 (GA J) ((eO 1 p P P.length []).take k);have:=zD3 (l:=eO 1 p P P.length []) (i:=k);unfold Pg;omega
theorem GC:Pg p P J (eO 1 p P P.length []).length=(((eO 1 p P P.length []).filter (GA J)).length:Int):=by unfold Pg;rw[zA2 (zB1 _)]
theorem sS(p P J:List Int)(hp:p.length<=1048576)(hP:P.length<=1048576)(hJ:J.length<=1048576):Fun Tryz.prog 104 [lI m0 p,.agg [lI m1 P,lI m2 J]] [.int .i64 (Jo p P J)]:=by
 cases h1:ac p with
 |false=>
  rw[Jo,h1,zH9,zA8 (by simp)];refine fO au [4] Tryz.func104 ?_;have cE1:=@bw;have cE2:=@ah;have cE3:=@fv;have cE4:=@ce;have cE5:=@lS;have cD1:=d7 (d8 11 [7,8]) [(0,7),(0,8)];exact dE ai @h1 aj
 |true=>
  cases h2:xg P J with
  |false=>
   rw[Jo,h2,Bool.and_false,zA8 (by simp)];refine fO au [4] Tryz.func104 ?_;have cE1:=@bw;have cE2:=@ah;have cE3:=@fv;have cE4:=@ce;have cE5:=@lS;have cD1:=d7 (d8 11 [7,8]) [(0,7),(0,8)];exact dE ai (aa @h1 @h2) aj
  |true=>
   have h3:ac P=true:=by rw[xg,zB9]at h2;exact h2.1
   have h4:GO P.length J J.length=true:=by rw[xg,zB9]at h2;exact h2.2
   have h5:=UR h4;have h8:p.length<=8:=by simp[ac]at h1;exact h1.1
   have g8:P.length<=8:=by simp[ac]at h3;exact h3.1
   have hn:=rU h1 h3;have hm:=λk (h:k<(eO 1 p P P.length []).length)=>BK h1 h3 (am (d:=[]) h);rw[Jo,h1,h2,zG1,zB0 rfl,<-GC];refine fO au [4] Tryz.func104 ?_;have cE1:=@bw;have cE2:=@ah;have cE3:=@fv;have cE4:=@ce;have cE5:=@lS;have cD1:=d7 (d8 11 [7,8]) [(0,7),(0,8)];refine dE ai (aa @h1 @h2) (aD λzb=> ?_);refine ao (λ(k:Nat) S1=>(S1.e 0=.p (lI m0 p)/\eI S1 5 (Pg p P J k)/\eI S1 7 k)/\PtrL (S1.e 3) S1.h S1.n (.live false [lI m1 P,lI m2 J])/\OwnL (S1.e 6) S1.h S1.n (cK false) ((eO 1 p P P.length []).length) (eO 1 p P P.length [])/\k<=(eO 1 p P P.length []).length/\NId (S1.e 6) (nk (S1.e 3))) (λk=>(eO 1 p P P.length []).length-k) 0 ?_ (dC trivial aj);rintro k S1 ⟨fF1,A4,C3,A1,A8⟩;obtain⟨A9,A2,B6⟩:=A4.ou;obtain⟨C5,B9,E0⟩:=C3.ou;have di1_6i1_3:=(A8).ou B9.1 (cc A2.1);have fL1:=(aa fF1 (aa A2 (aa B9 di1_6i1_3)));have b1:=Ux (p:=p) (P:=P) (J:=J) (k:=k);by_cases hk:k<(eO 1 p P P.length []).length
   .have b2:=Uw (p:=p) (P:=P) (J:=J) hk
    obtain⟨b3,b4⟩:=hm k hk;have b5:∀x∈(eO 1 p P P.length []).getD k [],1<=x/\x<=8:=λx hx=>by have:=b4 x hx;omega
    have b6:∀x∈J,1<=x/\x<((eO 1 p P P.length []).getD k []).length:=λx hx=>by have:=h5 x hx;omega
    generalize hl:(eO 1 p P P.length []).getD k []=l at*
    have r1:=ik (GA J l);refine dE ai (aa fL1 @hl) (aI λzb hc=> ?_);exact ak (k+1) (dC fL1 aj) (dC fL1 aj);all_goals(rw[b2])
   .obtain rfl:k=(eO 1 p P P.length []).length:=by omega
    exact dE ai fL1 aj
theorem tu(p P J:List Int)(hp:p.length<=1048576)(hP:P.length<=1048576)(hJ:J.length<=1048576):Fun Tryz.prog 67 [lI m0 p,.agg [lI m1 P,lI m2 J]] [.int .i64 (Jo p P J)]:=by
 cases h1:ac p with
 |false=>
  rw[Jo,h1,zH9,zA8 (by simp)];refine fO au [4] Tryz.func67 ?_;have cE1:=@ae;have cE2:=@dq;have cE3:=@bz;have cE4:=@aS;exact dE ai @h1 aj
 |true=>
  cases h2:xg P J with
  |false=>
   rw[Jo,h2,Bool.and_false,zA8 (by simp)];refine fO au [4] Tryz.func67 ?_;have cE1:=@ae;have cE2:=@dq;have cE3:=@bz;have cE4:=@aS;exact dE ai (aa @h1 @h2) aj
  |true=>
   have h3:ac P=true:=by rw[xg,zB9]at h2;exact h2.1
   have h4:GO P.length J J.length=true:=by rw[xg,zB9]at h2;exact h2.2
   have h5:=UR h4;have h8:p.length<=8:=by simp[ac]at h1;exact h1.1
   have g8:P.length<=8:=by simp[ac]at h3;exact h3.1
   have hn:=rU h1 h3;have hm:=λk (h:k<(eO 1 p P P.length []).length)=>BK h1 h3 (am (d:=[]) h);rw[Jo,h1,h2,zG1,zB0 rfl,<-GC];refine fO au [4] Tryz.func67 ?_;have cE1:=@ae;have cE2:=@dq;have cE3:=@bz;have cE4:=@aS;refine dE ai (aa @h1 @h2) (aD λzb=> ?_);refine ao (λ(k:Nat) S1=>(S1.e 0=.p (lI m0 p)/\eI S1 5 (Pg p P J k)/\eI S1 20 ((eO 1 p P P.length []).length)/\eI S1 21 k)/\PtrL (S1.e 3) S1.h S1.n (.live false [lI m1 P,lI m2 J])/\OwnL (S1.e 19) S1.h S1.n (cK false) ((eO 1 p P P.length []).length) (eO 1 p P P.length [])/\k<=(eO 1 p P P.length []).length/\NId (S1.e 19) (nk (S1.e 3))) (λk=>(eO 1 p P P.length []).length-k) 0 ?_ (dC trivial aj);rintro k S1 ⟨fF1,A4,Y7,A1,A8⟩;obtain⟨A9,A2,B6⟩:=A4.ou;obtain⟨i1_19,R3,l1_19⟩:=Y7.ou;have di1_19i1_3:=(A8).ou R3.1 (cc A2.1);have fL1:=(aa fF1 (aa A2 (aa R3 di1_19i1_3)));have b1:=Ux (p:=p) (P:=P) (J:=J) (k:=k);by_cases hk:k<(eO 1 p P P.length []).length
   .have b2:=Uw (p:=p) (P:=P) (J:=J) hk
    obtain⟨b3,b4⟩:=hm k hk;have b5:∀x∈(eO 1 p P P.length []).getD k [],1<=x/\x<=8:=λx hx=>by have:=b4 x hx;omega
    have b6:∀x∈J,1<=x/\x<((eO 1 p P P.length []).getD k []).length:=λx hx=>by have:=h5 x hx;omega
    generalize hl:(eO 1 p P P.length []).getD k []=l at*
    have c1:=λm=>aS (m0:=m2) J 148 [.pc [lI m l]] (λi=> !Yb l i) (by omega) (λi hi=>qR i l m (by omega) (b6 i hi).1 (b6 i hi).2 b5);rw[Xp]at c1;cases hx:GA J l with
    |true=>
     rw[hx]at b2 c1;have cE1:=@c1;have cE2:=@ae;have cE3:=@dq;have cE4:=@bz;have cE5:=@aS;refine dE ai (aa fL1 (aa @hl @hx)) (aI λzb hc=> ?_);refine ak (k+1) (dC fL1 aj) (dC fL1 (aD λzb=> ?_));all_goals(rw[b2];try rfl)
    |false=>
     rw[hx]at b2 c1;have cE1:=@c1;have cE2:=@ae;have cE3:=@dq;have cE4:=@bz;have cE5:=@aS;refine dE ai (aa fL1 (aa @hl @hx)) (aI λzb hc=> ?_);refine ak (k+1) (dC fL1 aj) (dC fL1 (aD λzb=> ?_));all_goals(rw[b2];simp[bU])
   .obtain rfl:k=(eO 1 p P P.length []).length:=by omega
    have cE1:=@ae;have cE2:=@dq;have cE3:=@bz;have cE4:=@aS;have cE5:=trivial;exact dE ai fL1 aj
end Go.Gl
