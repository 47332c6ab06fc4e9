/-
  What the functions compute, and what the law asks of it: texts joined. Conditions: those that each lemma names.
-/
import Derived.Test.YtjimcmbfljdelaaGreatDoorT2
import Derived.Test.YtjimcmbfljdelaaGreatDoorT1
import Derived.Test.YtjimcmbfljdelaaGreatDoorT17
import Derived.Test.YtjimcmbfljdelaaGreatDoorT14
import Derived.Test.YtjimcmbfljdelaaGreatDoorT18
set_option linter.unusedSimpArgs false
set_option linter.unusedVariables false
set_option maxRecDepth 20000
set_option linter.unusedSectionVars false
set_option maxHeartbeats 16000000
variable{e0 m0 m1:Bool}{p v:List Int}{i j k:Nat}
namespace Go.Gl
open Go Go.Proofs
variable [Amb][NoQ]
def nV(l:List Int):Nat->List Int
 |0=>l
 |k+1=>if(nV l k).getD (k+1) 0<(nV l k).getD k 0 then((nV l k).set k ((nV l k).getD (k+1) 0)).set (k+1) ((nV l k).getD k 0)else nV l k
theorem uX{l:List Int}:∀{k:Nat},(nV l k).length=l.length
 |0=>rfl
 |k+1=>by rw[nV];split<;>simp[uX]
def buF(l:List Int):List Int:=nV l (l.length-1)
theorem lM(p:List Int)(hp:p.length<=1048576):Fun Tryz.prog 124 [lI m0 p] [oI (buF p)]:=by
 refine fO au [2] Tryz.func124 ?_;have cE1:=@aW;have cD1:=d7 (d8 18 [15,17]) [(2,15),(3,15),(4,15)];refine dE ai trivial (aD λzb=> ?_);refine ao (λ(k:Nat) S1=>eI S1 4 k/\OwnL (S1.e 3) S1.h S1.n (PV.int .i64) ((nV p k).length) (nV p k)/\k<=p.length-1) (λk=>p.length-k) 0 ?_ (dC trivial aj);rintro k S1 ⟨fF1,A4,A1⟩;obtain⟨A9,A2,B6⟩:=A4.ou;have fL1:=(aa fF1 A2);have b1:=uX (l:=p) (k:=k);by_cases hk:k+1<p.length
 .by_cases hx:(nV p k).getD (k+1) 0<(nV p k).getD k 0
  .have e1:nV p (k+1)=((nV p k).set k ((nV p k).getD (k+1) 0)).set (k+1) ((nV p k).getD k 0):=by rw[nV,zB0 hx]
   generalize nV p k=T at*
   refine dE ai fL1 (aI λzb hc=> ?_);refine ak (k+1) (dC fL1 aj) (dC fL1 (bu ?_ ?_))<;>intro zb;all_goals(rw[e1];try simp)
  .have e1:nV p (k+1)=nV p k:=by rw[nV,zA8 hx]
   generalize nV p k=T at*
   refine dE ai fL1 (aI λzb hc=> ?_);refine ak (k+1) (dC fL1 aj) (dC fL1 (bu ?_ ?_))<;>intro zb;all_goals(rw[e1])
 .obtain rfl:k=p.length-1:=by omega
  refine dE ai fL1 (aI λzb hc=> ?_);all_goals rfl
theorem oa(p:List Int)(hp:p.length<=1048576):Fun Tryz.prog 161 [lI m0 p] [oI (buF p)]:=by
 refine fO au [2] Tryz.func161 ?_;refine dE ai trivial (aD λzb=> ?_);refine ao (λ(k:Nat) S1=>eI S1 4 k/\OwnL (S1.e 3) S1.h S1.n (PV.int .i64) ((nV p k).length) (nV p k)/\k<=p.length-1) (λk=>p.length-k) 0 ?_ (dC trivial aj);rintro k S1 ⟨fF1,A4,A1⟩;obtain⟨A9,A2,B6⟩:=A4.ou;have fL1:=(aa fF1 A2);have b1:=uX (l:=p) (k:=k);by_cases hk:k+1<p.length
 .by_cases hx:(nV p k).getD (k+1) 0<(nV p k).getD k 0
  .have e1:nV p (k+1)=((nV p k).set k ((nV p k).getD (k+1) 0)).set (k+1) ((nV p k).getD k 0):=by rw[nV,zB0 hx]
   generalize nV p k=T at*
   refine dE ai fL1 (aI λzb hc=> ?_);refine ak (k+1) (dC fL1 aj) (dC fL1 (bu ?_ ?_))<;>intro zb;all_goals(rw[e1];try simp)
  .have e1:nV p (k+1)=nV p k:=by rw[nV,zA8 hx]
   generalize nV p k=T at*
   refine dE ai fL1 (aI λzb hc=> ?_);refine ak (k+1) (dC fL1 aj) (dC fL1 (bu ?_ ?_))<;>intro zb;all_goals(rw[e1])
 .obtain rfl:k=p.length-1:=by omega
  refine dE ai fL1 (aI λzb hc=> ?_);all_goals rfl
theorem sk(p:List Int)(hl:p.length<=1048576):Fun Tryz.prog 60 [lI m0 p] [oI ((if ac p=true then buF p else[]))]:=by
 cases hp:ac p with
 |true=>
  have h8:=(fK hp).1;rw[zB0 rfl];refine fO au [2] Tryz.func60 ?_;have cE1:=@ae;have cE2:=@lM;exact dE ai @hp aj
 |false=>
  rw[zA8 (by simp)];refine fO au [2] Tryz.func60 ?_;have cE1:=@ae;have cE2:=@lM;exact dE ai @hp aj
theorem rD(p:List Int)(hl:p.length<=1048576):Fun Tryz.prog 77 [lI m0 p] [oI ((if ac p=true then buF p else[]))]:=by
 cases hp:ac p with
 |true=>
  have h8:=(fK hp).1;rw[zB0 rfl];refine fO au [2] Tryz.func77 ?_;have cE1:=@ah;have cE2:=@oa;exact dE ai @hp aj
 |false=>
  rw[zA8 (by simp)];refine fO au [2] Tryz.func77 ?_;have cE1:=@ah;have cE2:=@oa;exact dE ai @hp aj
def TZ(p v:List Int)(i j:Nat):Bool:=(List.range j).all λa=> !(decide (p.getD i 0<p.getD a 0)&&decide (v.getD (p.getD i 0-1).toNat 0<v.getD (p.getD a 0-1).toNat 0))
def JC(p v:List Int)(k:Nat):Bool:=(List.range k).all λi=>TZ p v i i
theorem aas:TZ p v i (j+1)=(TZ p v i j&& !(decide (p.getD i 0<p.getD j 0)&&decide (v.getD (p.getD i 0-1).toNat 0<v.getD (p.getD j 0-1).toNat 0))):=by
 simp[TZ,zF7]
theorem aat:JC p v (k+1)=(JC p v k&&TZ p v k k):=by simp[JC,zF7]
theorem JB{n:Nat}(hi:i<n)(hj:j<i)(h:(decide (p.getD i 0<p.getD j 0)&&decide (v.getD (p.getD i 0-1).toNat 0<v.getD (p.getD j 0-1).toNat 0))=true):JC p v n=false:=by
 rw[<-zA9];intro q;rw[JC,zC8]at q;have q1:=q i (zD5.2 hi);rw[TZ,zC8]at q1;have q2:=q1 j (zD5.2 hj);rw[h]at q2;cases q2
def yR(p q:List Int):Bool:=ac p&&ac q&&decide (p.length=q.length)&&JC p (jM q) p.length
theorem sM(p q:List Int)(hl:p.length<=1048576)(hm:q.length<=1048576):Fun Tryz.prog 101 [lI m0 p,lI m1 q] [.bool (yR p q)]:=by
 cases hp:ac p with
 |false=>
  have e1:yR p q=false:=by rw[yR,hp];rfl
  rw[e1];refine fO au [4] Tryz.func101 ?_;have cE1:=@ah;have cE2:=@bJ;exact dE ai @hp aj
 |true=>
  cases hq:ac q with
  |false=>
   have e1:yR p q=false:=by rw[yR,hp,hq];rfl
   rw[e1];refine fO au [4] Tryz.func101 ?_;have cE1:=@ah;have cE2:=@bJ;exact dE ai (aa @hp @hq) aj
  |true=>
   obtain⟨h8,hq1⟩:=fK hq;obtain⟨g8,hp1⟩:=fK hp;by_cases hn:p.length=q.length
   .have e1:yR p q=JC p (jM q) p.length:=by rw[yR,hp,hq,zB6 hn];simp
    have hb:∀x∈p,1<=x/\x<=q.length:=λx hx=>by have:=(permB_iff.1 hp1).1 x hx;omega
    have hv:(jM q).length=q.length:=j5;rw[e1];have hB:∀a,a<p.length->1<=p.getD a 0/\p.getD a 0<=(jM q).length:=λa ha=>by have:=hb _ (am (d:=0) ha);omega
    refine fO au [4] Tryz.func101 ?_;have cE1:=@ah;have cE2:=@bJ;refine dE ai (aa @hp (aa @hq @hn)) (aD λzb=> ?_);refine ao (λ(i:Nat) S1=>(S1.e 0=.p (lI m0 p)/\eI S1 6 i)/\OwnL (S1.e 5) S1.h S1.n (PV.int .i64) ((jM q).length) (jM q)/\i<=p.length/\JC p (jM q) i=true) (λi=>p.length-i) 0 ?_ (dC trivial aj);rintro i S1 ⟨fF1,A7,A1,A0⟩;obtain⟨B4,A5,B8⟩:=A7.ou;have fL1:=(aa fF1 A5);by_cases hi:i<p.length
    .have b1:=hB i hi
     refine dE ai fL1 (aI λzb hc=> ?_);refine ao (λ(j:Nat) S2=>(S2.e 0=.p (lI m0 p)/\eI S2 6 i/\eI S2 7 j)/\OwnL (S2.e 5) S2.h S2.n (PV.int .i64) ((jM q).length) (jM q)/\j<=i/\TZ p (jM q) i j=true/\S1.n<=S2.n) (λj=>i-j) 0 ?_ (dC fL1 aj);rintro j S2 ⟨fF2,D2,A6,B3,B1⟩;obtain⟨D7,D1,G1⟩:=D2.ou;have fL2:=(aa fF2 D1);by_cases hj:j<i
     .have b2:=hB j (by omega)
      have b3:=aas (p:=p) (v:=jM q) (i:=i) (j:=j);by_cases h1:p.getD i 0<p.getD j 0
      .by_cases h2:(jM q).getD (p.getD i 0-1).toNat 0<(jM q).getD (p.getD j 0-1).toNat 0
       .have b4:=JB (p:=p) (v:=jM q) (n:=p.length) hi hj (by rw[zB6 h1,zB6 h2];rfl)
        refine dE ai fL2 (aI λzb hc=> ?_);all_goals(rw[b4])
       .rw[zB6 h1,zB8 h2,B3]at b3
        refine dE ai fL2 (aI λzb hc=> ?_);refine ak (j+1) (dC fL2 aj) (dC fL2 (aD λzb=> ?_));all_goals exact b3
      .rw[zB8 h1,B3]at b3
       refine dE ai fL2 (aI λzb hc=> ?_);refine ak (j+1) (dC fL2 aj) (dC fL2 (aD λzb=> ?_));all_goals exact b3
     .obtain rfl:j=i:=by omega
      refine dE ai fL2 (aI λzb hc=> ?_);refine ak (j+1) (dC fL2 aj) (dC fL2 (aD λzb=> ?_));all_goals(rw[aat,A0,B3];rfl)
    .obtain rfl:i=p.length:=by omega
     refine dE ai fL1 (aI λzb hc=> ?_);all_goals(rw[A0])
   .have e1:yR p q=false:=by rw[yR,hp,hq,zB8 hn];rfl
    rw[e1];refine fO au [4] Tryz.func101 ?_;have cE1:=@ah;have cE2:=@bJ;exact dE ai (aa @hp (aa @hq @hn)) aj
def Vt(p v:List Int)(i m:Nat):Bool:=(List.range m).all λa=> !(decide (p.getD (i+(1+a)) 0<p.getD i 0)&&decide (v.getD (p.getD (i+(1+a)) 0-1).toNat 0<v.getD (p.getD i 0-1).toNat 0))
def ZP(p v:List Int)(k:Nat):Bool:=(List.range k).all λi=>Vt p v i (p.length-(i+1))
theorem aav{m:Nat}:Vt p v i (m+1)=(Vt p v i m&& !(decide (p.getD (i+(1+m)) 0<p.getD i 0)&&decide (v.getD (p.getD (i+(1+m)) 0-1).toNat 0<v.getD (p.getD i 0-1).toNat 0))):=by
 simp[Vt,zF7]
theorem aaw:ZP p v (k+1)=(ZP p v k&&Vt p v k (p.length-(k+1))):=by simp[ZP,zF7]
theorem aau(h:ZP p v p.length=true):JC p v p.length=true:=by
 rw[JC,zC8];intro i hi;rw[TZ,zC8];intro j hj;rw[zD5]at hi hj;rw[ZP,zC8]at h;have h1:=h j (zD5.2 (by omega));rw[Vt,zC8]at h1;have h2:=h1 (i-(j+1)) (zD5.2 (by omega))
 rwa [show j+(1+(i-(j+1)))=i by omega]at h2
theorem aak(p q:List Int)(hl:p.length<=1048576)(hm:q.length<=1048576):Fun Tryz.prog 141 [lI m0 p,lI m1 q] [.bool (yR p q)]:=by
 cases hp:ac p with
 |false=>
  have e1:yR p q=false:=by rw[yR,hp];rfl
  rw[e1];refine fO au [4] Tryz.func141 ?_;have cE1:=@ae;have cE2:=@bD;exact dE ai @hp aj
 |true=>
  cases hq:ac q with
  |false=>
   have e1:yR p q=false:=by rw[yR,hp,hq];rfl
   rw[e1];refine fO au [4] Tryz.func141 ?_;have cE1:=@ae;have cE2:=@bD;exact dE ai (aa @hp @hq) aj
  |true=>
   obtain⟨h8,hq1⟩:=fK hq;obtain⟨g8,hp1⟩:=fK hp;by_cases hn:p.length=q.length
   .have e1:yR p q=JC p (jM q) p.length:=by rw[yR,hp,hq,zB6 hn];simp
    have hb:∀x∈p,1<=x/\x<=q.length:=λx hx=>by have:=(permB_iff.1 hp1).1 x hx;omega
    have hv:(jM q).length=q.length:=j5;rw[e1];have hB:∀a,a<p.length->1<=p.getD a 0/\p.getD a 0<=(jM q).length:=λa ha=>by have:=hb _ (am (d:=0) ha);omega
    refine fO au [4] Tryz.func141 ?_;have cE1:=@ae;have cE2:=@bD;refine dE ai (aa @hp (aa @hq @hn)) (aD λzb=> ?_);refine ao (λ(i:Nat) S1=>(S1.e 0=.p (lI m0 p)/\S1.e 27=.p (lI m0 p)/\eI S1 28 p.length/\eI S1 29 i)/\OwnL (S1.e 5) S1.h S1.n (PV.int .i64) ((jM q).length) (jM q)/\i<=p.length/\ZP p (jM q) i=true) (λi=>p.length-i) 0 ?_ (dC trivial aj);rintro i S1 ⟨fF1,A7,A1,A0⟩;obtain⟨B4,A5,B8⟩:=A7.ou;have fL1:=(aa fF1 A5);by_cases hi:i<p.length
    .have b1:=hB i hi
     have e2:List.take (p.length-(i+1)) (p.drop (i+1))=p.drop (i+1):=zA2 (by simp);refine dE ai (aa fL1 @e2) (aI λzb hc=> ?_);refine ao (λ(m:Nat) S2=>(S2.e 0=.p (lI m0 p)/\S2.e 27=.p (lI m0 p)/\eI S2 28 p.length/\eI S2 29 i/\eI S2 7 (p.getD i 0)/\S2.e 37=.p (lI m0 (p.drop (i+1)))/\eI S2 38 (p.length-(i+1))/\eI S2 39 m)/\OwnL (S2.e 5) S2.h S2.n (PV.int .i64) ((jM q).length) (jM q)/\m<=p.length-(i+1)/\Vt p (jM q) i m=true/\S1.n<=S2.n) (λm=>p.length-m) 0 ?_ (dC fL1 aj);rintro m S2 ⟨fF2,D2,A6,B3,B1⟩;obtain⟨D7,D1,G1⟩:=D2.ou;have fL2:=(aa fF2 D1);by_cases hj:m<p.length-(i+1)
     .have b2:=hB (i+(1+m)) (by omega)
      have b3:=aav (p:=p) (v:=jM q) (i:=i) (m:=m);have b5:(p.drop (i+1)).getD m 0=p.getD (i+(1+m)) 0:=by rw[zA0,zG0,zE9,<-zA0]
      have b6:(p.drop (i+1)).length=p.length-(i+1):=by simp
      by_cases h1:p.getD (i+(1+m)) 0<p.getD i 0
      .by_cases h2:(jM q).getD (p.getD (i+(1+m)) 0-1).toNat 0<(jM q).getD (p.getD i 0-1).toNat 0
       .have b4:=JB (p:=p) (v:=jM q) (n:=p.length) (i:=i+(1+m)) (j:=i) (by omega) (by omega) (by rw[zB6 h1,zB6 h2];rfl)
        refine dE ai (aa fL2 @b5) (aI λzb hc=> ?_);all_goals(rw[b4])
       .rw[zB6 h1,zB8 h2,B3]at b3
        refine dE ai (aa fL2 @b5) (aI λzb hc=> ?_);refine ak (m+1) (dC fL2 aj) (dC fL2 (aD λzb=> ?_));all_goals exact b3
      .rw[zB8 h1,B3]at b3
       refine dE ai (aa fL2 @b5) (aI λzb hc=> ?_);refine ak (m+1) (dC fL2 aj) (dC fL2 (aD λzb=> ?_));all_goals exact b3
     .obtain rfl:m=p.length-(i+1):=by omega
      refine dE ai fL2 (aI λzb hc=> ?_);refine ak (i+1) (dC fL2 aj) (dC fL2 (aD λzb=> ?_));all_goals(rw[aaw,A0,B3];rfl)
    .obtain rfl:i=p.length:=by omega
     refine dE ai fL1 (aI λzb hc=> ?_);all_goals(rw[aau A0])
   .have e1:yR p q=false:=by rw[yR,hp,hq,zB8 hn];rfl
    rw[e1];refine fO au [4] Tryz.func141 ?_;have cE1:=@ae;have cE2:=@bD;exact dE ai (aa @hp (aa @hq @hn)) aj
variable [TabA]
theorem Ns:0<=Pj p/\Pj p<=8:=by
 unfold Pj;split
 .rename_i h
  have:=(al h).1;have:=GF (p:=p) (v:=p.length);omega
 .omega
def Xs(b:Int)(R:List (List Int)):Nat->Int
 |0=>b
 |j+1=>max (Xs b R j) (Pj (R.getD j []))
def KL(L:List (List Int)):Nat->Int
 |0=>0
 |m+1=>Xs (KL L m) (aM L m) (aM L m).length
theorem GE{b:Int}{R:List (List Int)}(h:0<=b/\b<=8):∀{j:Nat},0<=Xs b R j/\Xs b R j<=8
 |0=>h
 |j+1=>by
  have:=GE (R:=R) h (j:=j);have:=Ns (p:=R.getD j []);rw[Xs];omega
theorem FQ{L:List (List Int)}:∀{m:Nat},0<=KL L m/\KL L m<=8
 |0=>by simp[KL]
 |m+1=>GE FQ
def DQ(L:List (List Int))(n:Int):Int:=if aG L=true/\0<=n/\n<=6 then KL L (n.toNat+1)else -1
theorem eN(L:List (List Int))(n:Int)(hL:L.length<=1048576)(hl:∀l∈L,l.length<=1048576):Fun Tryz.prog 250 [lE m0 e0 L,.int .i64 n] [.int .i64 (DQ L n)]:=by
 by_cases hc0:aG L=true/\0<=n/\n<=6
 .obtain⟨k,rfl⟩:∃k:Nat,n=k:=⟨n.toNat,by omega⟩
  have e1:DQ L k=KL L (k+1):=by rw[DQ,zB0 hc0,zC9]
  have hb:=gn hc0.1;have e3:=hc0.1;rw[e1];refine fO au [4] Tryz.func250 ?_;have cE1:=@di;have cE2:=@aw;have cE3:=@dm;have cE4:=@jF;refine dE ai @e3 (aI ?_)<;>(intro zb hc;repeat (have zc:=zb.1;replace zb:=zb.2));refine ao (λ(m:Nat) S1=>(S1.e 0=.p (lE m0 e0 L)/\eI S1 1 ((k:Int))/\eI S1 5 (KL L m)/\eI S1 18 (((k:Int)+1))/\eI S1 19 m)/\m<=k+1) (λm=>k+1-m) 0 ?_ (dC trivial aj);rintro m S1 ⟨fL1,A1⟩;have b1:=ko (L:=L) (n:=m);have b2:=FQ (L:=L) (m:=m);by_cases hm:m<k+1
  .refine dE ai fL1 (aI ?_)<;>(intro zb hc;repeat (have zc:=zb.1;replace zb:=zb.2))
   refine ao (λ(j:Nat) S2=>(S2.e 0=.p (lE m0 e0 L)/\eI S2 1 ((k:Int))/\eI S2 5 (Xs (KL L m) (aM L m) j)/\eI S2 18 (((k:Int)+1))/\eI S2 19 m/\eI S2 25 ((aM L m).length)/\eI S2 26 j)/\OwnL (S2.e 24) S2.h S2.n (cK false) ((aM L m).length) (aM L m)/\j<=(aM L m).length/\S1.n<=S2.n) (λj=>(aM L m).length-j) 0 ?_ (dC fL1 aj);rintro j S2 ⟨fF2,W6,A6,B1⟩;obtain⟨i2_24,W7,l2_24⟩:=W6.ou;have fL2:=(aa fF2 W7);have b4:=GE (R:=aM L m) b2 (j:=j);have b5:=Ns (p:=(aM L m).getD j []);by_cases hj:j<(aM L m).length
   .have b3:=ii (show m<=8 by omega) (am (d:=[]) hj)
    refine dE ai fL2 (aI ?_)<;>(intro zb hc;repeat (have zc:=zb.1;replace zb:=zb.2));exact ak (j+1) (dC fL2 aj) (dC fL2 aj)
   .refine dE ai fL2 (aI ?_)<;>(intro zb hc;repeat (have zc:=zb.1;replace zb:=zb.2))
    refine ak (m+1) (dC fL2 aj) (dC fL2 (aD ?_))<;>intro zb;all_goals((obtain rfl:j=(aM L m).length:=(by omega));rfl)
  .skip
   refine dE ai fL1 (aI ?_)<;>(intro zb hc;repeat (have zc:=zb.1;replace zb:=zb.2));all_goals((obtain rfl:m=k+1:=(by omega));rfl)
 .have e1:DQ L n= -1:=zA8 hc0
  rw[e1];refine fO au [4] Tryz.func250 ?_;have cE1:=@di;have cE2:=@aw;have cE3:=@dm;have cE4:=@jF;refine dE ai trivial (aI ?_)<;>(intro zb hc;repeat (have zc:=zb.1;replace zb:=zb.2));all_goals exact absurd ⟨by assumption,by assumption⟩ hc0
theorem mh(L:List (List Int))(n:Int)(hL:L.length<=1048576)(hl:∀l∈L,l.length<=1048576):Fun Tryz.prog 193 [lE m0 e0 L,.int .i64 n] [.int .i64 (DQ L n)]:=by
 by_cases hc0:aG L=true/\0<=n/\n<=6
 .obtain⟨k,rfl⟩:∃k:Nat,n=k:=⟨n.toNat,by omega⟩
  have e1:DQ L k=KL L (k+1):=by rw[DQ,zB0 hc0,zC9]
  have e3:=hc0.1;rw[e1];refine fO au [4] Tryz.func193 ?_;have cE1:=@aA;have cE2:=@bK;have cE3:=@ay;have cE4:=@cL;have cE5:=@jy;refine dE ai @e3 (aI ?_)<;>(intro zb hc;repeat (have zc:=zb.1;replace zb:=zb.2));refine ao (λ(m:Nat) S1=>(S1.e 0=.p (lE m0 e0 L)/\eI S1 1 ((k:Int))/\eI S1 5 (KL L m)/\eI S1 6 m)/\m<=k+1) (λm=>k+1-m) 0 ?_ (dC trivial aj);rintro m S1 ⟨fL1,A1⟩;have b1:=ko (L:=L) (n:=m);have b2:=FQ (L:=L) (m:=m);by_cases hm:m<k+1
  .have e2:ij L m=aM L m:=by rw[ij,zB0 ⟨e3,by omega⟩,zC9]
   refine dE ai (aa fL1 @e2) (aI ?_)<;>(intro zb hc;repeat (have zc:=zb.1;replace zb:=zb.2));refine ao (λ(j:Nat) S2=>(S2.e 0=.p (lE m0 e0 L)/\eI S2 1 ((k:Int))/\eI S2 5 (Xs (KL L m) (aM L m) j)/\eI S2 6 m/\eI S2 8 j)/\OwnL (S2.e 7) S2.h S2.n (cK false) ((aM L m).length) (aM L m)/\j<=(aM L m).length/\S1.n<=S2.n) (λj=>(aM L m).length-j) 0 ?_ (dC fL1 aj);rintro j S2 ⟨fF2,J8,A6,B1⟩;obtain⟨I1,J9,Q7⟩:=J8.ou;have fL2:=(aa fF2 J9);have b4:=GE (R:=aM L m) b2 (j:=j);have b5:=Ns (p:=(aM L m).getD j []);by_cases hj:j<(aM L m).length
   .have b3:=ii (show m<=8 by omega) (am (d:=[]) hj)
    refine dE ai fL2 (aI ?_)<;>(intro zb hc;repeat (have zc:=zb.1;replace zb:=zb.2));exact ak (j+1) (dC fL2 aj) (dC fL2 aj)
   .refine dE ai fL2 (aI ?_)<;>(intro zb hc;repeat (have zc:=zb.1;replace zb:=zb.2))
    refine ak (m+1) (dC fL2 aj) (dC fL2 (aD ?_))<;>intro zb;all_goals((obtain rfl:j=(aM L m).length:=(by omega));rfl)
  .skip
   refine dE ai fL1 (aI ?_)<;>(intro zb hc;repeat (have zc:=zb.1;replace zb:=zb.2));all_goals((obtain rfl:m=k+1:=(by omega));rfl)
 .have e1:DQ L n= -1:=zA8 hc0
  rw[e1];refine fO au [4] Tryz.func193 ?_;have cE1:=@aA;have cE2:=@bK;have cE3:=@ay;have cE4:=@cL;have cE5:=@jy;refine dE ai trivial (aI ?_)<;>(intro zb hc;repeat (have zc:=zb.1;replace zb:=zb.2));all_goals exact absurd ⟨by assumption,by assumption⟩ hc0
end Go.Gl
