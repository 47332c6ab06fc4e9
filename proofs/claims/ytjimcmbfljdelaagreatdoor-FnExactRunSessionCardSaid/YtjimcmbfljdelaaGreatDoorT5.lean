/-
  What the functions compute, and what the law asks of it: texts joined. Conditions: those that each lemma names.
-/
import Derived.Test.YtjimcmbfljdelaaGreatDoorT1
set_option linter.unusedSimpArgs false
set_option linter.unusedVariables false
set_option maxRecDepth 20000
set_option linter.unusedSectionVars false
set_option maxHeartbeats 16000000
variable{i m n:Nat}{q:List Int}{k:Int}{a b:List (List UInt8)}{m0:Bool}
namespace Go.Gl
open Go Go.Proofs
variable [Amb][NoQ]
def tU(q:List Int):Int:=if q.length=0 then 1 else q.getD (q.length-1) 0+1
def DE(n:Nat)(q:List Int)(m:Nat):List (List Int):=(List.range m).map λi:Nat=>q++[tU q+(i:Int)]
def xZ(n:Nat)(q:List Int):List (List Int):=DE n q ((n:Int)+1-tU q).toNat
def jf(n:Nat):Nat->List (List Int)
 |0=>[[]]
 |k+1=>(jf n k).flatMap (xZ n)
theorem rO:DE n q (m+1)=DE n q m++[q++[tU q+(m:Int)]]:=by simp[DE,zF7]
theorem uI:(DE n q m).length=m:=by simp[DE]
theorem uH:∀n,n<9->∀k,k<9->(jf n k).length<=70:=by decide+kernel
theorem xY{n:Nat}:∀{k:Nat},∀q∈jf n k,q.length=k/\(∀x∈q,1<=x/\x<=n)/\1<=tU q/\tU q<=n+1
 |0,q,h=>by simp[jf]at h;subst h;simp[tU];omega
 |k+1,q,h=>by
  rw[jf,List.mem_flatMap]at h;obtain⟨r,hr,h⟩:=h;rw[xZ,DE,zD0]at h;obtain⟨i,hi,rfl⟩:=h;rw[zD5]at hi;obtain⟨h1,h2,h3,h4⟩:=xY r hr;have e:tU (r++[tU r+(i:Int)])=tU r+i+1:=by
   rw[tU,zA8 (by simp)];rw[zA0,zD1 (by simp)];simp
  refine⟨by simp[h1],λx hx=> ?_,by omega,by omega⟩;rcases zB3.1 hx with q|q
  .exact h2 x q
  .rw[zB7]at q;subst q;omega
theorem SH{α β:Type}{f:α->List β}{l:List α}:((l.take i).flatMap f).length<=(l.flatMap f).length:=by
 conv=>rhs;rw[<-zF0 i l,List.flatMap_append,zA3]
 omega
theorem xA(n k:Nat)(hn:n<=8)(hk:k<=8):Fun Tryz.prog 263 [.int .i64 n,.int .i64 k] [.sl .own (List.map (cK false) (jf n k))]:=by
 refine fO au [4] Tryz.func263 ?_;have cE1:=@aW;refine dE ai trivial (aD λzb=> ?_);refine ao (λ(j:Nat) S1=>(eI S1 0 n/\eI S1 13 k/\eI S1 14 j)/\OwnL (S1.e 5) S1.h S1.n (cK false) ((jf n j).length) (jf n j)/\j<=k) (λj=>k-j) 0 ?_ (dC trivial aj);rintro j S1 ⟨fF1,A7,A1⟩;obtain⟨B4,A5,B8⟩:=A7.ou;have fL1:=(aa fF1 A5)
 .have l1:=uH n (by omega) j (by omega)
  by_cases hj:j<k
  .have l2:=uH n (by omega) (j+1) (by omega)
   rw[jf]at l2;refine dE ai fL1 (aI λzb hc=> ?_);refine ao (λ(i:Nat) S2=>(eI S2 0 n/\eI S2 18 ((jf n j).length)/\eI S2 19 i/\eI S2 13 k/\eI S2 14 j)/\OwnL (S2.e 17) S2.h S2.n (cK false) ((jf n j).length) (jf n j)/\OwnL (S2.e 6) S2.h S2.n (cK false) ((((jf n j).take i).flatMap (xZ n)).length) (((jf n j).take i).flatMap (xZ n))/\i<=(jf n j).length/\NId (S2.e 6) (S2.e 17)/\S1.n<=S2.n) (λi=>(jf n j).length-i) 0 ?_ (dC fL1 aj);rintro i S2 ⟨fF2,V6,F9,A6,B1,D3⟩;obtain⟨i2_17,Q0,l2_17⟩:=V6.ou;obtain⟨F5,G4,K7⟩:=F9.ou;have di2_6i2_17:=(B1).ou G4.1 Q0.1;have fL2:=(aa fF2 (aa Q0 (aa G4 di2_6i2_17)))
   .have l3:=SH (f:=xZ n) (l:=jf n j) (i:=i)
    by_cases hi:i<(jf n j).length
    .obtain⟨f1,f2,f3,f4⟩:=xY _ (am (d:=[]) hi)
     generalize hq:(jf n j).getD i []=q at*
     by_cases hq0:q.length=0
     .have e1:tU q=1:=zB0 hq0
      have e2:((q.length:Int)=0)=True:=zF5 (by omega);refine dE ai (aa fL2 @hq) (aI λzb hc=> ?_);refine ao (λ(m:Nat) S4=>(eI S4 0 n/\eI S4 18 ((jf n j).length)/\eI S4 19 i/\S4.e 8=.p (lI false q)/\eI S4 10 ((tU q+m))/\eI S4 13 k/\eI S4 14 j)/\OwnL (S4.e 17) S4.h S4.n (cK false) ((jf n j).length) (jf n j)/\OwnL (S4.e 6) S4.h S4.n (cK false) ((((jf n j).take i).flatMap (xZ n)++DE n q m).length) (((jf n j).take i).flatMap (xZ n)++DE n q m)/\(m:Int)<=n+1-tU q/\NId (S4.e 6) (S4.e 17)/\S2.n<=S4.n) (λm=>n+1-m) 0 ?_ (dC fL2 (bu (λzb=> ?_) λzb=> ?_));rintro m S4 ⟨fF4,L7,I8,I9,E9,K5⟩;obtain⟨V7,J3,V8⟩:=L7.ou;obtain⟨V9,J4,W0⟩:=I8.ou;have di4_6i4_17:=(E9).ou J4.1 J3.1;have fL4:=(aa fF4 (aa J3 (aa J4 di4_6i4_17)))
      .have l4:=uI (n:=n) (q:=q) (m:=m)
       by_cases hm:tU q+m<=n
       .have e9:∀x:Int,List.take (q.length+1) (q++[x])=q++[x]:=λx=>zA2 (by simp)
        refine dE ai (aa fL4 @e9) (aI λzb hc=> ?_);refine ak (m+1) (dC fL4 aj) (dC fL4 (bu ?_ ?_))<;>intro zb;all_goals first|(rw[rO,<-zA7];done)|(simp only[zA3,uI];omega)|(rw[rO];simp;done)|trace_state
       .refine dE ai fL4 (aI λzb hc=> ?_)
        refine ak (i+1) (dC fL4 aj) (dC fL4 (bu ?_ ?_))<;>intro zb;all_goals first|(rw[aq (d:=[]) hi,List.flatMap_append,hq];simp only[List.flatMap_cons,List.flatMap_nil,zC0];rw[xZ,show((n:Int)+1-tU q).toNat=m by omega];done)|trace_state
      all_goals first|(simp[DE];done)|trace_state
     .have e1:tU q=q.getD (q.length-1) 0+1:=zA8 hq0
      have f5:=f2 _ (am (d:=0) (show q.length-1<q.length by omega));have e3:((q.length:Int)-1).toNat=q.length-1:=by omega
      refine dE ai (aa fL2 (aa @hq @e3)) (aI λzb hc=> ?_);refine ao (λ(m:Nat) S4=>(eI S4 0 n/\eI S4 18 ((jf n j).length)/\eI S4 19 i/\S4.e 8=.p (lI false q)/\eI S4 10 ((tU q+m))/\eI S4 13 k/\eI S4 14 j)/\OwnL (S4.e 17) S4.h S4.n (cK false) ((jf n j).length) (jf n j)/\OwnL (S4.e 6) S4.h S4.n (cK false) ((((jf n j).take i).flatMap (xZ n)++DE n q m).length) (((jf n j).take i).flatMap (xZ n)++DE n q m)/\(m:Int)<=n+1-tU q/\NId (S4.e 6) (S4.e 17)/\S2.n<=S4.n) (λm=>n+1-m) 0 ?_ (dC fL2 (bu (λzb=> ?_) λzb=> ?_));rintro m S4 ⟨fF4,L7,I8,I9,E9,K5⟩;obtain⟨V7,J3,V8⟩:=L7.ou;obtain⟨V9,J4,W0⟩:=I8.ou;have di4_6i4_17:=(E9).ou J4.1 J3.1;have fL4:=(aa fF4 (aa J3 (aa J4 di4_6i4_17)))
      .have l4:=uI (n:=n) (q:=q) (m:=m)
       by_cases hm:tU q+m<=n
       .have e9:∀x:Int,List.take (q.length+1) (q++[x])=q++[x]:=λx=>zA2 (by simp)
        refine dE ai (aa fL4 @e9) (aI λzb hc=> ?_);refine ak (m+1) (dC fL4 aj) (dC fL4 (bu ?_ ?_))<;>intro zb;all_goals first|(rw[rO,<-zA7];done)|(simp only[zA3,uI];omega)|(rw[rO];simp;done)|trace_state
       .refine dE ai fL4 (aI λzb hc=> ?_)
        refine ak (i+1) (dC fL4 aj) (dC fL4 (bu ?_ ?_))<;>intro zb;all_goals first|(rw[aq (d:=[]) hi,List.flatMap_append,hq];simp only[List.flatMap_cons,List.flatMap_nil,zC0];rw[xZ,show((n:Int)+1-tU q).toNat=m by omega];done)|trace_state
      all_goals first|(simp[DE];done)|trace_state
    .obtain rfl:i=(jf n j).length:=by omega
     refine dE ai fL2 (aI λzb hc=> ?_);exact ak (j+1) (dC fL2 aj) (dC fL2 aj);all_goals first|(rw[zA2 (zB1 _),jf];done)|trace_state
  .obtain rfl:j=k:=by omega
   exact dE ai fL1 aj
def AQ(p l:List Int):List Int:=l.map λi=>p.getD (i-1).toNat 0
def Jz(b:Bool):List UInt8:=if b=true then[121,101,115]else[110,111]
def ZX(t:List UInt8)(b:Bool):List UInt8:=if b=true then t else[110,111]
def Dk(t e:List UInt8):List UInt8:=if t=[]then e else t
theorem EM(b:Bool):Fun Tryz.prog 136 [.bool b] [.str (Jz b)]:=by
 cases b with
 |true=>
  refine fO au [2] Tryz.func136 ?_;refine dE ai trivial (aD λzb=> ?_);all_goals rfl
 |false=>
  refine fO au [2] Tryz.func136 ?_;refine dE ai trivial (aD λzb=> ?_);all_goals rfl
theorem xm(b:Bool):Fun Tryz.prog 96 [.bool b] [.str (Jz b)]:=by
 cases b with
 |true=>
  refine fO au [2] Tryz.func96 ?_;refine dE ai trivial (aD λzb=> ?_);all_goals rfl
 |false=>
  refine fO au [2] Tryz.func96 ?_;refine dE ai trivial (aD λzb=> ?_);all_goals rfl
theorem Cv(t:List UInt8)(b:Bool):Fun Tryz.prog 131 [.str t,.bool b] [.str (ZX t b)]:=by
 cases b with
 |true=>
  refine fO au [4] Tryz.func131 ?_;refine dE ai trivial (aD λzb=> ?_);all_goals rfl
 |false=>
  refine fO au [4] Tryz.func131 ?_;refine dE ai trivial (aD λzb=> ?_);all_goals rfl
theorem dx(t e:List UInt8):Fun Tryz.prog 21 [.str t,.str e] [.str (Dk t e)]:=by
 by_cases h:t=[]
 .rw[Dk,zB0 h]
  subst h;refine fO au [4] Tryz.func21 ?_;exact dE ai trivial aj
 .rw[Dk,zA8 h]
  refine fO au [4] Tryz.func21 ?_;exact dE ai @h aj
def XJ(k:Int):List UInt8:=if k<=0 then[109,48]else 109::oO k.natAbs []
theorem nL(k:Int)(h1:k<=9223372036854775807):Fun Tryz.prog 15 [.int .i64 k] [.str (XJ k)]:=by
 have u3:(Tryz.prog.underlying 3).isSome=true:=by kernel_rfl
 by_cases h0:k<=0
 .have g0:(k<=0)=True:=zF5 h0
  rw[XJ,zB0 h0];refine fO au [2] Tryz.func15 ?_;exact dE ai @g0 aj
 .have g0:(k<=0)=False:=zC6 h0
  rw[XJ,zA8 h0];refine fO au [2] Tryz.func15 ?_;refine dE ai @g0 (aD λzb=> ?_);refine nw (λ(x:Int) (s:List UInt8) S1=>(eI S1 0 x/\S1.e 3=.p (.str s))/\0<=x/\x<=9223372036854775807/\oO x.natAbs s=oO k.natAbs []/\x.natAbs*10^s.length<=9223372036854775808/\s.length<=19) (λx _=>x.natAbs) k [] ?_ (dI zF trivial aj);rintro x s S1 ⟨fL1,A1,A0,A3,B5,C7⟩;have t1:=Ua x;have t2:x≠0->s.length<=18:=λhx=>by
   by_cases h:s.length<=18
   .exact h
   .have h2:s.length=19:=by omega
    rw[h2,T8]at B5;omega
  refine dE zF (aa fL1 @u3) (zk9 ?_ ?_ ?_ ?_ ?_ ?_ ?_ ?_ ?_)<;>intro zb hc;all_goals try (rw[fU];omega)
  all_goals try (rw[vW];omega)
  all_goals try exact eQ
  .refine jC (x.tdiv 10) (re (x.tmod 10)::s) (dC fL1 aj) (dC fL1 (bu ?_ ?_))<;>intro zb
   all_goals try omega
   .rw[<-A3,mL (m:=x.natAbs) (by omega) (by omega)]
    have e1:x.natAbs/10=(x.tdiv 10).natAbs:=by omega
    have e2:((x.natAbs % 10:Nat):Int)=x.tmod 10:=by omega
    rw[e1,e2]
   .exact vH (by omega) B5
  .obtain rfl:x=0:=by omega
   rw[<-A3,Int.natAbs_zero,wH]
def qH(n:Nat)(k:Int):List (List UInt8):=(List.range n).map λi:Nat=>XJ (k+(i:Int))
theorem Ca:(qH n k).length=n:=by simp[qH]
theorem RG(h:i<n):(qH n k).getD i []=XJ (k+i):=by
 rw[zA0];simp[qH,h]
theorem XK:qH (n+1) k=qH n k++[XJ (k+n)]:=by simp[qH,zF7]
theorem HD{k:Nat}(ha:k<a.length)(hb:k<b.length):a.take (k+1)=b.take (k+1)↔a.take k=b.take k/\a.getD k []=b.getD k []:=by
 rw[List.take_add_one,List.take_add_one,zA0,zA0,zA1 ha,zA1 hb];simp only[Option.toList_some,zH5];constructor
 .intro h
  have:=List.append_inj h (by simp;omega);exact⟨this.1,by simpa using this.2⟩
 .rintro⟨h1,h2⟩;rw[h1,h2]
theorem jp{m1:Bool}(a b:List (List UInt8))(ha:a.length<=1099511627776)(hb:b.length<=1099511627776):Fun Tryz.prog 6 [.sl (.lent m0) (List.map PV.str a),.sl (.lent m1) (List.map PV.str b)] [.bool (decide (a=b))]:=by
 refine fO au [4] Tryz.func6 ?_;refine dE zF trivial (f9 ?_ ?_)<;>intro zb hc
 .rw[zB8];intro e;subst e;exact hc rfl
 refine ao (λ(k:Nat) S1=>(S1.e 0=.p (.sl (.lent m0) (List.map PV.str a))/\S1.e 1=.p (.sl (.lent m1) (List.map PV.str b))/\eI S1 5 k)/\k<=a.length/\a.take k=b.take k) (λk=>a.length-k) 0 ?_ (dI ai trivial aj);rintro k S1 ⟨fL1,A1,A0⟩;refine dE ai fL1 (pC ?_ ?_ ?_)<;>intro zb hc
 .rw[zB8];intro e;subst e;exact hc rfl
 .refine ak (k+1) (dC fL1 aj) (dC fL1 (aD λzb=> ?_))
  rw[HD (by omega) (by omega)];exact⟨A0,hc⟩
 .rw[zB6]
  rw[zA2 (by omega),zA2 (by omega)]at A0;exact A0
theorem kQ(a:List (List UInt8))(k:Int)(ha:a.length<=1099511627776)(hk:0<=k)(hj:k<=1099511627776):CallT Tryz.prog false 7 [.mu false (List.map PV.str a),.pv (.int .i64 k)] [some (List.map PV.str (qH a.length k)),none] [.int .i64 ((k+a.length))]:=by
 refine fX au [4] Tryz.func7 ?_;have cE1:=@nL;refine dE zF trivial (aD λzb=> ?_);refine nw (λ(i:Nat) (c:List (List UInt8)) S1=>(S1.e 0=.ref 0 0 (c).length/\S1.h 0=.live true (List.map PV.str c)/\eI S1 1 ((k+i))/\eI S1 5 i)/\0<S1.n/\i<=a.length/\c.length=a.length/\c.take i=qH i k) (λi _=>a.length-i) 0 a ?_ (dI ai trivial aj);rintro i c S1 ⟨fF1,J1,A1,A0,A3⟩;have n0:=dJ (x:=0) (n:=S1.n);have fL1:=(aa fF1 n0);refine dE ai fL1 (f9 ?_ ?_)<;>intro zb hc
 .refine jC (i+1) (c.set i (XJ (k+i))) (dC fL1 aj) (dC fL1 (aD λzb=> ?_))
  rw[HM (by omega),A3,XK]
 .obtain rfl:i=a.length:=by omega
  rw[<-A3,zA2 (by omega)]
theorem dA(n:Nat)(k:Int)(hn:n<=1099511627776)(hk:0<=k)(hj:k<=1099511627776):Fun Tryz.prog 8 [.sl (.lent m0) (List.map PV.str (qH n k)),.int .i64 k] [.int .i64 ((k+n))]:=by
 refine fO au [4] Tryz.func8 ?_;have cE1:=@nL;have cD1:=d7 (d8 7 [5]) [(0,5),(1,5),(2,5),(3,5)];refine dE zF trivial (aD λzb=> ?_);have hl:(qH n k).length=n:=Ca;refine ao (λ(i:Nat) S1=>(S1.e 0=.p (.sl (.lent m0) (List.map PV.str (qH n k)))/\eI S1 1 ((k+i))/\eI S1 5 i)/\i<=n) (λi=>n-i) 0 ?_ (dI zF trivial aj);rintro i S1 ⟨fL1,A1⟩;refine dE zF fL1 (TX ?_ ?_ ?_ ?_ ?_ ?_ ?_ ?_)<;>intro zb hc;all_goals try rw[hl]at hc
 all_goals try exact eQ
 .exact absurd (RG (by omega)) hc
 .exact ak (i+1) (dC fL1 aj) (dC fL1 aj)
end Go.Gl
