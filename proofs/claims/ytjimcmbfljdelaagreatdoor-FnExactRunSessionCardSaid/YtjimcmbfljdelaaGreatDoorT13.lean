/-
  What the functions compute, and what the law asks of it: texts joined. Conditions: those that each lemma names.
-/
import Derived.Test.YtjimcmbfljdelaaGreatDoorT2
import Derived.Test.YtjimcmbfljdelaaGreatDoorT1
set_option linter.unusedSimpArgs false
set_option linter.unusedVariables false
set_option maxRecDepth 20000
set_option linter.unusedSectionVars false
set_option maxHeartbeats 16000000
variable{a b:List Int}{e0 m0 m1:Bool}{L:List (List Int)}{k:Nat}
namespace Go.Gl
open Go Go.Proofs
variable [Amb][NoQ]
def io(p q:List Int):Bool:=decide (Tq p q<0)
theorem Zz(h:a.length≠b.length):decide (a.length<b.length)=io a b:=by
 rw[io,Tq,zB0 (λe=>by rw[cmpI_0]at e;omega)];unfold rc;by_cases h1:a.length<b.length
 .rw[zB0 (by omega)];simp[h1]
 .rw[zA8 (by omega),zB0 (by omega)];simp[h1]
theorem ZA(h:a.length=b.length):io a b=decide (pS a b<0):=by
 rw[io,Tq,zA8 (λe=>e (cmpI_0.2 (by omega)))]
theorem Oo{a b:Int}:decide (rc a b<0)=decide (a<b):=by
 unfold rc;split
 .rename_i h;simp[h]
 .split<;>simp<;>omega
theorem nz(a b:List Int)(ha:a.length<=1048576)(hb:b.length<=1048576):Fun Tryz.prog 86 [lI m0 a,lI m1 b] [.bool (io a b)]:=by
 refine fO au [4] Tryz.func86 ?_;refine dE ai trivial (f9 ?_ ?_)<;>intro zb hc
 .exact Zz (by omega)
 have hl:a.length=b.length:=by omega
 rw[ZA hl];refine ao (λ(k:Nat) S1=>(S1.e 0=.p (lI m0 a)/\S1.e 1=.p (lI m1 b)/\eI S1 5 k)/\k<=a.length/\pS a b=pS (a.drop k) (b.drop k)) (λk=>a.length-k) 0 ?_ (dI ai trivial aj);rintro k S1 ⟨fL1,A1,A0⟩;refine dE ai fL1 (pC ?_ ?_ ?_)<;>intro zb hc
 .rw[A0,aN (by omega),aN (s:=b) (by omega),pS,zB0 (λe=>hc (cmpI_0.1 e)),Oo]
 .refine ak (k+1) (dC fL1 aj) (dC fL1 (aD λzb=> ?_))
  rw[A0,aN (by omega),aN (s:=b) (by omega),pS,zA8 (λh=>h (cmpI_0.2 hc))]
 .rw[A0,zA6 (l:=a) (by omega),zA6 (l:=b) (by omega),pS];rfl
theorem GW{p q:List Int}:(!(eO 0 p q q.length []).isEmpty)=ft p q:=rfl
theorem f6(p q:List Int)(hp:p.length<=8)(hq:q.length<=8):Fun Tryz.prog 114 [lI m0 p,lI m1 q,.sl (.lent false) []] [.bool (ft p q)]:=by
 have c1:=wh (m0:=m0) (m1:=m1) p q hp hq q.length (m2:=false) [] (by simp) (by simp);rw[GW]at c1;simpa only[lI,oI,lE,zE8]using c1
theorem ur(q p:List Int)(m1:Bool)(hp:p.length<=8)(hq:q.length<=8):Fun Tryz.prog 331 [lI m0 q,.pc [lI m1 p]] [.bool (ft p q)]:=by
 refine fO au [3] Tryz.func331 ?_;have c1:=wh (m0:=m1) (m1:=m0) p q hp hq q.length (m2:=false) [] (by simp) (by simp);rw[GW]at c1;simp only[lI,oI,lE,zE8]at c1;have cE1:=@c1;exact dE zF trivial aj
def pB(L:List (List Int))(p:List Int):Bool:= !(L.any λq=>ft p q)
theorem dp(L:List (List Int))(p:List Int)(hL:L.length<=1099511627776)(hl:∀q∈L,q.length<=8)(hp:p.length<=8):Fun Tryz.prog 256 [lE m0 e0 L,lI m1 p] [.bool (pB L p)]:=by
 refine fO au [4] Tryz.func256 ?_;have cE1:=@an;have c1:=an (e0:=e0) (m0:=m0) L 331 [.pc [lI m1 p]] (λq=>ft p q) hL (λq hq=>ur (m0:=e0) q p m1 hp (hl q hq));have cE1:=@c1;have cE2:=@an;refine dE zF trivial (aD λzb=> ?_);rfl
theorem cE(L:List (List Int))(p:List Int)(hL:L.length<=1099511627776)(hl:∀q∈L,q.length<=8)(hp:p.length<=8):Fun Tryz.prog 198 [lE m0 e0 L,lI m1 p] [.bool (pB L p)]:=by
 refine fO au [4] Tryz.func198 ?_;have cE1:=@bW;refine dE ai trivial (aD λzb=> ?_);refine ao (λ(k:Nat) S1=>(S1.e 0=.p (lE m0 e0 L)/\S1.e 1=.p (lI m1 p)/\eI S1 5 k)/\k<=L.length/\(∀q∈L.take k,ft p q=false)) (λk=>L.length-k) 0 ?_ (dI ai trivial aj);rintro k S1 ⟨fL1,A1,A0⟩;refine dE ai fL1 (AN ?_ ?_ ?_ ?_)<;>intro zb hc
 .exact hl _ (am hc)
 .have h1:(L.any λq=>ft p q)=true:=List.any_eq_true.2 ⟨_,am (by omega),hc⟩
  rw[pB,h1];rfl
 .refine ak (k+1) (dC fL1 aj) (dC fL1 (aD λzb=> ?_))
  intro q hq;rw[aq (d:=[]) (by omega)]at hq;rcases zB3.1 hq with hq|hq
  .exact A0 q hq
  .simp at hq;subst hq;simpa using hc
 .have h1:(L.any λq=>ft p q)=false:=by
   rw[Bool.eq_false_iff];intro h;obtain⟨q,hq,h2⟩:=List.any_eq_true.1 h;rw[zA2 (by omega)]at A0;rw[A0 q hq]at h2;cases h2
  rw[pB,h1];rfl
def xK(L:List (List Int))(k:Nat):Bool:=(List.range k).all λi=>ac (L.getD i [])&& !decide ((L.getD i []).length=0)&&(decide (i=0)||io (L.getD (i-1) []) (L.getD i []))&& !((List.range i).any λj=>ft (L.getD i []) (L.getD j []))
def aG(L:List (List Int)):Bool:=decide (L.length<=8)&&xK L L.length
theorem kr:xK L (k+1)=(xK L k&&(ac (L.getD k [])&& !decide ((L.getD k []).length=0)&&(decide (k=0)||io (L.getD (k-1) []) (L.getD k []))&& !((List.range k).any λj=>ft (L.getD k []) (L.getD j [])))):=by
 simp[xK,zF7]
theorem js{j:Nat}(h:xK L k=true)(hj:j<k):ac (L.getD j [])=true:=by
 rw[xK,zC8]at h;have:=h j (zD5.2 hj);simp only[zB9]at this;exact this.1.1.1
theorem Ji{n:Nat}(hk:k<=n)(h:xK L k=false):xK L n=false:=by
 induction hk with
 |refl=>exact h
 |step _ ih=>rw[kr,ih];rfl
theorem lP(hk:k<L.length)(h:(ac (L.getD k [])&& !decide ((L.getD k []).length=0)&&(decide (k=0)||io (L.getD (k-1) []) (L.getD k []))&& !((List.range k).any λj=>ft (L.getD k []) (L.getD j [])))=false):false=aG L:=by
 rw[aG,Ji (k:=k+1) (by omega) (by rw[kr,h,Bool.and_false]),Bool.and_false]
theorem ay(L:List (List Int))(hL:L.length<=1048576)(hl:∀l∈L,l.length<=1048576):Fun Tryz.prog 41 [lE m0 e0 L] [.bool (aG L)]:=by
 refine fO au [2] Tryz.func41 ?_;have cE1:=@ah;have cE2:=@nz;have cE3:=@bW;have cD1:=d7 (d8 31 [4,27]) [];have cD2:=d7 (d8 9 [8]) [];refine dE ai trivial (aD ?_)<;>intro zb;refine ao (λ(k:Nat) S1=>(S1.e 0=.p (lE m0 e0 L)/\eI S1 3 k)/\k<=L.length/\xK L k=true) (λk=>L.length-k) 0 ?_ (dC trivial aj);rintro k S1 ⟨fL1,A1,A0⟩;have u1:((k:Int)-1).toNat=k-1:=by omega
 by_cases hk:k<L.length
 .have g1:=hl _ (am (d:=[]) hk)
  have g2:0<k->(L.getD (k-1) []).length<=1048576:=λh=>hl _ (am (by omega));refine dE ai (aa fL1 @u1) (Vp ?_ ?_ ?_ ?_ ?_)<;>(intro zb hc;repeat (have zc:=zb.1;replace zb:=zb.2))
  .refine lP hk ?_
   have x1:io (L.getD (k-1) []) (L.getD k [])=false:=hc;have x3:decide (k=0)=false:=zB8 (by omega);rw[x1,x3];simp
  .have w1:ac (L.getD k [])=true:=by assumption
   have w2:¬((L.getD k []).length:Int)=0:=by assumption
   have w3:(decide (k=0)||io (L.getD (k-1) []) (L.getD k []))=true:=by rw[hc,Bool.or_true]
   have w4:=(al w1).1;refine ao (λ(j:Nat) S2=>(S2.e 0=.p (lE m0 e0 L)/\eI S2 3 k/\eI S2 4 j)/\j<=k/\(∀i,i<j->ft (L.getD k []) (L.getD i [])=false)/\S1.n<=S2.n) (λj=>k-j) 0 ?_ (dC fL1 aj);rintro j S2 ⟨fL2,A6,B3,B1⟩;have w5:j<k->(L.getD j []).length<=8:=λh=>(al (js A0 h)).1;have w6:j<k->(L.take k).getD j []=L.getD j []:=λh=>by simp only[zA0,zH2];rw[zB0 h]
   by_cases hj:j<k
   .have w7:=w5 hj
    have w8:=w6 hj;refine dE ai fL2 (f9 ?_ ?_)<;>(intro zb hc;repeat (have zc:=zb.1;replace zb:=zb.2))
    .have x1:((List.range k).any λj=>ft (L.getD k []) (L.getD j []))=true:=List.any_eq_true.2 ⟨j,zD5.2 hj,hc⟩
     exact lP hk (by rw[x1];simp)
    .refine ak (j+1) (dC fL2 aj) (dC fL2 (aD ?_))<;>intro zb
     intro i hi;by_cases e:i=j
     .subst e;exact hc
     .exact B3 i (by omega)
   .refine dE ai fL2 (aI ?_)<;>(intro zb hc;repeat (have zc:=zb.1;replace zb:=zb.2))
    .refine ak (k+1) (dC fL2 aj) (dC fL2 (aD ?_))<;>intro zb
     have x1:((List.range k).any λj=>ft (L.getD k []) (L.getD j []))=false:=by
      rw[Bool.eq_false_iff];intro h;obtain⟨i,hi,h2⟩:=List.any_eq_true.1 h;rw[B3 i (by have:=zD5.1 hi;omega)]at h2;cases h2
     rw[kr,A0,w1,w3,x1,zB8 (by omega)];rfl
  .have w1:ac (L.getD k [])=true:=by assumption
   have w2:¬((L.getD k []).length:Int)=0:=by assumption
   have w3:(decide (k=0)||io (L.getD (k-1) []) (L.getD k []))=true:=by rw[zB6 (by omega),Bool.true_or]
   have w4:=(al w1).1;refine ao (λ(j:Nat) S3=>(S3.e 0=.p (lE m0 e0 L)/\eI S3 3 k/\eI S3 4 j)/\j<=k/\(∀i,i<j->ft (L.getD k []) (L.getD i [])=false)/\S1.n<=S3.n) (λj=>k-j) 0 ?_ (dC fL1 aj);rintro j S3 ⟨fL3,G7,F8,K6⟩;have w5:j<k->(L.getD j []).length<=8:=λh=>(al (js A0 h)).1;have w6:j<k->(L.take k).getD j []=L.getD j []:=λh=>by simp only[zA0,zH2];rw[zB0 h]
   by_cases hj:j<k
   .omega
   .refine dE ai fL3 (aI ?_)<;>(intro zb hc;repeat (have zc:=zb.1;replace zb:=zb.2))
    .refine ak (k+1) (dC fL3 aj) (dC fL3 (aD ?_))<;>intro zb
     have x1:((List.range k).any λj=>ft (L.getD k []) (L.getD j []))=false:=by
      rw[Bool.eq_false_iff];intro h;obtain⟨i,hi,h2⟩:=List.any_eq_true.1 h;rw[F8 i (by have:=zD5.1 hi;omega)]at h2;cases h2
     rw[kr,A0,w1,w3,x1,zB8 (by omega)];rfl
  .have x2:(L.getD k []).length=0:=by omega
   exact lP hk (by rw[zB6 x2];simp)
  .exact lP hk (by rw[hc];rfl)
 .skip
  refine dE ai fL1 (aI ?_)<;>(intro zb hc;repeat (have zc:=zb.1;replace zb:=zb.2));obtain rfl:k=L.length:=by omega
  rw[aG,A0,zG1];congr 1;rw[eq_iff_iff];omega
theorem aw(L:List (List Int))(hL:L.length<=1048576)(hl:∀l∈L,l.length<=1048576):Fun Tryz.prog 49 [lE m0 e0 L] [.bool (aG L)]:=by
 refine fO au [2] Tryz.func49 ?_;have cE1:=@ae;have cE2:=@df;refine dE ai trivial (f9 ?_ ?_)<;>(intro zb hc;repeat (have zc:=zb.1;replace zb:=zb.2))
 .rw[aG,zB8 (by omega),zH9]
 have h8:L.length<=8:=by omega
 refine ao (λ(k:Nat) S1=>(S1.e 0=.p (lE m0 e0 L)/\S1.e 10=.p (lE m0 e0 L)/\eI S1 11 L.length/\eI S1 12 k)/\k<=L.length/\xK L k=true) (λk=>L.length-k) 0 ?_ (dC trivial aj);rintro k S1 ⟨fL1,A1,A0⟩;have u1:((k:Int)-1).toNat=k-1:=by omega
 by_cases hk:k<L.length
 .have g1:=hl _ (am (d:=[]) hk)
  have g2:0<k->(L.getD (k-1) []).length<=1048576:=λh=>hl _ (am (by omega));refine dE ai (aa fL1 @u1) (Vp ?_ ?_ ?_ ?_ ?_)<;>(intro zb hc;repeat (have zc:=zb.1;replace zb:=zb.2))
  .refine lP hk ?_
   have x1:io (L.getD (k-1) []) (L.getD k [])=false:=(by simp only[io,zG3];omega);have x3:decide (k=0)=false:=zB8 (by omega);rw[x1,x3];simp
  .have w1:ac (L.getD k [])=true:=by assumption
   have w2:¬((L.getD k []).length:Int)=0:=by assumption
   have w3:(decide (k=0)||io (L.getD (k-1) []) (L.getD k []))=true:=by rw[show io (L.getD (k-1) []) (L.getD k [])=true by simp only[io,zC2];omega,Bool.or_true]
   have w4:=(al w1).1;refine ao (λ(j:Nat) S2=>(S2.e 0=.p (lE m0 e0 L)/\S2.e 10=.p (lE m0 e0 L)/\eI S2 11 L.length/\eI S2 12 k/\eI S2 3 k/\S2.e 4=.p (lI e0 (L.getD k []))/\S2.e 41=.p (lE m0 e0 ((L.take k)))/\eI S2 42 k/\eI S2 43 j)/\j<=k/\(∀i,i<j->ft (L.getD k []) (L.getD i [])=false)/\S1.n<=S2.n) (λj=>k-j) 0 ?_ (dC fL1 aj);rintro j S2 ⟨fL2,A6,B3,B1⟩;have w5:j<k->(L.getD j []).length<=8:=λh=>(al (js A0 h)).1;have w6:j<k->(L.take k).getD j []=L.getD j []:=λh=>by simp only[zA0,zH2];rw[zB0 h]
   by_cases hj:j<k
   .have w7:=w5 hj
    have w8:=w6 hj;have cE1:=@f6;have cE2:=@ae;have cE3:=@df;refine dE ai (aa fL2 @w8) (f9 ?_ ?_)<;>(intro zb hc;repeat (have zc:=zb.1;replace zb:=zb.2))
    .have x1:((List.range k).any λj=>ft (L.getD k []) (L.getD j []))=true:=List.any_eq_true.2 ⟨j,zD5.2 hj,hc⟩
     exact lP hk (by rw[x1];simp)
    .refine ak (j+1) (dC fL2 aj) (dC fL2 (aD ?_))<;>intro zb
     intro i hi;by_cases e:i=j
     .subst e;exact hc
     .exact B3 i (by omega)
   .have cE1:=@f6;have cE2:=@ae;have cE3:=@df
    refine dE ai fL2 (aI ?_)<;>(intro zb hc;repeat (have zc:=zb.1;replace zb:=zb.2))
    .refine ak (k+1) (dC fL2 aj) (dC fL2 (aD ?_))<;>intro zb
     have x1:((List.range k).any λj=>ft (L.getD k []) (L.getD j []))=false:=by
      rw[Bool.eq_false_iff];intro h;obtain⟨i,hi,h2⟩:=List.any_eq_true.1 h;rw[B3 i (by have:=zD5.1 hi;omega)]at h2;cases h2
     rw[kr,A0,w1,w3,x1,zB8 (by omega)];rfl
  .have w1:ac (L.getD k [])=true:=by assumption
   have w2:¬((L.getD k []).length:Int)=0:=by assumption
   have w3:(decide (k=0)||io (L.getD (k-1) []) (L.getD k []))=true:=by rw[zB6 (by omega),Bool.true_or]
   have w4:=(al w1).1;refine ao (λ(j:Nat) S3=>(S3.e 0=.p (lE m0 e0 L)/\S3.e 10=.p (lE m0 e0 L)/\eI S3 11 L.length/\eI S3 12 k/\eI S3 3 k/\S3.e 4=.p (lI e0 (L.getD k []))/\S3.e 41=.p (lE m0 e0 ((L.take k)))/\eI S3 42 k/\eI S3 43 j)/\j<=k/\(∀i,i<j->ft (L.getD k []) (L.getD i [])=false)/\S1.n<=S3.n) (λj=>k-j) 0 ?_ (dC fL1 aj);rintro j S3 ⟨fL3,G7,F8,K6⟩;have w5:j<k->(L.getD j []).length<=8:=λh=>(al (js A0 h)).1;have w6:j<k->(L.take k).getD j []=L.getD j []:=λh=>by simp only[zA0,zH2];rw[zB0 h]
   by_cases hj:j<k
   .omega
   .have cE1:=@f6;have cE2:=@ae;have cE3:=@df
    refine dE ai fL3 (aI ?_)<;>(intro zb hc;repeat (have zc:=zb.1;replace zb:=zb.2))
    .refine ak (k+1) (dC fL3 aj) (dC fL3 (aD ?_))<;>intro zb
     have x1:((List.range k).any λj=>ft (L.getD k []) (L.getD j []))=false:=by
      rw[Bool.eq_false_iff];intro h;obtain⟨i,hi,h2⟩:=List.any_eq_true.1 h;rw[F8 i (by have:=zD5.1 hi;omega)]at h2;cases h2
     rw[kr,A0,w1,w3,x1,zB8 (by omega)];rfl
  .have x2:(L.getD k []).length=0:=by omega
   exact lP hk (by rw[zB6 x2];simp)
  .exact lP hk (by rw[hc];rfl)
 .skip
  have cE1:=@ae;have cE2:=@df;have cE3:=trivial;refine dE ai fL1 (aI ?_)<;>(intro zb hc;repeat (have zc:=zb.1;replace zb:=zb.2));obtain rfl:k=L.length:=by omega
  rw[aG,A0,zG1,zB6 h8]
end Go.Gl
