/-
  What the functions compute, and what the law asks of it: texts joined. Conditions: those that each lemma names.
-/
import Derived.Test.YtjimcmbfljdelaaGreatDoorT2
import Derived.Test.YtjimcmbfljdelaaGreatDoorT3
import Derived.Test.YtjimcmbfljdelaaGreatDoorT1
import Derived.Test.YtjimcmbfljdelaaGreatDoorT4
set_option linter.unusedSimpArgs false
set_option linter.unusedVariables false
set_option maxRecDepth 20000
set_option linter.unusedSectionVars false
set_option maxHeartbeats 16000000
variable{k m:Nat}{s t:List UInt8}{l p:List Int}{m0:Bool}{v:Int}
namespace Go.Gl
open Go Go.Proofs
variable [Amb][NoQ]
def AI(s:List UInt8):Bool:=decide (0<s.length)&&decide (s.getD 0 0=45)
def o7(s:List UInt8):List UInt8:=if AI s=true then s.drop 1 else s
def qB(t:List UInt8):Nat->Int
 |0=>0
 |k+1=>10*qB t k+(((t.getD k 0).toNat:Int)-48)
def Bv(t:List UInt8):Nat->Bool
 |0=>true
 |k+1=>Bv t k&&decide (48<=(t.getD k 0).toNat/\(t.getD k 0).toNat<=57)
def DD(s:List UInt8):Int:=if AI s=true then 0-qB (o7 s) (o7 s).length else qB (o7 s) (o7 s).length
def rn(m:Nat)(s:List UInt8):Bool:=decide (1<=(o7 s).length)&&decide ((o7 s).length<=m)&&Bv (o7 s) (o7 s).length&&decide (cP (DD s)=s)
def qA(m:Nat)(s:List UInt8):Int:=if rn m s=true then DD s else 0
theorem LG{t:List UInt8}{k:Nat}(g:¬(48<=(t.getD k 0).toNat/\(t.getD k 0).toNat<=57)):∀{j:Nat},k<j->Bv t j=false
 |0,h=>by omega
 |j+1,h=>by
  rw[Bv];by_cases e:k=j
  .subst e;rw[zB8 g,Bool.and_false]
  .rw[LG g (by omega),zH9]
theorem Gk(hT:o7 s=t)(hk:k<t.length)(g:¬(48<=(t.getD k 0).toNat/\(t.getD k 0).toNat<=57)):rn m s=false:=by
 rw[rn,hT,LG g hk,Bool.and_false,zH9]
theorem Gj(hT:o7 s=t)(h:1<=t.length/\t.length<=m)(g:Bv t t.length=true):rn m s=decide (cP (DD s)=s):=by
 rw[rn,hT,g,zB6 h.1,zB6 h.2];rfl
theorem lU(s:List UInt8)(m:Nat)(hs:s.length<=1048576)(hm:m<=12):Fun Tryz.prog 80 [.str s,.int .i64 m] [.int .i64 (qA m s),.bool (rn m s)]:=by
 cases hb:AI s with
 |true=>
  have hx:=hb;rw[AI,zB9,zC2,zC2]at hx;have f3:((0:Int)<(s.length:Int))=True:=zF5 (by omega);have f4:(s.getD 0 0).toNat=45:=by rw[hx.2];rfl
  obtain⟨t,ht⟩:∃t,s.drop 1=t:=⟨_,rfl⟩;have hT:o7 s=t:=by rw[o7,zB0 hb,ht]
  have hl:t.length<=s.length:=by rw[<-ht];simp
  by_cases h1:1<=t.length/\t.length<=m
  .have f1:((t.length:Int)<1)=False:=zC6 (by omega)
   have f2:((m:Int)<(t.length:Int))=False:=zC6 (by omega);refine fO au [4,5] Tryz.func80 ?_;have cE1:=@aL;refine dE ai (aa @f3 (aa @f4 (aa @ht (aa @f1 @f2)))) (aD λzb=> ?_);refine ao (λ(k:Nat) S1=>(S1.e 0=.p (.str s)/\S1.e 6=.p (.bool true)/\S1.e 7=.p (.str t)/\eI S1 8 (qB t k)/\eI S1 9 k)/\k<=t.length/\Bv t k=true/\0<=qB t k/\qB t k<((10^k:Nat):Int)) (λk=>t.length-k) 0 ?_ (dC trivial (bu (λzb=> ?_) λzb=> ?_));rintro k S1 ⟨fL1,A1,A0,A3,B5⟩;have b0:(10:Nat)^k<=10^12:=Nat.pow_le_pow_right (by omega) (by omega);have b1:qB t k<1000000000000:=Int.lt_of_lt_of_le B5 (Int.ofNat_le.2 (zE0 b0 (by decide)));have b3:(t.getD k 0).toNat<256:=(t.getD k 0).toNat_lt;by_cases hk:k<t.length
   .have b4:qB t (k+1)=10*qB t k+(((t.getD k 0).toNat:Int)-48):=rfl
    by_cases g:48<=(t.getD k 0).toNat/\(t.getD k 0).toNat<=57
    .have b5:Bv t (k+1)=true:=by rw[Bv,A0,zB6 g];rfl
     have b6:qB t (k+1)<((10^(k+1):Nat):Int):=by rw[b4,zG7];omega
     have u5:(Tryz.prog.underlying 5).isSome=true:=by kernel_rfl
     refine dE zF (aa fL1 @u5) ?_;all_goals try(apply nn;repeat' first|exact jb|apply aa|(apply nq;intro zb hc)|(apply np;intro zb)|intro j')<;>try apply nu
     all_goals try (rw[fU];omega)
     all_goals try exact eQ
     exact ak (k+1) (dC fL1 aj) (dC fL1 aj);all_goals first|exact b5|exact b6|(rw[b4];omega)|(rw[b4])
    .have b7:rn m s=false:=Gk hT hk g
     rw[qA,b7,zA8 (by simp)];exact dE ai fL1 aj
   .obtain rfl:k=t.length:=by omega
    have q:rn m s=decide (cP (DD s)=s):=Gj hT h1 A0;have q2:DD s=0-qB t t.length:=by rw[DD,hT,hb];rfl
    rw[qA,q,q2];by_cases g:cP (0-qB t t.length)=s
    .have g1:(cP (0-qB t t.length)=s)=True:=zF5 g
     rw[zB6 g,zB0 rfl];exact dE ai (aa fL1 @g1) aj
    .have g1:(cP (0-qB t t.length)=s)=False:=zC6 g
     rw[zB8 g,zA8 (by simp)];exact dE ai (aa fL1 @g1) aj
   all_goals simp[qB,Bv]
  .have b7:rn m s=false:=by rw[rn,hT];simp only[Bool.and_eq_false_iff,zG3];omega
   rw[qA,b7,zA8 (by simp)];refine fO au [4,5] Tryz.func80 ?_;have cE1:=@aL;exact dE ai (aa @f3 (aa @f4 @ht)) aj
 |false=>
  have hT:o7 s=s:=by rw[o7,hb];rfl
  have hx:¬((0:Int)<(s.length:Int)/\(s.getD 0 0).toNat=45):=λq=>by
   have:AI s=true:=by rw[AI,zB6 (by omega),zB6 (UInt8.toNat_inj.1 q.2)];rfl
   rw[hb]at this;cases this
  by_cases h1:1<=s.length/\s.length<=m
  .have f1:((s.length:Int)<1)=False:=zC6 (by omega)
   have f2:((m:Int)<(s.length:Int))=False:=zC6 (by omega);refine fO au [4,5] Tryz.func80 ?_;have cE1:=@aL;refine dE ai (aa @f1 @f2) (aI λzb hc=> ?_);refine ao (λ(k:Nat) S1=>(S1.e 0=.p (.str s)/\S1.e 6=.p (.bool false)/\S1.e 7=.p (.str s)/\eI S1 8 (qB s k)/\eI S1 9 k)/\k<=s.length/\Bv s k=true/\0<=qB s k/\qB s k<((10^k:Nat):Int)) (λk=>s.length-k) 0 ?_ (dC trivial (bu (λzb=> ?_) λzb=> ?_));rintro k S1 ⟨fL1,A1,A0,A3,B5⟩;have b0:(10:Nat)^k<=10^12:=Nat.pow_le_pow_right (by omega) (by omega);have b1:qB s k<1000000000000:=Int.lt_of_lt_of_le B5 (Int.ofNat_le.2 (zE0 b0 (by decide)));have b3:(s.getD k 0).toNat<256:=(s.getD k 0).toNat_lt;by_cases hk:k<s.length
   .have b4:qB s (k+1)=10*qB s k+(((s.getD k 0).toNat:Int)-48):=rfl
    by_cases g:48<=(s.getD k 0).toNat/\(s.getD k 0).toNat<=57
    .have b5:Bv s (k+1)=true:=by rw[Bv,A0,zB6 g];rfl
     have b6:qB s (k+1)<((10^(k+1):Nat):Int):=by rw[b4,zG7];omega
     have u5:(Tryz.prog.underlying 5).isSome=true:=by kernel_rfl
     refine dE zF (aa fL1 @u5) ?_;all_goals try(apply nn;repeat' first|exact jb|apply aa|(apply nq;intro zb hc)|(apply np;intro zb)|intro j')<;>try apply nu
     all_goals try (rw[fU];omega)
     all_goals try exact eQ
     exact ak (k+1) (dC fL1 aj) (dC fL1 aj);all_goals first|exact b5|exact b6|(rw[b4];omega)|(rw[b4])
    .have b7:rn m s=false:=Gk hT hk g
     rw[qA,b7,zA8 (by simp)];exact dE ai fL1 aj
   .obtain rfl:k=s.length:=by omega
    have q:rn m s=decide (cP (DD s)=s):=Gj hT h1 A0;have q2:DD s=qB s s.length:=by rw[DD,hT,hb];rfl
    rw[qA,q,q2];by_cases g:cP (qB s s.length)=s
    .have g1:(cP (qB s s.length)=s)=True:=zF5 g
     rw[zB6 g,zB0 rfl];exact dE ai (aa fL1 @g1) aj
    .have g1:(cP (qB s s.length)=s)=False:=zC6 g
     rw[zB8 g,zA8 (by simp)];exact dE ai (aa fL1 @g1) aj
   all_goals simp[qB,Bv]
  .have b7:rn m s=false:=by rw[rn,hT];simp only[Bool.and_eq_false_iff,zG3];omega
   rw[qA,b7,zA8 (by simp)];refine fO au [4,5] Tryz.func80 ?_;have cE1:=@aL;exact dE ai trivial aj
theorem bB(s:List UInt8)(hs:s.length<=1048576):Fun Tryz.prog 36 [.str s] [.int .i64 (qA 12 s),.bool (rn 12 s)]:=by
 refine fO au [2,3] Tryz.func36 ?_;have cE1:=@lU;have c1:=lU s 12 hs (zB1 _);rw[show((12:Nat):Int)=12 from rfl]at c1;have cE1:=@c1;have cE2:=@lU;exact dE ai trivial aj
def Eu(p:List Int):Bool:=ac p&&kN p.length (cY (aX p)+1)
def Ru(p:List Int):List Int:=if ac p then LV p.length (cY (aX p)+1)else[]
theorem zI(h:ac p=true):0<=cY (aX p)/\cY (aX p)<=2580480:=by
 have h8:p.length<=8:=by simp[ac]at h;exact h.1
 have hcl:=fA p;have hca:=kn p;have h1:=jt (cs:=aX p) λk=>(hca k).1;have h2:=o8 (cs:=aX p) (by omega) λk=>by have:=(hca k).2;omega
 refine⟨h1, ?_⟩;have:(322560*(aX p).length:Int)<=322560*8:=by omega
 omega
theorem uu(p:List Int)(hl:p.length<=1048576):Fun Tryz.prog 57 [lI m0 p] [oI (Ru p),.bool (Eu p)]:=by
 by_cases hp:ac p=true
 .have hr:=zI hp
  have h8:p.length<=8:=by simp[ac]at hp;exact hp.1
  have hf:=gL (m0:=m0) p hl;rw[zB0 hp]at hf;rw[Ru,Eu,zB0 hp,hp,zF4];refine fO au [2,3] Tryz.func57 ?_;have cE1:=@gL;have cE2:=@qe;have cE1:=@hf;exact dE ai trivial aj
 .have hf:=gL (m0:=m0) p hl
  rw[zA8 hp]at hf;have hp':ac p=false:=by simpa using hp
  rw[Ru,Eu,zA8 hp,hp',zH9];refine fO au [2,3] Tryz.func57 ?_;have cE1:=@gL;have cE2:=@qe;have cE1:=@hf;exact dE ai trivial aj
theorem ue(p:List Int)(hl:p.length<=1048576):Fun Tryz.prog 74 [lI m0 p] [oI (Ru p),.bool (Eu p)]:=by
 by_cases hp:ac p=true
 .have hr:=zI hp
  have h8:p.length<=8:=by simp[ac]at hp;exact hp.1
  have hf:=gE (m0:=m0) p hl;rw[zB0 hp]at hf;rw[Ru,Eu,zB0 hp,hp,zF4];refine fO au [2,3] Tryz.func74 ?_;have cE1:=@gE;have cE2:=@pX;have cE1:=@hf;exact dE ai trivial aj
 .have hf:=gE (m0:=m0) p hl
  rw[zA8 hp]at hf;have hp':ac p=false:=by simpa using hp
  rw[Ru,Eu,zA8 hp,hp',zH9];refine fO au [2,3] Tryz.func74 ?_;have cE1:=@gE;have cE2:=@pX;have cE1:=@hf;exact dE ai trivial aj
theorem j8{v:Int}:∀{l:List Int},dG v l=(l.countP (λw=>decide (w<v)):Int)
 |[]=>rfl
 |w::l=>by
  rw[dG,j8,List.countP_cons];by_cases h:w<v
  .rw[zB6 h,zB0 rfl,bU,zB0 rfl];omega
  .rw[zB8 h,zA8 (by decide),bU,zA8 (by decide)];omega
theorem Hp{a b:List Int}:dG v (a++b)=dG v a+dG v b:=by
 rw[j8,j8,j8,List.countP_append];omega
def qq:List Int->Int
 |[]=>0
 |x::l=>x+qq l
theorem yg{v:Int}{p:List Int}:∀{k:Nat},k<=p.length->de (v::p) (k+1)=dG v (p.take k)+de p k
 |0,_=>by simp[de,CK,dG]
 |k+1,h=>by
  show de (v::p) (k+1)+CK ((v::p).getD (k+1) 0) ((v::p).take (k+1))=dG v (p.take (k+1))+(de p k+CK (p.getD k 0) (p.take k));rw[yg (k:=k) (by omega),aq (l:=p) (i:=k) (d:=0) (by omega),Hp,List.getD_cons_succ,List.take_succ_cons,CK,dG,dG];omega
theorem Cm:∀{p:List Int},qq (aX p)=de p p.length
 |[]=>rfl
 |v::p=>by rw[aX,qq,Cm,zC1,yg (zB1 _),zE6]
theorem xR{x:Int}:∀{l:List Int},qq (l++[x])=qq l+x
 |[]=>by simp[qq]
 |w::l=>by rw[zF8,qq,qq,xR];omega
def sJ(f:Nat->Bool):Nat->List Int
 |0=>[]
 |k+1=>sJ f k++if f k=true then[(k:Int)+1]else[]
theorem uR{f:Nat->Bool}:∀{k:Nat},(sJ f k).length<=k/\∀x∈sJ f k,1<=x/\x<=k
 |0=>by simp[sJ]
 |k+1=>by
  obtain⟨h1,h2⟩:=uR (f:=f) (k:=k);rw[sJ];refine⟨by split<;>simp<;>omega,λx hx=> ?_⟩;rcases zB3.1 hx with g|g
  .have:=h2 x g;omega
  .split at g
   .rw[zB7]at g;omega
   .cases g
def xj(p:List Int)(k:Nat):Bool:=decide (k+1<p.length)&&decide (p.getD (k+1) 0<p.getD k 0)
def Ff(p:List Int):List Int:=if ac p=true then sJ (xj p) p.length else[]
theorem dsL_f:(Ff p).length<=8/\∀x∈Ff p,1<=x/\x<=8:=by
 unfold Ff;split
 .rename_i h
  have h8:=(al h).1;obtain⟨h1,h2⟩:=uR (f:=xj p) (k:=p.length);exact⟨by omega,λx hx=>by have:=h2 x hx;omega⟩
 .simp
theorem Th(h:p.length<=k+1):sJ (xj p) (k+1)=sJ (xj p) k:=by
 rw[sJ,xj,zB8 (by omega)];simp
theorem pP(k:Int)(p:List Int)(m1:Bool)(h0:0<=k)(h1:k<p.length)(h8:p.length<=8):Fun Tryz.prog 303 [.int .i64 k,.pc [lI m1 p]] [.bool (xj p k.toNat)]:=by
 refine fO au [3] Tryz.func303 ?_;obtain⟨K,rfl⟩:=zG6 h0;have e1:((K:Int)+1).toNat=K+1:=by omega
 by_cases h:K+1<p.length
 .have e:xj p (K:Int).toNat=decide (p.getD (K+1) 0<p.getD K 0):=by rw[xj,zC9,zB6 h,zF4]
  rw[e];exact dE ai @e1 aj
 .have e:xj p (K:Int).toNat=false:=by rw[xj,zC9,zB8 h,zH9]
  rw[e];exact dE ai @e1 aj
theorem qd(p:List Int)(g:FuncId)(caps:List PV)(f:Nat->Bool)(hl:p.length<=1048576)(hf:ac p=true->∀k:Nat,k<p.length->Fun Tryz.prog g (.int .i64 k::caps.map PV.cell) [.bool (f k)]):Fun Tryz.prog 302 [lI m0 p,.fn g [] caps] [oI ((if ac p=true then sJ f p.length else[]))]:=by
 by_cases h:ac p=true
 .have h8:=(al h).1
  rw[zB0 h];refine fO au [4] Tryz.func302 ?_;have cE1:=@ae;refine dE ai @h (aD λzb=> ?_);refine ao (λ(k:Nat) S1=>(S1.e 0=.p (lI m0 p)/\S1.e 1=.p (.fn g [] caps)/\eI S1 12 p.length/\eI S1 13 k)/\OwnL (S1.e 5) S1.h S1.n (PV.int .i64) ((sJ f k).length) (sJ f k)/\k<=p.length) (λk=>p.length-k) 0 ?_ (dC trivial aj);rintro k S1 ⟨fF1,A7,A1⟩;obtain⟨B4,A5,B8⟩:=A7.ou;have fL1:=(aa fF1 A5)
  .have l1:=(uR (f:=f) (k:=k)).1
   by_cases hk:k<p.length
   .have c9:=hf h k hk
    cases hb:f k with
    |true=>
     have e:sJ f (k+1)=sJ f k++[(k:Int)+1]:=by rw[sJ,hb];rfl
     have cE1:=@c9;have cE2:=@ae;refine dE ai (aa fL1 @hb) (aI λzb hc=> ?_);refine ak (k+1) (dC fL1 aj) (dC fL1 (bu ?_ ?_))<;>intro zb;all_goals(first|(rw[e];done)|(rw[e,zA3];rfl)|skip)
    |false=>
     have e:sJ f (k+1)=sJ f k:=by rw[sJ,hb];simp
     have cE1:=@c9;have cE2:=@ae;refine dE ai (aa fL1 @hb) (aI λzb hc=> ?_);refine ak (k+1) (dC fL1 aj) (dC fL1 (bu ?_ ?_))<;>intro zb;all_goals(first|(rw[e];done)|skip)
   .obtain rfl:k=p.length:=by omega
    have cE1:=@ae;have cE2:=trivial;exact dE ai fL1 aj
 .rw[zA8 h]
  rw[zA9]at h;refine fO au [4] Tryz.func302 ?_;have cE1:=@ae;exact dE ai @h aj
theorem dY(p:List Int)(hl:p.length<=1048576):Fun Tryz.prog 227 [lI m0 p] [oI (Ff p)]:=by
 have c1:=λm0:Bool=>qd (m0:=m0) p 303 [.pc [lI m0 p]] (xj p) hl (λh k hk=>by
  have:=pP (k:Int) p m0 (by omega) (by omega) (al h).1;rw[zC9]at this;exact this)
 rw[Ff];refine fO au [2] Tryz.func227 ?_;have cE1:=@qd;have cE1:=@c1;exact dE ai trivial aj
theorem dV(p:List Int)(hl:p.length<=1048576):Fun Tryz.prog 168 [lI m0 p] [oI (Ff p)]:=by
 by_cases h:ac p=true
 .have h8:=(al h).1
  rw[Ff,zB0 h];refine fO au [2] Tryz.func168 ?_;have cE1:=@ah;refine dE ai trivial (aD λzb=> ?_);refine ao (λ(k:Nat) S1=>(S1.e 0=.p (lI m0 p)/\eI S1 4 k)/\OwnL (S1.e 3) S1.h S1.n (PV.int .i64) ((sJ (xj p) k).length) (sJ (xj p) k)/\k<=p.length/\(k=0\/k+1<=p.length)) (λk=>p.length-k) 0 ?_ (dC trivial aj);rintro k S1 ⟨fF1,A4,A1,A0⟩;obtain⟨A9,A2,B6⟩:=A4.ou;have fL1:=(aa fF1 A2)
  .have l1:=(uR (f:=xj p) (k:=k)).1
   by_cases hk:k+1<p.length
   .by_cases hb:p.getD (k+1) 0<p.getD k 0
    .have e:sJ (xj p) (k+1)=sJ (xj p) k++[(k:Int)+1]:=by rw[sJ,xj,zB6 hk,zB6 hb];rfl
     refine dE ai (aa fL1 (aa @h @hb)) (aI λzb hc=> ?_);refine ak (k+1) (dC fL1 aj) (dC fL1 (bu ?_ ?_))<;>intro zb;all_goals(first|(rw[e];done)|(rw[e,zA3];rfl)|skip)
    .have e:sJ (xj p) (k+1)=sJ (xj p) k:=by rw[sJ,xj,zB8 hb];simp
     have hb':(p.getD (k+1) 0<p.getD k 0)=False:=zC6 hb;refine dE ai (aa fL1 (aa @h @hb')) (aI λzb hc=> ?_);refine ak (k+1) (dC fL1 aj) (dC fL1 (bu ?_ ?_))<;>intro zb;all_goals(first|(rw[e];done)|skip)
   .have e:sJ (xj p) p.length=sJ (xj p) k:=by
     by_cases g:p.length=k
     .rw[g]
     .rw[show p.length=k+1 by omega];exact Th (by omega)
    refine dE ai fL1 (aI λzb hc=> ?_);all_goals(first|(rw[e];done)|skip)
 .have e:Ff p=[]:=zA8 h
  rw[e];rw[zA9]at h;refine fO au [2] Tryz.func168 ?_;have cE1:=@ah;refine dE ai trivial (aD λzb=> ?_);refine ao (λ(u:Nat) S2=>(S2.e 0=.p (lI m0 p)/\eI S2 4 0)/\OwnL (S2.e 3) S2.h S2.n (PV.int .i64) ((([]:List Int)).length) (([]:List Int))) (λu=>u) 0 ?_ (dC trivial aj);rintro u S2 ⟨fF2,C9⟩;obtain⟨F3,C6,F4⟩:=C9.ou;have fL2:=(aa fF2 C6)
  .exact dE ai (aa fL2 @h) aj
def UE(l:List Int):Nat->Int
 |0=>0
 |k+1=>UE l k+l.getD k 0
theorem GH{l:List Int}(h:∀x∈l,1<=x/\x<=8):∀{k:Nat},k<=l.length->0<=UE l k/\UE l k<=8*k
 |0,_=>by simp[UE]
 |k+1,hk=>by
  have h1:=GH h (k:=k) (by omega);have h2:=h _ (am (l:=l) (i:=k) (d:=0) (by omega));rw[UE];omega
def Mw(p:List Int):Int:=if ac p=true then UE (Ff p) (Ff p).length else -1
theorem Mv: -1<=Mw p/\Mw p<=64:=by
 unfold Mw;split
 .obtain⟨h1,h2⟩:=dsL_f (p:=p)
  have:=GH h2 (zB1 _);omega
 .omega
theorem kZ(p:List Int)(hl:p.length<=1048576):Fun Tryz.prog 229 [lI m0 p] [.int .i64 (Mw p)]:=by
 by_cases h:ac p=true
 .obtain⟨h1,h2⟩:=dsL_f (p:=p)
  rw[Mw,zB0 h];generalize hL:Ff p=L at*
  refine fO au [2] Tryz.func229 ?_;have cE1:=@ae;have cE2:=@dY;refine dE ai (aa @h @hL) (aD λzb=> ?_);refine ao (λ(k:Nat) S1=>(eI S1 3 (UE L k)/\eI S1 11 L.length/\eI S1 12 k)/\OwnL (S1.e 10) S1.h S1.n (PV.int .i64) ((L).length) L/\k<=L.length) (λk=>L.length-k) 0 ?_ (dC trivial aj);rintro k S1 ⟨fF1,J2,A1⟩;obtain⟨P8,H9,P9⟩:=J2.ou;have fL1:=(aa fF1 H9)
  .have b1:=GH h2 A1
   by_cases hk:k<L.length
   .have b2:=h2 _ (am (l:=L) (i:=k) (d:=0) hk)
    refine dE ai fL1 (aI λzb hc=> ?_);exact ak (k+1) (dC fL1 aj) (dC fL1 aj)
   .obtain rfl:k=L.length:=by omega
    exact dE ai fL1 aj
 .rw[Mw,zA8 h]
  rw[zA9]at h;refine fO au [2] Tryz.func229 ?_;have cE1:=@ae;have cE2:=@dY;exact dE ai @h aj
theorem kD(p:List Int)(hl:p.length<=1048576):Fun Tryz.prog 170 [lI m0 p] [.int .i64 (Mw p)]:=by
 by_cases h:ac p=true
 .obtain⟨h1,h2⟩:=dsL_f (p:=p)
  rw[Mw,zB0 h];generalize hL:Ff p=L at*
  refine fO au [2] Tryz.func170 ?_;have cE1:=@ah;have cE2:=@dV;refine dE ai (aa @h @hL) (aD λzb=> ?_);refine ao (λ(k:Nat) S1=>(eI S1 3 (UE L k)/\eI S1 5 k)/\OwnL (S1.e 4) S1.h S1.n (PV.int .i64) ((L).length) L/\k<=L.length) (λk=>L.length-k) 0 ?_ (dC trivial aj);rintro k S1 ⟨fF1,B7,A1⟩;obtain⟨C4,B2,C8⟩:=B7.ou;have fL1:=(aa fF1 B2)
  .have b1:=GH h2 A1
   by_cases hk:k<L.length
   .have b2:=h2 _ (am (l:=L) (i:=k) (d:=0) hk)
    refine dE ai fL1 (aI λzb hc=> ?_);exact ak (k+1) (dC fL1 aj) (dC fL1 aj)
   .obtain rfl:k=L.length:=by omega
    exact dE ai fL1 aj
 .rw[Mw,zA8 h]
  rw[zA9]at h;refine fO au [2] Tryz.func170 ?_;have cE1:=@ah;have cE2:=@dV;exact dE ai @h aj
theorem yI:∀{p:List Int} {i:Nat},i<p.length->(aX p).getD i 0=dG (p.getD i 0) (p.drop (i+1))
 |[],_,h=>by simp at h
 |_::_,0,_=>rfl
 |_::p,i+1,h=>yI (p:=p) (by simpa using h)
theorem FO(h:k<l.length):qq (l.take (k+1))=qq (l.take k)+l.getD k 0:=by rw[aq (d:=0) h,xR]
theorem FP{l:List Int}{B:Nat}(h:∀x∈l,0<=x/\x<=B):∀{k:Nat},k<=l.length->0<=qq (l.take k)/\qq (l.take k)<=(B*k:Nat)
 |0,_=>by simp[qq]
 |k+1,hk=>by
  have h1:=FP h (k:=k) (by omega);have h2:=h _ (am (l:=l) (i:=k) (d:=0) (by omega));rw[FO (by omega),Nat.mul_succ];omega
theorem Om(h:k<l.length):dG v (l.take (k+1))=dG v (l.take k)+bU (decide (l.getD k 0<v)):=by
 rw[aq (d:=0) h,Hp];simp[dG]
theorem lL(p:List Int)(h8:p.length<=8):Fun Tryz.prog 304 [lI m0 p] [.int .i64 (de p p.length)]:=by
 refine fO au [2] Tryz.func304 ?_;have hb:∀x∈aX p,0<=x/\x<=(8:Nat):=λx hx=>by
  obtain⟨i,hi,rfl⟩:=zE7 hx;have:=kn p i;rw[zA0,zA1 hi]at this;simp only[zH5]at this;omega
 have hq:=fA p;rw[<-Cm];refine dE ai trivial (aD λzb=> ?_);refine ao (λ(i:Nat) S1=>(S1.e 0=.p (lI m0 p)/\eI S1 3 (qq ((aX p).take i))/\S1.e 8=.p (lI m0 p)/\eI S1 9 p.length/\eI S1 10 i)/\i<=p.length) (λi=>p.length-i) 0 ?_ (dC trivial aj);rintro i S1 ⟨fL1,A1⟩
 .have b1:=FP hb (k:=i) (by omega)
  by_cases hi:i<p.length
  .have e1:((i:Int)+1).toNat=i+1:=by omega
   have e2:(p.drop (i+1)).length=p.length-(i+1):=zI6;have e3:=FO (l:=aX p) (k:=i) (by omega);rw[yI hi]at e3;generalize hD:p.drop (i+1)=D at*
   refine dE ai (aa fL1 (aa @e1 @hD)) (aI λzb hc=> ?_);refine ao (λ(j:Nat) S2=>(S2.e 0=.p (lI m0 p)/\eI S2 3 ((qq ((aX p).take i)+dG (p.getD i 0) (D.take j)))/\S2.e 8=.p (lI m0 p)/\eI S2 9 p.length/\eI S2 10 i/\eI S2 5 ((p.getD i 0))/\S2.e 18=.p (lI m0 D)/\eI S2 19 D.length/\eI S2 20 j)/\j<=D.length/\S1.n<=S2.n) (λj=>D.length-j) 0 ?_ (dC fL1 (aD λzb=> ?_));rintro j S2 ⟨fL2,A6,B1⟩
   .have b2:=wK (p.getD i 0) (D.take j)
    rw[zD3]at b2;by_cases hj:j<D.length
    .have e4:=Om (v:=p.getD i 0) hj
     by_cases hv:D.getD j 0<p.getD i 0
     .rw[zB6 hv]at e4
      refine dE ai (aa fL2 @hv) (aI λzb hc=> ?_);refine ak (j+1) (dC fL2 aj) (dC fL2 (aD λzb=> ?_));all_goals(first|(rw[e4];simp only[bU,zH3];omega)|skip)
     .rw[zB8 hv]at e4
      have hv':(D.getD j 0<p.getD i 0)=False:=zC6 hv;refine dE ai (aa fL2 @hv') (aI λzb hc=> ?_);refine ak (j+1) (dC fL2 aj) (dC fL2 (aD λzb=> ?_));all_goals(first|(rw[e4];simp[bU];done)|skip)
    .have e5:D.take j=D:=zA2 (by omega)
     refine dE ai (aa fL2 @e5) (aI λzb hc=> ?_);refine ak (i+1) (dC fL2 aj) (dC fL2 (aD λzb=> ?_));all_goals(first|(rw[e3];done)|(rw[e5,e3];done)|skip)
   all_goals(first|(simp[dG];done)|skip)
  .have e6:(aX p).take i=aX p:=zA2 (by omega)
   exact dE ai (aa fL1 @e6) aj;all_goals(first|(rw[e6];done)|skip)
theorem fj(p:List Int)(hl:p.length<=1048576):Fun Tryz.prog 228 [lI m0 p] [.int .i64 ((if ac p then de p p.length else -1))]:=by
 by_cases h:ac p=true
 .have h8:=(al h).1
  have e:(if ac p then de p p.length else -1)=de p p.length:=zB0 h;rw[e];refine fO au [2] Tryz.func228 ?_;have cE1:=@ae;have cE2:=@lL;exact dE ai @h aj
 .have e:(if ac p then de p p.length else -1)= -1:=zA8 h
  rw[e];rw[zA9]at h;refine fO au [2] Tryz.func228 ?_;have cE1:=@ae;have cE2:=@lL;exact dE ai @h aj
end Go.Gl
