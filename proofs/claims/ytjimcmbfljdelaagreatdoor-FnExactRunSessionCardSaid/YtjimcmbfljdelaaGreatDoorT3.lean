/-
  What the functions compute, and what the law asks of it: texts joined. Conditions: those that each lemma names.
-/
import Derived.Test.YtjimcmbfljdelaaGreatDoorT1
import Derived.Test.YtjimcmbfljdelaaGreatDoorGlC
import Derived.Test.YtjimcmbfljdelaaGreatDoorShelf
set_option linter.unusedSimpArgs false
set_option linter.unusedVariables false
set_option maxRecDepth 20000
set_option linter.unusedSectionVars false
set_option maxHeartbeats 16000000
variable{cs l p:List Int}{a b k n r:Nat}{m0:Bool}{f:Go.FuncId}{P:Go.Program}
namespace Go.Gl
open Go Go.Proofs
variable [Amb][NoQ]
def tf(l:List Int)(k:Nat):Int:=(l.take k).foldl min (l.getD 0 0)
def tg(l:List Int)(k:Nat):Int:=(l.take k).foldl max (l.getD 0 0)
def EA(l:List Int):Int:=tf l l.length
def EC(l:List Int):Int:=tg l l.length
theorem pi(h:k<l.length):tf l (k+1)=min (tf l k) (l.getD k 0):=by
 grind [tf,aq]
theorem pj(h:k<l.length):tg l (k+1)=max (tg l k) (l.getD k 0):=by
 grind [tg,aq]
theorem XL(h:0<l.length):tf l 1=l.getD 0 0:=by
 grind [pi,tf]
theorem XM(h:0<l.length):tg l 1=l.getD 0 0:=by
 grind [pj,tg]
theorem z7{l:List Int}{a b:Int}(hb:∀x∈l,a<=x/\x<=b)(h0:0<l.length):∀{k:Nat},k<=l.length->a<=tf l k/\tf l k<=b
 |0,_=>by grind [tf,am]
 |k+1,h=>by
  have h1:=z7 hb h0 (k:=k) (by omega);grind [am,pi]
theorem z8{l:List Int}{a b:Int}(hb:∀x∈l,a<=x/\x<=b)(h0:0<l.length):∀{k:Nat},k<=l.length->a<=tg l k/\tg l k<=b
 |0,_=>by grind [tg,am]
 |k+1,h=>by
  have h1:=z8 hb h0 (k:=k) (by omega);grind [am,pj]
def ge(p:List Int)(a b:Nat):List Int:=(p.take b).drop a
theorem iP(h:b<=p.length):(ge p a b).length=b-a:=by simp[ge];omega
theorem zo(h:a+k<b):(ge p a b).getD k 0=p.getD (a+k) 0:=by
 grind [ge]
theorem kK{x:Int}(h:x∈ge p a b):x∈p:=List.mem_of_mem_take (List.mem_of_mem_drop h)
def m9(p:List Int)(a b:Int):Bool:=decide (EC (ge p a.toNat b.toNat)-EA (ge p a.toNat b.toNat)=b-a-1)
theorem oi(l:List Int)(h0:0<l.length)(hl:l.length<=1099511627776):Fun Tryz.prog 381 [lI m0 l] [.int .i64 (EA l)]:=by
 refine fO au [2] Tryz.func381 ?_;refine dE ai trivial (aI λzb hc=> ?_);refine ao (λ(k:Nat) S1=>(S1.e 0=.p (lI m0 l)/\eI S1 3 (tf l k)/\eI S1 4 k)/\1<=k/\k<=l.length) (λk=>l.length-k) 1 ?_ (dI ai trivial (aD λzb=> ?_));rintro k S1 ⟨fL1,A1,A0⟩;refine dE ai fL1 (f9 ?_ ?_)<;>intro zb hc
 .refine ak (k+1) (dC fL1 aj) (dC fL1 (aD λzb=> ?_))
  rw[pi (by omega)]
 .rw[EA];congr 1;omega
 .rw[XL h0]
theorem oj(l:List Int)(h0:0<l.length)(hl:l.length<=1099511627776):Fun Tryz.prog 380 [lI m0 l] [.int .i64 (EC l)]:=by
 refine fO au [2] Tryz.func380 ?_;refine dE ai trivial (aI λzb hc=> ?_);refine ao (λ(k:Nat) S1=>(S1.e 0=.p (lI m0 l)/\eI S1 3 (tg l k)/\eI S1 4 k)/\1<=k/\k<=l.length) (λk=>l.length-k) 1 ?_ (dI ai trivial (aD λzb=> ?_));rintro k S1 ⟨fL1,A1,A0⟩;refine dE ai fL1 (f9 ?_ ?_)<;>intro zb hc
 .refine ak (k+1) (dC fL1 aj) (dC fL1 (aD λzb=> ?_))
  rw[pj (by omega)]
 .rw[EC];congr 1;omega
 .rw[XM h0]
theorem lK(p:List Int)(a b:Int)(h0:0<=a)(h1:a<b)(h2:b<=p.length)(hl:p.length<=8)(hb:∀x∈p,0<=x/\x<=1048576):Fun Tryz.prog 355 [lI m0 p,.int .i64 a,.int .i64 b] [.bool (m9 p a b)]:=by
 refine fO au [6] Tryz.func355 ?_;have cE1:=@oj;have cE2:=@oi;have e1:List.drop a.toNat (List.take b.toNat p)=ge p a.toNat b.toNat:=rfl;have e2:(ge p a.toNat b.toNat).length=b.toNat-a.toNat:=iP (by omega);have b1:=z7 (λx hx=>hb x (kK (a:=a.toNat) (b:=b.toNat) hx)) (by omega) (zB1 _);have b2:=z8 (λx hx=>hb x (kK (a:=a.toNat) (b:=b.toNat) hx)) (by omega) (zB1 _);rw[<-EA]at b1;rw[<-EC]at b2;refine dE ai @e1 (aD λzb=> ?_);rw[m9,e2];congr 1;rw[eq_iff_iff];omega
theorem za(a b:Int):Fun Tryz.prog 377 [.int .i64 a,.int .i64 b] [.int .i64 (min a b)]:=by
 refine fO au [4] Tryz.func377 ?_;refine dE zF trivial (f9 ?_ ?_)<;>intro zb hc;all_goals omega
theorem rz(p:List Int)(a b:Int)(h0:0<=a)(h1:a<=b)(h2:b<p.length)(hl:p.length<=8)(hb:∀x∈p,0<=x/\x<=1048576):Fun Tryz.prog 342 [lI m0 p,.int .i64 a,.int .i64 b] [.bool (m9 p a (b+1))]:=by
 refine fO au [6] Tryz.func342 ?_;have cE1:=@za;have cE2:=@bK;have e2:(ge p a.toNat (b+1).toNat).length=(b+1).toNat-a.toNat:=iP (by omega);have b1:=z7 (λx hx=>hb x (kK (a:=a.toNat) (b:=(b+1).toNat) hx)) (by omega) (zB1 _);have b2:=z8 (λx hx=>hb x (kK (a:=a.toNat) (b:=(b+1).toNat) hx)) (by omega) (zB1 _);rw[<-EA]at b1;rw[<-EC]at b2;refine dE ai trivial (aD λzb=> ?_);refine ao (λ(k:Nat) S1=>(S1.e 0=.p (lI m0 p)/\eI S1 1 a/\eI S1 2 b/\eI S1 7 (tf (ge p a.toNat (b+1).toNat) k)/\eI S1 8 (tg (ge p a.toNat (b+1).toNat) k)/\eI S1 9 ((a+k)))/\(k:Int)<=b+1-a) (λk=>(b+1-a).toNat-k) 0 ?_ (dI zF trivial (bu (λzb=> ?_) λzb=> ?_));rintro k S1 ⟨fL1,A1⟩;have e3:a+k<b+1->p.getD (a+k).toNat 0=(ge p a.toNat (b+1).toNat).getD k 0:=λh=>by
  rw[zo (by omega)];congr 1;omega
 refine dE zF fL1 (zk7 ?_ ?_ ?_ ?_ ?_ ?_ ?_)<;>intro zb hc;all_goals try rw[e3 (by omega)]
 all_goals try exact eQ
 .refine ak (k+1) (dC fL1 aj) (dC fL1 (bu ?_ ?_))<;>intro zb
  .rw[pi (by omega)]
  .rw[pj (by omega)]
 .have h4:=z7 (λx hx=>hb x (kK (a:=a.toNat) (b:=(b+1).toNat) hx)) (by omega) (show k<=(ge p a.toNat (b+1).toNat).length by omega)
  have h5:=z8 (λx hx=>hb x (kK (a:=a.toNat) (b:=(b+1).toNat) hx)) (by omega) (show k<=(ge p a.toNat (b+1).toNat).length by omega);rw[fU];omega
 .have h3:k=(ge p a.toNat (b+1).toNat).length:=by omega
  rw[m9,h3,<-EA,<-EC];congr 1;rw[eq_iff_iff];omega
 .rw[tf,List.take_zero,zo (by omega)];simp
 .rw[tg,List.take_zero,zo (by omega)];simp
def EK(p:List Int)(a k:Nat):List (List Int):=(List.range k).flatMap λi:Nat=>if(i:Int)+2<p.length/\m9 p a (a+2+i)=true then[[(a:Int)+1,a+2+i]]else[]
def EL(p:List Int)(a:Nat):List (List Int):=(List.range a).flatMap λx=>EK p x (p.length-1-x)
def Sa(p:List Int):List (List Int):=EL p p.length
theorem kR:EK p a (k+1)=EK p a k++if(k:Int)+2<p.length/\m9 p a (a+2+k)=true then[[(a:Int)+1,a+2+k]]else[]:=by
 simp[EK,zF7]
theorem wd:EL p (a+1)=EL p a++EK p a (p.length-1-a):=by
 simp[EL,zF7]
theorem uP{p:List Int}{a:Nat}:∀{k:Nat},(EK p a k).length<=k
 |0=>by simp[EK]
 |k+1=>by
  have:=uP (p:=p) (a:=a) (k:=k);grind [kR]
theorem GP{p:List Int}:∀{a:Nat},(EL p a).length<=a*p.length
 |0=>by simp[EL]
 |a+1=>by
  have h1:=GP (p:=p) (a:=a);grind [uP,wd]
theorem US(hl:p.length<=8)(ha:a<=p.length):(EL p a).length<=64:=
 zE0 GP (zE0 (zI9 ha (zB1 _)) (zI9 hl hl))
theorem tn(p:List Int)(hl:p.length<=8)(hb:∀x∈p,0<=x/\x<=1048576):Fun Tryz.prog 356 [lI m0 p] [.sl .own (List.map (cK false) (Sa p))]:=by
 refine fO au [2] Tryz.func356 ?_;have cE1:=@lK;refine dE ai trivial (aD λzb=> ?_);refine ao (λ(a:Nat) S1=>(S1.e 0=.p (lI m0 p)/\eI S1 8 p.length/\eI S1 9 a)/\OwnL (S1.e 3) S1.h S1.n (cK false) ((EL p a).length) (EL p a)/\a<=p.length) (λa=>p.length-a) 0 ?_ (dI ai trivial aj);rintro a S1 ⟨fF1,A4,A1⟩;obtain⟨A9,A2,B6⟩:=A4.ou;have fL1:=(aa fF1 A2);have c1:=US hl A1;refine dE ai fL1 (f9 ?_ ?_)<;>intro zb hc
 .refine ao (λ(k:Nat) S2=>(S2.e 0=.p (lI m0 p)/\eI S2 4 a/\eI S2 5 ((a+2+k))/\eI S2 8 p.length/\eI S2 9 a)/\OwnL (S2.e 3) S2.h S2.n (cK false) ((EL p a++EK p a k).length) (EL p a++EK p a k)/\k<=p.length-1-a/\a<p.length/\S1.n<=S2.n) (λk=>p.length-1-a-k) 0 ?_ (dI ai fL1 (bu (λzb=> ?_) λzb=> ?_))
  rintro k S2 ⟨fF2,C9,A6,B3,B1⟩;obtain⟨F3,C6,F4⟩:=C9.ou;have fL2:=(aa fF2 C6);have c2:=uP (p:=p) (a:=a) (k:=k);refine dE ai fL2 (AN ?_ ?_ ?_ ?_)<;>intro zb hc
  .refine ak (k+1) (dC fL2 aj) (dC fL2 (bu ?_ ?_))<;>intro zb
   all_goals(rw[kR,zB0 ⟨by omega,hc⟩]<;>simp[cK,zE9])
  .refine ak (k+1) (dC fL2 aj) (dC fL2 (bu ?_ ?_))<;>intro zb
   all_goals(rw[kR,zA8 (λh=>by rw[h.2]at hc;cases hc),zC0])
  .refine ak (k+1) (dC fL2 aj) (dC fL2 (bu ?_ ?_))<;>intro zb
   all_goals(rw[kR,zA8 (λh=>by omega),zC0])
  .refine ak (a+1) (dC fL2 aj) (dC fL2 (bu ?_ ?_))<;>intro zb
   all_goals(rw[wd,show k=p.length-1-a by omega])
  .simp[EK]
  .simp[EK]
 .obtain rfl:a=p.length:=by omega
  rfl
theorem kI(p:List Int)(hp:ac p=true)(hl:p.length<=8)(hb:∀x∈p,0<=x/\x<=1048576):Fun Tryz.prog 279 [lI m0 p] [.sl .own (List.map (cK false) (Sa p))]:=by
 refine fO au [2] Tryz.func279 ?_;have cE1:=@ah;have cE2:=@rz;refine dE ai trivial (aD λzb=> ?_);refine ao (λ(a:Nat) S1=>(S1.e 0=.p (lI m0 p)/\eI S1 4 a)/\OwnL (S1.e 3) S1.h S1.n (cK false) ((EL p a).length) (EL p a)/\a<=p.length) (λa=>p.length-a) 0 ?_ (dI ai trivial aj);rintro a S1 ⟨fF1,A4,A1⟩;obtain⟨A9,A2,B6⟩:=A4.ou;have fL1:=(aa fF1 A2);have c1:=US hl A1;refine dE ai (aa fL1 @hp) (f9 ?_ ?_)<;>intro zb hc
 .refine ao (λ(k:Nat) S2=>(S2.e 0=.p (lI m0 p)/\eI S2 4 a/\eI S2 5 ((a+1+k)))/\OwnL (S2.e 3) S2.h S2.n (cK false) ((EL p a++EK p a k).length) (EL p a++EK p a k)/\k<=p.length-1-a/\a<p.length/\S1.n<=S2.n) (λk=>p.length-1-a-k) 0 ?_ (dI ai fL1 (bu (λzb=> ?_) λzb=> ?_))
  rintro k S2 ⟨fF2,C9,A6,B3,B1⟩;obtain⟨F3,C6,F4⟩:=C9.ou;have fL2:=(aa fF2 C6);have c2:=uP (p:=p) (a:=a) (k:=k);have e5:(a:Int)+1+k+1=a+2+k:=by omega
  refine dE ai (aa fL2 @e5) (AN ?_ ?_ ?_ ?_)<;>intro zb hc
  .refine ak (k+1) (dC fL2 aj) (dC fL2 (bu ?_ ?_))<;>intro zb
   all_goals(rw[kR,zB0 ⟨by omega,hc⟩]<;>simp[cK,zE9])
  .refine ak (k+1) (dC fL2 aj) (dC fL2 (bu ?_ ?_))<;>intro zb
   all_goals(rw[kR,zA8 (λh=>by rw[h.2]at hc;cases hc),zC0])
  .refine ak (k+1) (dC fL2 aj) (dC fL2 (bu ?_ ?_))<;>intro zb
   all_goals(rw[kR,zA8 (λh=>by omega),zC0])
  .refine ak (a+1) (dC fL2 aj) (dC fL2 (bu ?_ ?_))<;>intro zb
   all_goals(rw[wd,show k=p.length-1-a by omega])
  .simp[EK]
  .simp[EK]
 .obtain rfl:a=p.length:=by omega
  rfl
def lW(p:List Int):Bool:=decide (0<p.length)&&decide ((Sa p).length=0)
theorem GQ(h:0<(p.length:Int)):decide (((Sa p).length:Int)=0)=lW p:=by
 grind [lW]
theorem GR(h:(p.length:Int)<=0):false=lW p:=by
 grind [lW]
theorem Gr(h:ac p=true):∀x∈p,0<=x/\x<=1048576:=λx hx=>by
 simp only[ac,zB9,zC2]at h;obtain⟨i,hi,rfl⟩:=zE7 hx;have:=ju h.2 hi;grind
theorem uq(p:List Int)(hl:p.length<=8)(hb:∀x∈p,0<=x/\x<=1048576):Fun Tryz.prog 308 [lI m0 p] [.bool (lW p)]:=by
 refine fO au [2] Tryz.func308 ?_;have cE1:=@tn;refine dE ai trivial (f9 ?_ ?_)<;>intro zb hc
 .exact GQ hc
 .exact GR hc
theorem nE(p:List Int)(hl:p.length<=1048576):Fun Tryz.prog 179 [lI m0 p] [.bool ((ac p&&lW p))]:=by
 by_cases hp:ac p=true
 .have hl8:=(al hp).1
  have hb:=Gr hp;have hq:=(al hp).2;refine fO au [2] Tryz.func179 ?_;have cE1:=@ah;have cE2:=@kI;refine dE ai (aa @hp @zF4) (f9 ?_ ?_)<;>intro zb hc
  .exact GQ hc
  .exact GR hc
 .rw[zA9]at hp
  refine fO au [2] Tryz.func179 ?_;have cE1:=@ah;have cE2:=@kI;exact dE ai (aa @hp @zH9) aj
def Wg:FuncId->List Bool:=λf=>if f=4294967296 then[true]else[]
theorem Kg:ga Wg=true:=_root_.id rfl
theorem Kb:gu Wg=false:=_root_.id rfl
theorem JZ:gs Wg=false:=_root_.id rfl
theorem JX:gr Wg=false:=_root_.id rfl
theorem Ke:gB Wg=false:=_root_.id rfl
attribute [local go_sem] Kb JZ JX Ke
attribute [local go_sem] Kg
theorem nG(l:List Int)(i j:Int)(h0:0<=i)(h1:i<=j)(h2:j<=l.length)(hl:l.length<=1099511627776):
  CallT Tryz.prog true 299 [.mu false (List.map (PV.int .i64) l),.pv (.int .i64 i),.pv (.int .i64 j)] [none,none,none] [oI (l.take i.toNat++l.drop j.toNat)]:=by
 have e1:List.take (l.length-j.toNat) (List.drop j.toNat l)=List.drop j.toNat l:=zA2 (by simp);have e2:List.take l.length l=l:=zE6;by_cases hij:i=j
 .subst hij
  refine CallT.of (sg:=Wg) (ts:=[6]) mo Tryz.func299 rfl rfl rfl rfl (by kernel_rfl) (by simp only[noRoL,noRo,zG1];exact uL) rfl rfl ?_;have cD1:=d7 (d8 8 [6]) [];refine dE dN (aa @e1 @e2) (aD λzb=> ?_);rw[zF0]
 .have f0:(i=j)=False:=zC6 hij
  have f1:(i.toNat=l.length)=False:=zC6 (by omega);have f2:(i.toNat+(List.drop j.toNat l).length<=l.length)=True:=zF5 (by simp;omega);refine CallT.of (sg:=Wg) (ts:=[6]) mo Tryz.func299 rfl rfl rfl rfl (by kernel_rfl) (by simp only[noRoL,noRo,zG1];exact uL) rfl rfl ?_;have cD1:=d7 (d8 8 [6]) [];refine dE dN (aa @e1 (aa @e2 (aa @f0 (aa @f1 @f2)))) (aD λzb=> ?_);try refine Uz ?_
  have hA:(List.take i.toNat l++List.drop j.toNat l).length=i.toNat+(List.drop j.toNat l).length:=by simp;omega
  rw[zG4 (by simp;omega),List.take_take,Nat.min_self,<-zA7,zG4 (by omega),zA2 (by omega)]
end Go.Gl
namespace Go.Gl
open Go Go.Proofs
variable [Amb][NoQ]
def f7:Nat->Int
 |0=>1
 |n+1=>(n+1)*f7 n
theorem iX:∀n,0<f7 n
 |0=>by decide
 |n+1=>Int.mul_pos (by omega) (iX n)
theorem yx{m:Nat}(h:m<=n):f7 m<=f7 n:=by
 induction h with
 |refl=>exact Int.le_refl _
 |step h ih=>
  rename_i k;refine Int.le_trans ih ?_;have:=iX k;have e:f7 (k+1)=(k:Int)*f7 k+f7 k:=by simp only[f7];rw[Int.add_mul];omega
  rw[e];have:=Int.mul_nonneg (Int.natCast_nonneg k) (Int.le_of_lt this);omega
theorem SY(h:n<=20):f7 n<=2432902008176640000:=Int.le_trans (yx h) (by decide)
theorem NR(h:n<=8):f7 n<=40320:=Int.le_trans (yx h) (by decide)
def At(n:Int):Int:=f7 n.toNat
theorem eM(n:Int)(hn:n<=20):Fun Tryz.prog 223 [.int .i64 n] [.int .i64 (At n)]:=by
 refine fO au [2] Tryz.func223 ?_;refine dE zF trivial (aD λzb=> ?_);refine ao (λ(i:Nat) S1=>(eI S1 3 (f7 i)/\eI S1 5 n/\eI S1 6 i)/\(i:Int)<=max n 0) (λi=>n.toNat-i) 0 ?_ (dI zF trivial aj);rintro i S1 ⟨fL1,A1⟩;refine dE zF fL1 (AN ?_ ?_ ?_ ?_)<;>intro zb hc;all_goals have h2:=iX i
 all_goals try have h1:=SY (n:=i+1) (by omega)
 all_goals try have h3:=iX (i+1)
 all_goals have e:f7 i*(i+1)=f7 (i+1):=by simp only[f7];rw[Int.mul_comm]
 all_goals try rw[e]
 all_goals try exact eQ
 .exact ak (i+1) (dC fL1 aj) (dC fL1 aj)
 .rw[At];congr 1;omega
def dG(v:Int):List Int->Int
 |[]=>0
 |w::p=>bU (decide (w<v))+dG v p
def aX:List Int->List Int
 |[]=>[]
 |v::p=>dG v p::aX p
theorem fA:∀p:List Int,(aX p).length=p.length
 |[]=>rfl
 |_::p=>by simp[aX,fA p]
theorem wK(v:Int):∀p:List Int,0<=dG v p/\dG v p<=p.length
 |[]=>by simp[dG]
 |w::p=>by
  have:=wK v p;have:=ik (decide (w<v));grind [dG]
theorem kn:∀(p:List Int) (k:Nat),0<=(aX p).getD k 0/\(aX p).getD k 0<=p.length
 |[],k=>by simp[aX]
 |v::p,0=>by have:=wK v p;grind [aX]
 |v::p,k+1=>by have:=kn p k;grind [aX]
def cY:List Int->Int
 |[]=>0
 |c::cs=>c*f7 cs.length+cY cs
theorem d5(p:List Int)(hl:p.length<=1048576):Fun Tryz.prog 176 [lI m0 p] [oI ((if ac p then aX p else[]))]:=by
 refine fO au [2] Tryz.func176 ?_;have cE1:=@bw;have cE2:=@ah;have cD1:=d7 (d8 13 [10]) [(0,10)];refine dE zF trivial (aD ?_)<;>intro zb;refine nw (λ(k:Nat) (out:List Int) S1=>(S1.e 0=.p (lI m0 p)/\eI S1 4 k)/\OwnL (S1.e 3) S1.h S1.n (PV.int .i64) ((out).length) out/\k<=p.length/\(0<k->ac p=true)/\aX p=out++aX (p.drop k)/\out.length=k) (λk _=>p.length-k) 0 [] ?_ (dI ai trivial aj);rintro k out S1 ⟨fF1,A4,A1,A0,A3,B5⟩;obtain⟨A9,A2,B6⟩:=A4.ou;have fL1:=(aa fF1 A2);refine dE ai fL1 (pC ?_ ?_ ?_)<;>(intro zb hc;repeat (have zc:=zb.1;replace zb:=zb.2))
 .refine nw (λ(i:Nat) (n:Int) S2=>(S2.e 0=.p (lI m0 p)/\S2.e 3=.ref A9 0 (out).length/\S2.h A9=.live false (List.map (PV.int .i64) out)/\eI S2 4 k/\eI S2 5 n/\eI S2 6 i)/\k<i/\i<=p.length/\0<=n/\n<=i/\n+dG (p.getD k 0) (p.drop i)=dG (p.getD k 0) (p.drop (k+1))/\S1.n<=S2.n) (λi _=>p.length-i) (k+1) 0 ?_ (dI zF fL1 aj)
  rintro i n S2 ⟨fF2,A6,B3,C1,D0,D9,B1⟩;have G8:=dJ (x:=A9) (n:=S2.n);have fL2:=(aa fF2 G8);refine dE zF fL2 (Hx ?_ ?_ ?_ ?_ ?_ ?_ ?_ ?_ ?_ ?_)<;>(intro zb hc;repeat (have zc:=zb.1;replace zb:=zb.2));all_goals have hb:=ik (decide (p.getD i 0<p.getD k 0))
  all_goals try exact eQ
  .refine jC (i+1) (n+bU (decide (p.getD i 0<p.getD k 0))) (dC fL2 aj) (dC fL2 (aD ?_))<;>intro zb
   rw[<-D9,aN hc,dG,Int.add_assoc]
  .refine jC (k+1) (out++[n]) (dC fL2 aj) (dC fL2 (bu ?_ ?_))<;>intro zb
   .intro _;assumption
   .rw[A3,aN (by omega),aX,<-D9,zA6 (by omega:p.length<=i),dG,Int.add_zero]
 .have:k=0:=by
   rcases Nat.eq_zero_or_pos k with h|h
   .exact h
   .rw[A0 h]at hc;cases hc
  rw[zA4 (by omega:out.length=0)];simp[hc]
 .have hp:ac p=true:=by
   rcases Nat.eq_zero_or_pos k with h|h
   .rw[zA4 (by omega:p.length=0)];rfl
   .exact A0 h
  rw[zB0 hp,A3,zA6 (by omega),aX,zC0]
theorem iv(p:List Int)(hl:p.length<=1048576):Fun Tryz.prog 222 [lI m0 p] [oI (aX p)]:=by
 refine fO au [2] Tryz.func222 ?_;refine dE ai trivial (aD ?_)<;>intro zb;refine nw (λ(k:Nat) (out:List Int) S1=>(S1.e 0=.p (lI m0 p)/\S1.e 10=.p (lI m0 p)/\eI S1 11 p.length/\eI S1 12 k)/\OwnL (S1.e 3) S1.h S1.n (PV.int .i64) ((out).length) out/\k<=p.length/\aX p=out++aX (p.drop k)/\out.length=k) (λk _=>p.length-k) 0 [] ?_ (dI ai trivial aj);rintro k out S1 ⟨fF1,A4,A1,A0,A3⟩;obtain⟨A9,A2,B6⟩:=A4.ou;have fL1:=(aa fF1 A2);refine dE ai fL1 (f9 ?_ ?_)<;>(intro zb hc;repeat (have zc:=zb.1;replace zb:=zb.2))
 .refine nw (λ(i:Nat) (n:Int) S2=>(S2.e 0=.p (lI m0 p)/\S2.e 10=.p (lI m0 p)/\eI S2 11 p.length/\S2.e 3=.ref A9 0 (out).length/\S2.h A9=.live false (List.map (PV.int .i64) out)/\eI S2 12 k/\eI S2 5 (p.getD k 0)/\eI S2 6 n/\S2.e 20=.p (lI m0 (p.drop (k+1)))/\eI S2 21 ((p.drop (k+1)).length)/\eI S2 22 i)/\i<=(p.drop (k+1)).length/\0<=n/\n<=i/\n+dG (p.getD k 0) ((p.drop (k+1)).drop i)=dG (p.getD k 0) (p.drop (k+1))/\S1.n<=S2.n) (λi _=>(p.drop (k+1)).length-i) 0 0 ?_ (dI zF fL1 aj)
  rintro i n S2 ⟨fF2,A6,B3,C1,D0,B1⟩;have G8:=dJ (x:=A9) (n:=S2.n);have fL2:=(aa fF2 G8);refine dE zF fL2 (Hx ?_ ?_ ?_ ?_ ?_ ?_ ?_ ?_ ?_ ?_)<;>(intro zb hc;repeat (have zc:=zb.1;replace zb:=zb.2));all_goals have hd:(p.drop (k+1)).length=p.length-(k+1):=by simp
  all_goals try exact eQ
  .refine jC (i+1) (n+1) (dC fL2 aj) (dC fL2 (aD ?_))<;>intro zb
   rw[<-D0,aN (by assumption:i<(p.drop (k+1)).length),dG,bU,zB6 hc,zB0 rfl,Int.add_assoc]
  .refine jC (i+1) n (dC fL2 aj) (dC fL2 (aD ?_))<;>intro zb
   rw[<-D0,aN (by assumption:i<(p.drop (k+1)).length),dG,bU,zB8 (by omega),zA8 (by decide),Int.zero_add]
  .refine jC (k+1) (out++[n]) (dC fL2 aj) (dC fL2 (aD ?_))<;>intro zb
   rw[A0,aN (by omega:k<p.length),aX,<-D0,zA6 (by omega:(p.drop (k+1)).length<=i),dG,Int.add_zero]
 .rw[A0,zA6 (by omega),aX,zC0]
theorem jt:∀{cs:List Int},(∀k,0<=cs.getD k 0)->0<=cY cs
 |[],_=>by simp[cY]
 |c::cs,h=>by
  have h0:=h 0;rw[List.getD_cons_zero]at h0;have:=jt (cs:=cs) λk=>by have:=h (k+1);grind
  have:=Int.mul_nonneg h0 (Int.le_of_lt (iX cs.length));rw[cY];omega
theorem o8:∀{cs:List Int},cs.length<=8->(∀k,cs.getD k 0<=8)->cY cs<=322560*cs.length
 |[],_,_=>by simp[cY]
 |c::cs,hl,h=>by
  have h0:=h 0;rw[List.getD_cons_zero]at h0;simp only[zC1]at hl |-
  have h1:=o8 (cs:=cs) (by omega) λk=>by have:=h (k+1);grind
  have h2:=NR (n:=cs.length) (by omega);have h3:=iX cs.length;have:c*f7 cs.length<=8*f7 cs.length:=Int.mul_le_mul_of_nonneg_right h0 (Int.le_of_lt h3);rw[cY];omega
theorem xU(h:k<cs.length):cY (cs.drop k)=cs.getD k 0*f7 (cs.length-(k+1))+cY (cs.drop (k+1)):=by
 grind [aN,cY]
theorem gE(p:List Int)(hl:p.length<=1048576):Fun Tryz.prog 94 [lI m0 p] [.int .i64 ((if ac p then cY (aX p)else -1))]:=by
 by_cases hp:ac p=true
 .rw[zB0 hp]
  have h8:p.length<=8:=by grind [ac]
  have hf:=d5 (m0:=m0) p hl;rw[zB0 hp]at hf;have hcl:=fA p;have hca:=kn p;generalize aX p=cs at*
  have hr:=o8 (cs:=cs) (by omega) (λk=>by have:=(hca k).2;omega);refine fO au [2] Tryz.func94 ?_;have cE1:=@ah;have cE2:=@d5;have cE1:=@hf;have cE2:=@ah;refine dE ai @hp (aD λzb=> ?_);refine nw (λ(k:Nat) (r:Int) S1=>(eI S1 4 r/\eI S1 5 k)/\OwnL (S1.e 3) S1.h S1.n (PV.int .i64) ((cs).length) cs/\k<=cs.length/\r*f7 (cs.length-k)+cY (cs.drop k)=cY cs/\0<=r) (λk _=>cs.length-k) 0 0 ?_ (dI zF trivial aj);rintro k r S1 ⟨fF1,A4,A1,A0,A3⟩;obtain⟨A9,A2,B6⟩:=A4.ou;have fL1:=(aa fF1 A2);have cE1:=@ah;have cE2:=@d5;refine dE zF fL1 (TX ?_ ?_ ?_ ?_ ?_ ?_ ?_ ?_)<;>intro zb hc;all_goals have ha:=hca k
  all_goals try rw[xU hc]at A0
  all_goals try
   have hF:=iX (cs.length-(k+1));have e0:f7 (cs.length-k)=((cs.length:Int)-k)*f7 (cs.length-(k+1)):=by
    rw[show cs.length-k=(cs.length-(k+1))+1 by omega,f7];congr 1;omega
   have e1:r*f7 (cs.length-k)=(r*((cs.length:Int)-k))*f7 (cs.length-(k+1)):=by rw[e0,Int.mul_assoc]
   have e2:0<=r*((cs.length:Int)-k):=Int.mul_nonneg (by omega) (by omega);have e3:(r*((cs.length:Int)-k))*1<=(r*((cs.length:Int)-k))*f7 (cs.length-(k+1)):=Int.mul_le_mul_of_nonneg_left (by omega) e2;have e4:=jt (cs:=cs.drop (k+1)) λi=>by rw[zA0,zG0,<-zA0];exact(hca _).1
   have e5:0<=cs.getD k 0*f7 (cs.length-(k+1)):=Int.mul_nonneg ha.1 (by omega)
  all_goals try exact eQ
  .refine jC (k+1) (r*((cs.length:Int)-k)+cs.getD k 0) (dC fL1 aj) (dC fL1 (aD λzb=> ?_))
   rw[Int.add_mul,<-e1,<-A0];omega
  .rw[zA6 (by omega),show cs.length-k=0 by omega]at A0
   simp[f7,cY]at A0;exact A0
 .rw[zA8 hp]
  have hp':ac p=false:=by simpa using hp
  refine fO au [2] Tryz.func94 ?_;have cE1:=@ah;have cE2:=@d5;refine dE ai @hp' ?_;all_goals try(apply nn;repeat' first|exact jb|apply aa|(apply nq;intro zb hc)|(apply np;intro zb)|intro j')<;>try apply nu
theorem gL(p:List Int)(hl:p.length<=1048576):Fun Tryz.prog 120 [lI m0 p] [.int .i64 ((if ac p then cY (aX p)else -1))]:=by
 by_cases hp:ac p=true
 .rw[zB0 hp]
  have h8:p.length<=8:=by grind [ac]
  have hf:=iv (m0:=m0) p hl;have hcl:=fA p;have hca:=kn p;generalize aX p=cs at*
  have hr:=o8 (cs:=cs) (by omega) (λk=>by grind);refine fO au [2] Tryz.func120 ?_;have cE1:=@ae;have cE2:=@iv;have cE3:=@eM;have cE1:=@hf;have cE2:=@ae;refine dE ai @hp (aD λzb=> ?_);refine nw (λ(k:Nat) (r:Int) S1=>(S1.e 0=.p (lI m0 p)/\eI S1 11 cs.length/\eI S1 3 r/\eI S1 12 k)/\OwnL (S1.e 10) S1.h S1.n (PV.int .i64) ((cs).length) cs/\k<=cs.length/\r+cY (cs.drop k)=cY cs/\0<=r) (λk _=>cs.length-k) 0 0 ?_ (dI zF trivial aj);rintro k r S1 ⟨fF1,J2,A1,A0,A3⟩;obtain⟨P8,H9,P9⟩:=J2.ou;have fL1:=(aa fF1 H9);have cE1:=@ae;have cE2:=@iv;refine dE zF fL1 (Hx ?_ ?_ ?_ ?_ ?_ ?_ ?_ ?_ ?_ ?_)<;>intro zb hc;all_goals have ha:=hca k
  all_goals try rw[xU hc]at A0
  all_goals try
   have hF:=iX (cs.length-(k+1));have e0:At ((p.length:Int)-1-k)=f7 (cs.length-(k+1)):=by rw[At];congr 1;omega
   have e4:=jt (cs:=cs.drop (k+1)) λi=>by rw[zA0,zG0,<-zA0];exact(hca _).1
   have e5:0<=cs.getD k 0*f7 (cs.length-(k+1)):=Int.mul_nonneg ha.1 (by omega);try rw[e0]
  all_goals try exact eQ
  .exact jC (k+1) (r+cs.getD k 0*f7 (cs.length-(k+1))) (dC fL1 aj) (dC fL1 aj)
  .rw[zA6 (by omega),cY]at A0;omega
 .rw[zA8 hp]
  have hp':ac p=false:=by simpa using hp
  refine fO au [2] Tryz.func120 ?_;have cE1:=@ae;have cE2:=@iv;have cE3:=@eM;refine dE ai @hp' ?_;all_goals try(apply nn;repeat' first|exact jb|apply aa|(apply nq;intro zb hc)|(apply np;intro zb)|intro j')<;>try apply nu
def pq(n:Nat):List Int:=(List.range n).map λi:Nat=>(i:Int)+1
theorem CF:pq (n+1)=pq n++[(n:Int)+1]:=by simp[pq,zF7]
theorem gZ:(pq n).length=n:=by simp[pq]
theorem nM(n:Int)(h0:0<=n)(h1:n<=1099511627776):Fun Tryz.prog 298 [.int .i64 n] [oI (pq n.toNat)]:=by
 refine fO au [2] Tryz.func298 ?_;refine dE zF trivial (aD λzb=> ?_);refine ao (λ(k:Nat) S1=>(eI S1 0 n/\eI S1 6 n/\eI S1 7 k)/\OwnL (S1.e 3) S1.h S1.n (PV.int .i64) ((pq k).length) (pq k)/\(k:Int)<=n) (λk=>n.toNat-k) 0 ?_ (dI zF trivial aj);rintro k S1 ⟨fF1,A4,A1⟩;obtain⟨A9,A2,B6⟩:=A4.ou;have fL1:=(aa fF1 A2);refine dE zF fL1 (AN ?_ ?_ ?_ ?_)<;>intro zb hc;all_goals have hl:=gZ (n:=k)
 all_goals try exact eQ
 .refine ak (k+1) (dC fL1 aj) (dC fL1 (bu ?_ ?_))<;>intro zb
  all_goals simp[CF,gZ]
 .rw[show k=n.toNat by omega]
theorem bd(n:Int)(h0:0<=n)(h1:n<=8):Fun Tryz.prog 283 [.int .i64 n] [oI (pq n.toNat)]:=by
 refine fO au [2] Tryz.func283 ?_;refine dE zF trivial (aD λzb=> ?_);refine ao (λ(k:Nat) S1=>(eI S1 0 n/\eI S1 4 ((k+1)))/\OwnL (S1.e 3) S1.h S1.n (PV.int .i64) ((pq k).length) (pq k)/\(k:Int)<=n) (λk=>n.toNat-k) 0 ?_ (dI zF trivial aj);rintro k S1 ⟨fF1,A4,A1⟩;obtain⟨A9,A2,B6⟩:=A4.ou;have fL1:=(aa fF1 A2);refine dE zF fL1 (Vp ?_ ?_ ?_ ?_ ?_)<;>intro zb hc;all_goals have hl:=gZ (n:=k)
 all_goals try exact eQ
 .refine ak (k+1) (dC fL1 aj) (dC fL1 (bu ?_ ?_))<;>intro zb
  all_goals simp[CF,gZ]
 .rw[show k=n.toNat by omega]
def Wi:FuncId->List Bool:=λf=>if f=299 then[true]else[]
theorem Wh:Wi f=if f=299 then[true]else[]:=_root_.id rfl
theorem Pz:ga Wi=false/\gu Wi=false/\gs Wi=false/\gr Wi=false/\gB Wi=false:=⟨rfl,rfl,rfl,rfl,rfl⟩
attribute [go_sem] Wh Pz
def lG:List Int->List Int->List Int
 |[],_=>[]
 |c::cs,left=>left.getD c.toNat 0::lG cs (left.take c.toNat++left.drop (c.toNat+1))
def lh:List Int->Bool
 |[]=>true
 |c::cs=>decide (0<=c)&&decide (c<=cs.length)&&lh cs
theorem yH(h:lh (cs.drop k)=true)(hk:k<cs.length):0<=cs.getD k 0/\cs.getD k 0+k<cs.length/\lh (cs.drop (k+1))=true:=by
 rw[aN hk,lh]at h;simp only[zB9,zC2,zI6]at h;exact⟨h.1.1,by omega,h.2⟩
theorem iT(cs:List Int)(hl:cs.length<=8)(hc:lh cs=true):Fun Tryz.prog 224 [lI m0 cs] [oI (lG cs (pq cs.length))]:=by
 have hid:=gZ (n:=cs.length);refine fO Wi [2] Tryz.func224 ?_;have cE1:=@nM;refine dE ai trivial (aD λzb=> ?_);refine ku (λ(k:Nat) (out:List Int) (left:List Int) S1=>(S1.e 0=.p (lI m0 cs)/\S1.e 11=.p (lI m0 cs)/\eI S1 12 cs.length/\eI S1 13 k)/\OwnM (S1.e 3) S1.h S1.n (PV.int .i64) ((left).length) left/\OwnL (S1.e 4) S1.h S1.n (PV.int .i64) ((out).length) out/\k<=cs.length/\out.length=k/\left.length=cs.length-k/\lh (cs.drop k)=true/\lG cs (pq cs.length)=out++lG (cs.drop k) left/\NId (S1.e 4) (S1.e 3)) (λk _ _=>cs.length-k) 0 [] (pq cs.length) ?_ (dI zF trivial aj);rintro k out left S1 ⟨fF1,A4,B7,A1,A0,A3,B5,C7,A8⟩;obtain⟨A9,V0,A2,B6⟩:=A4.ou;obtain⟨C4,B2,C8⟩:=B7.ou;have di1_4i1_3:=(A8).ou B2.1 A2.1;have fL1:=(aa fF1 (aa A2 (aa B2 di1_4i1_3)));have cM1:=@nG;refine dE zF fL1 (yP ?_ ?_ ?_ ?_ ?_ ?_ ?_ ?_ ?_ ?_ ?_ ?_ ?_ ?_)<;>intro zb hc;all_goals rcases Nat.lt_or_ge k cs.length with hk|hk
 all_goals try (have q0:=yH B5 hk;obtain⟨q1,q2,q3⟩:=q0)
 all_goals try exact eQ
 .refine gG (k+1) (out++[left.getD (cs.getD k 0).toNat 0]) (left.take (cs.getD k 0).toNat++left.drop ((cs.getD k 0).toNat+1)) (dC fL1 aj) (dC fL1 (bu ?_ ?_))<;>intro zb
  .rw[show(cs.getD k 0+1).toNat=(cs.getD k 0).toNat+1 by omega]
  .rw[C7,aN (by omega:k<cs.length),lG]
 .rw[C7,zA6 (by omega:cs.length<=k),lG,zC0]
theorem iL(cs:List Int)(hl:cs.length<=8)(hc:lh cs=true):Fun Tryz.prog 273 [lI m0 cs] [oI (lG cs (pq cs.length)),.bool true]:=by
 have hid:=gZ (n:=cs.length);refine fO au [2,3] Tryz.func273 ?_;have cE1:=@aA;have cE2:=@bd;have cD1:=d7 (d8 17 [0,7,15]) [(0,1),(0,2),(0,3),(0,4),(0,5),(0,6),(0,8),(7,8),(0,9),(7,9),(0,10),(7,10),(0,11),(7,11),(0,12),(7,12),(0,13),(7,13),(0,14),(7,14)];refine dE ai trivial (aI λzb hc=> ?_);refine ku (λ(k:Nat) (out:List Int) (left:List Int) S1=>(S1.e 0=.p (lI m0 cs)/\eI S1 6 k)/\OwnL (S1.e 4) S1.h S1.n (PV.int .i64) ((left).length) left/\OwnL (S1.e 5) S1.h S1.n (PV.int .i64) ((out).length) out/\k<=cs.length/\out.length=k/\left.length=cs.length-k/\lh (cs.drop k)=true/\lG cs (pq cs.length)=out++lG (cs.drop k) left/\NId (S1.e 5) (S1.e 4)) (λk _ _=>cs.length-k) 0 [] (pq cs.length) ?_ (dI zF trivial aj);rintro k out left S1 ⟨fF1,B7,A7,A1,A0,A3,B5,C7,A8⟩;obtain⟨C4,B2,C8⟩:=B7.ou;obtain⟨B4,A5,B8⟩:=A7.ou;have di1_5i1_4:=(A8).ou A5.1 B2.1;have fL1:=(aa fF1 (aa B2 (aa A5 di1_5i1_4)));refine dE zF fL1 ?_;all_goals try(apply nn;repeat' first|exact jb|apply aa|(apply nq;intro zb hc)|(apply np;intro zb)|intro j')<;>try apply nu
 all_goals rcases Nat.lt_or_ge k cs.length with hk|hk
 all_goals try (have q0:=yH B5 hk;obtain⟨q1,q2,q3⟩:=q0)
 all_goals try exact eQ
 .refine gG (k+1) (out++[left.getD (cs.getD k 0).toNat 0]) (left.take (cs.getD k 0).toNat++left.drop ((cs.getD k 0).toNat+1)) (dC fL1 aj) (dC fL1 (bu ?_ ?_))<;>intro zb
  .rw[show(cs.getD k 0+1).toNat=(cs.getD k 0).toNat+1 by omega]
   congr 1;exact zA2 (by simp)
  .rw[C7,aN (by omega:k<cs.length),lG]
 .rw[C7,zA6 (by omega:cs.length<=k),lG,zC0]
def facn:Nat->Nat
 |0=>1
 |n+1=>(n+1)*facn n
theorem ss:∀n,0<facn n
 |0=>by decide
 |n+1=>Nat.mul_pos (by omega) (ss n)
theorem rb:∀n,f7 n=(facn n:Int)
 |0=>rfl
 |n+1=>by rw[f7,facn,rb n];simp
def cdAt(n r k:Nat):Nat:=(r/facn (n-1-k)) % (n-k)
def Pp(n r:Nat):List Int:=(List.range n).map λk=>(cdAt n r k:Int)
theorem py:(Pp n r).length=n:=by simp[Pp]
theorem Fv(h:k<n):(Pp n r).getD k 0=cdAt n r k:=by
 rw[zA0];simp[Pp,h]
theorem OA:lh (Pp n r)=true:=by
 have key:∀m,m<=n->lh ((Pp n r).drop (n-m))=true:=by
  intro m
  induction m with
  |zero=>intro _;rw[Nat.sub_zero,zA6 (by rw[py];exact zB1 n)];rfl
  |succ m ih=>
   intro hm;have hlt:n-(m+1)<n:=by omega
   rw[aN (by rw[py];exact hlt),lh,show n-(m+1)+1=n-m by omega,ih (by omega),Fv hlt];simp only[zI6,py,zG1,zB9,zC2];have:cdAt n r (n-(m+1))<n-(n-(m+1)):=Nat.mod_lt _ (by omega);omega
 have:=key n (zB1 n)
 rwa [Nat.sub_self,zI3]at this
theorem wx(h:k<n):facn (n-k)=(n-k)*facn (n-1-k):=by
 rw[show n-k=(n-1-k)+1 by omega,facn]
def kN(n r:Int):Bool:=decide (0<=n)&&decide (n<=8)&&decide (0<=r)&&decide (r<f7 n.toNat)
def LV(n r:Int):List Int:=if kN n r then lG (Pp n.toNat r.toNat) (pq n.toNat)else[]
theorem qe(n r:Int)(hr:r<=9223372036854775807):Fun Tryz.prog 121 [.int .i64 n,.int .i64 r] [oI (LV n r),.bool (kN n r)]:=by
 by_cases hn:0<=n/\n<=8
 .obtain⟨N,rfl⟩:=zG6 hn.1
  have hf8:=NR (n:=N) (by omega);have hfp:=iX N;by_cases h:0<=r/\r<f7 N
  .obtain⟨Rr,rfl⟩:=zG6 h.1
   have hok:kN N Rr=true:=by simp[kN];omega
   have hcl:=py (n:=N) (r:=Rr);have hci:=OA (n:=N) (r:=Rr);rw[LV,zB0 hok,hok];simp only[zC9];refine fO au [4,5] Tryz.func121 ?_;have cE1:=@eM;have cE2:=@iT;refine dE zF trivial (Hx ?_ ?_ ?_ ?_ ?_ ?_ ?_ ?_ ?_ ?_)<;>intro zb hc;all_goals try simp only[At,zC9]at hc
   all_goals try exact eQ
   refine ku (λ(k:Nat) (rk:Nat) (out:List Int) S1=>(eI S1 0 N/\eI S1 1 rk/\eI S1 26 N/\eI S1 27 k)/\OwnL (S1.e 6) S1.h S1.n (PV.int .i64) ((out).length) out/\k<=N/\out=(Pp N Rr).take k/\rk=Rr % facn (N-k)) (λk _ _=>N-k) 0 Rr [] ?_ (dI zF trivial (aD λzb=> ?_));rintro k rk out S1 ⟨fF1,C3,A1,A0,A3⟩;obtain⟨C5,B9,E0⟩:=C3.ou;have fL1:=(aa fF1 B9);refine dE zF fL1 (aaq ?_ ?_ ?_ ?_ ?_ ?_ ?_ ?_ ?_ ?_ ?_)<;>intro zb hc;all_goals try (have hkk:k<N\/N<=k:=Nat.lt_or_ge k N;rcases hkk with hk|hk)
   all_goals try (have e9:out.length=k:=by rw[A0,zD3];omega)
   all_goals try
    have hkk:=hk;have e0:At ((N:Int)-1-k)=(facn (N-1-k):Int):=by rw[At,rb];congr 2;omega
    have e1:=ss (N-1-k);have e2:facn (N-k)=(N-k)*facn (N-1-k):=wx (Nat.lt_of_not_le (λh'=>absurd hk (Nat.not_lt.2 h')));have e3:facn (N-k)<=facn (N-k)*1:=by omega
    have e5:rk/facn (N-1-k)<=rk:=Nat.div_le_self _ _;have e6:rk<=Rr:=by rw[A3];exact Nat.mod_le _ _
    have e7:((rk:Int)).tdiv (facn (N-1-k):Int)=((rk/facn (N-1-k):Nat):Int):=(Int.ofNat_tdiv _ _).symm;have e8:((rk:Int)).tmod (facn (N-1-k):Int)=((rk % facn (N-1-k):Nat):Int):=(Int.ofNat_tmod _ _).symm;have e10:(0:Int)<=((rk/facn (N-1-k):Nat):Int):=Int.natCast_nonneg _;have e11:((rk/facn (N-1-k):Nat):Int)<=40320:=by
     have:rk/facn (N-1-k)<=Rr:=zE0 e5 e6;have:((rk/facn (N-1-k):Nat):Int)<=(Rr:Int):=Int.ofNat_le.2 this;omega
   all_goals try rw[e0]at hc
   all_goals try rw[e0,e7]
   all_goals try exact eQ
   .refine gG (k+1) (rk % facn (N-1-k)) (out++[((rk/facn (N-1-k):Nat):Int)]) (dC fL1 aj) (dC fL1 (bu ?_ ?_))<;>intro zb
    .rw[List.take_add_one,<-A0]
     congr 1;have:=Fv (r:=Rr) hk;rw[zA0,zA1 (by rw[hcl];exact hk),zH5]at this;rw[zA1 (by rw[hcl];exact hk),Option.toList_some,this,cdAt,A3,e2,Nat.mul_comm,Nat.mod_mul_right_div_self]
    .rw[A3,e2,show N-(k+1)=N-1-k by omega,Nat.mod_mul_left_mod]
   .rw[A0,zA2 (by omega)];exact hci
   .rw[A0,zA2 (by omega),hcl]
   .rw[Nat.mod_eq_of_lt];have:=rb N;omega
  .have hok:kN N r=false:=by simp[kN];omega
   rw[LV,hok];refine fO au [4,5] Tryz.func121 ?_;have cE1:=@eM;have cE2:=@iT;refine dE zF trivial (f9 ?_ ?_)<;>intro zb hc;all_goals try simp only[At,zC9]at hc
   all_goals try exact eQ
 .have hok:kN n r=false:=by simp[kN];omega
  rw[LV,hok];refine fO au [4,5] Tryz.func121 ?_;have cE1:=@eM;have cE2:=@iT;refine dE zF trivial (f9 ?_ ?_)<;>intro zb hc;all_goals try simp only[At,zC9]at hc
  all_goals try exact eQ
theorem pX(n r:Int)(hr:r<=9223372036854775807):Fun Tryz.prog 158 [.int .i64 n,.int .i64 r] [oI (LV n r),.bool (kN n r)]:=by
 by_cases hn:0<=n/\n<=8
 .obtain⟨N,rfl⟩:=zG6 hn.1
  by_cases h:0<=r
  .obtain⟨Rr,rfl⟩:=zG6 h
   have hcl:=py (n:=N) (r:=Rr);have hci:=OA (n:=N) (r:=Rr);refine fO au [4,5] Tryz.func158 ?_;have cE1:=@aA;have cE2:=@iL;refine dE ai trivial (aI λzb hc=> ?_);refine ku (λ(j:Nat) (rk:Nat) (c:List Int) S1=>(eI S1 0 N/\eI S1 1 rk/\eI S1 7 ((j-1)))/\OwnL (S1.e 6) S1.h S1.n (PV.int .i64) ((c).length) c/\j<=N/\c.length=N/\c.drop j=(Pp N Rr).drop j/\rk=Rr/facn (N-j)/\(rk:Int)<=Rr) (λj _ _=>j) N Rr (List.replicate N 0) ?_ (dI zF trivial (bu (λzb=> ?_) λzb=> ?_));rintro j rk c S1 ⟨fF1,C3,A1,A0,A3,B5,C7⟩;obtain⟨C5,B9,E0⟩:=C3.ou;have fL1:=(aa fF1 B9);refine dE zF fL1 (yP ?_ ?_ ?_ ?_ ?_ ?_ ?_ ?_ ?_ ?_ ?_ ?_ ?_ ?_)<;>intro zb hc;all_goals try (have hjj:j=0\/∃J,j=J+1:=(by cases j with|zero=>exact .inl rfl|succ J=>exact .inr ⟨J,rfl⟩);rcases hjj with hj|⟨J,hj⟩)
   all_goals try subst hj
   all_goals try
    have e0:((N:Int)-(((J+1:Nat):Int)-1))=((N-J:Nat):Int):=by omega
    have e7:((rk:Int)).tdiv ((N-J:Nat):Int)=((rk/(N-J):Nat):Int):=(Int.ofNat_tdiv _ _).symm;have e8:((rk:Int)).tmod ((N-J:Nat):Int)=((rk % (N-J):Nat):Int):=(Int.ofNat_tmod _ _).symm;have e5:rk/(N-J)<=rk:=Nat.div_le_self _ _;have e10:(0:Int)<=((rk/(N-J):Nat):Int):=Int.natCast_nonneg _;have e11:((rk/(N-J):Nat):Int)<=Rr:=Int.le_trans (Int.ofNat_le.2 e5) C7
   all_goals try rw[e0,e7]
   all_goals try exact eQ
   .refine gG J (rk/(N-J)) (c.set J ((rk % (N-J):Nat):Int)) (dC fL1 aj) (dC fL1 (yQ ?_ ?_ ?_))<;>intro zb
    .rw[e8];congr 1;omega
    .have hJ:J<N:=by omega
     have hx:(c.set J ((rk % (N-J):Nat):Int)).getD J 0=((rk % (N-J):Nat):Int):=by
      rw[zA0,List.getElem?_set_self (by omega)];rfl
     rw[aN (by simp;omega),hx,aN (s:=Pp N Rr) (by omega),Fv hJ,List.drop_set,zB0 (by omega),A3,cdAt,B5,show N-(J+1)=N-1-J by omega]
    .rw[B5,Nat.div_div_eq_div_mul,wx (by omega:J<N),show N-(J+1)=N-1-J by omega,Nat.mul_comm]
   .have hok:kN N Rr=false:=by
     have h1:¬Rr<facn N:=λh'=>by rw[Nat.sub_zero,Nat.div_eq_of_lt h']at B5;omega
     have:=rb N;simp[kN];omega
    rw[LV,hok];rfl
   .have hok:kN N Rr=false:=by
     have h1:¬Rr<facn N:=λh'=>by rw[Nat.sub_zero,Nat.div_eq_of_lt h']at B5;omega
     have:=rb N;simp[kN];omega
    rw[hok]
   .rw[zI3,zI3]at A3;rw[A3];exact hci
   .have hok:kN N Rr=true:=by
     have h1:Rr<facn N:=by
      rcases Nat.lt_or_ge Rr (facn N)with h'|h'
      .exact h'
      .have:=Nat.div_pos h' (ss N);rw[Nat.sub_zero]at B5;omega
     have:=rb N;simp[kN];omega
    rw[zI3,zI3]at A3;rw[LV,hok,A3,hcl];rfl
   .have hok:kN N Rr=true:=by
     have h1:Rr<facn N:=by
      rcases Nat.lt_or_ge Rr (facn N)with h'|h'
      .exact h'
      .have:=Nat.div_pos h' (ss N);rw[Nat.sub_zero]at B5;omega
     have:=rb N;simp[kN];omega
    rw[hok]
   .rw[zA6 (by simp),zA6 (by omega)]
   .rw[Nat.sub_self,facn,Nat.div_one]
  .have hok:kN N r=false:=by simp[kN];omega
   rw[LV,hok];refine fO au [4,5] Tryz.func158 ?_;have cE1:=@aA;have cE2:=@iL;exact dE ai trivial aj
 .have hok:kN n r=false:=by simp[kN];omega
  rw[LV,hok];refine fO au [4,5] Tryz.func158 ?_;have cE1:=@aA;have cE2:=@iL;exact dE ai trivial aj
theorem xu(n:Nat)(h1:n<=1000000):
  Fun Tryz.prog 351 [.sl .own [],.int .i64 n] [.sl .own []]:=by
 refine Fun.of_row 3 Tryz.func351 rfl rfl rfl (λx hx=>by cases hx) ?_;intro w F G vs _ hv;simp only[RepL]at hv;obtain⟨a,vs1,rfl,ha,b,vs2,rfl,hb,rfl⟩:=hv;simp only[RepP]at ha hb;subst hb;obtain⟨ad,cap,rfl,_,_,hown,_⟩:=ha;obtain⟨_,rfl,rfl⟩:=hown trivial;by_cases h0:n=0
 .subst h0
  refine(Tryz.slices_Grow_room none 0 0 0 w (zB1 _) (by omega) (by omega) (zB1 _)).mono ?_;rintro e w' ⟨rfl,rfl⟩;exact⟨_,rfl,⟨rfl,.inl ⟨rfl,rfl⟩⟩,Go.RowKit.Below.refl _ _⟩
 .obtain⟨i0,hi,hz0,hz1,hz2⟩:=info_parts (P:=Tryz.prog) (e:=3) (show(Tryz.prog.info? 3).map (λi=>(i.zero,i.size,i.bytes))=some (some (.int .i64 0),1,8)by kernel_rfl)
  have key:=Any8.slices_Grow_grow Tryz.laysGrow i0 (.int .i64 0) hi hz0 (by rw[hz1];decide) none 0 0 n [] w (zB1 _) (by omega) (by rw[hz2];omega) (by omega) (by simp) (λ_=>rfl) (λa h=>by cases h);refine Calls.mono key ?_;rintro e w' ⟨rfl,rfl⟩;have g1:=grownCap_ge w (0+n) 0 (Tryz.laysGrow_ren.t 25);have g2:=grownCap_le_maxLen w (0+n) 0 (Tryz.laysGrow_ren.t 25) (by unfold maxLen;omega);refine⟨_,rfl,⟨rfl,.inr ⟨w.heap.size,grownCap w (0+n) 0 (Tryz.laysGrow_ren.t 25), #[]++Builtin.zeroCells (Value.int IntKind.i64 0).cells (0+n-0)++Builtin.zeroCells (Value.int IntKind.i64 0).cells (grownCap w (0+n) 0 (Tryz.laysGrow_ren.t 25)-(0+n)),rfl,zB1 _,(MapKept.heap_alloc w.drew _).1,Nat.zero_le _,g2, ?_,rfl⟩⟩, ?_⟩
  .simp only[zI0]at g1 g2 |-
   simp[Builtin.zeroCells,Value.cells];omega
  .exact((Go.RowKit.Below.refl w.heap.size w).drew).alloc (zB1 _) _
theorem xt(n:Nat)(h1:n<=1000000):Fun Tryz.prog 351 [.sl .own [],.int .i64 n] [oI []]:=xu n h1
mutual
def wk:PV->PV
 | .sl .fr xs=>.sl .ro (wkL xs)
 | .sl .ro xs=>.sl .ro (wkL xs)
 | .agg xs=>.agg (wkL xs)
 | .sl .own xs=>.sl .own xs
 | .int k n=>.int k n
 | .bool b=>.bool b
 | .str s=>.str s
 | .fn f a b=>.fn f a b
 | .nilf=>.nilf
 | .pc xs=>.pc xs
 | .any=>.any
 | .dl rows=>.dl rows
 | .bx xs=>.bx xs
 | .nl=>.nl
def wkL:List PV->List PV
 |[]=>[]
 |x::xs=>wk x::wkL xs
end
theorem oW:∀{xs:List PV},(wkL xs).length=xs.length
 |[]=>rfl
 |x::xs=>by simp only[wkL,zC1,oW (xs:=xs)]
theorem FG{α:Type}{f g:α->PV}(h:∀a,wk (f a)=g a):∀{l:List α},wkL (l.map f)=l.map g
 |[]=>rfl
 |x::l=>by simp only[zC3,wkL,h,FG h (l:=l)]
mutual
theorem RepP.wk{w:World}{F G:Nat->Prop}:∀(x:PV) (v:Value),RepP w F G x v->RepP w F G (Gl.wk x) v
 | .int _ _,_,h=>h
 | .bool _,_,h=>h
 | .str _,_,h=>h
 | .nilf,_,h=>h
 | .any,_,_=>trivial
 | .dl _,_,h=>by simp only[RepP]at h
 | .nl,_,h=>h
 | .bx _,_,h=>h
 | .fn _ _ _,_,h=>h
 | .pc _,_,h=>h
 | .sl o xs,v,h=>by
  cases o with
  |own=>exact h
  |ro=>
   simp only[Gl.wk,RepP]at h |-
   obtain⟨a,cap,hv,hl,hm,ho,hx⟩:=h;refine⟨a,cap,by rw[oW];exact hv,by rw[oW];exact hl,hm,λq=>(by cases q), ?_⟩;rcases hx with hx|⟨B,off,ha,hF,hG,hc⟩
   .subst hx;exact .inl (by simp only[wkL])
   .exact .inr ⟨B,off,ha,hF,λq=>(by cases q),RepC.wk xs B off hc⟩
  |fr=>
   simp only[Gl.wk,RepP]at h |-
   obtain⟨a,cap,hv,hl,hm,ho,hx⟩:=h;refine⟨a,cap,by rw[oW];exact hv,by rw[oW];exact hl,hm,λq=>(by cases q), ?_⟩;rcases hx with hx|⟨B,off,ha,hF,hG,hc⟩
   .subst hx;exact .inl (by simp only[wkL])
   .exact .inr ⟨B,off,ha,hF,λq=>(by cases q),RepC.wk xs B off hc⟩
 | .agg xs,v,h=>by
  simp only[Gl.wk,RepP]at h |-
  obtain⟨cs,hv,hx⟩:=h;exact⟨cs,hv,RepL.wk xs cs hx⟩
theorem RepC.wk{w:World}{F G:Nat->Prop}:∀(xs:List PV) (B o:Nat),RepC w F G B o xs->RepC w F G B o (wkL xs)
 |[],_,_,_=>by simp only[wkL,RepC]
 |x::xs,B,o,h=>by
  simp only[wkL,RepC]at h |-
  obtain⟨⟨v,hv,h1,hx⟩,hr⟩:=h;exact⟨⟨v,hv,h1,RepP.wk x v hx⟩,RepC.wk xs B (o+1) hr⟩
theorem RepL.wk{w:World}{F G:Nat->Prop}:∀(xs:List PV) (vs:List Value),RepL w F G xs vs->RepL w F G (wkL xs) vs
 |[],vs,h=>h
 |x::xs,vs,h=>by
  simp only[wkL,RepL]at h |-
  obtain⟨v,vs',rfl,h1,h2⟩:=h;exact⟨v,vs',rfl,RepP.wk x v h1,RepL.wk xs vs' h2⟩
end
theorem Fun.wk{args args' res:List PV}(e:wkL args=args')(h:Fun P f args' res):Fun P f args res:=by
 subst e;obtain⟨h1,h2,h3,h4,h5⟩:=h;refine⟨h1,h2,h3,h4,λw G ι vs amb hG ok hrp=> ?_⟩;have hlen:(List.map Arg.pv (wkL args)).length=(args.map Arg.pv).length:=by simp only[zB2,oW]
 have hH:bH ((wkL args).map .pv)=bH (args.map .pv):=by
  funext j;unfold bH;rw[zA5,zA5];cases (wkL args)[j]? <;>cases args[j]? <;>rfl
 have hM:fQ ((wkL args).map .pv) ι=fQ (args.map .pv) ι:=by funext B;unfold fQ;rw[hH]
 have hP:aZ false ((wkL args).map .pv) [] res=aZ false (args.map .pv) [] res:=by
  unfold aZ;have:gK ((wkL args).map .pv) []=gK (args.map .pv) []:=by
   funext j;unfold gK;rw[zA5,zA5];cases (wkL args)[j]? <;>cases args[j]? <;>rfl
  rw[this,hlen]
 have hrep:∀(l:List PV) (vs:List Value) (k:Nat),RepAL w (Held (bH (args.map .pv)) ι) G ι (bA k (l.map .pv)) vs->RepAL w (Held (bH (args.map .pv)) ι) G ι (bA k ((wkL l).map .pv)) vs:=by
  intro l
  induction l with
  |nil=>intro vs k h;exact h
  |cons x l ih=>
   intro vs k h;simp only[lI,oI,lE,wkL,zC3,bA,Arg.av,RepAL,RepA]at h |-
   obtain⟨v,vs',rfl,h1,h2⟩:=h;exact⟨v,vs',rfl,RepP.wk x v h1,ih _ _ h2⟩
 have key:=h5 w G ι vs (by rw[hM];exact amb) hG (by rw[hM,hH];exact ok) (by rw[hH];exact hrep args vs 0 hrp);rw[hM,hP,hlen]at key;exact key
end Go.Gl
