/-
  What the functions compute, and what the law asks of it: texts joined. Conditions: those that each lemma names.
-/
import Derived.Test.YtjimcmbfljdelaaGreatDoorT24
import Derived.Test.YtjimcmbfljdelaaGreatDoorT3
import Derived.Test.YtjimcmbfljdelaaGreatDoorT2
import Derived.Test.YtjimcmbfljdelaaGreatDoorT25
set_option linter.unusedSimpArgs false
set_option linter.unusedVariables false
set_option maxRecDepth 20000
set_option linter.unusedSectionVars false
set_option maxHeartbeats 16000000
variable{a b l p:List Int}{x:Int}{f:Go.FuncId}{L:List (List Int)}{e0 k m0 m1:Bool}{j:Nat}
namespace Go.Gl
open Go Go.Proofs
variable [Amb][NoQ]
theorem YF{a:Int}(hn:l.Nodup)(hb:∀x∈l,a<x/\x<=a+l.length)(hx:x∈l):((l.filter λy=>decide (y<x)).length:Int)=x-a-1:=by
 have h1:=hb x hx;have h2:(l.filter λy=>decide (y<x)).length<=(x-a-1).toNat:=rX (a:=a) (List.Nodup.sublist List.filter_sublist hn) λy hy=>by
  grind
 have h3:(l.filter λy=> !decide (y<x)).length<=(a+l.length-(x-1)).toNat:=rX (a:=x-1) (List.Nodup.sublist List.filter_sublist hn) λy hy=>by
  grind
 grind [r9]
theorem Eo{a:Int}(hn:l.Nodup)(hb:∀x∈l,a<x/\x<=a+l.length):kM l=l.map λx=>x+ -a:=by
 refine zH4 λx hx=> ?_;rw[xf,zE6,YF hn hb hx];omega
theorem Nv{a b:Nat}(h:x∈ge p a b):∃j,a<=j/\j<b/\j<p.length/\p.getD j 0=x:=by
 obtain⟨i,hi,rfl⟩:=zE7 h;simp only[ge,zI6,zD3]at hi;refine⟨a+i,by omega,by omega,by omega, ?_⟩;grind [ge]
theorem Aa{p:List Int}{g:List Int->Nat->List Int}:∀{k:Nat},k<=p.length->∀j,j<k->p.getD j 0<=(eY g p k).2.2
 |k+1,h,j,hj=>by
  have ih:=Aa (g:=g) (p:=p) (k:=k) (by omega);grind [eY]
theorem Bg{p:List Int}{g:List Int->Nat->List Int}(hp:aF p=true):∀{k:Nat},k<=p.length->∀j,j<(eY g p k).2.1->p.getD j 0<=(eY g p k).2.1
 |0,_,j,hj=>by simp[eY]at hj
 |k+1,h,j,hj=>by
  rw[eY]at hj |-
  split at hj
  .rename_i e
   rw[zB0 e];simp only at hj |-
   have:=Aa (g:=g) h j hj;grind [eY]
  .rename_i e
   rw[zA8 e];exact Bg hp (by omega) j hj
theorem vR(h:p.Nodup){a b:Nat}:(ge p a b).Nodup:=List.Nodup.sublist ((List.drop_sublist _ _).trans (List.take_sublist _ _)) h
theorem Lr(hp:aF p=true){f b:Nat}(hb:b<=p.length)(hf:f<=b)(h1:∀j,j<f->p.getD j 0<=f)(h2:∀j,j<b->p.getD j 0<=b):∀x∈ge p f b,(f:Int)<x/\x<=f+(ge p f b).length:=by
 intro x hx;obtain⟨j,j1,j2,j3,rfl⟩:=Nv hx;have hq:=permB_iff.1 hp;rw[iP hb];refine⟨?_,by have:=h2 j j2;omega⟩;by_cases hlt:(f:Int)<p.getD j 0
 .exact hlt
 .exfalso
  have l1:(p.getD j 0::p.take f).length<=f:=rX (a:=0) (by
   grind [zE7,List.getElem_inj]) λx hx=>by
   grind [zE7]
  simp at l1;omega
theorem Le{p:List Int}(hp:aF p=true):∀{k:Nat},k<=p.length->eY p7 p k=eY rm p k
 |0,_=>rfl
 |k+1,h=>by
  have ih:=Le hp (k:=k) (by omega);rw[eY,eY,ih];split
  .rename_i e
   have hm:=Aa (g:=rm) h;have e2:(eY rm p (k+1)).2.2=max (eY rm p k).2.2 (p.getD k 0):=by rw[eY];split<;>rfl
   have hf:=(jz (g:=rm) (p:=p) (k:=k)).1;have hx:=Lr hp (f:=(eY rm p k).2.1) (b:=k+1) h (by omega) (Bg hp (by omega)) (λj hj=>by grind);have:p7 (ge p (eY rm p k).2.1 (k+1)) (eY rm p k).2.1=rm (ge p (eY rm p k).2.1 (k+1)) (eY rm p k).2.1:=Eo (vR (permB_iff.1 hp).2) hx;rw[this]
  .rfl
theorem tz{k:Nat}(h:k<L.length):(L.take (k+1)).flatten=(L.take k).flatten++L.getD k []:=by
 grind [aq]
theorem Aq{L:List (List Int)}{n:Nat}(hl:∀l∈L,l.length<=n):∀{k:Nat},k<=L.length->(L.take k).flatten.length<=k*n
 |0,_=>by simp
 |k+1,h=>by
  have h1:=Aq hl (k:=k) (by omega);grind [tz]
def Ee:FuncId->List Bool:=λf=>if f=351 then[true]else[]
theorem Qu:Ee f=if f=351 then[true]else[]:=_root_.id rfl
theorem JV:ga Ee=false/\gu Ee=false/\gs Ee=false/\gr Ee=false/\gB Ee=false:=⟨rfl,rfl,rfl,rfl,rfl⟩
attribute [go_sem] Qu JV
theorem ez(L:List (List Int))(hL:L.length<=1000)(hl:∀l∈L,l.length<=1000):Fun Tryz.prog 300 [lE m0 e0 L] [oI L.flatten]:=by
 refine fO Ee [2] Tryz.func300 ?_;refine dE ai trivial (aD λzb=> ?_);refine ao (λ(k:Nat) S1=>(S1.e 0=.p (lE m0 e0 L)/\S1.e 9=.p (lE m0 e0 L)/\eI S1 10 L.length/\eI S1 11 k/\eI S1 3 ((L.take k).flatten.length))/\k<=L.length) (λk=>L.length-k) 0 ?_ (dI zF trivial aj);rintro k S1 ⟨fL1,A1⟩;have b1:=Aq hl A1;have b2:=zI9 A1 (zB1 1000);have b3:k<L.length->(L.getD k []).length<=1000:=λh=>hl _ (am h);have cX1:=@xt;refine dE zF fL1 ?_;all_goals try(apply nn;repeat' first|exact jb|apply aa|(apply nq;intro zb hc)|(apply np;intro zb)|intro j')<;>try apply nu
 all_goals try have b4:=b3 (by omega)
 all_goals try exact eQ
 .refine ak (k+1) (dC fL1 aj) (dC fL1 (aD λzb=> ?_))
  rw[tz (by omega),zA3];push_cast;rfl
 .refine ao (λ(j:Nat) S2=>(S2.e 25=.p (lE m0 e0 L)/\eI S2 26 L.length/\eI S2 27 j)/\OwnL (S2.e 6) S2.h S2.n (PV.int .i64) (((L.take j).flatten).length) ((L.take j).flatten)/\j<=L.length/\S1.n<=S2.n) (λj=>L.length-j) 0 ?_ (dI zF fL1 aj)
  rintro j S2 ⟨fF2,F9,A6,B1⟩;obtain⟨F5,G4,K7⟩:=F9.ou;have fL2:=(aa fF2 G4);have b5:=Aq hl A6;have b6:=zI9 A6 (zB1 1000);have b7:j<L.length->(L.getD j []).length<=1000:=λh=>hl _ (am h);have cX1:=trivial;refine dE zF fL2 (zk6 ?_ ?_ ?_ ?_ ?_ ?_)<;>intro zb hc;all_goals try have b8:=b7 (by omega)
  all_goals try exact eQ
  .refine ak (j+1) (dC fL2 aj) (dC fL2 (bu ?_ ?_))<;>intro zb
   all_goals(rw[tz (by omega)]<;>simp only[zA3])
  .rw[zA2 (by omega)]
theorem cc2{m e1 e2:Bool}(a b:List Int)(ha:a.length<=1000)(hb:b.length<=1000):Fun Tryz.prog 300 [.sl (.lent m) [.sl (.lent e1) (a.map (PV.int .i64)),.sl (.lent e2) (b.map (PV.int .i64))]] [.sl .own ((a++b).map (PV.int .i64))]:=by
 have h:=ez (m0:=true) (e0:=true) [a,b] (by simp) (λl hl=>by grind);simp only[List.flatten_cons,List.flatten_nil,zC0]at h;refine Fun.wk ?_ h;grind [wk,wkL,Fl.lent,FG,cK]
def mQ(a b:List Int)(skew:Bool):List Int:=if skew then a.map (λx=>x+(b.length:Int))++b else a++b.map (λx=>x+(a.length:Int))
theorem Bd:(mQ a b k).length=a.length+b.length:=by cases k<;>simp[mQ]
theorem kW(a:List Int)(b:List Int)(k:Bool)(h1:a.length<=1000)(h2:b.length<=1000)(h3:∀x∈a, -1000000<=x/\x<=1000000)(h4:∀x∈b, -1000000<=x/\x<=1000000):Fun Tryz.prog 226 [lI m0 a,lI m1 b,.bool k] [oI (mQ a b k)]:=by
 refine fO au [6] Tryz.func226 ?_;have cE1:=@lX;have cE2:=@ez;have cE1:=@cc2;have cE2:=@lX;have cE3:=@ez;refine dE ai trivial (f9 ?_ ?_)<;>intro zb hc;all_goals(subst hc;simp[mQ])
theorem ad6{n:Nat}(ha:aF a=true)(hb:aF b=true)(e:n=b.length):(a.map λx=>x+(n:Int)).Nodup/\(∀x∈a.map λx=>x+(n:Int),(b.length:Int)<x/\x<=a.length+b.length):=by
 grind [permB_iff]
theorem HE(ha:aF a=true)(hb:aF b=true):aF (mQ a b k)=true:=by
 grind [permB_iff,mQ]
def fW(L:List (List Int))(k:Bool):List Int:=L.foldl (λt p=>mQ t p k) []
theorem m8(h:j<L.length):fW (L.take (j+1)) k=mQ (fW (L.take j) k) (L.getD j []) k:=by
 grind [aq,fW]
def fB(L:List (List Int)):Nat:=(L.map List.length).sum
theorem Im(h:j<L.length):fB (L.take (j+1))=fB (L.take j)+(L.getD j []).length:=by
 grind [aq,fB]
theorem ti{L:List (List Int)}{k:Bool}:∀{j:Nat},j<=L.length->(fW (L.take j) k).length=fB (L.take j)
 |0,_=>rfl
 |j+1,h=>by rw[m8 (by omega),Im (by omega),Bd,ti (by omega)]
theorem qL{L:List (List Int)}{k:Bool}(hL:∀l∈L,aF l=true):∀{j:Nat},j<=L.length->aF (fW (L.take j) k)=true
 |0,_=>by rfl
 |j+1,h=>by rw[m8 (by omega)];exact HE (qL hL (by omega)) (hL _ (am (by omega)))
theorem Il:∀{j:Nat},fB (L.take j)<=fB L:=λ{j}=>by
 grind [fB,zF0]
theorem Io:∀{j:Nat},fB (L.drop j)<=fB L:=λ{j}=>by
 have:fB L=fB (L.take j)+fB (L.drop j):=by
  grind [fB,zF0]
 omega
theorem Cg(h:l∈L):l.length<=fB L:=by
 induction L with
 |nil=>cases h
 |cons x L ih=>
  grind [fB]
theorem GN{L:List (List Int)}{k:Bool}(hl:∀l∈L,l.length<=8)(hb:∀l∈L,∀x∈l,0<=x/\x<=8):∀{j:Nat},j<=L.length->j<=8->(fW (L.take j) k).length<=8*j/\∀x∈fW (L.take j) k,0<=x/\x<=100*j
 |0,_,_=>⟨Nat.zero_le _,λx hx=>by cases hx⟩
 |j+1,h,h8=>by
  obtain⟨h1,h2⟩:=GN (k:=k) hl hb (j:=j) (by omega) (by omega);grind [m8,mQ]
theorem tm(L:List (List Int))(k:Bool)(hL:L.length<=8)(hl:∀l∈L,l.length<=8)(hb:∀l∈L,∀x∈l,0<=x/\x<=8):Fun Tryz.prog 353 [lE m0 e0 L,.bool k] [oI (fW L k)]:=by
 refine fO au [4] Tryz.func353 ?_;have cE1:=@kW;refine dE ai trivial (aD λzb=> ?_);refine ao (λ(j:Nat) S1=>(S1.e 1=.p (.bool k)/\S1.e 9=.p (lE m0 e0 L)/\eI S1 10 L.length/\eI S1 11 j)/\OwnL (S1.e 5) S1.h S1.n (PV.int .i64) ((fW (L.take j) k).length) (fW (L.take j) k)/\j<=L.length) (λj=>L.length-j) 0 ?_ (dI zF trivial aj);rintro j S1 ⟨fF1,A7,A1⟩;obtain⟨B4,A5,B8⟩:=A7.ou;have fL1:=(aa fF1 A5);obtain⟨b1,b2⟩:=GN (k:=k) hl hb A1 (by omega);have b3:j<L.length->(L.getD j []).length<=8/\∀x∈L.getD j [],0<=x/\x<=8:=λh=>⟨hl _ (am h),hb _ (am h)⟩;have b4:∀x∈fW (L.take j) k, -1000000<=x/\x<=1000000:=λx hx=>by have:=b2 x hx;omega
 refine dE zF fL1 (zk9 ?_ ?_ ?_ ?_ ?_ ?_ ?_ ?_ ?_)<;>intro zb hc;all_goals try have b5:=(b3 (by omega)).1
 all_goals try have b6:=(b3 (by omega)).2
 all_goals try have b7:∀x∈L.getD j [], -1000000<=x/\x<=1000000:=λx hx=>by have:=b6 x hx;omega
 all_goals try exact eQ
 .refine ak (j+1) (dC fL1 aj) (dC fL1 (bu ?_ ?_))<;>intro zb
  all_goals(rw[m8 (by omega)])
 .rw[zA2 (by omega)]
def aV(p:List Int):List (List Int):=(eY rm p p.length).1
def v6(L:List (List Int))(j:Nat):List (List Int):=(L.take j).map dg++L.drop j
theorem vZ:(v6 L j).length=L.length:=by simp[v6];omega
theorem RH(h:j<L.length):(v6 L j).getD j []=L.getD j []:=by
 grind [v6]
theorem Mx(h:j<L.length):(v6 L j).set j (dg (L.getD j []))=v6 L (j+1):=by
 simp only[v6];rw[List.set_append_right _ _ (by simp;omega),zB2,zD3,Nat.min_eq_left (by omega),Nat.sub_self,aq (d:=[]) h];grind [List.drop_eq_getElem_cons]
theorem sT{p:List Int}(hp:aF p=true):∀{k:Nat},k<=p.length->(∀l∈(eY p7 p k).1,aF l=true)/\fB (eY p7 p k).1=(eY p7 p k).2.1
 |0,_=>⟨λl hl=>(by cases hl),rfl⟩
 |k+1,h=>by
  obtain⟨h1,h2⟩:=sT hp (k:=k) (by omega);have h3:=(jz (g:=p7) (p:=p) (k:=k)).1;rw[eY];split
  .refine⟨λl hl=> ?_, ?_⟩
   .rcases zB3.1 hl with hl|hl
    .exact h1 l hl
    .simp only[zB7]at hl;subst hl
     exact x6 (vR (permB_iff.1 hp).2)
   grind [fB,p7,eE,iP]
  .exact⟨h1,h2⟩
theorem nX(hp:aF p=true):(eY p7 p p.length).1=aV p:=by grind [aV,Le]
theorem ly(hp:ac p=true):(∀l∈aV p,aF l=true)/\fB (aV p)<=8/\(aV p).length<=8/\(∀l∈aV p,ac l=true/\l.length<=8/\∀x∈l,0<=x/\x<=8):=by
 obtain⟨hl,hq⟩:=al hp;obtain⟨h1,h2⟩:=sT hq (zB1 _);have h3:=jz (g:=p7) (p:=p) (k:=p.length);rw[nX hq]at h1 h2 h3;refine⟨h1,by omega,by omega,λl hx=> ?_⟩;have h4:=Cg hx;have h5:ac l=true:=by grind [ac]
 exact⟨h5,by omega,fe h5⟩
theorem eS(hp:ac p=true):ac (dg p)=true:=by
 grind [ac,yG,gM]
def eZ(p:List Int):List (List Int):=(aV (dg p)).map dg
theorem tl(p:List Int)(hp:ac p=true):Fun Tryz.prog 354 [lI m0 p] [.sl .own (List.map (cK false) (eZ p))]:=by
 refine fO au [2] Tryz.func354 ?_;have cE1:=@fM;have cE2:=@cy;have hl:=(al hp).1;have hq:=permB_iff.1 (al hp).2;have hb:=fe hp;have b1:(dg p).length<=8:=by rw[gM];exact hl
 have b2:=fe (eS hp);have b3:=ly (eS hp);have b4:∀x∈p,0<=x/\x<=1048576:=λx hx=>by have:=hb x hx;omega
 have b5:(eY rm (dg p) (dg p).length).1=aV (dg p):=rfl;refine dE ai @b5 (aD λzb=> ?_);refine ao (λ(j:Nat) S1=>(S1.e 9=S1.e 3/\eI S1 10 ((aV (dg p)).length)/\eI S1 11 j)/\OwnL (S1.e 3) S1.h S1.n (cK false) ((v6 (aV (dg p)) j).length) (v6 (aV (dg p)) j)/\j<=(aV (dg p)).length) (λj=>(aV (dg p)).length-j) 0 ?_ (dC trivial aj);rintro j S1 ⟨fF1,A4,A1⟩;obtain⟨A9,A2,B6⟩:=A4.ou;have fL1:=(aa fF1 A2);have b6:=vZ (L:=aV (dg p)) (j:=j);have b7:j<(aV (dg p)).length->(v6 (aV (dg p)) j).getD j []=(aV (dg p)).getD j []:=λh=>RH h;have b8:j<(aV (dg p)).length->((aV (dg p)).getD j []).length<=8/\∀x∈(aV (dg p)).getD j [],0<=x/\x<=1048576:=λh=>⟨(b3.2.2.2 _ (am h)).2.1,λx hx=>by have:=(b3.2.2.2 _ (am h)).2.2 x hx;omega⟩;by_cases hj:j<(aV (dg p)).length
 .have b9:=b8 hj
  have b10:=b7 hj;rw[<-b10]at b9;have b11:=b9.1;have b12:=b9.2;refine dE ai fL1 (aI λzb hc=> ?_);refine ak (j+1) (dC fL1 aj) (dC fL1 (bu ?_ ?_))<;>intro zb;all_goals(first|(rw[b10,Mx hj])|(rw[vZ,vZ]))
 .refine dE ai fL1 (aI λzb hc=> ?_)
  obtain rfl:j=(aV (dg p)).length:=by omega
  simp[v6,eZ]
theorem gC(a:List Int)(b:List Int)(k:Bool)(h1:a.length<=1000)(h2:b.length<=1000)(h3:∀x∈a, -1000000<=x/\x<=1000000)(h4:∀x∈b, -1000000<=x/\x<=1000000):Fun Tryz.prog 163 [lI m0 a,lI m1 b,.bool k] [oI (mQ a b k)]:=by
 refine fO au [6] Tryz.func163 ?_;have cE1:=@bw;have cD1:=d7 (d8 14 [6,11,12]) [(0,6),(1,6),(2,6),(3,6),(4,6),(6,7),(6,8),(0,11)];have cD2:=d7 (d8 15 [7,12,13]) [(0,7),(1,7),(2,7),(3,7),(4,7),(7,8),(7,9),(0,12)];have e1:bU k=if k then 1 else 0:=rfl
 refine dE ai trivial (aD λzb=> ?_);refine ao (λ(i:Nat) S1=>(S1.e 0=.p (lI m0 a)/\S1.e 1=.p (lI m1 b)/\S1.e 2=.p (.bool k)/\eI S1 8 i)/\OwnL (S1.e 7) S1.h S1.n (PV.int .i64) (((a.take i).map (λx=>x+bU k*b.length)).length) ((a.take i).map (λx=>x+bU k*b.length))/\i<=a.length) (λi=>a.length-i) 0 ?_ (dI zF trivial aj);rintro i S1 ⟨fF1,G0,A1⟩;obtain⟨K8,E7,K9⟩:=G0.ou;have fL1:=(aa fF1 E7);have b1:i<a.length-> -1000000<=a.getD i 0/\a.getD i 0<=1000000:=λh=>h3 _ (am h);have b2:0<=bU k*(b.length:Int)/\bU k*(b.length:Int)<=1000:=by cases k<;>simp[bU]<;>omega
 refine dE zF fL1 (TX ?_ ?_ ?_ ?_ ?_ ?_ ?_ ?_)<;>intro zb hc;all_goals try have b3:=b1 (by omega)
 all_goals try exact eQ
 .refine ak (i+1) (dC fL1 aj) (dC fL1 (aD λzb=> ?_))
  all_goals(rw[aq (d:=0) (by omega),zE2];rfl)
 .refine ao (λ(j:Nat) S2=>(S2.e 0=.p (lI m0 a)/\S2.e 1=.p (lI m1 b)/\S2.e 2=.p (.bool k)/\eI S2 9 j)/\OwnL (S2.e 7) S2.h S2.n (PV.int .i64) ((a.map (λx=>x+bU k*b.length)++(b.take j).map (λx=>x+bU (!k)*a.length)).length) (a.map (λx=>x+bU k*b.length)++(b.take j).map (λx=>x+bU (!k)*a.length))/\j<=b.length/\S1.n<=S2.n) (λj=>b.length-j) 0 ?_ (dI zF fL1 (aD λzb=> ?_))
  rintro j S2 ⟨fF2,J8,A6,B1⟩;obtain⟨I1,J9,Q7⟩:=J8.ou;have fL2:=(aa fF2 J9);have b4:j<b.length-> -1000000<=b.getD j 0/\b.getD j 0<=1000000:=λh=>h4 _ (am h);have b5:0<=bU (!k)*(a.length:Int)/\bU (!k)*(a.length:Int)<=1000:=by cases k<;>simp[bU]<;>omega
  refine dE zF fL2 (TX ?_ ?_ ?_ ?_ ?_ ?_ ?_ ?_)<;>intro zb hc;all_goals try have b6:=b4 (by omega)
  all_goals try exact eQ
  .refine ak (j+1) (dC fL2 aj) (dC fL2 (aD λzb=> ?_))
   all_goals(rw[aq (d:=0) (by omega),zE2];try rfl)
  .rw[zA2 (by omega)]
   cases k<;>simp[mQ,bU]
  all_goals(rw[zA2 (by omega)];try simp)
theorem iE(a:List Int)(b:List Int)(h1:a.length<=1048576)(h2:b.length<=1048576):Fun Tryz.prog 162 [lI m0 a,lI m1 b] [.bool ((ac a&&ac b&&decide (a.length+b.length<=8)))]:=by
 refine fO au [4] Tryz.func162 ?_;have cE1:=@ah;refine dE ai trivial (aI λzb hc=> ?_);all_goals(congr 1;exact propext (by omega))
theorem acZ(hL:∀l∈L,aF l=true)(h8:fB L<=8)(h:j<L.length):ac (fW (L.take j) k)=true/\ac (L.getD j [])=true/\(fW (L.take j) k).length+(L.getD j []).length<=8:=by
 have h1:=ti (k:=k) (show j<=L.length by omega);have h2:=Im h;grind [Il,qL,ac]
theorem sR(L:List (List Int))(k:Bool)(hL:L.length<=8)(hp:∀l∈L,aF l=true)(h8:fB L<=8):Fun Tryz.prog 376 [lE m0 e0 L,.bool k] [oI (fW L k),.bool true]:=by
 refine fO au [4,5] Tryz.func376 ?_;have cE1:=@iE;have cE2:=@gC;refine dE ai trivial (aD λzb=> ?_);refine ao (λ(j:Nat) S1=>(S1.e 0=.p (lE m0 e0 L)/\S1.e 1=.p (.bool k)/\eI S1 7 j)/\OwnL (S1.e 6) S1.h S1.n (PV.int .i64) ((fW (L.take j) k).length) (fW (L.take j) k)/\j<=L.length) (λj=>L.length-j) 0 ?_ (dC trivial aj);rintro j S1 ⟨fF1,C3,A1⟩;obtain⟨C5,B9,E0⟩:=C3.ou;have fL1:=(aa fF1 B9);by_cases hj:j<L.length
 .obtain⟨b1,b2,b3⟩:=acZ (k:=k) hp h8 hj
  have b4:=(al b1).1;have b5:=(al b2).1;have b6:∀x∈fW (L.take j) k, -1000000<=x/\x<=1000000:=λx hx=>by have:=fe b1 x hx;omega
  have b7:∀x∈L.getD j [], -1000000<=x/\x<=1000000:=λx hx=>by have:=fe b2 x hx;omega
  have b8:decide ((fW (L.take j) k).length+(L.getD j []).length<=8)=true:=zB6 b3;refine dE ai (aa fL1 (aa @b1 (aa @b2 @b8))) (aI λzb hc=> ?_)
  .refine ak (j+1) (dC fL1 aj) (dC fL1 (bu ?_ ?_))<;>intro zb
   all_goals(rw[m8 (by omega)])
 .refine dE ai fL1 (aI λzb hc=> ?_)
  rw[zA2 (by omega)]
theorem sP(p:List Int)(hp:ac p=true):Fun Tryz.prog 341 [lI m0 p] [.sl .own (List.map (cK false) (eZ p))]:=by
 refine fO au [2] Tryz.func341 ?_;have cE1:=@ah;have cE2:=@d9;have cE3:=@bG;have hl:=(al hp).1;have hq:=(al hp).2;have hb:=fe hp;have b1:=eS hp;have b3:=ly (eS hp);have b4:∀x∈p,0<=x/\x<=1048576:=λx hx=>by have:=hb x hx;omega
 have b5:(eY p7 (dg p) (dg p).length).1=aV (dg p):=nX (al b1).2;refine dE ai (aa @b5 @hp) (aD λzb=> ?_);refine ao (λ(j:Nat) S1=>eI S1 5 j/\OwnL (S1.e 4) S1.h S1.n (cK false) ((aV (dg p)).length) (aV (dg p))/\OwnL (S1.e 3) S1.h S1.n (cK false) ((((aV (dg p)).take j).map dg).length) (((aV (dg p)).take j).map dg)/\j<=(aV (dg p)).length/\NId (S1.e 3) (S1.e 4)) (λj=>(aV (dg p)).length-j) 0 ?_ (dC trivial aj);rintro j S1 ⟨fF1,B7,A4,A1,A8⟩;obtain⟨C4,B2,C8⟩:=B7.ou;obtain⟨A9,A2,B6⟩:=A4.ou;have di1_3i1_4:=(A8).ou A2.1 B2.1;have fL1:=(aa fF1 (aa B2 (aa A2 di1_3i1_4)));have b8:j<(aV (dg p)).length->((aV (dg p)).getD j []).length<=8/\∀x∈(aV (dg p)).getD j [],0<=x/\x<=1048576:=λh=>⟨(b3.2.2.2 _ (am h)).2.1,λx hx=>by have:=(b3.2.2.2 _ (am h)).2.2 x hx;omega⟩;by_cases hj:j<(aV (dg p)).length
 .have b9:=b8 hj
  have b11:=b9.1;have b12:=b9.2;refine dE ai fL1 (aI λzb hc=> ?_);refine ak (j+1) (dC fL1 aj) (dC fL1 (aD λzb=> ?_));all_goals(rw[aq (d:=[]) hj,zE2];rfl)
 .refine dE ai fL1 (aI λzb hc=> ?_)
  obtain rfl:j=(aV (dg p)).length:=by omega
  simp[eZ]
theorem y9(L:List (List Int))(k:Bool)(h0:1<=L.length)(hL:L.length<=8)(hp:∀l∈L,aF l=true)(h8:fB L<=8):Fun Tryz.prog 340 [lE m0 false L,.bool k] [.agg [lI false ((if k then[2,1]else[1,2])),lE false false ([L.getD 0 [],fW (L.drop 1) k])]]:=by
 refine Fun.ofR (sg:=au) (rs:=[.cell 4 118]) mo Tryz.func340 rfl rfl rfl rfl (by kernel_rfl) (by simp only[go_sem]) rfl ?_;have cE1:=@sR;have b1:(L.drop 1).length<=8:=by simp;omega
 have b2:∀l∈L.drop 1,aF l=true:=λl hl=>hp l (List.mem_of_mem_drop hl);have b3:fB (L.drop 1)<=8:=zE0 Io h8;have b4:=Cg (am (d:=[]) (show 0<L.length by omega));exact dE ai trivial aj
def fP(p:List Int)(a:Nat):Nat->Nat
 |0=>a+1
 |k+1=>if a+2<=k+1/\k+1-a<p.length/\m9 p a (k+1:Nat)=true then k+1 else fP p a k
theorem tD{p:List Int}{a:Nat}:∀{k:Nat},a+1<=fP p a k/\(fP p a k<=k\/fP p a k=a+1)
 |0=>by simp[fP]
 |k+1=>by
  have:=tD (p:=p) (a:=a) (k:=k);rw[fP];split<;>omega
theorem wz{p:List Int}{a:Nat}:∀{k:Nat},k<=a+1->fP p a k=a+1
 |0,_=>rfl
 |k+1,h=>by rw[fP,zA8 (by omega)];exact wz (by omega)
def aR(p:List Int):Nat->Nat×List Int×List (List Int)
 |0=>(0,[],[])
 |j+1=>if(aR p j).1<p.length then(fP p (aR p j).1 p.length,(aR p j).2.1++[p.getD (aR p j).1 0],(aR p j).2.2++[kM (ge p (aR p j).1 (fP p (aR p j).1 p.length))])else aR p j
theorem wJ{p:List Int}:∀{j:Nat},(aR p j).1<=p.length/\(j<=(aR p j).1\/(aR p j).1=p.length)/\(aR p j).2.1.length<=(aR p j).1/\(aR p j).2.2.length=(aR p j).2.1.length
 |0=>by simp[aR]
 |j+1=>by
  have:=wJ (p:=p) (j:=j);rw[aR];split
  .have h2:=tD (p:=p) (a:=(aR p j).1) (k:=p.length)
   simp only[zA3,zC1,List.length_nil];omega
  .omega
theorem wI{p:List Int}{j:Nat}(h:(aR p j).1=p.length):∀i,aR p (j+i)=aR p j
 |0=>rfl
 |i+1=>by
  rw[<-zE9,aR,wI h i,zA8 (by omega)]
theorem Dl(h:(aR p j).1=p.length):aR p j=aR p p.length:=by
 have h1:=wJ (p:=p) (j:=p.length);have h2:(aR p p.length).1=p.length:=by omega
 rcases Nat.le_total j p.length with hj|hj
 .have:=wI h (p.length-j);rw[<-this];congr 1;omega
 .have:=wI h2 (j-p.length);rw[<-this];congr 1;omega
theorem Iu{a:Nat}(h:a<p.length):m9 p a ((a+1:Nat):Int)=true:=by
 have e:ge p a (a+1)=[p.getD a 0]:=by
  apply zI7;intro i;simp only[ge,zG0,zH2];cases i with
  |zero=>simp[zA0,zA1 h]
  |succ i=>rw[zA8 (by omega)];simp
 have e2:((a:Int)).toNat=a:=by omega
 have e3:(((a+1:Nat):Int)).toNat=a+1:=by omega
 rw[m9,e2,e3,e];simp[EC,EA,tg,tf];omega
def aU(p:List Int):List Int×List (List Int):=
 if p.length=1 then([1],[[1]])else
 if 1<(aV p).length then([1,2],[(aV p).getD 0 [],fW ((aV p).drop 1) false])else
 if 1<(eZ p).length then([2,1],[(eZ p).getD 0 [],fW ((eZ p).drop 1) true])else
 (kM (aR p p.length).2.1,(aR p p.length).2.2)
theorem vu(hp:ac p=true):(∀l∈eZ p,aF l=true)/\fB (eZ p)<=8/\(eZ p).length<=8/\(∀l∈eZ p,ac l=true/\l.length<=8/\∀x∈l,0<=x/\x<=8):=by
 have h:=ly (eS hp);have e:fB (eZ p)=fB (aV (dg p)):=by
  simp only[fB,eZ,List.map_map];congr 1;exact zH4 λl _=>gM
 refine⟨λl hl=> ?_,by omega,by simp[eZ];omega,λl hl=> ?_⟩
 .obtain⟨q,hq,rfl⟩:=zD0.1 hl
  exact yG (h.1 q hq)
 .obtain⟨q,hq,rfl⟩:=zD0.1 hl
  have:=eS (h.2.2.2 q hq).1;exact⟨this,(al this).1,fe this⟩
theorem vM(h1:∀l∈L,aF l=true)(h2:fB L<=8)(h3:L.length<=8)(h4:∀l∈L,ac l=true/\l.length<=8/\∀x∈l,0<=x/\x<=8):
  (L.drop 1).length<=8/\(∀l∈L.drop 1,l.length<=8)/\(∀l∈L.drop 1,∀x∈l,0<=x/\x<=8):=
 ⟨by simp;omega,λl hl=>(h4 l (List.mem_of_mem_drop hl)).2.1,λl hl=>(h4 l (List.mem_of_mem_drop hl)).2.2⟩
def Bl:FuncId->List Bool:=λf=>if f=4294967297 then[false,true,false,false]else[]
theorem Qe:Bl f=if f=4294967297 then[false,true,false,false]else[]:=_root_.id rfl
theorem JF:ga Bl=false/\gu Bl=false/\gs Bl=true/\gr Bl=false/\gB Bl=false:=⟨rfl,rfl,rfl,rfl,rfl⟩
attribute [go_sem] Qe JF
theorem cu(p:List Int)(hp:ac p=true)(h0:1<=p.length):Fun Tryz.prog 307 [lI m0 p] [.agg [lI false ((aU p).1),lE false false ((aU p).2)]]:=by
 refine Fun.ofR (sg:=Bl) (rs:=[.cell 2 118]) mo Tryz.func307 rfl rfl rfl rfl (by kernel_rfl) (by simp only[go_sem]) rfl ?_;have cE1:=@cy;have cE2:=@tm;have cE3:=@tl;have cE4:=@lK;have cE5:=@kX;have cD1:=d7 (d8 10 [0,6,7,9]) [(0,1),(0,2),(0,3),(0,4),(0,5),(0,6),(1,6),(2,6),(3,6),(0,7)];have cD2:=d7 (d8 10 [0,6,7,9]) [(0,1),(0,2),(0,3),(0,4),(0,5),(0,6),(1,6),(2,6),(3,6),(0,7)];have cD3:=d7 (d8 11 [6,7,8,10]) [(0,6),(1,6),(0,7),(1,7)];have hl:=(al hp).1;have hb:=fe hp;have q1:(eY rm p p.length).1=aV p:=rfl;have q2:=ly hp;have q3:=vu hp;obtain⟨q4,q5,q6⟩:=vM q2.1 q2.2.1 q2.2.2.1 q2.2.2.2;obtain⟨q7,q8,q9⟩:=vM q3.1 q3.2.1 q3.2.2.1 q3.2.2.2;have hbb:∀x∈p,0<=x/\x<=1048576:=λx hx=>by have:=hb x hx;omega
 have qa:List.take ((aV p).length-1) (List.drop 1 (aV p))=List.drop 1 (aV p):=by rw[zA2 (by simp)]
 have qb:List.take ((eZ p).length-1) (List.drop 1 (eZ p))=List.drop 1 (eZ p):=by rw[zA2 (by simp)]
 refine dE ai (aa @q1 (aa @qa @qb)) (zk7 ?_ ?_ ?_ ?_ ?_ ?_ ?_)<;>intro zb hc;all_goals try (rw[aU,zB0 (by omega)];rfl)
 all_goals try (rw[aU,zA8 (by omega),zB0 (by omega)];rfl)
 all_goals try (rw[aU,zA8 (by omega),zA8 (by omega),zB0 (by omega)];rfl)
 refine ao (λ(j:Nat) S1=>S1.e 0=.p (lI m0 p)/\PtrL (S1.e 2) S1.h S1.n (.deep false [.v (.sl .own []),.v (.sl .own [])] [])/\Dst2 (S1.e 5) S1.h S1.n (List.map (PV.int .i64) ([])) (List.map (cK false) ((aR p j).2.2))/\OwnL (S1.e 6) S1.h S1.n (PV.int .i64) (((aR p j).2.1).length) ((aR p j).2.1)/\eI S1 7 ((aR p j).1)/\(aR p j).1<=p.length/\NId (nk (S1.e 5)) (nk (S1.e 2))/\NId (S1.e 6) (nk (S1.e 2))/\NId (S1.e 6) (nk (S1.e 5))) (λj=>p.length-(aR p j).1) 0 ?_ (dI ai trivial (aD λzb=> ?_));rintro j S1 ⟨C0,E6,A7,C3,M1,A1,A8,H4,H5⟩;obtain⟨B4,X3,X4,X5,E8,M2,B8,M3,M4,M5,M6,M7,M8,M9,N0,N1,N2⟩:=A7.out;obtain⟨D8,F7,K1,J0⟩:=E6.out;obtain⟨C5,G3,J6,E0⟩:=C3.out;have J5:=(A8).out (cc E8) (cc F7);have X6:=(H4).out G3 (cc F7);have X7:=(H5).out G3 (cc E8);have K2:=dJ (x:=D8) (n:=S1.n);have H3:=dJ (x:=B4) (n:=S1.n);have K0:=dJ (x:=C5) (n:=S1.n);have di1_2i1_5:=qp (x:=D8) (y:=B4);have di1_2i1_6:=qp (x:=D8) (y:=C5);have di1_5i1_6:=qp (x:=B4) (y:=C5);have fL1:=(aa C0 (aa M1 (aa F7 (aa K1 (aa E8 (aa M2 (aa G3 (aa J6 (aa M3 (aa M4 (aa M5 (aa M6 (aa M7 (aa M8 (aa M9 (aa N0 (aa N1 (aa N2 (aa K2 (aa H3 (aa K0 (aa di1_2i1_5 (aa di1_2i1_6 di1_5i1_6)))))))))))))))))))))));have z1:=wJ (p:=p) (j:=j);have z2:¬(aR p j).1<p.length->aU p=(kM (aR p j).2.1,(aR p j).2.2):=λh=>by
  rw[aU,zA8 (by omega),zA8 (by omega),zA8 (by omega),Dl (j:=j) (by omega)]
 refine dE ai fL1 (pC ?_ ?_ ?_)<;>intro zb hc
 .refine ao (λ(i:Nat) S2=>S2.e 0=.p (lI m0 p)/\PtrL (S2.e 2) S2.h S2.n (.deep false [.v (.sl .own []),.v (.sl .own [])] [])/\Dst2 (S2.e 5) S2.h S2.n (List.map (PV.int .i64) ([])) (List.map (cK false) ((aR p j).2.2))/\OwnL (S2.e 6) S2.h S2.n (PV.int .i64) (((aR p j).2.1).length) ((aR p j).2.1)/\eI S2 7 ((aR p j).1)/\eI S2 8 (fP p (aR p j).1 i)/\eI S2 9 (i+1)/\(aR p j).1+1<=i/\i<=p.length/\(aR p j).1<p.length/\NId (nk (S2.e 5)) (nk (S2.e 2))/\NId (S2.e 6) (nk (S2.e 2))/\NId (S2.e 6) (nk (S2.e 5))/\S1.n<=S2.n) (λi=>p.length-i) ((aR p j).1+1) ?_ (dI ai fL1 (aD λzb=> ?_))
  rintro i S2 ⟨N3,K3,D2,F9,N4,N5,X8,A6,B3,C1,B1,D3,H0,L8⟩;obtain⟨D7,X9,Y0,Y1,H6,N6,G1,N7,N8,N9,O0,O1,O3,O4,O5,O6,O7⟩:=D2.out;obtain⟨G5,H7,O8,R1⟩:=K3.out;obtain⟨F5,H8,O9,K7⟩:=F9.out;have Y2:=(B1).out (cc H6) (cc H7);have Y3:=(D3).out H8 (cc H7);have Y4:=(H0).out H8 (cc H6);have P0:=dJ (x:=G5) (n:=S2.n);have P2:=dJ (x:=D7) (n:=S2.n);have P3:=dJ (x:=F5) (n:=S2.n);have di2_2i2_5:=qp (x:=G5) (y:=D7);have di2_2i2_6:=qp (x:=G5) (y:=F5);have di2_5i2_6:=qp (x:=D7) (y:=F5);have fL2:=(aa N3 (aa N4 (aa N5 (aa X8 (aa H7 (aa O8 (aa H6 (aa N6 (aa H8 (aa O9 (aa N7 (aa N8 (aa N9 (aa O0 (aa O1 (aa O3 (aa O4 (aa O5 (aa O6 (aa O7 (aa P0 (aa P2 (aa P3 (aa di2_2i2_5 (aa di2_2i2_6 di2_5i2_6)))))))))))))))))))))))));have z3:=tD (p:=p) (a:=(aR p j).1) (k:=i);refine dE ai fL2 (AN ?_ ?_ ?_ ?_)<;>intro zb hc
  .have e2:fP p (aR p j).1 (i+1)=i+1:=by rw[fP,zB0 ⟨by omega,by omega,by push_cast;exact hc⟩]
   exact ak (i+1) (dC fL2 aj) (dC fL2 aj)
  .have e2:fP p (aR p j).1 (i+1)=fP p (aR p j).1 i:=by rw[fP,zA8 (λh=>by have:=h.2.2;push_cast at this;rw[hc]at this;cases this)]
   exact ak (i+1) (dC fL2 aj) (dC fL2 aj)
  .have e2:fP p (aR p j).1 (i+1)=fP p (aR p j).1 i:=by rw[fP,zA8 (by omega)]
   exact ak (i+1) (dC fL2 aj) (dC fL2 aj)
  .obtain rfl:i=p.length:=by omega
   have e3:aR p (j+1)=(fP p (aR p j).1 p.length,(aR p j).2.1++[p.getD (aR p j).1 0],(aR p j).2.2++[kM (ge p (aR p j).1 (fP p (aR p j).1 p.length))]):=by rw[aR,zB0 C1]
   have e4:=zB5 Prod.fst e3;have e5:=zB5 (λx=>x.2.1) e3;have e6:=zB5 (λx=>x.2.2) e3;simp only at e4 e5 e6;refine ak (j+1) (dC fL2 aj) (dC fL2 (yQ ?_ ?_ ?_))<;>intro zb;all_goals(first|(rw[e6];rfl)|(rw[e5];done)|(rw[e5];simp;done)|(rw[e4];done)|(rw[e4];omega))
  .rw[wz (by omega)];omega
 .rw[z2 (by omega)]
 .rw[z2 (by omega)]
 .simp[aR]
theorem iD(p:List Int)(hp:ac p=true)(h0:1<=p.length):Fun Tryz.prog 278 [lI m0 p] [.agg [lI false ((aU p).1),lE false false ((aU p).2)]]:=by
 refine Fun.ofR (sg:=Bl) (rs:=[.cell 2 118]) mo Tryz.func278 rfl rfl rfl rfl (by kernel_rfl) (by simp only[go_sem]) rfl ?_;have cE1:=@bG;have cE2:=@y9;have cE3:=@sP;have cE4:=@rz;have cE5:=@gb;have cD1:=d7 (d8 12 [7,8,9,11]) [(0,7),(1,7),(0,8),(1,8)];have hl:=(al hp).1;have hb:=fe hp;have q1:(eY p7 p p.length).1=aV p:=nX (al hp).2;have q2:=ly hp;have q3:=vu hp;have hbb:∀x∈p,0<=x/\x<=1048576:=λx hx=>by have:=hb x hx;omega
 obtain⟨f1,f2,f3,_⟩:=q2;obtain⟨g1,g2,g3,_⟩:=q3;refine dE ai (aa @q1 @hp) (zk7 ?_ ?_ ?_ ?_ ?_ ?_ ?_)<;>intro zb hc;all_goals try (rw[aU,zB0 (by omega)];rfl)
 all_goals try (rw[aU,zA8 (by omega),zB0 (by omega)];rfl)
 all_goals try (rw[aU,zA8 (by omega),zA8 (by omega),zB0 (by omega)];rfl)
 refine ao (λ(j:Nat) S1=>S1.e 0=.p (lI m0 p)/\PtrL (S1.e 2) S1.h S1.n (.deep false [.v (.sl .own []),.v (.sl .own [])] [])/\Dst2 (S1.e 5) S1.h S1.n (List.map (PV.int .i64) ([])) (List.map (cK false) ((aR p j).2.2))/\OwnL (S1.e 6) S1.h S1.n (PV.int .i64) (((aR p j).2.1).length) ((aR p j).2.1)/\eI S1 7 ((aR p j).1)/\(aR p j).1<=p.length/\NId (nk (S1.e 5)) (nk (S1.e 2))/\NId (S1.e 6) (nk (S1.e 2))/\NId (S1.e 6) (nk (S1.e 5))) (λj=>p.length-(aR p j).1) 0 ?_ (dI ai trivial (aD λzb=> ?_));rintro j S1 ⟨C0,E6,A7,C3,M1,A1,A8,H4,H5⟩;obtain⟨B4,X3,X4,X5,E8,M2,B8,M3,M4,M5,M6,M7,M8,M9,N0,N1,N2⟩:=A7.out;obtain⟨D8,F7,K1,J0⟩:=E6.out;obtain⟨C5,G3,J6,E0⟩:=C3.out;have J5:=(A8).out (cc E8) (cc F7);have X6:=(H4).out G3 (cc F7);have X7:=(H5).out G3 (cc E8);have K2:=dJ (x:=D8) (n:=S1.n);have H3:=dJ (x:=B4) (n:=S1.n);have K0:=dJ (x:=C5) (n:=S1.n);have di1_2i1_5:=qp (x:=D8) (y:=B4);have di1_2i1_6:=qp (x:=D8) (y:=C5);have di1_5i1_6:=qp (x:=B4) (y:=C5);have fL1:=(aa C0 (aa M1 (aa F7 (aa K1 (aa E8 (aa M2 (aa G3 (aa J6 (aa M3 (aa M4 (aa M5 (aa M6 (aa M7 (aa M8 (aa M9 (aa N0 (aa N1 (aa N2 (aa K2 (aa H3 (aa K0 (aa di1_2i1_5 (aa di1_2i1_6 di1_5i1_6)))))))))))))))))))))));have z1:=wJ (p:=p) (j:=j);have z2:¬(aR p j).1<p.length->aU p=(kM (aR p j).2.1,(aR p j).2.2):=λh=>by
  rw[aU,zA8 (by omega),zA8 (by omega),zA8 (by omega),Dl (j:=j) (by omega)]
 refine dE ai fL1 (pC ?_ ?_ ?_)<;>intro zb hc
 .refine ao (λ(i:Nat) S2=>S2.e 0=.p (lI m0 p)/\PtrL (S2.e 2) S2.h S2.n (.deep false [.v (.sl .own []),.v (.sl .own [])] [])/\Dst2 (S2.e 5) S2.h S2.n (List.map (PV.int .i64) ([])) (List.map (cK false) ((aR p j).2.2))/\OwnL (S2.e 6) S2.h S2.n (PV.int .i64) (((aR p j).2.1).length) ((aR p j).2.1)/\eI S2 7 ((aR p j).1)/\eI S2 8 (i-1)/\(aR p j).1+1<=i/\i<=p.length/\(aR p j).1<p.length/\fP p (aR p j).1 p.length=fP p (aR p j).1 i/\NId (nk (S2.e 5)) (nk (S2.e 2))/\NId (S2.e 6) (nk (S2.e 2))/\NId (S2.e 6) (nk (S2.e 5))/\S1.n<=S2.n) (λi=>i) p.length ?_ (dI ai fL1 aj)
  rintro i S2 ⟨N3,K3,D2,F9,N4,N5,A6,B3,C1,D0,B1,D3,H0,L8⟩;obtain⟨D7,X9,Y0,Y1,H6,N6,G1,N7,N8,N9,O0,O1,O3,O4,O5,O6,O7⟩:=D2.out;obtain⟨G5,H7,O8,R1⟩:=K3.out;obtain⟨F5,H8,O9,K7⟩:=F9.out;have Y2:=(B1).out (cc H6) (cc H7);have Y3:=(D3).out H8 (cc H7);have Y4:=(H0).out H8 (cc H6);have P0:=dJ (x:=G5) (n:=S2.n);have P2:=dJ (x:=D7) (n:=S2.n);have P3:=dJ (x:=F5) (n:=S2.n);have di2_2i2_5:=qp (x:=G5) (y:=D7);have di2_2i2_6:=qp (x:=G5) (y:=F5);have di2_5i2_6:=qp (x:=D7) (y:=F5);have fL2:=(aa N3 (aa N4 (aa N5 (aa H7 (aa O8 (aa H6 (aa N6 (aa H8 (aa O9 (aa N7 (aa N8 (aa N9 (aa O0 (aa O1 (aa O3 (aa O4 (aa O5 (aa O6 (aa O7 (aa P0 (aa P2 (aa P3 (aa di2_2i2_5 (aa di2_2i2_6 di2_5i2_6))))))))))))))))))))))));have z3:=tD (p:=p) (a:=(aR p j).1) (k:=i);refine dE ai fL2 (pC ?_ ?_ ?_)<;>intro zb hc
  .have e1:i≠(aR p j).1+1:=λe=>by
    have:=Iu C1;rw[show(((aR p j).1+1:Nat):Int)=(i:Int)-1+1 by omega,hc]at this;cases this
   have e2:fP p (aR p j).1 i=fP p (aR p j).1 (i-1):=by
    obtain⟨i',rfl⟩:∃i',i=i'+1:=⟨i-1,by omega⟩;rw[fP,zA8 λh=> ?_];·rfl
    have:=h.2.2;rw[show((i'+1:Nat):Int)=((i'+1:Nat):Int)-1+1 by omega,hc]at this;cases this
   exact ak (i-1) (dC fL2 aj) (dC fL2 aj)
  .have e2:fP p (aR p j).1 p.length=i:=by
    rw[D0];by_cases h2:i=(aR p j).1+1
    .rw[wz (by omega)];omega
    .obtain⟨i',rfl⟩:∃i',i=i'+1:=⟨i-1,by omega⟩
     rw[fP,zB0 ⟨by omega,by omega,by rw[<-hc];congr 1;omega⟩]
   have e3:aR p (j+1)=(i,(aR p j).2.1++[p.getD (aR p j).1 0],(aR p j).2.2++[kM (ge p (aR p j).1 i)]):=by rw[aR,zB0 C1,e2]
   have e4:=zB5 Prod.fst e3;have e5:=zB5 (λx=>x.2.1) e3;have e6:=zB5 (λx=>x.2.2) e3;simp only at e4 e5 e6;have e7:((i:Int)-1+1).toNat=i:=by omega
   refine ak (j+1) (dC fL2 aj) (dC fL2 (yQ ?_ ?_ ?_))<;>intro zb;all_goals(first|(rw[e5];done)|(rw[e5];simp only[zA3];done)|(rw[e4];omega)|(rw[e7,e6];rfl)|(rw[e5];simp;done))
  .have e2:fP p (aR p j).1 i=fP p (aR p j).1 (i-1):=by
    obtain⟨i',rfl⟩:∃i',i=i'+1:=⟨i-1,by omega⟩;rw[fP,zA8 (by omega)];rfl
   exact ak (i-1) (dC fL2 aj) (dC fL2 aj)
 .rw[z2 (by omega)]
 .rw[z2 (by omega)]
 .simp[aR]
def qK(p:List Int):Bool:=ac p&&(aV p).all yD
theorem FM(hp:ac p=true):(aV p).length<=8/\∀q∈aV p,ac q=true:=⟨(ly hp).2.2.1,λq hq=>((ly hp).2.2.2 q hq).1⟩
theorem fi(q:List Int)(hq:ac q=true):Fun Tryz.prog 313 [lI m0 q] [.bool (!(yD q))]:=by
 refine fO au [2] Tryz.func313 ?_;have cE1:=@eK;exact dE ai trivial aj
theorem dw(p:List Int)(hp:p.length<=1048576):Fun Tryz.prog 239 [lI m0 p] [.bool (qK p)]:=by
 by_cases h:ac p=true
 .obtain⟨h8,_⟩:=al h
  have hb:=fe h;obtain⟨s1,s2⟩:=FM h;have e1:(eY rm p p.length).1=aV p:=rfl;have e2:qK p= !((aV p).any λq=> !(yD q)):=by
   rw[qK,h,zF4,List.not_any_eq_all_not];simp
  have c1:=λ(e0 m0:Bool)=>an (e0:=e0) (m0:=m0) (aV p) 313 [] (λq=> !(yD q)) (by omega) (λq hq=>fi (m0:=e0) q (s2 q hq));rw[e2];refine fO au [2] Tryz.func239 ?_;have cE1:=@ae;have cE2:=@cy;have cE3:=@an;have cE4:=@fi;have cE1:=@c1;have cE2:=@ae;have cE3:=@cy;have cE4:=@an;have cE5:=@fi;exact dE ai (aa @h @e1) aj
 .rw[zA9]at h
  have e:qK p=false:=by rw[qK,h];rfl
  rw[e];refine fO au [2] Tryz.func239 ?_;have cE1:=@ae;have cE2:=@cy;have cE3:=@an;have cE4:=@fi;exact dE ai @h aj
theorem mi(p:List Int)(hp:p.length<=1048576):Fun Tryz.prog 181 [lI m0 p] [.bool (qK p)]:=by
 by_cases h:ac p=true
 .obtain⟨h8,hq⟩:=al h
  obtain⟨s1,s2⟩:=FM h;have e1:(eY p7 p p.length).1=aV p:=nX hq;refine fO au [2] Tryz.func181 ?_;have cE1:=@dU;have cE2:=@bG;have cE3:=@aK;have cE4:=@bd;have cE5:=@bE;have cE6:=@ah;have cD1:=d7 (d8 13 [4,10,11]) [(4,5),(4,6),(4,7),(4,8),(4,9)];have cE1:=@bG;have cE2:=@aK;have cE3:=@bd;have cE4:=@bE;have cE5:=@ah;have cE6:=trivial;refine dE ai (aa @h @e1) (aD λzb=> ?_);refine ao (λ(k:Nat) S1=>(S1.e 0=.p (lI m0 p)/\eI S1 4 k)/\OwnL (S1.e 3) S1.h S1.n (cK false) ((aV p).length) (aV p)/\k<=(aV p).length/\(∀q∈(aV p).take k,yD q=true)) (λk=>(aV p).length-k) 0 ?_ (dC trivial aj);rintro k S1 ⟨fF1,A4,A1,A0⟩;obtain⟨A9,A2,B6⟩:=A4.ou;have fL1:=(aa fF1 A2);by_cases hk:k<(aV p).length
  .have r1:=s2 _ (am (d:=[]) hk)
   obtain⟨r2,r3⟩:=al r1;have r4:((aV p).getD k []).reverse.length=((aV p).getD k []).length:=zC4;have r5:(pq ((aV p).getD k []).length).length=((aV p).getD k []).length:=gZ;have r6:decide (((aV p).getD k []).reverse=pq ((aV p).getD k []).length)=yD ((aV p).getD k []):=rfl;cases hd:yD ((aV p).getD k [])with
   |true=>
    have cE1:=@aK;have cE2:=@bd;have cE3:=@bE;have cE4:=@ah;have cE5:=trivial;have cE6:=trivial;refine dE ai (aa fL1 (aa @r6 @hd)) (aI λzb hc=> ?_);refine ak (k+1) (dC fL1 aj) (dC fL1 (aD λzb=> ?_));all_goals(first|(intro q hq;rw[aq (d:=[]) hk]at hq;rcases zB3.1 hq with g|g;exact A0 q g;rw[zB7]at g;subst g;exact hd)|skip)
   |false=>
    have e:qK p=false:=by
     rw[qK,Bool.and_eq_false_iff];exact .inr (List.all_eq_false.2 ⟨_,am (d:=[]) hk,by rw[hd];decide⟩)
    rw[e];have cE1:=@aK;have cE2:=@bd;have cE3:=@bE;have cE4:=@ah;have cE5:=trivial;have cE6:=trivial;exact dE ai (aa fL1 (aa @r6 @hd)) aj
  .rw[zA2 (by omega)]at A0
   have e:qK p=true:=by rw[qK,h,zF4];exact zC8.2 A0
   rw[e];have cE1:=@aK;have cE2:=@bd;have cE3:=@bE;have cE4:=@ah;have cE5:=trivial;have cE6:=trivial;exact dE ai (aa fL1 @h) aj
 .rw[zA9]at h
  have e:qK p=false:=by rw[qK,h];rfl
  rw[e];refine fO au [2] Tryz.func181 ?_;have cE1:=@dU;have cE2:=@bG;have cE3:=@aK;have cE4:=@bd;have cE5:=@bE;have cE6:=@ah;have cD1:=d7 (d8 13 [4,10,11]) [(4,5),(4,6),(4,7),(4,8),(4,9)];have cE2:=@aK;have cE3:=@bd;have cE4:=@bE;have cE5:=@ah;have cE6:=trivial;refine dE ai @h (aD λzb=> ?_);refine ao (λ(k:Nat) S1=>(S1.e 0=.p (lI m0 p)/\eI S1 4 k)/\OwnL (S1.e 3) S1.h S1.n (cK false) ((([]:List (List Int))).length) (([]:List (List Int)))/\k=0) (λ_=>0) 0 ?_ (dI ai trivial aj);rintro k S1 ⟨fF1,A4,A1⟩;obtain⟨A9,A2,B6⟩:=A4.ou;have fL1:=(aa fF1 A2);subst A1;have cE1:=@aK;have cE2:=@bd;have cE3:=@bE;have cE4:=@ah;have cE5:=trivial;have cE6:=trivial;exact dE ai (aa fL1 @h) aj
def UQ:Nat->FuncId
 |0=>318
 |1=>319
 |2=>320
 |3=>321
 |_=>322
def knCs:List PV:=[.str (ln 0),.fn (UQ 0) [] [],.str (ln 1),.fn (UQ 1) [] [],.str (ln 2),.fn (UQ 2) [] [],.str (ln 3),.fn (UQ 3) [] [],.str (ln 4),.fn (UQ 4) [] []]
theorem Na:knCs.length=10:=rfl
theorem acm{k:Nat}(hk:k<5):List.take 2 (List.drop (k*2) knCs)=[.str (ln k),.fn (UQ k) [] []]:=by
 obtain rfl|rfl|rfl|rfl|rfl:k=0\/k=1\/k=2\/k=3\/k=4:=by omega
 all_goals rfl
theorem aby:nJ Tryz.prog 174=true:=by kernel_rfl
theorem Tw:PV.cellOk .nilf=true:=_root_.id rfl
attribute [local go_sem] aby Tw
theorem RW{k:Nat}(hk:k<5)(m:Int)(h0:0<=m/\m<=6):Fun Tryz.prog (UQ k) [.int .i64 m] [.int .i64 (knF k m)]:=by
 obtain rfl|rfl|rfl|rfl|rfl:k=0\/k=1\/k=2\/k=3\/k=4:=by omega
 .exact ci m
 .exact ch m h0
 .exact bL m
 .exact cn m
 .exact cf m h0
theorem dD(L:List (List Int))(n:Int)(hL:L.length<=1048576)(hl:∀l∈L,l.length<=1048576):Fun Tryz.prog 248 [lE m0 e0 L,.int .i64 n] [.str (lV L n)]:=by
 by_cases h:aG L=true/\4<=n/\n<=6
 .have hb:=h.1
  have cl:=Hs h;have e:lV L n=Jr (uW L n):=zB0 h;rw[e];obtain⟨c,hc0⟩:∃c,uW L n=c:=⟨_,rfl⟩;rw[hc0]at cl |-
  refine fO au [4] Tryz.func248 ?_;have cE1:=@ci;have cE2:=@bL;have cE3:=@cn;have cE4:=@aw;have cE5:=@bc;have cE6:=@ch;have cE7:=@cf;refine dE ai (aa @hb @hc0) (aI ?_)<;>(intro zb hc;repeat (have zc:=zb.1;replace zb:=zb.2));refine ao (λ(k:Nat) S1=>(eI S1 33 5/\eI S1 34 k)/\OwnL (S1.e 5) S1.h S1.n (PV.int .i64) ((c).length) c/\PrsL (S1.e 32) S1.h S1.n 5 knCs/\k<=5/\(∀j,j<k->Ph c j=false)/\NId (nk (S1.e 32)) (S1.e 5)) (λk=>5-k) 0 ?_ (dC trivial aj);rintro k S1 ⟨fF1,A7,Y5,A1,A0,A8⟩;obtain⟨B4,A5,B8⟩:=A7.ou;obtain⟨i1_32,R2,l1_32⟩:=Y5.ou;have di1_32i1_5:=(A8).ou (AK R2.1) A5.1;have fL1:=(aa fF1 (aa A5 (aa R2 di1_32i1_5)))
  .by_cases hk:k<5
   .have e1:=acm hk
    refine dE ai (aa fL1 (aa @e1 @Na)) (aI ?_)<;>(intro zb hc;repeat (have zc:=zb.1;replace zb:=zb.2));refine ao (λ(m:Nat) S2=>(S2.e 5=.ref B4 0 (c).length/\S2.h B4=.live false (List.map (PV.int .i64) c)/\S2.e 38=.ref B4 0 (c).length/\S2.h B4=.live false (List.map (PV.int .i64) c)/\eI S2 33 5/\eI S2 34 k/\eI S2 39 c.length/\eI S2 40 m/\S2.e 9=.p (.bool (knK c k m)))/\PrsL (S2.e 32) S2.h S2.n 5 knCs/\PtrL (S2.e 8) S2.h S2.n (.live false [.str (ln k),.fn (UQ k) [] []])/\m<=c.length/\NId (nk (S2.e 8)) (nk (S2.e 32))/\NId (nk (S2.e 32)) (.ref B4 0 0)/\NId (nk (S2.e 8)) (.ref B4 0 0)/\S1.n<=S2.n) (λm=>c.length-m) 0 ?_ (dC fL1 aj);rintro m S2 ⟨fF2,Y6,J7,A6,B1,D3,H0,L8⟩;obtain⟨i2_32,P4,l2_32⟩:=Y6.ou;obtain⟨Q3,F6,Q4⟩:=J7.ou;have di2_8i2_32:=(B1).ou (cc F6.1) (AK P4.1);have di2_32i1_5:=(D3).ou (AK P4.1) rfl;have di2_8i1_5:=(H0).ou (cc F6.1) rfl;have H3:=dJ (x:=B4) (n:=S2.n);have fL2:=(aa fF2 (aa P4 (aa F6 (aa di2_8i2_32 (aa di2_32i1_5 (aa di2_8i1_5 H3))))))
    .by_cases hm:m<c.length
     .have c9:=RW hk m (by omega)
      have cE1:=@c9;have cE2:=@ci;have cE3:=@bL;have cE4:=@cn;have cE5:=@aw;have cE6:=@bc;have cE7:=@ch;have cE8:=@cf;refine dE ai fL2 (f9 ?_ ?_)<;>(intro zb hc;repeat (have zc:=zb.1;replace zb:=zb.2))
      .refine ak (m+1) (dC fL2 aj) (dC fL2 (aD ?_))<;>intro zb
       all_goals(rw[sa];simp[*])
      .refine ak (m+1) (dC fL2 aj) (dC fL2 (aD ?_))<;>intro zb
       all_goals(rw[sa];simp[*])
     .obtain rfl:m=c.length:=by omega
      have cE1:=@ci;have cE2:=@bL;have cE3:=@cn;have cE4:=@aw;have cE5:=@bc;have cE6:=@ch;have cE7:=@cf;have cE8:=trivial;refine dE ai fL2 (f9 ?_ ?_)<;>(intro zb hc;repeat (have zc:=zb.1;replace zb:=zb.2))
      .exact(MZ (by omega) A0 hc).symm
      .refine ak (k+1) (dC fL2 aj) (dC fL2 (aD ?_))<;>intro zb
       intro j hj;by_cases e:j=k
       .subst e;exact hc
       .exact A0 j (by omega)
   .obtain rfl:k=5:=by omega
    have cE1:=@ci;have cE2:=@bL;have cE3:=@cn;have cE4:=@aw;have cE5:=@bc;have cE6:=@ch;have cE7:=@cf;have cE8:=trivial;refine dE ai fL1 (aD ?_)<;>intro zb;all_goals exact(MY A0).symm
 .rw[show lV L n=[]from zA8 h]
  refine fO au [4] Tryz.func248 ?_;have cE1:=@ci;have cE2:=@bL;have cE3:=@cn;have cE4:=@aw;have cE5:=@bc;have cE6:=@ch;have cE7:=@cf;refine dE ai trivial (aI ?_)<;>(intro zb hc;repeat (have zc:=zb.1;replace zb:=zb.2));all_goals exact absurd ⟨by assumption,by omega,by omega⟩ h
end Go.Gl
