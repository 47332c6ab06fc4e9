/-
  What the functions compute, and what the law asks of it: texts joined. Conditions: those that each lemma names.
-/
import Derived.Test.YtjimcmbfljdelaaGreatDoorT2
import Derived.Test.YtjimcmbfljdelaaGreatDoorShelfS
import Derived.Test.YtjimcmbfljdelaaGreatDoorGlC
import Derived.Test.YtjimcmbfljdelaaGreatDoorT3
import Derived.Test.YtjimcmbfljdelaaGreatDoorT1
set_option linter.unusedSimpArgs false
set_option linter.unusedVariables false
set_option maxRecDepth 20000
set_option linter.unusedSectionVars false
set_option maxHeartbeats 16000000
variable{X:List (List UInt8)}{a b l:List UInt8}{p r:List Int}{i k:Nat}{m0:Bool}{v:Int}
namespace Go.Gl
open Go Go.Proofs
variable [Amb][NoQ]
class SplA[Amb]:Prop where
 has:∀w:World,(∀B o,Amb.tb B=some o->w.heap[B]? =some o)->∃m:Int,w.cell? ⟨0,0,none⟩=some (.int .i64 m)
variable [SplA]
def xa(cur:List UInt8):List (List UInt8)->List (List UInt8)
 |[]=>[]
 |h::t=>(cur++h)::t
theorem Dy:xa [] X=X:=by cases X<;>rfl
theorem OR:xa a (xa b X)=xa (a++b) X:=by cases X<;>simp[xa]
theorem HJ{c b:UInt8}(h:¬b=c):∀{k:Nat},Lib.splitK [c] 0 k (b::l)=xa [b] (Lib.splitK [c] 0 k l)
 |0=>rfl
 |k+1=>by
  have e:Lib.index (b::l) [c]=if Lib.index l [c]== -1 then -1 else Lib.index l [c]+1:=by
   rw[Lib.index];have hp:List.isPrefixOf [c] (b::l)=false:=by simp[List.isPrefixOf];exact λe=>h e.symm
   rw[hp];rfl
  rw[Lib.splitK,Lib.splitK,e];by_cases hm:Lib.index l [c]= -1
  .simp[hm,xa]
  .have hge:=Lib.index_ge l [c]
   obtain⟨j,hj⟩:∃j:Nat,Lib.index l [c]=j:=⟨(Lib.index l [c]).toNat,by omega⟩;have h1:¬((j:Int)= -1):=by omega
   have h2:¬((j:Int)+1= -1):=by omega
   have h3:((j:Int)+1).toNat=j+1:=by omega
   simp[hj,h1,h2,h3,xa]
theorem sU{c:UInt8}:∀{s cur:List UInt8},tJ c s cur=xa cur (Lib.splitK [c] 0 (s.count c) s)
 |[],cur=>by simp[tJ,Lib.splitK,xa]
 |b::l,cur=>by
  by_cases h:b=c
  .subst h
   have e:Lib.index (b::l) [b]=0:=by rw[Lib.index];simp[List.isPrefixOf]
   rw[tJ,zB0 rfl,List.count_cons_self,Lib.splitK,e,sU,Dy];simp[xa]
  .rw[tJ,zA8 h,sU,List.count_cons_of_ne (by simpa using h),HJ h,OR]
theorem cV(s:List UInt8)(c:UInt8)(hl:s.length<=1048576):Fun Tryz.prog 24 [.str s,.str [c]] [.sl .own (List.map .str (ar c s))]:=by
 refine Fun.of_row 9 Tryz.func24 rfl rfl (dv (λ_=>rfl) _) (by intro x hx;rw[zD0]at hx;obtain⟨_,_,rfl⟩:=hx;rfl) ?_;intro w F G vs hamb hv;simp only[RepL]at hv;obtain⟨a,vs1,rfl,ha,b,vs2,rfl,hb,rfl⟩:=hv;have ha:=iR ha;have hb:=iR hb;subst ha;subst hb;obtain⟨m,hm⟩:=SplA.has w hamb;have e1:(Lib.splitB ⟨#[c]⟩ 0 (Lib.countB ⟨s.toArray⟩ ⟨#[c]⟩) ⟨s.toArray⟩).map (·.data.toList)=ar c s:=by
  rw[Lib.splitB_data,ar,sU,Dy];show Lib.splitK [c] 0 (Lib.count s [c]) s=_;rw[Lib.count_one]
 have e2:=Lib.splitB_all ⟨#[c]⟩ (zB1 1) 0 _ (⟨s.toArray⟩:ByteArray) rfl;have e3:(ar c s).length=Lib.countB ⟨s.toArray⟩ ⟨#[c]⟩+1:=by rw[<-e1,zB2,e2]
 have e4:=lA (c:=c) (s:=s) (cur:=[]);refine(Tryz.strings_Split ⟨s.toArray⟩ ⟨[c].toArray⟩ m w (by show s.length<_;omega) hm (zB1 1)).mono λe w' h=> ?_;obtain⟨he,hw⟩:=h;have e5:List.map Jn (List.map PV.str (ar c s))=(Lib.splitB ⟨#[c]⟩ 0 (Lib.countB ⟨s.toArray⟩ ⟨#[c]⟩) ⟨s.toArray⟩).map Value.string:=by
  rw[<-e1,List.map_map,List.map_map];refine zH4 λx _=> ?_;simp[Jn,Gn]
 subst hw;refine⟨_,he, ?_,(Go.RowKit.Below.refl _ _).alloc (zB1 _) _⟩;rw[e5,zB2,e3];refine⟨by rw[zB2,e2];simp,.inr ⟨w.heap.size,_,((Lib.splitB ⟨#[c]⟩ 0 (Lib.countB ⟨s.toArray⟩ ⟨#[c]⟩) ⟨s.toArray⟩).map Value.string).toArray,rfl,zB1 _,(show(w.heap.push _)[w.heap.size]? =some _ by simp),zB1 _, ?_,by simp[e2],by simp only[Nat.mul_one];exact zA2 (by simp[e2])⟩⟩;have hm:maxLen=9223372036854775807:=rfl;unfold ar at e3;omega
end Go.Gl
namespace Go.Gl
open Go Go.Proofs
variable [Amb][NoQ]
def Dv(p:List Int)(i:Nat):Bool:=decide (p.getD i 0<p.getD (i-1) 0)==decide ((i:Int).tmod 2=1)
def w9(p:List Int):Bool:=ac p&&(List.range p.length).all λi=>decide (i=0)||Dv p i
theorem OQ(hk:k<p.length)(h0:1<=k)(h:Dv p k=false):w9 p=false:=by
 rw[w9,Bool.and_eq_false_iff];refine .inr (List.all_eq_false.2 ⟨k,zD5.2 hk, ?_⟩);rw[h,zB8 (by omega)];decide
theorem Hv(h:∀i,1<=i->i<p.length->Dv p i=true):w9 p=ac p:=by
 have:((List.range p.length).all λi=>decide (i=0)||Dv p i)=true:=zC8.2 λi hi=>by
  rw[zD5]at hi;by_cases h0:i=0
  .rw[zB6 h0];rfl
  .rw[h i (by omega) hi,Bool.or_true]
 rw[w9,this,zG1]
theorem jx(p:List Int)(hp:p.length<=1048576):Fun Tryz.prog 187 [lI m0 p] [.bool (w9 p)]:=by
 refine fO au [2] Tryz.func187 ?_;have cE1:=@ah;refine dE ai trivial (aD λzb=> ?_);refine ao (λ(k:Nat) S1=>(S1.e 0=.p (lI m0 p)/\eI S1 3 k)/\1<=k/\(k<=p.length\/k=1)/\(∀i,1<=i->i<k->Dv p i=true)) (λk=>p.length-k) 1 ?_ (dC trivial aj);rintro k S1 ⟨fL1,A1,A0,A3⟩;by_cases hk:k<p.length
 .have z:((k:Int)-1).toNat=k-1:=by omega
  cases ha:Dv p k with
  |true=>
   have ha':(decide (p.getD k 0<p.getD (k-1) 0)==decide ((k:Int).tmod 2=1))=true:=ha;refine dE ai (aa fL1 (aa @ha' @z)) (aI λzb hc=> ?_);refine ak (k+1) (dC fL1 aj) (dC fL1 (aD λzb=> ?_));all_goals(first|(intro i h1 h2;by_cases e:i=k;(subst e;exact ha);exact A3 i h1 (by omega))|omega|skip)
  |false=>
   have ha':(decide (p.getD k 0<p.getD (k-1) 0)==decide ((k:Int).tmod 2=1))=false:=ha;rw[OQ hk A1 ha];exact dE ai (aa fL1 (aa @ha' @z)) aj
 .rw[Hv λi h1 h2=>A3 i h1 (by omega)]
  exact dE ai fL1 aj
theorem cm(p:List Int)(hp:p.length<=1048576):Fun Tryz.prog 245 [lI m0 p] [.bool (w9 p)]:=by
 by_cases h:ac p=true
 .refine fO au [2] Tryz.func245 ?_
  have cE1:=@ae;refine dE ai @h (aD λzb=> ?_);refine ao (λ(k:Nat) S1=>(S1.e 0=.p (lI m0 p)/\eI S1 3 k)/\1<=k/\(k<=p.length\/k=1)/\(∀i,1<=i->i<k->Dv p i=true)) (λk=>p.length-k) 1 ?_ (dC trivial aj);rintro k S1 ⟨fL1,A1,A0,A3⟩;by_cases hk:k<p.length
  .have z:((k:Int)-1).toNat=k-1:=by omega
   cases ha:Dv p k with
   |true=>
    have ha':(decide (p.getD k 0<p.getD (k-1) 0)==decide ((k:Int).tmod 2=1))=true:=ha;refine dE ai (aa fL1 (aa @ha' @z)) (aI λzb hc=> ?_);refine ak (k+1) (dC fL1 aj) (dC fL1 (aD λzb=> ?_));all_goals(first|(intro i h1 h2;by_cases e:i=k;(subst e;exact ha);exact A3 i h1 (by omega))|omega|skip)
   |false=>
    have ha':(decide (p.getD k 0<p.getD (k-1) 0)==decide ((k:Int).tmod 2=1))=false:=ha;rw[OQ hk A1 ha];exact dE ai (aa fL1 (aa @ha' @z)) aj
  .rw[Hv λi h1 h2=>A3 i h1 (by omega),h]
   exact dE ai fL1 aj
 .rw[zA9]at h
  have e:w9 p=false:=by rw[w9,h];rfl
  rw[e];refine fO au [2] Tryz.func245 ?_;have cE1:=@ae;exact dE ai @h aj
def Af(p:List Int):Bool:=ac p&&decide (p=jM p)
theorem jV(p:List Int)(hp:p.length<=1048576):Fun Tryz.prog 186 [lI m0 p] [.bool (Af p)]:=by
 by_cases h:ac p=true
 .obtain⟨h8,hq⟩:=al h
  have i1:(jM p).length=p.length:=j5;rw[Af,h,zF4];refine fO au [2] Tryz.func186 ?_;have cE1:=@ah;have cE2:=@bJ;have cE3:=@bE;exact dE ai @h aj
 .rw[zA9]at h
  rw[Af,h,zH9];refine fO au [2] Tryz.func186 ?_;have cE1:=@ah;have cE2:=@bJ;have cE3:=@bE;exact dE ai @h aj
theorem cw(p:List Int)(hp:p.length<=1048576):Fun Tryz.prog 244 [lI m0 p] [.bool (Af p)]:=by
 by_cases h:ac p=true
 .obtain⟨h8,hq⟩:=al h
  have i1:(jM p).length=p.length:=j5;rw[Af,h,zF4];refine fO au [2] Tryz.func244 ?_;have cE1:=@ae;have cE2:=@bD;have cE3:=@dh;exact dE ai @h aj
 .rw[zA9]at h
  rw[Af,h,zH9];refine fO au [2] Tryz.func244 ?_;have cE1:=@ae;have cE2:=@bD;have cE3:=@dh;exact dE ai @h aj
variable [TabA]
def md(l:List Bool):Nat->Int
 |0=>0
 |j+1=>md l j+bU (!l.getD (j+1) false&&l.getD j false)
theorem tK(l:List Bool):∀j:Nat,0<=md l j/\md l j<=j
 |0=>by simp[md]
 |j+1=>by
  have:=tK l j;have:=ik (!l.getD (j+1) false&&l.getD j false);rw[md];omega
theorem Bh{l:List Bool}{m:Nat}:∀{j:Nat},j<m->md (l.take m) j=md l j
 |0,_=>rfl
 |j+1,h=>by
  rw[md,md,Bh (by omega)];grind
theorem sh(l:List Bool)(hl:l.length<=1048576):Fun Tryz.prog 330 [.sl (.lent m0) (List.map PV.bool l)] [.int .i64 (md l (l.length-1))]:=by
 refine fO au [2] Tryz.func330 ?_;refine dE zF trivial (aD ?_)<;>intro zb;refine ao (λ(j:Nat) S1=>(S1.e 0=.p (.sl (.lent m0) (List.map PV.bool l))/\eI S1 3 (md l j)/\eI S1 4 ((j+1)))/\(j=0\/j+1<=l.length)) (λj=>l.length-j) 0 ?_ (dI ai trivial aj);rintro j S1 ⟨fL1,A1⟩;have b1:=tK l j;refine dE ai fL1 (AN ?_ ?_ ?_ ?_)<;>(intro zb hc;repeat (have zc:=zb.1;replace zb:=zb.2));all_goals try rw[show((j:Int)+1-1).toNat=j by omega]at hc
 .refine ak (j+1) (dC fL1 aj) (dC fL1 (aD ?_))<;>intro zb
  all_goals first|omega|(rw[md,‹l.getD (j+1) false=false›,hc];rfl)
 .refine ak (j+1) (dC fL1 aj) (dC fL1 (aD ?_))<;>intro zb
  all_goals first|omega|(rw[md,‹l.getD (j+1) false=false›,hc];simp[bU];done)
 .refine ak (j+1) (dC fL1 aj) (dC fL1 (aD ?_))<;>intro zb
  all_goals first|omega|(rw[md,hc];simp[bU];done)
 .rw[show l.length-1=j by omega]
def fL(p:List Int)(v:Int):List Bool:=true::(p.map (λx=>decide (x<v))++[true])
theorem gA:(fL p v).length=p.length+2:=by simp[fL]
theorem ada:(fL p v).getD 0 false=true:=rfl
theorem tW(h:k<p.length):(fL p v).getD (k+1) false=decide (p.getD k 0<v):=by
 grind [fL]
theorem NS:(fL p v).getD (p.length+1) false=true:=by
 grind [fL]
theorem PZ:md (fL p v) (p.length+1)=md (fL p v) p.length:=by
 rw[md,NS];simp[bU]
theorem YX(hp:aF p=true){v:Nat}(hi:i<p.length)(e:p.getD i 0=v):(fL p v).set (i+1) true=fL p ((v:Int)+1):=by
 refine zI7 λj=> ?_;rw[List.getElem?_set];by_cases hj:i+1=j
 .grind [gA,fL]
 .rw[zA8 hj]
  cases j with
  |zero=>rfl
  |succ k=>
   simp only[fL,zG5];grind [mz]
def psI(p:List Int)(v:Nat):Nat:=((jM p).getD (v-1) 0-1).toNat
theorem vG(hp:aF p=true){v:Nat}(h1:1<=v)(h2:v<=p.length):psI p v<p.length/\p.getD (psI p v) 0=v/\(jM p).getD (v-1) 0=(psI p v:Int)+1:=by
 obtain⟨i,hi,e⟩:=HV hp (v:=v) (by omega) (by omega);have h3:=GS hp (zB1 _) i hi;simp_all [psI,jM]
theorem ac9(hp:aF p=true):((List.replicate (p.length+2) false).set 0 true).set (p.length+1) true=fL p 1:=by
 refine zI7 λj=> ?_;rw[List.getElem?_set,List.getElem?_set];cases j with
 |zero=>simp[fL]
 |succ k=>
  simp only[fL,zG5];by_cases hk:k<p.length
  .rw[zD8 (by simpa using hk),zA5,zA1 hk,zA8 (by omega),zA8 (by omega),List.getElem?_replicate,zB0 (by omega)]
   have:=ju hp hk;grind
  grind
def UH(b a:Bool):UInt8:=if b&&a then 109 else if b then 114 else if a then 108 else 102
def UG(p:List Int)(v:Nat):List UInt8:=UH (!(fL p v).getD (psI p v) false) (!(fL p v).getD (psI p v+2) false)::cP (md (fL p v) (psI p v+1))
def Kv(p:List Int):Nat->List UInt8
 |0=>[]
 |v+1=>Kv p v++UG p (v+1)
def z6(p:List Int):Nat->Int
 |0=>if p.length=0 then 0 else 1
 |v+1=>max (z6 p v) (md (fL p ((v:Int)+2)) p.length)
theorem GF{p:List Int}:∀{v:Nat},0<=z6 p v/\z6 p v<=max 1 p.length
 |0=>by grind [z6]
 |v+1=>by
  have:=GF (p:=p) (v:=v);have:=tK (fL p ((v:Int)+2)) p.length;rw[z6];omega
theorem GK{v:Nat}(hl:psI p v<=8):(UG p v).length<=22:=by
 have h1:=tK (fL p v) (psI p v+1);grind [dZ,UG]
theorem uB{p:List Int}(hp:aF p=true)(h8:p.length<=8):∀{v:Nat},v<=p.length->(Kv p v).length<=v*22
 |0,_=>by simp[Kv]
 |v+1,h=>by
  have h1:=uB hp h8 (v:=v) (by omega);have h2:=GK (p:=p) (v:=v+1) (by have:=(vG hp (v:=v+1) (by omega) h).1;omega);grind [Kv]
theorem acb(hc:0<p.length):z6 p 0=1:=by grind [z6]
theorem acd(hc:¬0<p.length):z6 p 0=0:=by grind [z6]
theorem gX(p:List Int)(h8:p.length<=8)(hp:aF p=true):Fun Tryz.prog 254 [lI m0 p] [.str (Kv p p.length),.int .i64 (z6 p p.length)]:=by
 have b1:(jM p).length=p.length:=j5;by_cases hz:p=[]
 .have hz0:p.length=0:=by rw[hz];rfl
  refine fO au [2,3] Tryz.func254 ?_;have cE1:=@bD;have cE2:=@sh;have cE3:=@aQ;refine dE ai trivial (aI ?_)<;>(intro zb hc;repeat (have zc:=zb.1;replace zb:=zb.2));refine ao (λ(v:Nat) S1=>(S1.e 0=.p (lI m0 p)/\S1.e 5=.p (.str (Kv p v))/\eI S1 6 (z6 p v)/\eI S1 8 ((v+1)))/\OwnL (S1.e 4) S1.h S1.n (PV.int .i64) ((jM p).length) (jM p)/\OwnL (S1.e 7) S1.h S1.n PV.bool ((fL p ((v:Int)+1)).length) (fL p ((v:Int)+1))/\v<=p.length/\NId (S1.e 7) (S1.e 4)) (λv=>p.length-v) 0 ?_ (dC trivial ?_);all_goals try(apply nn;repeat' first|exact jb|apply aa|(apply nq;intro zb hc;repeat (have zc:=zb.1;replace zb:=zb.2))|(apply np;intro zb)|intro j')<;>try apply nu
  rintro v S1 ⟨fF1,B7,G0,A1,A8⟩;obtain⟨C4,B2,C8⟩:=B7.ou;obtain⟨K8,E7,K9⟩:=G0.ou;have di1_7i1_4:=(A8).ou E7.1 B2.1;have fL1:=(aa fF1 (aa B2 (aa E7 di1_7i1_4)))
  .have b2:(fL p ((v:Int)+1)).length=p.length+2:=gA
   refine dE ai fL1 (f9 ?_ ?_)<;>(intro zb hc;repeat (have zc:=zb.1;replace zb:=zb.2));all_goals((obtain rfl:v=p.length:=(by omega));rfl)
  .exact(acd (by omega)).symm
  .rw[gA];omega
  .rw[show((p.length:Int)+2).toNat=p.length+2 by omega];exact ac9 hp
 .have hn:0<(p.length:Int):=by cases p with|nil=>exact absurd rfl hz|cons=>simp
  refine fO au [2,3] Tryz.func254 ?_;have cE1:=@bD;have cE2:=@sh;have cE3:=@aQ;refine dE ai trivial (aI ?_)<;>(intro zb hc;repeat (have zc:=zb.1;replace zb:=zb.2));refine ao (λ(v:Nat) S1=>(S1.e 0=.p (lI m0 p)/\S1.e 5=.p (.str (Kv p v))/\eI S1 6 (z6 p v)/\eI S1 8 ((v+1)))/\OwnL (S1.e 4) S1.h S1.n (PV.int .i64) ((jM p).length) (jM p)/\OwnL (S1.e 7) S1.h S1.n PV.bool ((fL p ((v:Int)+1)).length) (fL p ((v:Int)+1))/\v<=p.length/\NId (S1.e 7) (S1.e 4)) (λv=>p.length-v) 0 ?_ (dC trivial ?_);all_goals try(apply nn;repeat' first|exact jb|apply aa|(apply nq;intro zb hc;repeat (have zc:=zb.1;replace zb:=zb.2))|(apply np;intro zb)|intro j')<;>try apply nu
  rintro v S1 ⟨fF1,B7,G0,A1,A8⟩;obtain⟨C4,B2,C8⟩:=B7.ou;obtain⟨K8,E7,K9⟩:=G0.ou;have di1_7i1_4:=(A8).ou E7.1 B2.1;have fL1:=(aa fF1 (aa B2 (aa E7 di1_7i1_4)));have b2:(fL p ((v:Int)+1)).length=p.length+2:=gA;have b3:=uB hp h8 A1;have b4:=GF (p:=p) (v:=v);by_cases hk:v<p.length
  .obtain⟨q1,q2,q3⟩:=vG hp (v:=v+1) (by omega) (by omega)
   have q4:Kv p (v+1)=Kv p v++UG p (v+1):=rfl;have q5:z6 p (v+1)=max (z6 p v) (md (fL p ((v:Int)+2)) p.length):=rfl;rw[UG,show((v+1:Nat):Int)=(v:Int)+1 by omega]at q4;obtain⟨i,hi⟩:∃i,i=psI p (v+1):=⟨_,rfl⟩;rw[<-hi]at q1 q2 q3 q4;have b5:=tK (fL p ((v:Int)+1)) (i+1);have b6:=tK (fL p ((v:Int)+2)) p.length;have e0:((v:Int)+1-1).toNat=v:=by omega
   have e1:(jM p).getD v 0=(i:Int)+1:=q3;have e2:((i:Int)+1+1).toNat=i+2:=by omega
   have e3:((i:Int)+1-1).toNat=i:=by omega
   have e3b:((i:Int)+1).toNat=i+1:=by omega
   have e4:md ((fL p ((v:Int)+1)).take (i+2)) (((fL p ((v:Int)+1)).take (i+2)).length-1)=md (fL p ((v:Int)+1)) (i+1):=by
    rw[zD3,b2,show min (i+2) (p.length+2)-1=i+1 by omega,Bh (by omega)]
   have e6:(fL p ((v:Int)+1)).set (i+1) true=fL p ((v:Int)+2):=by
    have:=YX hp (v:=v+1) q1 q2;rw[show(((v+1:Nat):Int))=(v:Int)+1 by omega,show(v:Int)+1+1=(v:Int)+2 by omega]at this;exact this
   have e7:(fL p ((v:Int)+2)).length=p.length+2:=gA;have e5:md (fL p ((v:Int)+2)) ((fL p ((v:Int)+2)).length-1)=md (fL p ((v:Int)+2)) p.length:=by
    rw[e7,show p.length+2-1=p.length+1 by omega,PZ]
   have b7:=dZ (n:=md (fL p ((v:Int)+1)) (i+1)) (by omega) (by omega);have b8:((i+2:Nat):Int)<=(fL p ((v:Int)+1)).length:=by rw[b2];omega
   refine dE ai (aa fL1 (aa @e0 (aa @e1 (aa @e2 (aa @e3 (aa @e3b (aa @e4 (aa @e6 @e5)))))))) ?_;all_goals try(apply nn;repeat' first|exact jb|apply aa|(apply nq;intro zb hc;repeat (have zc:=zb.1;replace zb:=zb.2))|(apply np;intro zb)|intro j')<;>try apply nu
   .rw[‹(fL p ((v:Int)+1)).getD i false=false›,hc]at q4
    refine ak (v+1) (dC fL1 aj) (dC fL1 (yQ ?_ ?_ ?_))<;>intro zb;all_goals first|(rw[q4];rfl)|(rw[zA2 (by rw[b2,e7];omega),e5,q5];done)|(rw[gA,gA];done)|skip
   .rw[‹(fL p ((v:Int)+1)).getD i false=false›,hc]at q4
    refine ak (v+1) (dC fL1 aj) (dC fL1 (yQ ?_ ?_ ?_))<;>intro zb;all_goals first|(rw[q4];rfl)|(rw[zA2 (by rw[b2,e7];omega),e5,q5];done)|(rw[gA,gA];done)|skip
   .rw[‹(fL p ((v:Int)+1)).getD i false=true›,hc]at q4
    refine ak (v+1) (dC fL1 aj) (dC fL1 (yQ ?_ ?_ ?_))<;>intro zb;all_goals first|(rw[q4];rfl)|(rw[zA2 (by rw[b2,e7];omega),e5,q5];done)|(rw[gA,gA];done)|skip
   .rw[‹(fL p ((v:Int)+1)).getD i false=true›,hc]at q4
    refine ak (v+1) (dC fL1 aj) (dC fL1 (yQ ?_ ?_ ?_))<;>intro zb;all_goals first|(rw[q4];rfl)|(rw[zA2 (by rw[b2,e7];omega),e5,q5];done)|(rw[gA,gA];done)|skip
  .skip
   refine dE ai fL1 (f9 ?_ ?_)<;>(intro zb hc;repeat (have zc:=zb.1;replace zb:=zb.2));all_goals((obtain rfl:v=p.length:=(by omega));rfl)
  .exact(acb (by omega)).symm
  .rw[gA];omega
  .rw[show((p.length:Int)+2).toNat=p.length+2 by omega];exact ac9 hp
end Go.Gl
namespace Go.Gl
open Go Go.Proofs
variable [Amb][NoQ]
theorem zE{x y:Int}(h:x<y):∀{l:List Int},(l.filter λz=>decide (z<x)).length+l.count x<=(l.filter λz=>decide (z<y)).length
 |[]=>by simp
 |a::l=>by
  have ih:=zE h (l:=l);rw[List.filter_cons,List.filter_cons,List.count_cons];by_cases h1:a<x
  .have h2:a<y:=by omega
   have h3:¬a=x:=by omega
   simp[h1,h2,h3];omega
  .by_cases h2:a<y
   .by_cases h3:a=x
    .simp[h1,h2,h3,h];omega
    .simp[h1,h2,h3];omega
   .have h3:¬a=x:=by omega
    simp[h1,h2,h3];omega
theorem uK(hi:i<r.length):(kM r).getD i 0=(((r.filter λz=>decide (z<r.getD i 0)).length:Nat):Int)+1:=by
 rw[kM,zA0,zA5,zA1 hi,zA0,zA1 hi];simp[xf]
theorem LT{j:Nat}(hi:i<r.length)(hj:j<r.length):(kM r).getD i 0<(kM r).getD j 0↔r.getD i 0<r.getD j 0:=by
 rw[uK hi,uK hj];have hc:∀k,k<r.length->1<=r.count (r.getD k 0):=λk hk=>List.one_le_count_iff.2 (am hk);have h1:=hc i hi;have h2:=hc j hj;rcases Int.lt_trichotomy (r.getD i 0) (r.getD j 0)with h|h|h
 .have:=zE h (l:=r);omega
 .rw[h];omega
 .have:=zE h (l:=r);omega
variable [SplA]
theorem aO(s:List UInt8)(c:UInt8)(hs:s.length<=1048576):Fun Tryz.prog 12 [.str s,.int .u8 ((c.toNat:Int))] [.sl .own (List.map PV.str (ar c s))]:=by
 refine fO au [4] Tryz.func12 ?_;have cE1:=@cV;have c1:=λh=>cV s c h;exact dE ai trivial aj
end Go.Gl
