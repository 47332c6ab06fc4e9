/-
  What the functions compute, and what the law asks of it: texts joined. Conditions: those that each lemma names.
-/
import Derived.Test.YtjimcmbfljdelaaGreatDoorT10
import Derived.Test.YtjimcmbfljdelaaGreatDoorT1
import Derived.Test.YtjimcmbfljdelaaGreatDoorT2
import Derived.Test.YtjimcmbfljdelaaGreatDoorT12
set_option linter.unusedSimpArgs false
set_option linter.unusedVariables false
set_option maxRecDepth 20000
set_option linter.unusedSectionVars false
set_option maxHeartbeats 16000000
variable{p st:List Int}{v x:Int}{k:Nat}{m0:Bool}
namespace Go.Gl
open Go Go.Proofs
variable [Amb][NoQ]
variable [TabA]
theorem Ub(hk:k<p.length)(h:p.getD k 0<v):md (fL p v) (k+1)=md (fL p v) k:=by
 rw[md,tW hk,zB6 h];simp[bU]
theorem FX(hk:k<p.length)(h:¬p.getD k 0<v):md (fL p v) (k+1)=md (fL p v) k+bU ((fL p v).getD k false):=by
 rw[md,tW hk,zB8 h];rfl
theorem agb(hk:k<p.length):(fL p v).getD (k+2) false=if k+1<p.length then decide (p.getD (k+1) 0<v)else true:=by
 split
 .exact tW (by assumption)
 .rw[show k+2=p.length+1 by omega];exact NS
theorem XT(hp:aF p=true){v:Nat}(h1:1<=v)(h2:v<=p.length)(hk:k<p.length)(he:p.getD k 0=v):
  UG p v=UH (!(fL p v).getD k false) (if k+1<p.length then decide ((v:Int)<p.getD (k+1) 0)else false)::cP (md (fL p v) k+bU ((fL p v).getD k false)):=by
 obtain⟨q1,q2,q3⟩:=vG hp h1 h2;obtain rfl:psI p v=k:=mz hp q1 hk (by rw[q2,he]);rw[UG,FX hk (by omega),agb hk];congr 2;split
 .rename_i h
  have:p.getD (psI p v+1) 0≠(v:Int):=λe=>by have:=mz hp h hk (by rw[e,he]);omega
  rw[<-decide_not];congr 1;simp only[eq_iff_iff];omega
 .rfl
theorem mf(p:List Int)(V:Int)(h8:p.length<=8)(hp:aF p=true)(h1:1<=V)(h2:V<=p.length):Fun Tryz.prog 196 [lI m0 p,.int .i64 V] [.str (UG p V.toNat)]:=by
 refine fO au [4] Tryz.func196 ?_;have cE1:=@aL;obtain⟨v,rfl⟩:∃v:Nat,V=v:=⟨V.toNat,by omega⟩;rw[zC9];have h1:1<=v:=by omega
 have h2:v<=p.length:=by omega
 obtain⟨q1,q2,q3⟩:=vG hp h1 h2;refine dE zF trivial (aD ?_)<;>intro zb;refine nw (λ(k:Nat) (f:Int) S1=>(S1.e 0=.p (lI m0 p)/\eI S1 1 ((v:Int))/\eI S1 5 (md (fL p v) k)/\eI S1 6 f/\eI S1 7 k)/\k<=psI p v/\ -1<=f/\f<k/\(f<0↔(fL p v).getD k false=true)) (λk _=>p.length-k) 0 (-1) ?_ (dI ai trivial ?_);all_goals try(apply nn;repeat' first|exact jb|apply aa|(apply nq;intro zb hc;repeat (have zc:=zb.1;replace zb:=zb.2))|(apply np;intro zb)|intro j')<;>try apply nu
 rintro k f S1 ⟨fL1,A1,A0,A3,B5⟩;have b1:=tK (fL p v) k;have b2:=ju hp (i:=k);have b3:k<p.length->k≠psI p v->p.getD k 0≠v:=λh hn e=>hn (mz hp h q1 (by rw[e,q2]));have b7:=dZ (n:=md (fL p v) k) (by omega) (by omega);have b8:=dZ (n:=md (fL p v) k+1) (by omega) (by omega);have b9:k<p.length->p.getD k 0≠v->k≠psI p v:=λ_ h e=>h (e▸q2);have e9:=λa b=>XT hp h1 h2 (k:=k) a b;have w1:f<0->(fL p v).getD k false=true:=B5.1;have w2:0<=f->(fL p v).getD k false=false:=λh=>by
  cases e:(fL p v).getD k false with
  |false=>rfl
  |true=>have:=B5.2 e;omega
 refine dE ai fL1 (zk9 ?_ ?_ ?_ ?_ ?_ ?_ ?_ ?_ ?_)<;>(intro zb hc;repeat (have zc:=zb.1;replace zb:=zb.2));all_goals try (first
  |(rw[e9 ‹_› ‹_›,w1 (by assumption),zB0 (by omega),zB6 (by omega)];simp[bU,UH];done)
  |(rw[e9 ‹_› ‹_›,w1 (by assumption),zB0 (by omega),zB8 (by omega)];simp[bU,UH];done)
  |(rw[e9 ‹_› ‹_›,w1 (by assumption),zA8 (by omega)];simp[bU,UH];done)
  |(rw[e9 ‹_› ‹_›,w2 (by assumption),zB0 (by omega),zB6 (by omega)];simp[bU,UH];done)
  |(rw[e9 ‹_› ‹_›,w2 (by assumption),zB0 (by omega),zB8 (by omega)];simp[bU,UH];done)
  |(rw[e9 ‹_› ‹_›,w2 (by assumption),zA8 (by omega)];simp[bU,UH];done))
 .refine jC (k+1) (-1) (dC fL1 aj) (dC fL1 (bu ?_ ?_))<;>intro zb
  all_goals first|omega|(rw[Ub ‹_› hc];done)|(rw[tW ‹_›,zB6 hc];simp;done)|skip
 .refine jC (k+1) k (dC fL1 aj) (dC fL1 (bu ?_ ?_))<;>intro zb
  all_goals first|omega|(rw[FX ‹_› (by omega),w1 ‹_›];rfl)|(rw[tW ‹_›,zB8 (by omega)];simp;done)|skip
 .refine jC (k+1) f (dC fL1 aj) (dC fL1 (bu ?_ ?_))<;>intro zb
  all_goals first|omega|(rw[FX ‹_› (by omega),w2 ‹_›];simp[bU];done)|(rw[tW ‹_›,zB8 (by omega)];simp;omega)|skip
 all_goals exact⟨λ_=>ada,λ_=>trivial⟩
def AF(p:List Int):List UInt8:=if ac p=true then Kv p p.length else[]
def Pj(p:List Int):Int:=if ac p=true then z6 p p.length else 0
theorem rC(p:List Int)(hl:p.length<=1048576):Fun Tryz.prog 93 [lI m0 p] [.str (AF p)]:=by
 by_cases hp:ac p=true
 .have pf:=al hp
  have h8:=pf.1;rw[AF,zB0 hp];refine fO au [2] Tryz.func93 ?_;have cE1:=@ah;have cE2:=@mf;refine dE zF trivial (aD λzb=> ?_);refine ao (λ(v:Nat) S1=>(S1.e 0=.p (lI m0 p)/\S1.e 3=.p (.str (Kv p v))/\eI S1 4 ((v+1)))/\v<=p.length) (λv=>p.length-v) 0 ?_ (dC trivial aj);rintro v S1 ⟨fL1,A1⟩;have b3:=uB pf.2 pf.1 A1;by_cases hv:v<p.length
  .have b4:=GK (p:=p) (v:=v+1) (by have:=(vG pf.2 (v:=v+1) (by omega) (by omega)).1;omega)
   have e0:((v:Int)+1).toNat=v+1:=by omega
   refine dE zF (aa fL1 (aa @hp @e0)) (zk9 ?_ ?_ ?_ ?_ ?_ ?_ ?_ ?_ ?_)<;>intro zb hc;all_goals try exact pf.2
   all_goals try exact eQ
   exact ak (v+1) (dC fL1 aj) (dC fL1 aj)
  .skip
   refine dE ai fL1 (aI λzb hc=> ?_);all_goals((obtain rfl:v=p.length:=(by omega));rfl)
 .have hp':ac p=false:=by simpa using hp
  rw[AF,zA8 hp];refine fO au [2] Tryz.func93 ?_;have cE1:=@ah;have cE2:=@mf;refine dE zF trivial (aD λzb=> ?_);refine ao (λ(v:Nat) S1=>(S1.e 0=.p (lI m0 p)/\S1.e 3=.p (.str ([]))/\eI S1 4 1)/\v=0) (λ_=>0) 0 ?_ (dI ai trivial aj);rintro v S1 ⟨fL1,A1⟩;exact dE ai (aa fL1 @hp') aj
theorem jy(p:List Int)(hl:p.length<=1048576):Fun Tryz.prog 288 [lI m0 p] [.int .i64 (Pj p)]:=by
 by_cases hp:ac p=true
 .have pf:=al hp
  have h8:=pf.1;rw[Pj,zB0 hp];refine fO au [2] Tryz.func288 ?_;have cE1:=@bw;have cE2:=@bK;have cE3:=@ah;refine dE ai @hp (f9 ?_ ?_)<;>(intro zb hc;repeat (have zc:=zb.1;replace zb:=zb.2))
  .rw[show p.length=0 by omega,acd (by omega)]
  .have hn:0<p.length:=by omega
   refine ao (λ(v:Nat) S1=>(S1.e 0=.p (lI m0 p)/\eI S1 3 (z6 p v)/\eI S1 4 ((v+1)))/\v<=p.length) (λv=>p.length-v) 0 ?_ (dC trivial ?_);all_goals try(apply nn;repeat' first|exact jb|apply aa|(apply nq;intro zb hc;repeat (have zc:=zb.1;replace zb:=zb.2))|(apply np;intro zb)|intro j')<;>try apply nu
   rintro v S1 ⟨fL1,A1⟩
   .have b4:=GF (p:=p) (v:=v)
    by_cases hv:v<p.length
    .refine dE ai fL1 (aI ?_)<;>(intro zb hc;repeat (have zc:=zb.1;replace zb:=zb.2))
     refine ao (λ(k:Nat) S2=>(S2.e 0=.p (lI m0 p)/\eI S2 3 (z6 p v)/\eI S2 4 ((v+1))/\eI S2 5 (md (fL p ((v:Int)+2)) k)/\eI S2 6 k)/\k<=p.length/\S1.n<=S2.n) (λk=>p.length-k) 0 ?_ (dC fL1 aj);rintro k S2 ⟨fL2,A6,B1⟩;have b5:=tK (fL p ((v:Int)+2)) k;have s1:k<p.length->¬(v:Int)+1<p.getD k 0->md (fL p ((v:Int)+2)) (k+1)=md (fL p ((v:Int)+2)) k:=λh h1=>Ub h (by omega);have s2:k<p.length->(v:Int)+1<p.getD k 0->md (fL p ((v:Int)+2)) (k+1)=md (fL p ((v:Int)+2)) k+bU ((fL p ((v:Int)+2)).getD k false):=λh h1=>FX h (by omega);have q5:z6 p (v+1)=max (z6 p v) (md (fL p ((v:Int)+2)) p.length):=rfl;have s3:k<p.length->¬(k:Int)=0->(fL p ((v:Int)+2)).getD k false=decide (p.getD ((k:Int)-1).toNat 0<=(v:Int)+1):=λh h1=>by
      obtain⟨j,rfl⟩:∃j,k=j+1:=⟨k-1,by omega⟩;rw[tW (by omega),show(((j+1:Nat):Int)-1).toNat=j by omega];congr 1;simp only[eq_iff_iff];omega
     have s4:(k:Int)=0->(fL p ((v:Int)+2)).getD k false=true:=λh=>by
      obtain rfl:k=0:=by omega
      exact ada
     have c0:=ik false;have c1:=ik true;have c2:=ik (decide (p.getD ((k:Int)-1).toNat 0<=(v:Int)+1));by_cases hk:k<p.length
     .refine dE ai fL2 (pC ?_ ?_ ?_)<;>(intro zb hc;repeat (have zc:=zb.1;replace zb:=zb.2))
      .refine ak (k+1) (dC fL2 aj) (dC fL2 (aD ?_))<;>intro zb
       all_goals(rw[s2 ‹_› ‹_›,s3 ‹_› hc])
      .refine ak (k+1) (dC fL2 aj) (dC fL2 (aD ?_))<;>intro zb
       all_goals(rw[s2 ‹_› ‹_›,s4 hc])
      .refine ak (k+1) (dC fL2 aj) (dC fL2 (aD ?_))<;>intro zb
       all_goals(rw[s1 ‹_› (by omega)];simp[bU])
     .refine dE ai fL2 (aI ?_)<;>(intro zb hc;repeat (have zc:=zb.1;replace zb:=zb.2))
      refine ak (v+1) (dC fL2 aj) (dC fL2 (aD ?_))<;>intro zb;all_goals(rw[q5,show k=p.length by omega])
    .skip
     refine dE ai fL1 (aI ?_)<;>(intro zb hc;repeat (have zc:=zb.1;replace zb:=zb.2));all_goals((obtain rfl:v=p.length:=(by omega));rfl)
   all_goals exact(acb hn).symm
 .have hp':ac p=false:=by simpa using hp
  rw[Pj,zA8 hp];refine fO au [2] Tryz.func288 ?_;have cE1:=@bw;have cE2:=@bK;have cE3:=@ah;refine dE ai @hp' ?_;all_goals try(apply nn;repeat' first|exact jb|apply aa|(apply nq;intro zb hc;repeat (have zc:=zb.1;replace zb:=zb.2))|(apply np;intro zb)|intro j')<;>try apply nu
theorem sj(p:List Int)(hl:p.length<=1048576):Fun Tryz.prog 134 [lI m0 p] [.str (AF p)]:=by
 by_cases hp:ac p=true
 .have pf:=al hp
  rw[AF,zB0 hp];refine fO au [2] Tryz.func134 ?_;have cE1:=@ae;have cE2:=@gX;refine dE zF @hp (yQ ?_ ?_ ?_)<;>intro zb;all_goals first|exact pf.1|exact pf.2|skip
  all_goals try exact eQ
 .have hp':ac p=false:=by simpa using hp
  rw[AF,zA8 hp];refine fO au [2] Tryz.func134 ?_;have cE1:=@ae;have cE2:=@gX;refine dE ai @hp' ?_;all_goals try(apply nn;repeat' first|exact jb|apply aa|(apply nq;intro zb hc)|(apply np;intro zb)|intro j')<;>try apply nu
theorem jF(p:List Int)(hl:p.length<=1048576):Fun Tryz.prog 324 [lI m0 p] [.int .i64 (Pj p)]:=by
 by_cases hp:ac p=true
 .have pf:=al hp
  rw[Pj,zB0 hp];refine fO au [2] Tryz.func324 ?_;have cE1:=@ae;have cE2:=@gX;refine dE zF @hp (yQ ?_ ?_ ?_)<;>intro zb;all_goals first|exact pf.1|exact pf.2|skip
  all_goals try exact eQ
 .have hp':ac p=false:=by simpa using hp
  rw[Pj,zA8 hp];refine fO au [2] Tryz.func324 ?_;have cE1:=@ae;have cE2:=@gX;refine dE ai @hp' ?_;all_goals try(apply nn;repeat' first|exact jb|apply aa|(apply nq;intro zb hc)|(apply np;intro zb)|intro j')<;>try apply nu
end Go.Gl
namespace Go.Gl
open Go Go.Proofs
variable [Amb][NoQ]
def Ba(st:List Int):Int:=st.getD (st.length-1) 0
theorem o0:Ba (st++[x])=x:=by
 unfold Ba;rw[zA0,zD1 (by simp)];simp
theorem pu:(st++[x]).take ((st++[x]).length-1)=st:=by
 rw[zA3,zC5,Nat.add_sub_cancel,List.take_left'];rfl
theorem ze(h:st≠[]):∃s x,st=s++[x]:=⟨st.dropLast,st.getLast h,(List.dropLast_concat_getLast h).symm⟩
def iB:Nat->List Int->Int->Nat
 |0,_,_=>0
 |f+1,st,nx=>if st≠[]/\Ba st=nx then iB f (st.take (st.length-1)) (nx+1)+1 else 0
theorem s7:∀{f:Nat} {st:List Int} {nx:Int},st.length<=f->iB f st nx<=st.length/\(∀x,x∈st↔x∈st.take (st.length-iB f st nx)\/nx<=x/\x<nx+iB f st nx)/\(st.take (st.length-iB f st nx)=[]\/Ba (st.take (st.length-iB f st nx))≠nx+iB f st nx)
 |0,st,nx,h=>by
  obtain rfl:st=[]:=zA4 (by omega);simp[iB]
 |f+1,st,nx,h=>by
  rw[iB];by_cases q:st≠[]/\Ba st=nx
  .obtain⟨s,x,rfl⟩:=ze q.1
   have q1:=q.2;rw[o0]at q1;subst q1;rw[zB0 q,pu];rw[zA3,zC5]at h |-
   obtain⟨h1,h2,h3⟩:=s7 (f:=f) (st:=s) (nx:=x+1) (by omega);have e:(s++[x]).take (s.length+1-(iB f s (x+1)+1))=s.take (s.length-iB f s (x+1)):=by
    rw[zG4 (by omega)];congr 1;omega
   rw[e];refine⟨by omega,λy=> ?_, ?_⟩
   .rw[zB3,h2,zB7]
    constructor
    .rintro((a|a)|a)
     .exact .inl a
     .exact .inr (by omega)
     .exact .inr (by omega)
    .rintro(a|a)
     .exact .inl (.inl a)
     .by_cases e:y=x
      .exact .inr e
      .exact .inl (.inr (by omega))
   .rcases h3 with h3|h3
    .exact .inl h3
    .refine .inr λg=>h3 ?_;rw[g];omega
  .rw[zA8 q]
   simp only[Nat.sub_zero,zE6];refine⟨by omega,λx=>⟨.inl,λh=>h.elim (λh=>h) λh=>by omega⟩, ?_⟩;by_cases e:st=[]
   .exact .inl e
   .exact .inr λg=>q ⟨e,by omega⟩
def xT:List Int->List Int->Int->List UInt8×List Int
 |[],st,_=>([],st)
 |v::p,st,nx=>
  let c:=iB (st.length+1) (st++[v]) nx;let r:=xT p ((st++[v]).take (st.length+1-c)) (nx+c)
  (73::(List.replicate c 79++r.1),r.2)
end Go.Gl
