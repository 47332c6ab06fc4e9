/-
  What the functions compute, and what the law asks of it: texts joined. Conditions: those that each lemma names.
-/
import Derived.Test.YtjimcmbfljdelaaGreatDoorT13
import Derived.Test.YtjimcmbfljdelaaGreatDoorT2
import Derived.Test.YtjimcmbfljdelaaGreatDoorT1
import Derived.Test.YtjimcmbfljdelaaGreatDoorT12
import Derived.Test.YtjimcmbfljdelaaGreatDoorShelfS
import Derived.Test.YtjimcmbfljdelaaGreatDoorT10
set_option linter.unusedSimpArgs false
set_option linter.unusedVariables false
set_option maxRecDepth 20000
set_option linter.unusedSectionVars false
set_option maxHeartbeats 16000000
variable{D L:List (List Int)}{l p x:List Int}{i j k t:Nat}{m0 m1:Bool}
namespace Go.Gl
open Go Go.Proofs
variable [Amb][NoQ]
def Jy(L:List (List Int))(p:List Int):Nat->Nat
 |0=>0
 |k+1=>if io p (L.getD k [])=true then Jy L p k else k+1
theorem Ds{L:List (List Int)}{p:List Int}:∀{k:Nat},Jy L p k<=k/\(∀i,Jy L p k<=i->i<k->io p (L.getD i [])=true)/\(Jy L p k=0\/io p (L.getD (Jy L p k-1) [])=false)
 |0=>⟨zB1 _,λi _ h=>absurd h (by omega),.inl rfl⟩
 |k+1=>by
  rw[Jy];by_cases e:io p (L.getD k [])=true
  .rw[zB0 e]
   obtain⟨h1,h2,h3⟩:=Ds (L:=L) (p:=p) (k:=k);refine⟨by omega,λi hi hk=> ?_,h3⟩;by_cases q:i=k
   .subst q;exact e
   .exact h2 i hi (by omega)
  .rw[zA8 e]
   refine⟨zB1 _,λi hi hk=>by omega,.inr ?_⟩;simpa using e
def Nn(L:List (List Int))(p:List Int)(j:Nat):List (List Int):=L.take j++p::L.drop j
def Yi(L:List (List Int))(p:List Int):List (List Int):=Nn L p (Jy L p L.length)
def nP(L:List (List Int))(p:List Int):List (List Int):=if 0<Jy L p L.length/\L.getD (Jy L p L.length-1) []=p then L else Yi L p
theorem Nm:(Nn L p j).length=L.length+1:=by
 unfold Nn;simp;omega
theorem Nl:x∈Nn L p j↔x=p\/x∈L:=by
 unfold Nn;rw[zB3,zD7];have:x∈L↔x∈L.take j\/x∈L.drop j:=by rw[<-zB3,zF0]
 rw[this];constructor
 .rintro(h|h|h)<;>simp[h]
 .rintro(h|h|h)<;>simp[h]
theorem putP_mem:x∈nP L p↔x=p\/x∈L:=by
 unfold nP;split
 .rename_i h
  constructor
  .exact .inr
  .rintro(rfl|h2)
   .rw[<-h.2];exact am (by have:=(Ds (L:=L) (p:=x) (k:=L.length)).1;omega)
   .exact h2
 .exact Nl
theorem wU{L:List (List Int)}{p:List Int}:∀{k j:Nat},j<=k->(∀q,j<=q->q<k->io p (L.getD q [])=true)->(0<j->io p (L.getD (j-1) [])=false)->Jy L p k=j
 |0,j,h,_,_=>by rw[Jy];omega
 |k+1,j,h,h1,h2=>by
  rw[Jy];by_cases e:j=k+1
  .subst e
   have:=h2 (by omega);rw[Nat.add_sub_cancel]at this;rw[this];rfl
  .rw[zB0 (h1 k (by omega) (by omega))]
   exact wU (by omega) (λq a b=>h1 q a (by omega)) h2
theorem Ky(h:j<=L.length):List.take (j+1) (L.take j++p::D)=L.take j++[p]:=by
 grind
theorem sZ(h1:j<=L.length)(h2:∀q,j<=q->q<L.length->io p (L.getD q [])=true)(h3:0<j->io p (L.getD (j-1) [])=false)(h4:0<j->¬L.getD (j-1) []=p):nP L p=L.take j++p::L.drop j:=by
 have e:=wU h1 h2 h3;rw[nP,Yi,e,zA8 λh=>h4 h.1 h.2];rfl
theorem Ei(h1:j<=L.length)(h2:∀q,j<=q->q<L.length->io p (L.getD q [])=true)(h3:0<j->io p (L.getD (j-1) [])=false)(h4:0<j)(h5:L.getD (j-1) []=p):nP L p=L:=by
 grind [wU,nP]
theorem FA(h2:∀q,j<=q->q<L.length->io p (L.getD q [])=true)(h3:io p (L.getD (j-1) [])=true):∀q,j-1<=q->q<L.length->io p (L.getD q [])=true:=λq a b=>by
 grind
theorem mU(L:List (List Int))(p:List Int)(hL:L.length<=1000000000)(hl:∀l∈L,l.length<=1048576)(hp:p.length<=1048576):CallT Tryz.prog true 378 [.mu false (List.map (cK false) L),.pv (lI m1 p)] [none,none] [.sl .own (List.map (cK false) (nP L p))]:=by
 refine fX au [4] Tryz.func378 ?_;have cE1:=@nz;have cE2:=@bE;have cD1:=d7 (d8 11 [3,5,6,7,9]) [(0,3),(1,3),(2,3),(3,4),(0,5),(1,5),(2,5),(0,6),(1,6),(2,6),(3,8),(5,8),(6,8),(7,8)];refine dE dN trivial (aD ?_)<;>intro zb;refine ao (λ(j:Nat) S1=>(S1.e 0=.ref 0 0 (L).length/\S1.h 0=.live true (List.map (cK false) L)/\S1.e 1=.p (lI m1 p)/\eI S1 5 j)/\0<S1.n/\j<=L.length/\(∀q,j<=q->q<L.length->io p (L.getD q [])=true)) (λj=>j) L.length ?_ (dC trivial aj);rintro j S1 ⟨fF1,J1,A1,A0⟩;have n0:=dJ (x:=0) (n:=S1.n);have fL1:=(aa fF1 n0)
 .have e1:((j:Int)-1).toNat=j-1:=by omega
  have e3:List.take (L.length-j) (List.drop j L)=L.drop j:=zA2 (by simp);by_cases hj:0<j
  .have e2:=hl (L.getD (j-1) []) (am (by omega))
   have gg:((0:Int)<(j:Int))=True:=zF5 (by omega);by_cases h0:j=L.length
   .have h0':=h0
    subst h0';have e4:List.drop L.length L=[]:=List.drop_length;have e5:List.take L.length L=L:=zE6;have f1:(L.length+1=(L++[p]).length)=True:=zF5 (by simp);refine dE dN (aa fL1 (aa @e1 (aa @e3 (aa @e4 (aa @e5 (aa @f1 @gg)))))) (pC ?_ ?_ ?_)<;>(intro zb hc;repeat (have zc:=zb.1;replace zb:=zb.2))
    .refine ak (L.length-1) (dC fL1 aj) (dC fL1 (aD ?_))<;>intro zb
     exact FA A0 hc
    .exact(Ei (zB1 _) A0 (λ_=>by assumption) hj hc).symm
    .rw[sZ (zB1 _) A0 (λ_=>by assumption) (λ_=>by assumption),zA2 (by simp)];simp
   .have f0:(j=L.length)=False:=zC6 h0
    have f1:(j+1<=L.length)=True:=zF5 (by omega);have f2:(List.take j L++p::List.drop (j+1) L).length=L.length:=by simp;omega
    have f3:(List.drop j L).length=L.length-j:=by simp
    by_cases h1:j+1=L.length
    .have f4:(j+1=L.length)=True:=zF5 h1
     refine dE dN (aa fL1 (aa @e1 (aa @e3 (aa @f0 (aa @f1 (aa @f2 (aa @f3 (aa @f4 @gg)))))))) ?_;all_goals try(apply nn;repeat' first|exact jb|apply aa|(apply nq;intro zb hc;repeat (have zc:=zb.1;replace zb:=zb.2))|(apply np;intro zb)|intro j')<;>try apply nu
     .refine ak (j-1) (dC fL1 aj) (dC fL1 (aD ?_))<;>intro zb
      exact FA A0 hc
     .exact(Ei A1 A0 (λ_=>by assumption) hj hc).symm
     .rw[sZ A1 A0 (λ_=>by assumption) (λ_=>by assumption),zA6 (i:=j+1) (by omega),zE1,zA2 (by simp;omega)]
    .have f4:(j+1=L.length)=False:=zC6 h1
     have f5:(j+(1+(L.length-j))<=L.length)=False:=zC6 (by omega);refine dE dN (aa fL1 (aa @e1 (aa @e3 (aa @f0 (aa @f1 (aa @f2 (aa @f3 (aa @f4 (aa @f5 @gg))))))))) ?_;all_goals try(apply nn;repeat' first|exact jb|apply aa|(apply nq;intro zb hc;repeat (have zc:=zb.1;replace zb:=zb.2))|(apply np;intro zb)|intro j')<;>try apply nu
     .refine ak (j-1) (dC fL1 aj) (dC fL1 (aD ?_))<;>intro zb
      exact FA A0 hc
     .exact(Ei A1 A0 (λ_=>by assumption) hj hc).symm
     .rw[sZ A1 A0 (λ_=>by assumption) (λ_=>by assumption),Ky (by omega),zA2 (by simp;omega),zA7];rfl
  .have gg:((0:Int)<(j:Int))=False:=zC6 (by omega)
   by_cases h0:j=L.length
   .have h0':=h0
    subst h0';have e4:List.drop L.length L=[]:=List.drop_length;have e5:List.take L.length L=L:=zE6;have f1:(L.length+1=(L++[p]).length)=True:=zF5 (by simp);refine dE dN (aa fL1 (aa @e1 (aa @e3 (aa @e4 (aa @e5 (aa @f1 @gg)))))) (aD ?_)<;>intro zb;rw[sZ (zB1 _) A0 (λh=>absurd h hj) (λh=>absurd h hj),zA2 (by simp)];simp
   .have f0:(j=L.length)=False:=zC6 h0
    have f1:(j+1<=L.length)=True:=zF5 (by omega);have f2:(List.take j L++p::List.drop (j+1) L).length=L.length:=by simp;omega
    have f3:(List.drop j L).length=L.length-j:=by simp
    by_cases h1:j+1=L.length
    .have f4:(j+1=L.length)=True:=zF5 h1
     refine dE dN (aa fL1 (aa @e1 (aa @e3 (aa @f0 (aa @f1 (aa @f2 (aa @f3 (aa @f4 @gg)))))))) ?_;all_goals try(apply nn;repeat' first|exact jb|apply aa|(apply nq;intro zb hc;repeat (have zc:=zb.1;replace zb:=zb.2))|(apply np;intro zb)|intro j')<;>try apply nu
     rw[sZ A1 A0 (λh=>absurd h hj) (λh=>absurd h hj),zA6 (i:=j+1) (by omega),zE1,zA2 (by simp;omega)]
    .have f4:(j+1=L.length)=False:=zC6 h1
     have f5:(j+(1+(L.length-j))<=L.length)=False:=zC6 (by omega);refine dE dN (aa fL1 (aa @e1 (aa @e3 (aa @f0 (aa @f1 (aa @f2 (aa @f3 (aa @f4 (aa @f5 @gg))))))))) ?_;all_goals try(apply nn;repeat' first|exact jb|apply aa|(apply nq;intro zb hc;repeat (have zc:=zb.1;replace zb:=zb.2))|(apply np;intro zb)|intro j')<;>try apply nu
     rw[sZ A1 A0 (λh=>absurd h hj) (λh=>absurd h hj),Ky (by omega),zA2 (by simp;omega),zA7];rfl
theorem fK(h:ac p=true):p.length<=8/\aF p=true:=by simpa[ac]using h
def coL(p:List Int):List Int:=if ac p then aX p else[]
theorem ma(p:List Int)(hl:p.length<=1048576):Fun Tryz.prog 235 [lI m0 p] [oI (coL p)]:=by
 by_cases hp:ac p=true
 .refine fO au [2] Tryz.func235 ?_
  have cE1:=@ae;have cE2:=@iv;refine dE ai @hp (aD λzb=> ?_);rw[coL,zB0 hp]
 .rw[zA9]at hp
  refine fO au [2] Tryz.func235 ?_;have cE1:=@ae;have cE2:=@iv;refine dE ai @hp (aD λzb=> ?_);rw[coL,hp];rfl
def p9:List Int->Int
 |[]=>0
 |x::l=>max x (p9 l)
theorem vX{x:Int}(hx:0<=x):∀{l:List Int},p9 (l++[x])=max (p9 l) x
 |[]=>by simp only[zE1,p9];omega
 |y::l=>by rw[zF8,p9,p9,vX hx];omega
theorem m6:∀{l:List Int},0<=p9 l/\∀x∈l,x<=p9 l
 |[]=>by simp[p9]
 |y::l=>by
  have h:=m6 (l:=l);rw[p9];refine⟨by omega,λx hx=> ?_⟩;rcases zD7.1 hx with q|q
  .omega
  .have:=h.2 x q;omega
theorem vY{B:Int}(hB:0<=B):∀{l:List Int},(∀x∈l,x<=B)->p9 l<=B
 |[],_=>hB
 |y::l,h=>by
  have h1:=h y zH1;have h2:=vY hB λx hx=>h x (zF1 _ hx);rw[p9];omega
def Vh(R:Int->Int->Bool)(x:Int)(L:List (Int×Int)):Int:=L.foldl (λv y=>if R x y.1=true then max v (y.2+1)else v) 1
def eR(R:Int->Int->Bool):List Int->List Int
 |[]=>[]
 |x::l=>Vh R x (l.zip (eR R l))::eR R l
theorem j9{R:Int->Int->Bool}:∀{l:List Int},(eR R l).length=l.length
 |[]=>rfl
 |_::l=>by simp[eR,j9 (l:=l)]
theorem Fu{R:Int->Int->Bool}{x m:Int}(hm:2<=m):∀{L:List (Int×Int)} {v:Int},m<=L.foldl (λv y=>if R x y.1=true then max v (y.2+1)else v) v↔m<=v\/∃y∈L,R x y.1=true/\m<=y.2+1
 |[],v=>by simp
 |y::L,v=>by
  rw[List.foldl_cons,Fu hm (L:=L)];constructor
  .rintro(h|⟨z,h1,h2⟩)
   .split at h
    .rename_i g
     by_cases q:m<=v
     .exact .inl q
     .exact .inr ⟨y,by simp,g,by omega⟩
    .exact .inl h
   .exact .inr ⟨z,by simp[h1],h2⟩
  .rintro(h|⟨z,h1,h2,h3⟩)
   .exact .inl (by split<;>omega)
   .rcases zD7.1 h1 with e|g
    .subst e;exact .inl (by rw[zB0 h2];omega)
    .exact .inr ⟨z,g,h2,h3⟩
theorem Ov{R:Int->Int->Bool}{x:Int}:∀{L:List (Int×Int)} {v:Int},v<=L.foldl (λv y=>if R x y.1=true then max v (y.2+1)else v) v
 |[],v=>Int.le_refl _
 |y::L,v=>by
  rw[List.foldl_cons];refine Int.le_trans ?_ (Ov (L:=L));split<;>omega
theorem Hr{R:Int->Int->Bool}(tr:∀a b c,R a b=true->R b c=true->R a c=true):∀{l:List Int} {m:Nat},(∃v∈eR R l,(m:Int)+1<=v)↔∃s:List Int,s.length=m+1/\s.Sublist l/\s.Pairwise (λa b=>R a b=true):=by
 intro l;have key:∀{l:List Int} (i:Nat),i<l.length->∀m:Nat,((m:Int)+1<=(eR R l).getD i 0↔∃s:List Int,s.length=m/\(l.getD i 0::s).Sublist (l.drop i)/\(l.getD i 0::s).Pairwise (λa b=>R a b=true)):=by
  intro l
  induction l with
  |nil=>intro i hi;simp at hi
  |cons x l ih=>
   intro i hi m;cases i with
   |succ i=>
    have hi':i<l.length:=by simpa using hi
    simpa[eR]using ih i hi' m
   |zero=>
    have e1:(eR R (x::l)).getD 0 0=Vh R x (l.zip (eR R l)):=rfl;have e2:(x::l).getD 0 0=x:=rfl;rw[e1,e2,zI3];cases m with
    |zero=>
     have:=Ov (R:=R) (x:=x) (L:=l.zip (eR R l)) (v:=1);exact⟨λ_=>⟨[],rfl,by simp,by simp⟩,λ_=>by unfold Vh;omega⟩
    |succ m=>
     unfold Vh;rw[Fu (by omega)];constructor
     .rintro(h|⟨y,h1,h2,h3⟩)
      .omega
      .obtain⟨j,hj,ej⟩:=zE7 h1
       rw[List.length_zip,j9]at hj;rw[List.getElem_zip]at ej;have a1:l.getD j 0=y.1:=by rw[<-ej,zA0,zA1 (by omega)];rfl
       have a2:(eR R l).getD j 0=y.2:=by rw[<-ej,zA0,zA1 (by rw[j9];omega)];rfl
       obtain⟨s,s1,s2,s3⟩:=(ih j (by omega) m).1 (by rw[a2];omega);rw[a1]at s2 s3;refine⟨y.1::s,by simp[s1],(s2.trans (List.drop_sublist _ _)).cons_cons x,zF6.2 ⟨λz hz=> ?_,s3⟩⟩;rcases zD7.1 hz with e|g
       .rw[e];exact h2
       .exact tr _ _ _ h2 ((zF6.1 s3).1 z g)
     .rintro⟨s,s1,s2,s3⟩
      match s,s1 with
      |y::s,s1=>
       have s2':(y::s).Sublist l:=List.cons_sublist_cons.1 s2;have fnd:∀{l:List Int},(y::s).Sublist l->∃j,j<l.length/\l.getD j 0=y/\(y::s).Sublist (l.drop j):=λ{l} h=>by
        induction l with
        |nil=>cases h
        |cons z l ih2=>
         rcases List.sublist_cons_iff.1 h with g|⟨r,e,g⟩
         .obtain⟨j,j1,j2,j3⟩:=ih2 g
          exact⟨j+1,by simpa using j1,by simpa using j2,by simpa using j3⟩
         .cases e
          exact⟨0,by simp,rfl,by simpa using h⟩
       obtain⟨j,j1,j2,j3⟩:=fnd s2';obtain⟨p1,p2⟩:=zF6.1 s3;have hv:=(ih j j1 m).2 ⟨s,by simpa using s1,by rw[j2];exact j3,by rw[j2];exact p2⟩;refine .inr ⟨(y,(eR R l).getD j 0), ?_,p1 y (by simp),by simp only;omega⟩;have hz:j<(l.zip (eR R l)).length:=by rw[List.length_zip,j9];omega
       have:(l.zip (eR R l))[j]=(y,(eR R l).getD j 0):=by
        rw[List.getElem_zip];congr 1
        .rw[<-j2,zA0,zA1 j1];rfl
        .rw[zA0,zA1 (by rw[j9];omega)];rfl
       rw[<-this];exact List.getElem_mem hz
 intro m;constructor
 .rintro⟨v,h1,h2⟩
  obtain⟨i,hi,e⟩:=zE7 h1;rw[j9]at hi;have e':(eR R l).getD i 0=v:=by rw[zA0,zA1 (by rw[j9];omega)];exact e
  obtain⟨s,s1,s2,s3⟩:=(key i hi m).1 (by rw[e'];exact h2);exact⟨l.getD i 0::s,by simp[s1],s2.trans (List.drop_sublist _ _),s3⟩
 .rintro⟨s,s1,s2,s3⟩
  match s,s1 with
  |y::s,s1=>
   have fnd:∀{l:List Int},(y::s).Sublist l->∃j,j<l.length/\l.getD j 0=y/\(y::s).Sublist (l.drop j):=λ{l} h=>by
    induction l with
    |nil=>cases h
    |cons z l ih2=>
     rcases List.sublist_cons_iff.1 h with g|⟨r,e,g⟩
     .obtain⟨j,j1,j2,j3⟩:=ih2 g
      exact⟨j+1,by simpa using j1,by simpa using j2,by simpa using j3⟩
     .cases e
      exact⟨0,by simp,rfl,by simpa using h⟩
   obtain⟨j,j1,j2,j3⟩:=fnd s2;have hv:=(key j j1 m).2 ⟨s,by simpa using s1,by rw[j2];exact j3,by rw[j2];exact s3⟩;exact⟨_,am (by rw[j9];exact j1),hv⟩
theorem zZ{m:Nat}:(m:Int)+1<=p9 l↔∃v∈l,(m:Int)+1<=v:=by
 constructor
 .intro h
  refine Classical.byContradiction λg=> ?_;have:=vY (B:=(m:Int)) (by omega) (l:=l) λx hx=>by
   by_cases q:x<=m
   .exact q
   .exact absurd ⟨x,hx,by omega⟩ g
  omega
 .rintro⟨v,h1,h2⟩
  have:=(m6 (l:=l)).2 v h1;omega
def pD(a b:Int):Bool:= !decide (b<a)
def yC(a b:Int):Bool:=decide (b<a)
theorem VK(hp:p.Nodup):p9 (eR pD p)=p9 (eR yC p.reverse):=by
 have key:∀m:Nat,(m:Int)+1<=p9 (eR pD p)↔(m:Int)+1<=p9 (eR yC p.reverse):=λm=>by
  rw[zZ,zZ,Hr (λa b c h1 h2=>by simp only[pD,Bool.not_eq_true',zG3]at*;omega),Hr (λa b c h1 h2=>by simp only[yC,zC2]at*;omega)];constructor
  .rintro⟨s,s1,s2,s3⟩
   refine⟨s.reverse,by simpa using s1,List.reverse_sublist.2 s2, ?_⟩;rw[List.pairwise_reverse];have nd:s.Pairwise (·≠·):=zH0.1 (hp.sublist s2);exact List.Pairwise.imp₂ (λa b h1 h2=>by simp only[pD,yC,Bool.not_eq_true',zG3,zC2]at*;omega) s3 nd
  .rintro⟨s,s1,s2,s3⟩
   refine⟨s.reverse,by simpa using s1,by have:=List.reverse_sublist.2 s2;rwa [List.reverse_reverse]at this, ?_⟩;rw[List.pairwise_reverse];exact List.Pairwise.imp (λh=>by simp only[pD,yC,Bool.not_eq_true',zG3,zC2]at*;omega) s3
 have h1:=(m6 (l:=eR pD p)).1;have h2:=(m6 (l:=eR yC p.reverse)).1;have k1:=key ((p9 (eR pD p)).toNat-1);have k2:=key ((p9 (eR yC p.reverse)).toNat-1);omega
def AS(x:Int)(a:Int×Int)(y:Int×Int×Int):Int×Int:=if y.1<x then a else if y.2.1+1<a.1 then a else if a.1<y.2.1+1 then(y.2.1+1,y.2.2)else(a.1,a.2+y.2.2)
def rp:List Int->List (Int×Int)
 |[]=>[]
 |x::l=>(l.zip (rp l)).foldl (AS x) (1,1)::rp l
theorem m7:∀{l:List Int},(rp l).length=l.length
 |[]=>rfl
 |_::l=>by simp[rp,m7 (l:=l)]
theorem EH:∀{l:List Int} {k:Nat},(rp l).getD k (0,0)=(rp (l.drop k)).getD 0 (0,0)
 |_,0=>by rw[zI3]
 |[],k+1=>by simp[rp]
 |x::l,k+1=>by rw[List.drop_succ_cons,<-EH,rp,List.getD_cons_succ]
theorem XU(h:i<l.length):(rp (l.drop i)).getD 0 (0,0)=((l.drop (i+1)).zip (rp (l.drop (i+1)))).foldl (AS (l.getD i 0)) (1,1):=by
 grind [aN,rp]
theorem RO{x:Int}{B:Nat}:∀{l:List Int} {c:List (Int×Int)} {a:Int×Int},((l.zip c).foldl (AS x) a).1=(l.zip (c.map Prod.fst)).foldl (λv y=>if pD x y.1=true then max v (y.2+1)else v) a.1
 |[],_,_=>by simp
 |_::_,[],_=>by simp
 |y::l,z::c,a=>by
  simp only[zC3,List.zip_cons_cons,List.foldl_cons];rw[RO (B:=B)];grind [AS,pD]
theorem GL:∀{l:List Int},(rp l).map Prod.fst=eR pD l
 |[]=>rfl
 |x::l=>by
  rw[rp,zC3,GL,eR,Vh,<-GL (l:=l),RO (B:=0)]
theorem UJ{x:Int}{n B:Nat}:∀{l:List Int} {c:List (Int×Int)} {a:Int×Int} {m:Nat},(∀y∈c,0<=y.1/\y.1<=(n:Int)/\0<=y.2/\y.2<=(B:Int))->0<=a.1/\a.1<=(n:Int)+1/\0<=a.2/\a.2<=(m:Int)->B<=m->
   0<=((l.zip c).foldl (AS x) a).1/\((l.zip c).foldl (AS x) a).1<=(n:Int)+1/\0<=((l.zip c).foldl (AS x) a).2/\((l.zip c).foldl (AS x) a).2<=((m+l.length*B:Nat):Int)
 |[],_,a,m,_,h,_=>by simp;omega
 |y::l,[],a,m,_,h,_=>by
  grind [List.zip_nil_right]
 |y::l,z::c,a,m,hc,h,hB=>by
  have hz:=hc z zH1;have hs:0<=(AS x a (y,z)).1/\(AS x a (y,z)).1<=(n:Int)+1/\0<=(AS x a (y,z)).2/\(AS x a (y,z)).2<=((m+B:Nat):Int):=by
   grind [AS]
  have:=UJ (x:=x) (l:=l) (c:=c) (m:=m+B) (λy hy=>hc y (zF1 _ hy)) hs (by omega);rw[List.zip_cons_cons,List.foldl_cons,zC1,Nat.succ_mul];omega
theorem MN:∀{l:List Int},l.length<=8->∀y∈rp l,0<=y.1/\y.1<=(l.length:Int)/\0<=y.2/\y.2<=((9^l.length:Nat):Int)
 |[],_=>by simp[rp]
 |x::l,h=>by
  rw[zC1]at h |-
  have ih:=MN (l:=l) (by omega);have e:9^(l.length+1)=9*9^l.length:=by omega
  have p0:0<9^l.length:=Nat.pow_pos (by decide);intro y hy;rw[rp]at hy;rcases zD7.1 hy with g|g
  .have:=UJ (x:=x) (l:=l) (c:=rp l) (a:=(1,1)) (m:=9^l.length) ih ⟨by decide,by simp only;omega,by decide,by simp only;omega⟩ (zB1 _)
   rw[<-g]at this;have h7:=zD9 (9^l.length) (show l.length<=7 by omega);omega
  grind
theorem agY:∀d,d<=8->9^d<=43046721:=by decide
theorem UI(h8:p.length<=8)(hk:k<p.length):0<=((rp (p.drop k)).getD 0 (0,0)).1/\((rp (p.drop k)).getD 0 (0,0)).1<=8/\0<=((rp (p.drop k)).getD 0 (0,0)).2/\((rp (p.drop k)).getD 0 (0,0)).2<=43046721:=by
 have hl:(p.drop k).length=p.length-k:=zI6;have:=MN (l:=p.drop k) (by omega) _ (am (l:=rp (p.drop k)) (i:=0) (d:=(0,0)) (by rw[m7];omega));have:=agY (p.drop k).length (by omega);omega
def GM(p:List Int)(i t:Nat):Int×Int:=(((p.drop (i+1)).zip (rp (p.drop (i+1)))).take t).foldl (AS (p.getD i 0)) (1,1)
theorem MO(h:i+1+t<p.length):GM p i (t+1)=AS (p.getD i 0) (GM p i t) (p.getD (i+1+t) 0,(rp (p.drop (i+1+t))).getD 0 (0,0)):=by
 have hl:t<((p.drop (i+1)).zip (rp (p.drop (i+1)))).length:=by grind [m7]
 unfold GM;rw[List.take_succ_eq_append_getElem hl,List.foldl_append,List.foldl_cons,List.foldl_nil,List.getElem_zip];congr 1;congr 1
 .grind
 .have e:=EH (l:=p.drop (i+1)) (k:=t)
  grind [zI4]
theorem MP(h:i+1<=j)(hj:j<p.length):GM p i (j+1-(i+1))=AS (p.getD i 0) (GM p i (j-(i+1))) (p.getD j 0,(rp (p.drop j)).getD 0 (0,0)):=by
 have:=MO (p:=p) (i:=i) (t:=j-(i+1)) (by omega);grind
theorem RP(hi:i<p.length)(h:p.length<=i+1+t):GM p i t=(rp (p.drop i)).getD 0 (0,0):=by
 grind [XU,GM,zA2]
theorem UK{p:List Int}(h8:p.length<=8){i:Nat}:∀{t:Nat},i+1+t<=p.length->0<=(GM p i t).1/\(GM p i t).1<=9/\0<=(GM p i t).2/\(GM p i t).2<=43046721*((t:Int)+1)
 |0,_=>by simp[GM]
 |t+1,h=>by
  have ih:=UK h8 (i:=i) (t:=t) (by omega);have h2:=UI h8 (k:=i+1+t) (by omega);grind [MO,AS]
theorem Pm{x:Int}(h:k<l.length):(l.set i x).getD k 0=if i=k then x else l.getD k 0:=by
 grind
theorem wg(p:List Int)(h8:p.length<=8):Fun Tryz.prog 352 [lI m0 p] [oI (eR pD p),oI ((rp p).map Prod.snd)]:=by
 refine fO au [2,3] Tryz.func352 ?_;have cD1:=d7 (d8 8 [2,5]) [(2,3),(2,4),(0,5),(1,5),(2,5),(5,6)];have cD2:=d7 (d8 17 [14,16]) [(2,14),(3,14)];have cD3:=d7 (d8 11 [10]) [];rw[<-GL];refine dE ai trivial (aD λzb=> ?_);refine ku (λ(i:Nat) (a:List Int) (c:List Int) S1=>(S1.e 0=.p (lI m0 p)/\eI S1 6 (((i:Int)-1)))/\OwnL (S1.e 4) S1.h S1.n (PV.int .i64) ((a).length) a/\OwnL (S1.e 5) S1.h S1.n (PV.int .i64) ((c).length) c/\i<=p.length/\a.length=p.length/\c.length=p.length/\(∀k,i<=k->k<p.length->(a.getD k 0,c.getD k 0)=(rp (p.drop k)).getD 0 (0,0))/\NId (S1.e 5) (S1.e 4)) (λi _ _=>i) p.length (List.replicate p.length 0) (List.replicate p.length 0) ?_ (dC trivial aj);rintro i a c S1 ⟨fF1,B7,A7,A1,A0,A3,B5,A8⟩;obtain⟨C4,B2,C8⟩:=B7.ou;obtain⟨B4,A5,B8⟩:=A7.ou;have di1_5i1_4:=(A8).ou A5.1 B2.1;have fL1:=(aa fF1 (aa B2 (aa A5 di1_5i1_4)))
 .by_cases hi:0<i
  .obtain⟨x,rfl⟩:∃x,i=x+1:=⟨i-1,by omega⟩
   have e1:(((x+1:Nat):Int)-1).toNat=x:=by omega
   have e2:(((x+1:Nat):Int)-1)+1=((x+1:Nat):Int):=by omega
   refine dE ai (aa fL1 (aa @e1 @e2)) (aI λzb hc=> ?_);refine ku (λ(j:Nat) (a:List Int) (c:List Int) S2=>(S2.e 0=.p (lI m0 p)/\eI S2 6 ((x:Int))/\eI S2 7 j)/\OwnL (S2.e 4) S2.h S2.n (PV.int .i64) ((a).length) a/\OwnL (S2.e 5) S2.h S2.n (PV.int .i64) ((c).length) c/\(x+1<=j/\j<=p.length)/\a.length=p.length/\c.length=p.length/\(∀k,x+1<=k->k<p.length->(a.getD k 0,c.getD k 0)=(rp (p.drop k)).getD 0 (0,0))/\(a.getD x 0,c.getD x 0)=GM p x (j-(x+1))/\NId (S2.e 5) (S2.e 4)/\S1.n<=S2.n) (λj _ _=>p.length-j) (x+1) (a.set x 1) (c.set x 1) ?_ (dC fL1 (bu (λzb=> ?_) λzb=> ?_));rintro j a c S2 ⟨fF2,E5,D2,A6,B3,C1,D0,D9,B1,D3⟩;obtain⟨I6,D4,I7⟩:=E5.ou;obtain⟨D7,D1,G1⟩:=D2.ou;have di2_5i2_4:=(B1).ou D1.1 D4.1;have fL2:=(aa fF2 (aa D4 (aa D1 di2_5i2_4)))
   .have b1:=UK h8 (i:=x) (t:=j-(x+1)) (by omega)
    rw[<-D9]at b1;by_cases ht:j<p.length
    .have b2:=UI h8 ht
     have b3:=D0 j (by omega) ht;have b4:=MP A6.1 ht;rw[<-D9,<-b3]at b4;rw[<-b3]at b2;simp only at b1 b2;unfold AS at b4;simp only at b4;by_cases hA:p.getD j 0<p.getD x 0
     .rw[zB0 hA]at b4
      refine dE ai (aa fL2 @hA) (aI λzb hc=> ?_);refine gG (j+1) a c (dC fL2 aj) (dC fL2 (aD λzb=> ?_));all_goals(first|(rw[b4];done)|exact D0|skip)
     .rw[zA8 hA]at b4
      have hA':(p.getD j 0<p.getD x 0)=False:=zC6 hA;by_cases hB:a.getD j 0+1<a.getD x 0
      .rw[zB0 hB]at b4
       refine dE ai (aa fL2 (aa @hA' @hB)) (aI λzb hc=> ?_);refine gG (j+1) a c (dC fL2 aj) (dC fL2 (aD λzb=> ?_));all_goals(first|(rw[b4];done)|exact D0|skip)
      .rw[zA8 hB]at b4
       have hB':(a.getD j 0+1<a.getD x 0)=False:=zC6 hB;by_cases hC:a.getD x 0<a.getD j 0+1
       .rw[zB0 hC]at b4
        refine dE ai (aa fL2 (aa @hA' (aa @hB' @hC))) (aI λzb hc=> ?_);refine gG (j+1) (a.set x (a.getD j 0+1)) (c.set x (c.getD j 0)) (dC fL2 aj) (dC fL2 (bu ?_ ?_))<;>intro zb;all_goals(first|(rw[b4,Pm (by omega),Pm (by omega),zB0 rfl,zB0 rfl];done)|(intro k hk1 hk2;rw[Pm (by omega),Pm (by omega),zA8 (by omega),zA8 (by omega)];exact D0 k hk1 hk2)|skip)
       .rw[zA8 hC]at b4
        have hC':(a.getD x 0<a.getD j 0+1)=False:=zC6 hC;refine dE ai (aa fL2 (aa @hA' (aa @hB' @hC'))) (aI λzb hc=> ?_);refine gG (j+1) a (c.set x (c.getD x 0+c.getD j 0)) (dC fL2 aj) (dC fL2 (bu ?_ ?_))<;>intro zb;all_goals(first|(rw[b4,Pm (by omega),zB0 rfl];done)|(intro k hk1 hk2;rw[Pm (by omega),zA8 (by omega)];exact D0 k hk1 hk2)|skip)
    .have b5:=RP (p:=p) (i:=x) (t:=j-(x+1)) (by omega) (by omega)
     rw[<-D9]at b5;refine dE ai fL2 (aI λzb hc=> ?_);refine gG x a c (dC fL2 aj) (dC fL2 (aD λzb=> ?_));all_goals(first|(intro k hk1 hk2;rcases Nat.eq_or_lt_of_le hk1 with e|e;(rw[<-e];exact b5);exact D0 k (by omega) hk2)|skip)
   all_goals(first|(rw[Pm (by omega),Pm (by omega),zB0 rfl,zB0 rfl];simp[GM];done)|(intro k hk1 hk2;rw[Pm (by omega),Pm (by omega),zA8 (by omega),zA8 (by omega)];exact B5 k hk1 hk2)|skip)
  .obtain rfl:i=0:=by omega
   have q1:a=(rp p).map Prod.fst:=by
    refine List.ext_getElem (by rw[zB2,m7,A0]) λk h1 h2=> ?_;have:=zB5 Prod.fst (B5 k (by omega) (by omega));rw[<-EH]at this;simp only at this;rw[zA0,zA1 h1,zA0,zA1 (by rw[m7];omega)]at this;rw[List.getElem_map];exact this
   have q2:c=(rp p).map Prod.snd:=by
    refine List.ext_getElem (by rw[zB2,m7,A3]) λk h1 h2=> ?_;have:=zB5 Prod.snd (B5 k (by omega) (by omega));rw[<-EH]at this;simp only at this;rw[zA0,zA1 h1,zA0,zA1 (by rw[m7];omega)]at this;rw[List.getElem_map];exact this
   exact dE ai fL1 aj;all_goals(first|exact q1|exact q2|(rw[q1];done)|(rw[q2];done)|skip)
def RN(p:List Int):Int:=p9 (eR pD p)
theorem Ou(h8:p.length<=8):∀v∈eR pD p,0<=v/\v<=8:=λv hv=>by
 rw[<-GL]at hv;obtain⟨y,hy,rfl⟩:=zD0.1 hv;have:=MN h8 y hy;omega
theorem UF(h8:p.length<=8):0<=RN p/\RN p<=8:=⟨(m6 (l:=eR pD p)).1,vY (by omega) λx hx=>(Ou h8 x hx).2⟩
theorem ab0(h:∀v∈l,0<=v)(hk:k<l.length):p9 (l.take (k+1))=max (p9 (l.take k)) (l.getD k 0):=by
 grind [aq,vX]
theorem gl(p:List Int)(h8:p.length<=8):Fun Tryz.prog 305 [lI m0 p] [.int .i64 (RN p)]:=by
 have hb:=Ou h8;have hl:=j9 (R:=pD) (l:=p);rw[RN];generalize hL:eR pD p=L at*
 refine fO au [2] Tryz.func305 ?_;have cE1:=@wg;refine dE ai @hL (aD λzb=> ?_);refine ao (λ(k:Nat) S1=>(eI S1 5 (p9 (L.take k))/\eI S1 14 L.length/\eI S1 15 k)/\OwnL (S1.e 13) S1.h S1.n (PV.int .i64) ((L).length) L/\k<=L.length) (λk=>L.length-k) 0 ?_ (dC trivial aj);rintro k S1 ⟨fF1,L9,A1⟩;obtain⟨W4,L0,W5⟩:=L9.ou;have fL1:=(aa fF1 L0)
 .have m1:=(m6 (l:=L.take k)).1
  have m2:=vY (B:=8) (by omega) (l:=L.take k) λx hx=>(hb x (List.mem_of_mem_take hx)).2;by_cases hk:k<L.length
  .have b2:=hb _ (am (l:=L) (i:=k) (d:=0) hk)
   have e:=ab0 (λv hv=>(hb v hv).1) hk;refine dE ai fL1 (aI λzb hc=> ?_);exact ak (k+1) (dC fL1 aj) (dC fL1 aj);all_goals(first|(rw[e];done)|skip)
  .have e:L.take k=L:=zA2 (by omega)
   exact dE ai (aa fL1 @e) aj;all_goals(first|(rw[e];done)|skip)
def vf(p:List Int):Int:=if ac p=true then RN p else -1
def wG(p:List Int):Int:=if ac p=true then RN p.reverse else -1
theorem jq(p:List Int)(hl:p.length<=1048576):Fun Tryz.prog 231 [lI m0 p] [.int .i64 (vf p)]:=by
 by_cases h:ac p=true
 .have h8:=(al h).1
  rw[vf,zB0 h];refine fO au [2] Tryz.func231 ?_;have cE1:=@ae;have cE2:=@gl;exact dE ai @h aj
 .rw[vf,zA8 h]
  rw[zA9]at h;refine fO au [2] Tryz.func231 ?_;have cE1:=@ae;have cE2:=@gl;exact dE ai @h aj
theorem ib(p:List Int)(hl:p.length<=1048576):Fun Tryz.prog 232 [lI m0 p] [.int .i64 (wG p)]:=by
 by_cases h:ac p=true
 .have h8:=(al h).1
  have h9:p.reverse.length<=8:=by grind
  rw[wG,zB0 h];refine fO au [2] Tryz.func232 ?_;have cE1:=@ae;have cE2:=@eJ;have cE3:=@gl;exact dE ai @h aj
 .rw[wG,zA8 h]
  rw[zA9]at h;refine fO au [2] Tryz.func232 ?_;have cE1:=@ae;have cE2:=@eJ;have cE3:=@gl;exact dE ai @h aj
def xi(p E:List Int)(x:Int):Nat->Int
 |0=>1
 |j+1=>if p.getD j 0<x then max (xi p E x j) (E.getD j 0+1)else xi p E x j
def nU(p:List Int):Nat->List Int
 |0=>[]
 |k+1=>nU p k++[xi p (nU p k) (p.getD k 0) k]
theorem Hi{p:List Int}:∀{k:Nat},(nU p k).length=k
 |0=>rfl
 |k+1=>by rw[nU,zA3,Hi];rfl
theorem CU{p E:List Int}{x:Int}:∀{j:Nat},1<=xi p E x j
 |0=>Int.le_refl _
 |j+1=>by have:=CU (p:=p) (E:=E) (x:=x) (j:=j);grind [xi]
theorem NV{p E:List Int}{x m:Int}(hm:2<=m):∀{j:Nat},m<=xi p E x j↔∃t,t<j/\p.getD t 0<x/\m<=E.getD t 0+1
 |0=>⟨λh=>by rw[xi]at h;omega,λ⟨t,h,_⟩=>by omega⟩
 |j+1=>by
  have ih:=NV (p:=p) (E:=E) (x:=x) hm (j:=j);grind [xi]
theorem NU{p:List Int}:∀{k:Nat},k<=p.length->nU p k=(eR yC (p.take k).reverse).reverse
 |0,_=>by simp[nU,eR]
 |k+1,hk=>by
  have ih:=NU (p:=p) (k:=k) (by omega);rw[nU,aq (d:=0) (show k<p.length by omega),List.reverse_append,List.reverse_singleton,List.singleton_append,eR,List.reverse_cons,<-ih];congr 2;have hr:(eR yC (p.take k).reverse)=(nU p k).reverse:=by grind
  have hE:=Hi (p:=p) (k:=k);have hP:(p.take k).length=k:=by grind
  rw[hr];have key:∀m:Int,2<=m->(m<=xi p (nU p k) (p.getD k 0) k↔m<=Vh yC (p.getD k 0) ((p.take k).reverse.zip (nU p k).reverse)):=λm hm=>by
   rw[NV hm,Vh,Fu hm];constructor
   .rintro⟨t,t1,t2,t3⟩
    refine .inr ⟨(p.getD t 0,(nU p k).getD t 0), ?_,by simpa[yC]using t2,t3⟩;have hz:k-1-t<((p.take k).reverse.zip (nU p k).reverse).length:=by grind
    have:((p.take k).reverse.zip (nU p k).reverse)[k-1-t]=(p.getD t 0,(nU p k).getD t 0):=by
     grind
    grind
   .rintro(h|⟨y,h1,h2,h3⟩)
    .omega
    .obtain⟨i,hi,e⟩:=zE7 h1
     rw[List.length_zip,zC4,zC4]at hi;rw[List.getElem_zip,List.getElem_reverse,List.getElem_reverse]at e;refine⟨k-1-i,by omega, ?_, ?_⟩
     .have a1:p.getD (k-1-i) 0=y.1:=by
       rw[<-e,List.getElem_take,zA0,zA1 (by omega)];simp only[zH5];congr 1;omega
      rw[a1];simpa[yC]using h2
     .have a2:(nU p k).getD (k-1-i) 0=y.2:=by
       rw[<-e,zA0,zA1 (by omega)];simp only[zH5];congr 1;omega
      rw[a2];exact h3
  have h1:=CU (p:=p) (E:=nU p k) (x:=p.getD k 0) (j:=k);have h2:=Ov (R:=yC) (x:=p.getD k 0) (L:=(p.take k).reverse.zip (nU p k).reverse) (v:=1);have k1:=key (xi p (nU p k) (p.getD k 0) k);have k2:=key (Vh yC (p.getD k 0) ((p.take k).reverse.zip (nU p k).reverse));unfold Vh at k1 k2 |-
  omega
theorem adc(hp:p.Nodup):p9 (nU p p.length)=RN p:=by
 rw[NU (zB1 _),zE6,RN,VK hp];have key:∀m:Nat,(m:Int)+1<=p9 (eR yC p.reverse).reverse↔(m:Int)+1<=p9 (eR yC p.reverse):=λm=>by
  rw[zZ,zZ];simp only[List.mem_reverse]
 have h1:=(m6 (l:=(eR yC p.reverse).reverse)).1;have h2:=(m6 (l:=eR yC p.reverse)).1;have k1:=key ((p9 (eR yC p.reverse).reverse).toNat-1);have k2:=key ((p9 (eR yC p.reverse)).toNat-1);omega
theorem Av{p E:List Int}{x:Int}{k:Nat}(h:∀t,E.getD t 0<=k):∀{j:Nat},xi p E x j<=k+1
 |0=>by rw[xi];omega
 |j+1=>by
  have:=Av (p:=p) (x:=x) h (j:=j);grind [xi]
theorem Vb{p:List Int}:∀{k:Nat},(∀v∈nU p k,1<=v/\v<=k)
 |0=>by simp[nU]
 |k+1=>by
  have ih:=Vb (p:=p) (k:=k);have hE:∀t,(nU p k).getD t 0<=k:=λt=>by
   grind [am]
  intro v hv;rw[nU]at hv;rcases zB3.1 hv with g|g
  .have:=ih v g;omega
  simp_all [zB7,CU,nU,Av]
theorem jZ(p:List Int)(h8:p.length<=8)(hn:p.Nodup):Fun Tryz.prog 276 [lI m0 p] [.int .i64 (RN p)]:=by
 rw[<-adc hn];refine fO au [2] Tryz.func276 ?_;have cE1:=@bK;refine dE ai trivial (aD λzb=> ?_);refine ao (λ(k:Nat) S1=>(S1.e 0=.p (lI m0 p)/\eI S1 3 (p9 (nU p k))/\eI S1 5 k)/\OwnL (S1.e 4) S1.h S1.n (PV.int .i64) ((nU p k).length) (nU p k)/\k<=p.length) (λk=>p.length-k) 0 ?_ (dC trivial aj);rintro k S1 ⟨fF1,B7,A1⟩;obtain⟨C4,B2,C8⟩:=B7.ou;have fL1:=(aa fF1 B2)
 .have eb:=Vb (p:=p) (k:=k)
  have el:=Hi (p:=p) (k:=k);have m1:=(m6 (l:=nU p k)).1;have m2:=vY (B:=8) (by omega) (l:=nU p k) λx hx=>by have:=eb x hx;omega
  have hE:∀t,(nU p k).getD t 0<=k:=λt=>by
   grind [am]
  by_cases hk:k<p.length
  .have e1:nU p (k+1)=nU p k++[xi p (nU p k) (p.getD k 0) k]:=rfl
   have q1:=CU (p:=p) (E:=nU p k) (x:=p.getD k 0) (j:=k);have q2:=Av (p:=p) (x:=p.getD k 0) hE (j:=k);have e2:p9 (nU p (k+1))=max (p9 (nU p k)) (xi p (nU p k) (p.getD k 0) k):=by grind [vX]
   generalize hD:nU p k=E at*
   refine dE ai fL1 (aI λzb hc=> ?_);refine ao (λ(j:Nat) S2=>(S2.e 0=.p (lI m0 p)/\eI S2 3 (p9 E)/\eI S2 5 k/\eI S2 6 (xi p E (p.getD k 0) j)/\eI S2 7 j)/\OwnL (S2.e 4) S2.h S2.n (PV.int .i64) ((E).length) E/\j<=k/\S1.n<=S2.n) (λj=>k-j) 0 ?_ (dC fL1 aj);rintro j S2 ⟨fF2,E5,A6,B1⟩;obtain⟨I6,D4,I7⟩:=E5.ou;have fL2:=(aa fF2 D4)
   .have r1:=CU (p:=p) (E:=E) (x:=p.getD k 0) (j:=j)
    have r2:=Av (p:=p) (x:=p.getD k 0) hE (j:=j);by_cases hj:j<k
    .have b2:=eb _ (am (l:=E) (i:=j) (d:=0) (by omega))
     by_cases hv:p.getD j 0<p.getD k 0
     .have e3:xi p E (p.getD k 0) (j+1)=max (xi p E (p.getD k 0) j) (E.getD j 0+1):=by rw[xi,zB0 hv]
      refine dE ai (aa fL2 @hv) (aI λzb hc=> ?_);exact ak (j+1) (dC fL2 aj) (dC fL2 aj);all_goals(first|(rw[e3];done)|skip)
     .have e3:xi p E (p.getD k 0) (j+1)=xi p E (p.getD k 0) j:=by rw[xi,zA8 hv]
      have hv':(p.getD j 0<p.getD k 0)=False:=zC6 hv;refine dE ai (aa fL2 @hv') (aI λzb hc=> ?_);exact ak (j+1) (dC fL2 aj) (dC fL2 aj);all_goals(first|(rw[e3];done)|skip)
    .obtain rfl:j=k:=by omega
     refine dE ai fL2 (aI λzb hc=> ?_);refine ak (j+1) (dC fL2 aj) (dC fL2 (bu ?_ ?_))<;>intro zb;all_goals(first|(rw[e1];done)|(rw[e2];done)|(rw[e1,zA3];rfl)|skip)
  .obtain rfl:k=p.length:=by omega
   exact dE ai fL1 aj
theorem Gq(h:ac p=true):p.Nodup:=(permB_iff.1 (al h).2).2
theorem jm(p:List Int)(hl:p.length<=1048576):Fun Tryz.prog 172 [lI m0 p] [.int .i64 (vf p)]:=by
 by_cases h:ac p=true
 .have h8:=(al h).1
  have hn:=Gq h;rw[vf,zB0 h];refine fO au [2] Tryz.func172 ?_;have cE1:=@ah;have cE2:=@jZ;exact dE ai @h aj
 .rw[vf,zA8 h]
  rw[zA9]at h;refine fO au [2] Tryz.func172 ?_;have cE1:=@ah;have cE2:=@jZ;exact dE ai @h aj
theorem hY(p:List Int)(hl:p.length<=1048576):Fun Tryz.prog 173 [lI m0 p] [.int .i64 (wG p)]:=by
 by_cases h:ac p=true
 .have h8:=(al h).1
  have h9:p.reverse.length<=8:=by grind
  have hn:p.reverse.Nodup:=(List.reverse_perm p).nodup_iff.2 (Gq h);rw[wG,zB0 h];refine fO au [2] Tryz.func173 ?_;have cE1:=@ah;have cE2:=@aK;have cE3:=@jZ;exact dE ai @h aj
 .rw[wG,zA8 h]
  rw[zA9]at h;refine fO au [2] Tryz.func173 ?_;have cE1:=@ah;have cE2:=@aK;have cE3:=@jZ;exact dE ai @h aj
end Go.Gl
