/-
  What the functions compute, and what the law asks of it: texts joined. Conditions: those that each lemma names.
-/
import Derived.Test.YtjimcmbfljdelaaGreatDoorT24
import Derived.Test.YtjimcmbfljdelaaGreatDoorT18
import Derived.Test.YtjimcmbfljdelaaGreatDoorT3
import Derived.Test.YtjimcmbfljdelaaGreatDoorT2
import Derived.Test.YtjimcmbfljdelaaGreatDoorT9
import Derived.Test.YtjimcmbfljdelaaGreatDoorT10
set_option linter.unusedSimpArgs false
set_option linter.unusedVariables false
set_option maxRecDepth 20000
set_option linter.unusedSectionVars false
set_option maxHeartbeats 16000000
variable{e0 m0:Bool}{L:List (List Int)}{i n:Nat}{p q st:List Int}{x y:Int}{f:Go.FuncId}
namespace Go.Gl
open Go Go.Proofs
variable [Amb][NoQ]
theorem dU(p:List Int)(hl:p.length<=1048576)(hn:ac p=false):Fun Tryz.prog 281 [lI m0 p] [.sl .own (List.map (cK false) ([]))]:=by
 refine fO au [2] Tryz.func281 ?_;have cE1:=@bK;have cE2:=@ah;have cE3:=@gb;exact dE ai @hn aj
def Ls(L:List (List Int)):Bool:=aG L&&L.all λq=> !ac q||decide (partN q<=1)
theorem kG(L:List (List Int))(hL:L.length<=1048576)(hl:∀l∈L,l.length<=1048576):Fun Tryz.prog 195 [lE m0 e0 L] [.bool (Ls L)]:=by
 refine fO au [2] Tryz.func195 ?_;have cE1:=@dU;have cE2:=@bG;have cE3:=@ay;refine dE ai trivial (aD λzb=> ?_);refine ao (λ(k:Nat) S1=>(S1.e 0=.p (lE m0 e0 L)/\eI S1 3 k)/\k<=L.length/\(∀q∈L.take k,(!ac q||decide (partN q<=1))=true)) (λk=>L.length-k) 0 ?_ (dC trivial aj);rintro k S1 ⟨fL1,A1,A0⟩;by_cases hk:k<L.length
 .have g1:=hl _ (am (d:=[]) hk)
  have tk:=aq (d:=[]) hk;have hst:(!ac (L.getD k [])||decide (partN (L.getD k [])<=1))=true->∀q∈L.take (k+1),(!ac q||decide (partN q<=1))=true:=λh q hq=>by
   rw[tk]at hq;rcases zB3.1 hq with hq|hq
   .exact A0 q hq
   .rw[zB7]at hq;subst hq;exact h
  by_cases hp:ac (L.getD k [])=true
  .have b6:=BD (p:=L.getD k [])
   have cE1:=@bG;have cE2:=@ay;have cE3:=trivial;refine dE ai (aa fL1 @b6) (f9 ?_ ?_)<;>intro zb hc
   .have:(L.all λq=> !ac q||decide (partN q<=1))=false:=List.all_eq_false.2 ⟨_,am hk,by rw[hp,zB8 (by omega)];decide⟩
    rw[Ls,this,Bool.and_false]
   .refine ak (k+1) (dC fL1 aj) (dC fL1 (aD λzb=> ?_))
    exact hst (by rw[zB6 (by omega)];simp)
  .rw[zA9]at hp
   have cE1:=@dU;have cE2:=@ay;have cE3:=trivial;refine dE ai fL1 (aI λzb hc=> ?_)
   .refine ak (k+1) (dC fL1 aj) (dC fL1 (aD λzb=> ?_))
    exact hst (by rw[hp];rfl)
 .have:(L.all λq=> !ac q||decide (partN q<=1))=true:=by
   rw[zA2 (by omega)]at A0;exact zC8.2 A0
  have cE1:=@dU;have cE2:=@bG;have cE3:=@ay;refine dE ai fL1 (aI λzb hc=> ?_);rw[Ls,this,zG1]
theorem rh(h:aG L=true):∀q∈L,ac q=true:=λq hq=>by
 obtain⟨i,hi,rfl⟩:=zE7 hq;simp only[aG,zB9]at h;have h1:=js h.2 hi
 rwa [zA0,zA1 hi]at h1
def rl(p:List Int):Bool:=decide (p=pq p.length)
def yD(p:List Int):Bool:=decide (p.reverse=pq p.length)
theorem EQ(h:i<n):(pq n).getD i 0=(i:Int)+1:=by
 rw[zA0,pq,zA5,List.getElem?_range h];rfl
theorem KU(hp:aF p=true):La p=rl p:=by
 obtain⟨h1,h2⟩:=permB_iff.1 hp;rw[Bool.eq_iff_iff,srtB_iff,rl,decide_eq_true_iff];constructor
 .intro hs
  have lt:∀i,i+1<p.length->p.getD i 0<p.getD (i+1) 0:=λi hi=>by
   have a:=hs (i+1) hi (by omega);rw[Nat.add_sub_cancel]at a;have b:p.getD i 0≠p.getD (i+1) 0:=λe=>by have:=mz hp (by omega) hi e;omega
   omega
  have lo:∀i,i<p.length->(i:Int)+1<=p.getD i 0:=λi=>by
   induction i with
   |zero=>intro hi;have:=(h1 _ (am (d:=0) hi)).1;omega
   |succ i ih=>intro hi;have:=ih (by omega);have:=lt i hi;omega
  have hi:∀d i,i+d+1=p.length->p.getD i 0<=(i:Int)+1:=λd=>by
   induction d with
   |zero=>intro i h;have:=(h1 _ (am (d:=0) (show i<p.length by omega))).2;omega
   |succ d ih=>intro i h;have:=ih (i+1) (by omega);have:=lt i (by omega);omega
  refine List.ext_getElem (by rw[gZ]) λi a b=> ?_;have x1:=lo i a;have x2:=hi (p.length-i-1) i (by omega);have x3:=EQ a;rw[zA0,zA1 a]at x1 x2;rw[zA0,zA1 b]at x3;simp at x1 x2 x3;omega
 .intro e i h3 h4
  have x1:=EQ (n:=p.length) (i:=i-1) (by omega);have x2:=EQ (n:=p.length) (i:=i) h3;rw[<-e]at x1 x2;omega
def qY(L:List (List Int)):Bool:=aG L&&L.any rl&&L.any yD
theorem br(p:List Int)(hp:ac p=true):Fun Tryz.prog 325 [lI m0 p] [.bool (rl p)]:=by
 refine fO au [2] Tryz.func325 ?_;have cE1:=@lp;obtain⟨h8,hq⟩:p.length<=8/\aF p=true:=by simpa[ac]using hp
 refine dE ai trivial (aD λzb=> ?_);all_goals exact KU hq
theorem Zi:decide (p=(pq p.length).reverse)=yD p:=by
 rw[yD,decide_eq_decide];exact⟨λh=>by rw[h,List.reverse_reverse,zC4,gZ],λh=>by rw[<-h,List.reverse_reverse]⟩
theorem eK(p:List Int)(hp:ac p=true):Fun Tryz.prog 314 [lI m0 p] [.bool (yD p)]:=by
 refine fO au [2] Tryz.func314 ?_;have cE1:=@nM;have cE2:=@eJ;have cE3:=@dh;obtain⟨h8,hq⟩:p.length<=8/\aF p=true:=by simpa[ac]using hp
 have e1:(pq p.length).length=p.length:=gZ;have e2:(pq p.length).reverse.length=p.length:=by rw[zC4,gZ]
 have e3:List.take p.length (pq p.length)=pq p.length:=zA2 (by omega);have e4:List.take p.length (pq p.length).reverse=(pq p.length).reverse:=zA2 (by omega);refine dE ai (aa @e1 (aa @e2 (aa @e3 @e4))) (aD λzb=> ?_);all_goals exact Zi
theorem fp(L:List (List Int))(hL:L.length<=1048576)(hl:∀l∈L,l.length<=1048576):Fun Tryz.prog 251 [lE m0 e0 L] [.bool (qY L)]:=by
 by_cases hb:aG L=true
 .have hp:=rh hb
  have c1:=an (e0:=e0) (m0:=m0) L 325 [] rl (by omega) (λq hq=>br (m0:=e0) q (hp q hq));have c2:=an (e0:=e0) (m0:=m0) L 314 [] yD (by omega) (λq hq=>eK (m0:=e0) q (hp q hq));have e:qY L=(L.any rl&&L.any yD):=by rw[qY,hb,zF4]
  rw[e];refine fO au [2] Tryz.func251 ?_;have cE1:=@aw;have cE2:=@an;have cE3:=@br;have cE4:=@eK;have cE1:=@c1;have cE2:=@c2;have cE3:=@aw;have cE4:=@an;have cE5:=@br;have cE6:=@eK;exact dE ai @hb aj;all_goals simp[hc]
 .rw[zA9]at hb
  have e:qY L=false:=by rw[qY,hb];rfl
  rw[e];refine fO au [2] Tryz.func251 ?_;have cE1:=@aw;have cE2:=@an;have cE3:=@br;have cE4:=@eK;exact dE ai @hb aj
theorem bh(p:List Int)(hp:p.length<=8):Fun Tryz.prog 277 [lI m0 p] [.bool (rl p)]:=by
 refine fO au [2] Tryz.func277 ?_;have cE1:=@bd;have cE2:=@bE;have e1:(pq p.length).length=p.length:=gZ;have e3:List.take p.length (pq p.length)=pq p.length:=zA2 (by omega);refine dE ai (aa @e1 @e3) (aD λzb=> ?_);all_goals rfl
theorem nF(L:List (List Int))(hL:L.length<=1048576)(hl:∀l∈L,l.length<=1048576):Fun Tryz.prog 194 [lE m0 e0 L] [.bool (qY L)]:=by
 by_cases hb:aG L=true
 .have hp:=gn hb
  have e:qY L=(L.any rl&&L.any yD):=by rw[qY,hb,zF4]
  have dn:∀q:List Int,rl q.reverse=yD q:=λq=>by rw[rl,yD,zC4]
  rw[e];refine fO au [2] Tryz.func194 ?_;have cE1:=@ay;have cE2:=@bh;have cE3:=@aK;refine dE ai @hb (aD ?_)<;>intro zb;refine ao (λ(k:Nat) S1=>(S1.e 0=.p (lE m0 e0 L)/\S1.e 3=.p (.bool ((L.take k).any rl))/\S1.e 4=.p (.bool ((L.take k).any yD))/\eI S1 5 k)/\k<=L.length) (λk=>L.length-k) 0 ?_ (dC trivial aj);rintro k S1 ⟨fL1,A1⟩;by_cases hk:k<L.length
  .have g1:=hp _ (am (d:=[]) hk)
   have g2:(L.getD k []).reverse.length<=8:=by rw[zC4];exact g1
   have t1:(L.take (k+1)).any rl=((L.take k).any rl||rl (L.getD k [])):=by rw[aq (d:=[]) hk,List.any_append];simp
   have t2:(L.take (k+1)).any yD=((L.take k).any yD||yD (L.getD k [])):=by rw[aq (d:=[]) hk,List.any_append];simp
   refine dE ai (aa fL1 (aa @hb @dn)) (AN ?_ ?_ ?_ ?_)<;>(intro zb hc;repeat (have zc:=zb.1;replace zb:=zb.2))
   .refine ak (k+1) (dC fL1 aj) (dC fL1 (bu ?_ ?_))<;>intro zb
    all_goals simp_all
   .refine ak (k+1) (dC fL1 aj) (dC fL1 (bu ?_ ?_))<;>intro zb
    all_goals simp_all
   .refine ak (k+1) (dC fL1 aj) (dC fL1 (bu ?_ ?_))<;>intro zb
    all_goals simp_all
   .refine ak (k+1) (dC fL1 aj) (dC fL1 (bu ?_ ?_))<;>intro zb
    all_goals simp_all
  .obtain rfl:k=L.length:=by omega
   exact dE ai fL1 aj
 .rw[zA9]at hb
  have e:qY L=false:=by rw[qY,hb];rfl
  rw[e];refine fO au [2] Tryz.func194 ?_;have cE1:=@ay;have cE2:=@bh;have cE3:=@aK;refine dE ai @hb (aD ?_)<;>intro zb;refine ao (λ(k:Nat) S1=>(S1.e 0=.p (lE m0 e0 L)/\S1.e 3=.p (.bool false)/\S1.e 4=.p (.bool false)/\eI S1 5 0)/\k=0) (λk=>1-k) 0 ?_ (dI ai trivial aj);rintro k S1 ⟨fL1,A1⟩;exact dE ai (aa fL1 @hb) aj
theorem dW(p:List Int)(hp:ac p=true):Fun Tryz.prog 326 [lI m0 p] [.bool (decide ((1:Int)<(partN p:Int)))]:=by
 refine fO au [2] Tryz.func326 ?_;have cE1:=@cy;have h8:=(al hp).1;have h9:=fe hp;have b6:(eY rm p p.length).1.length=partN p:=rfl;exact dE ai @b6 aj
theorem Wj(hb:aG L=true):(!L.any λq=>decide ((1:Int)<(partN q:Int)))=Ls L:=by
 have hp:=rh hb;rw[Ls,hb,zF4,Bool.eq_iff_iff,Bool.not_eq_true',List.any_eq_false,zC8];refine forall_congr' λq=> ?_;constructor
 .intro h hq;have:=h hq;rw[hp q hq];simp at this |-;omega
 .intro h hq;have:=h hq;rw[hp q hq]at this;simp at this |-;omega
theorem dF(L:List (List Int))(hL:L.length<=1048576)(hl:∀l∈L,l.length<=1048576):Fun Tryz.prog 252 [lE m0 e0 L] [.bool (Ls L)]:=by
 by_cases hb:aG L=true
 .have hp:=rh hb
  have c1:=an (e0:=e0) (m0:=m0) L 326 [] (λq=>decide ((1:Int)<(partN q:Int))) (by omega) (λq hq=>dW (m0:=e0) q (hp q hq));rw[<-Wj hb];refine fO au [2] Tryz.func252 ?_;have cE1:=@aw;have cE2:=@an;have cE3:=@dW;have cE1:=@c1;have cE2:=@aw;have cE3:=@an;have cE4:=@dW;exact dE ai @hb aj
 .rw[zA9]at hb
  have e:Ls L=false:=by rw[Ls,hb];rfl
  rw[e];refine fO au [2] Tryz.func252 ?_;have cE1:=@aw;have cE2:=@an;have cE3:=@dW;exact dE ai @hb aj
theorem y2{a b:Int}:∀{l:List Int},l.Nodup->[a,b].Sublist l->[b,a].Sublist l->False
 |[],_,h,_=>by cases h
 |x::l,hn,h1,h2=>by
  obtain⟨n1,n2⟩:=List.nodup_cons.1 hn;rcases List.sublist_cons_iff.1 h1 with g1|⟨r1,e1,g1⟩
  .rcases List.sublist_cons_iff.1 h2 with g2|⟨r2,e2,g2⟩
   .exact y2 n2 g1 g2
   grind
  grind
theorem Kw{a b:Int}(ne:a≠b):∀{l:List Int},a∈l->b∈l->[a,b].Sublist l\/[b,a].Sublist l
 |[],h,_=>by cases h
 |x::l,ha,hb=>by
  rcases zD7.1 ha with e1|g1
  .grind
  .rcases zD7.1 hb with e2|g2
   .grind
   .rcases Kw ne g1 g2 with h|h
    .exact .inl (h.cons _)
    grind
theorem Zq{α:Type}{f g:α->Bool}:∀{l:List α},(∀x∈l,f x=true->g x=true)->(∃x∈l,f x=false/\g x=true)->l.countP f<l.countP g
 |[],_,⟨x,h,_⟩=>by cases h
 |y::l,h,⟨x,hx,h1,h2⟩=>by
  have hm:l.countP f<=l.countP g:=List.countP_mono_left λx hx=>h x (zF1 _ hx);rw[List.countP_cons,List.countP_cons];rcases zD7.1 hx with e|g1
  .grind
  .have:=Zq (λx hx=>h x (zF1 _ hx)) ⟨x,g1,h1,h2⟩
   grind
def LM(n:Nat):List (Nat×Nat):=(List.range n).flatMap λi=>(List.range n).map λj=>(i,j)
def DG(p:List Int):Nat:=(LM p.length).countP λx=>decide (x.1<x.2)&&decide ([(x.2:Int)+1,(x.1:Int)+1].Sublist p)
theorem prs2_mem{j:Nat}:(i,j)∈LM n↔i<n/\j<n:=by
 grind [LM]
theorem YB{α β:Type}{f:α->List β}{n:Nat}(h:∀x,(f x).length=n):∀{l:List α},(l.flatMap f).length=l.length*n
 |[]=>by simp
 |x::l=>by rw[List.flatMap_cons,zA3,h,YB h,zC1,Nat.succ_mul];omega
theorem LL:(LM n).length=n*n:=by
 grind [LM,YB,List.length_range]
theorem EG:DG p<=p.length*p.length:=by rw[<-LL];exact List.countP_le_length
theorem MI(hp:aF p=true)(hq:aF q=true)(hl:q.length=p.length)(h1:∀a b,a<b->[a,b].Sublist p->[a,b].Sublist q)
  (h2:∃a b,a<b/\[b,a].Sublist p/\[a,b].Sublist q):DG q<DG p:=by
 obtain⟨p1,p2⟩:=permB_iff.1 hp;obtain⟨q1,q2⟩:=permB_iff.1 hq;unfold DG;rw[hl];refine Zq (λx hx hc=> ?_) ?_
 .grind [Kw,BC,y2]
 .obtain⟨a,b,ab,s1,s2⟩:=h2
  have ha:=p1 a (s1.subset (by simp));have hb:=p1 b (s1.subset (by simp));refine⟨((a-1).toNat,(b-1).toNat),prs2_mem.2 ⟨by omega,by omega⟩, ?_, ?_⟩
  .rw[Bool.and_eq_false_iff];right
   rw[zG3];simp only;rw[show(((b-1).toNat:Nat):Int)+1=b by omega,show(((a-1).toNat:Nat):Int)+1=a by omega];exact λg=>y2 q2 s2 g
  .simp only[zB9,zC2]
   rw[show(((b-1).toNat:Nat):Int)+1=b by omega,show(((a-1).toNat:Nat):Int)+1=a by omega];exact⟨by omega,s1⟩
theorem Mn(hp:aF p=true)(h:rl p=false):∃X Y a b,a<b/\p=X++b::a::Y:=by
 have h1:¬La p=true:=by grind [KU]
 rw[srtB_iff]at h1;obtain⟨i,h2⟩:=Classical.not_forall.1 h1;obtain⟨hi,h3⟩:=Classical.not_forall.1 h2;obtain⟨hi0,h4⟩:=Classical.not_forall.1 h3;obtain⟨k,rfl⟩:∃k,i=k+1:=⟨i-1,by omega⟩;refine⟨p.take k,p.drop (k+1+1),p.getD (k+1) 0,p.getD k 0,by grind, ?_⟩;grind [aN,zF0]
def xe:List Int->List Int->List Int
 |[],st=>st
 |x::xs,st=>st.takeWhile (λy=>decide (y<x))++xe xs (x::st.dropWhile (λy=>decide (y<x)))
theorem rF:∀{xs st:List Int},(xe xs st).Perm (xs++st)
 |[],st=>List.Perm.refl _
 |x::xs,st=>by
  rw[xe];refine(List.Perm.append_left _ (rF (xs:=xs))).trans ?_;grind [List.takeWhile_append_dropWhile]
theorem PN{a b:Int}{A B:List Int}(ha:a∈A)(hb:b∈B):[a,b].Sublist (A++B):=by
 grind
theorem Li{a b:Int}:∀{xs st:List Int},[a,b].Sublist st->[a,b].Sublist (xe xs st)
 |[],_,h=>h
 |x::xs,st,h=>by
  rw[xe];have e:st=st.takeWhile (λy=>decide (y<x))++st.dropWhile (λy=>decide (y<x)):=List.takeWhile_append_dropWhile.symm;rw[e]at h;obtain⟨l1,l2,e1,s1,s2⟩:=List.sublist_append_iff.1 h
  match l1,e1 with
  |[],e1=>
   simp only[zE1]at e1;subst e1;exact(Li (xs:=xs) (s2.cons _)).trans (zH6 _ _)
  |[y],e1=>
   simp only[List.singleton_append,List.cons.injEq]at e1;obtain⟨rfl,rfl⟩:=e1;refine PN (s1.subset (by simp)) ((rF (xs:=xs)).mem_iff.2 ?_);have:=s2.subset (show b∈[b]by simp);simp[this]
  |[y,z],e1=>
   simp only[zF8,zE1,List.cons.injEq]at e1;obtain⟨rfl,rfl,_⟩:=e1;exact s1.trans (List.sublist_append_left _ _)
  |_::_::_::_,e1=>simp at e1
theorem Lj{a b:Int}(ab:a<b):∀{xs st:List Int},st.Pairwise (·<=·)->a∈st->b∈xs->[a,b].Sublist (xe xs st)
 |[],_,_,_,h=>by cases h
 |x::xs,st,hs,ha,hb=>by
  rw[xe];have e:st=st.takeWhile (λy=>decide (y<x))++st.dropWhile (λy=>decide (y<x)):=List.takeWhile_append_dropWhile.symm;have hs':=hs;rw[e]at ha hs';by_cases hm:a∈st.takeWhile (λy=>decide (y<x))
  .grind [rF]
  .have hd:a∈st.dropWhile (λy=>decide (y<x)):=by
    rcases zB3.1 ha with g|g
    .exact absurd g hm
    .exact g
   have hge:∀y∈st.dropWhile (λy=>decide (y<x)),x<=y:=by
    have h2:=(List.pairwise_append.1 hs').2.1;intro y hy;cases hD:st.dropWhile (λy=>decide (y<x))with
    |nil=>rw[hD]at hy;cases hy
    |cons z zs=>
     have hz:¬z<x:=by
      have:=List.head_dropWhile_not (λy=>decide (y<x)) (l:=st) (by rw[hD];simp);simp only[hD,List.head_cons]at this;simpa using this
     rw[hD]at hy h2;rcases zD7.1 hy with e'|g
     .omega
     .have:=(zF6.1 h2).1 y g;omega
   have hx:=hge a hd;rcases zD7.1 hb with e'|g
   .omega
   .exact(Lj ab (zF6.2 ⟨hge,(List.pairwise_append.1 hs').2.1⟩) (by simp[hd]) g).trans (zH6 _ _)
theorem Bj(hs:st.Pairwise (·<=·)):(x::st.dropWhile (λy=>decide (y<x))).Pairwise (·<=·):=by
 have hs':=hs;rw[show st=st.takeWhile (λy=>decide (y<x))++st.dropWhile (λy=>decide (y<x))from List.takeWhile_append_dropWhile.symm]at hs';have h2:=(List.pairwise_append.1 hs').2.1;refine zF6.2 ⟨λy hy=> ?_,h2⟩;cases hD:st.dropWhile (λy=>decide (y<x))with
 |nil=>rw[hD]at hy;cases hy
 |cons z zs=>
  have hz:¬z<x:=by
   have:=List.head_dropWhile_not (λy=>decide (y<x)) (l:=st) (by rw[hD];simp);grind
  grind [zF6]
theorem Lk{a b:Int}(ab:a<b):∀{xs st:List Int},st.Pairwise (·<=·)->[a,b].Sublist xs->[a,b].Sublist (xe xs st)
 |[],_,_,h=>by cases h
 |x::xs,st,hs,h=>by
  rw[xe];refine List.Sublist.trans ?_ (zH6 _ _);rcases List.sublist_cons_iff.1 h with g|⟨r,e,g⟩
  .exact Lk ab (Bj hs) g
  .cases e
   exact Lj ab (Bj hs) (by simp) (g.subset (by simp))
theorem Bk{a b:Int}(ab:a<b){Y:List Int}:∀{X st:List Int},[a,b].Sublist (xe (X++b::a::Y) st)
 |[],st=>by
  rw[zE1,xe,xe];have e:(b::st.dropWhile (λy=>decide (y<b))).dropWhile (λy=>decide (y<a))=b::st.dropWhile (λy=>decide (y<b)):=by
   rw[List.dropWhile_cons,zA8 (by simp;omega)]
  rw[e];refine List.Sublist.trans ?_ (zH6 _ _);refine List.Sublist.trans ?_ (zH6 _ _);exact Li (((List.nil_sublist _).cons_cons b).cons_cons a)
 |x::X,st=>by
  rw[zF8,xe];exact(Bk ab (X:=X)).trans (zH6 _ _)
theorem Gp(hp:aF p=true)(h:q.Perm p):aF q=true:=by
 obtain⟨h1,h2⟩:=permB_iff.1 hp;exact permB_iff.2 ⟨λv hv=>by rw[h.length_eq];grind,h.nodup_iff.2 h2⟩
def sE(p:List Int):List Int:=xe p []
theorem DU(hp:aF p=true):aF (sE p)=true/\(sE p).length=p.length/\(rl p=false->DG (sE p)<DG p):=by
 have h:=rF (xs:=p) (st:=[]);rw[zC0]at h;have hq:=Gp hp h;refine⟨hq,h.length_eq,λhu=>MI hp hq h.length_eq (λa b ab g=>Lk ab List.Pairwise.nil g) ?_⟩;obtain⟨X,Y,a,b,ab,e⟩:=Mn hp hu;refine⟨a,b,ab, ?_, ?_⟩
 .simp_all [List.nil_sublist,trans,zH6]
 .rw[sE,e];exact Bk ab
def pd:List Int->List Int->List Int
 |[],st=>st
 |x::xs,[]=>pd xs [x]
 |x::xs,y::st=>if x<y then pd xs (x::y::st)else(y::st)++pd xs [x]
theorem oo:∀{xs st:List Int},(pd xs st).Perm (xs++st)
 |[],st=>by cases st<;>exact List.Perm.refl _
 |x::xs,[]=>by
  rw[pd,zC0];exact(oo (xs:=xs)).trans List.perm_append_comm
 |x::xs,y::st=>by
  rw[pd];split
  .exact(oo (xs:=xs)).trans List.perm_middle
  .refine(List.Perm.append_left _ (oo (xs:=xs))).trans ?_
   grind
theorem zN:∀{xs st:List Int},st.Sublist (pd xs st)
 |[],st=>by cases st<;>exact List.Sublist.refl _
 |x::xs,[]=>List.nil_sublist _
 |x::xs,y::st=>by
  rw[pd];split
  .exact(List.sublist_cons_self x _).trans (zN (xs:=xs))
  grind
theorem zO{a b:Int}(ab:a<b):∀{xs st:List Int},st.Pairwise (·<=·)->a∈st->b∈xs->[a,b].Sublist (pd xs st)
 |[],_,_,_,h=>by cases h
 |x::xs,[],_,h,_=>by cases h
 |x::xs,y::st,hs,ha,hb=>by
  have hy:y<=a:=by
   grind [zF6]
  rw[pd];split
  .rename_i hx
   refine zO ab (zF6.2 ⟨λz hz=> ?_,hs⟩) (by grind) ?_
   .grind [zF6]
   grind
  grind [oo]
theorem zP{a b:Int}(ab:a<b):∀{xs st:List Int},st.Pairwise (·<=·)->[a,b].Sublist xs->[a,b].Sublist (pd xs st)
 |[],_,_,h=>by cases h
 |x::xs,[],_,h=>by
  rw[pd];rcases List.sublist_cons_iff.1 h with g|⟨r,e,g⟩
  .exact zP ab (by simp) g
  grind [zO]
 |x::xs,y::st,hs,h=>by
  rw[pd];split
  .rename_i hx
   have hs':(x::y::st).Pairwise (·<=·):=zF6.2 ⟨λz hz=>by
    rcases zD7.1 hz with e|g
    .omega
    .have:=(zF6.1 hs).1 z g;omega,hs⟩
   rcases List.sublist_cons_iff.1 h with g|⟨r,e,g⟩
   .exact zP ab hs' g
   .cases e;exact zO ab hs' (by simp) (g.subset (by simp))
  .refine List.Sublist.trans ?_ (zH6 _ _)
   rcases List.sublist_cons_iff.1 h with g|⟨r,e,g⟩
   .exact zP ab (by simp) g
   .cases e;exact zO ab (by simp) (by simp) (g.subset (by simp))
theorem rM{a b:Int}(ab:a<b){Y:List Int}:∀{X st:List Int},[a,b].Sublist (pd (X++b::a::Y) st)
 |[],[]=>by
  grind [pd,zN]
 |[],y::st=>by
  rw[zE1,pd];split
  .rw[pd,zB0 ab]
   grind [zN]
  grind [pd,zN]
 |x::X,[]=>by rw[zF8,pd];exact rM ab (X:=X)
 |x::X,y::st=>by
  rw[zF8,pd];split
  .exact rM ab (X:=X)
  .exact(rM ab (X:=X)).trans (zH6 _ _)
def rN(p:List Int):List Int:=pd p []
theorem El(hp:aF p=true):aF (rN p)=true/\(rN p).length=p.length/\(rl p=false->DG (rN p)<DG p):=by
 have h:=oo (xs:=p) (st:=[]);rw[zC0]at h;have hq:=Gp hp h;refine⟨hq,h.length_eq,λhu=>MI hp hq h.length_eq (λa b ab g=>zP ab List.Pairwise.nil g) ?_⟩;obtain⟨X,Y,a,b,ab,e⟩:=Mn hp hu;refine⟨a,b,ab, ?_, ?_⟩
 .simp_all [List.nil_sublist,trans,zH6]
 .rw[rN,e];exact rM ab
def AO(f:List Int->List Int):Nat->List Int->Int
 |0,_=>0
 |d+1,p=>if rl p=true then 0 else 1+AO f d (f p)
theorem T5{f:List Int->List Int}:∀{d:Nat} {p:List Int},0<=AO f d p/\AO f d p<=d
 |0,_=>by simp[AO]
 |d+1,p=>by have:=T5 (f:=f) (d:=d) (p:=f p);grind [AO]
theorem DO{f:List Int->List Int}{d:Nat}(h:rl p=true):AO f d p=0:=by cases d<;>simp[AO,h]
theorem Bi{xs:List Int}:xe (x::xs) st=st.takeWhile (λy=>decide (y<x))++xe xs (x::st.dropWhile (λy=>decide (y<x))):=rfl
theorem aaT(h:y<x):(y::st).takeWhile (λy=>decide (y<x))=y::st.takeWhile (λy=>decide (y<x)):=by grind [List.takeWhile_cons]
theorem adh(h:y<x):(y::st).dropWhile (λy=>decide (y<x))=st.dropWhile (λy=>decide (y<x)):=by grind [List.dropWhile_cons]
theorem aaU(h:¬y<x):(y::st).takeWhile (λy=>decide (y<x))=[]:=by grind [List.takeWhile_cons]
theorem adi(h:¬y<x):(y::st).dropWhile (λy=>decide (y<x))=y::st:=by grind [List.dropWhile_cons]
theorem aa3{junk:List Int}:(st++[y]++junk).getD st.length 0=y:=by
 grind
theorem acf(l:List Int):l=[]\/∃r y,l=r++[y]:=by
 rcases List.eq_nil_or_concat l with h|⟨r,y,h⟩
 .exact .inl h
 grind
def Bn:FuncId->List Bool:=λf=>if f=12884902109 then[true]else[]
theorem Qi:Bn f=if f=12884902109 then[true]else[]:=_root_.id rfl
theorem JJ:ga Bn=false/\gu Bn=false/\gs Bn=false/\gr Bn=false/\gB Bn=false:=⟨rfl,rfl,rfl,rfl,rfl⟩
attribute [go_sem] Qi JJ
theorem eG(p:List Int)(hl:p.length<=8):Fun Tryz.prog 122 [lI m0 p] [oI (sE p)]:=by
 refine fO Bn [2] Tryz.func122 ?_;have cM1:=@d6;have cD1:=d7 (d8 16 [7,8]) [(0,7),(7,9),(8,9),(7,10),(8,10),(7,11),(8,11),(7,12),(8,12),(7,13),(8,13)];have hr:=Bs;have cM2:=@hr;refine dE ai trivial (aD λzb=> ?_);refine Kn (λ(i:Nat) (out:List Int) (st:List Int) (junk:List Int) S1=>(S1.e 9=.p (lI m0 p)/\eI S1 10 p.length/\eI S1 11 i)/\OwnL (S1.e 3) S1.h S1.n (PV.int .i64) ((out).length) out/\OwnL (S1.e 4) S1.h S1.n (PV.int .i64) st.length (st++junk)/\i<=p.length/\out++xe (p.drop i) st.reverse=sE p/\out.length+st.length=i/\st.length+junk.length<=i/\NId (S1.e 4) (S1.e 3)) (λi _ _ _=>p.length-i) 0 [] [] [] ?_ (dC trivial aj);rintro i out st junk S1 ⟨fF1,A4,B7,A1,A0,A3,B5,A8⟩;obtain⟨A9,A2,B6⟩:=A4.ou;obtain⟨C4,B2,C8⟩:=B7.ou;have di1_4i1_3:=(A8).ou B2.1 A2.1;have fL1:=(aa fF1 (aa A2 (aa B2 di1_4i1_3)))
 .by_cases hi:i<p.length
  .rw[aN hi,Bi]at A0
   have cM2:=@hr;refine dE ai fL1 (aI λzb hc=> ?_);refine ku (λ(o2:List Int) (s2:List Int) (j2:List Int) S2=>(eI S2 6 ((p.getD i 0))/\S2.e 9=.p (lI m0 p)/\eI S2 10 p.length/\eI S2 11 i)/\OwnL (S2.e 3) S2.h S2.n (PV.int .i64) ((o2).length) o2/\OwnL (S2.e 4) S2.h S2.n (PV.int .i64) s2.length (s2++j2)/\o2++(s2.reverse.takeWhile (λy=>decide (y<p.getD i 0))++xe (p.drop (i+1)) (p.getD i 0::s2.reverse.dropWhile (λy=>decide (y<p.getD i 0))))=sE p/\o2.length+s2.length=i/\s2.length+j2.length<=i/\NId (S2.e 4) (S2.e 3)/\S1.n<=S2.n) (λ_ s2 _=>s2.length) out st junk ?_ (dC fL1 aj);rintro o2 s2 j2 S2 ⟨fF2,C9,E5,A6,B3,C1,B1,D3⟩;obtain⟨F3,C6,F4⟩:=C9.ou;obtain⟨I6,D4,I7⟩:=E5.ou;have di2_4i2_3:=(B1).ou D4.1 C6.1;have fL2:=(aa fF2 (aa C6 (aa D4 di2_4i2_3)))
   .have push:(s2.reverse.takeWhile (λy=>decide (y<p.getD i 0))=[])->s2.reverse.dropWhile (λy=>decide (y<p.getD i 0))=s2.reverse->o2++xe (p.drop (i+1)) (s2++[p.getD i 0]).reverse=sE p:=λh1 h2=>by
     rw[h1,h2]at A6;rw[List.reverse_append];exact A6
    rcases acf s2 with rfl|⟨r,y,rfl⟩
    .have q1:=push rfl rfl
     cases j2 with
     |nil=>
      have cM2:=@hr;refine dE ai fL2 (aD λzb=> ?_);refine rL (i+1) o2 [p.getD i 0] [] (dC fL2 aj) (dC fL2 (aD λzb=> ?_));all_goals(first|exact q1|skip)
     |cons z zs=>
      have cM2:=@hr;refine dE ai fL2 (aD λzb=> ?_);refine rL (i+1) o2 [p.getD i 0] zs (dC fL2 aj) (dC fL2 (bu ?_ ?_))<;>intro zb;all_goals(first|exact q1|(simp only[List.length_nil,zC1]at C1;omega)|skip)
    .have g2:(((r.length+1:Nat):Int)-1).toNat=r.length:=by omega
     have g1:(r++y::j2).getD r.length 0=y:=by
      have:=aa3 (y:=y) (st:=r) (junk:=j2)
      rwa [zA7]at this
     have g3:(r++[y]).reverse=y::r.reverse:=by simp
     have g4:(r++[y]).length=r.length+1:=by simp
     rw[g3]at A6 push;by_cases hy:y<p.getD i 0
     .rw[aaT hy,adh hy]at A6
      have cM2:=@hr;refine dE ai (aa fL2 (aa @g1 (aa @g2 (aa @g4 @hy)))) (aI λzb hc=> ?_);refine gG (o2++[y]) r (y::j2) (dC fL2 aj) (dC fL2 (aD λzb=> ?_));all_goals(first|exact A6|(rw[zA7];exact A6)|(rw[g1];done)|(simp only[zA3,List.length_nil,zC1]at B3 C1 |-;omega)|skip)
     .have q1:=push (aaU hy) (adi hy)
      have hy':(y<p.getD i 0)=False:=zC6 hy;cases j2 with
      |nil=>
       have g6:(r.length+1=(r++[y]).length)=True:=zF5 (by simp);have cM2:=@hr;refine dE ai (aa fL2 (aa @g1 (aa @g2 (aa @g4 (aa @g6 @hy'))))) (aI λzb hc=> ?_);refine rL (i+1) o2 (r++[y]++[p.getD i 0]) [] (dC fL2 aj) (dC fL2 (aD λzb=> ?_));all_goals(first|exact q1|(rw[show r++[y,p.getD i 0]=r++[y]++[p.getD i 0]by simp];exact q1)|(simp only[zA3,List.length_nil,zC1]at B3 C1 |-;omega)|skip)
      |cons z zs=>
       have g6:(r.length+1=(r++y::z::zs).length)=False:=zC6 (by simp);have g7:(r.length+2<=(r++y::z::zs).length)=True:=zF5 (by simp);have g8:List.take (r.length+1) (r++y::z::zs)=r++[y]:=by rw[show r++y::z::zs=(r++[y])++z::zs by simp,zG4 (by simp),zA2 (by simp)]
       have g9:List.drop (r.length+2) (r++y::z::zs)=zs:=by rw[show r++y::z::zs=(r++[y,z])++zs by simp,List.drop_append_of_le_length (by simp),zA6 (by simp)];rfl
       have cM2:=@hr;refine dE ai (aa fL2 (aa @g1 (aa @g2 (aa @g4 (aa @g6 (aa @g7 (aa @g8 (aa @g9 @hy')))))))) ?_;all_goals try(apply nn;repeat' first|exact jb|apply aa|(apply nq;intro zb hc)|(apply np;intro zb)|intro j')<;>try apply nu
       refine rL (i+1) o2 (r++[y]++[p.getD i 0]) zs (dC fL2 aj) (dC fL2 (bu ?_ ?_))<;>intro zb;all_goals(first|exact q1|(rw[show r++[y,p.getD i 0]=r++[y]++[p.getD i 0]by simp];exact q1)|(simp only[zA3,List.length_nil,zC1]at B3 C1 |-;omega)|skip)
  .obtain rfl:i=p.length:=by omega
   have e9:List.drop p.length p=[]:=List.drop_length;rw[e9]at A0;have eT:List.take st.length (st++junk)=st:=by rw[zG4 (zB1 _),zE6]
   have eU:List.take st.length (st.reverse++List.drop st.length (st++junk))=st.reverse:=by rw[zG4 (by simp),zA2 (by simp)]
   have eV:st.reverse.length=st.length:=zC4;have cM2:=@hr;refine dE ai (aa fL1 (aa @eT (aa @eU @eV))) (aI λzb hc=> ?_);all_goals(first|(rw[zA2 (by simp)];exact A0)|(simp;done)|skip)
theorem iI(p:List Int)(hl:p.length<=8):Fun Tryz.prog 159 [lI m0 p] [oI (sE p)]:=by
 refine fO au [2] Tryz.func159 ?_;have cE1:=@aK;refine dE ai trivial (aD λzb=> ?_);refine Kn (λ(i:Nat) (out:List Int) (st:List Int) (junk:List Int) S1=>(S1.e 0=.p (lI m0 p)/\eI S1 5 i)/\OwnL (S1.e 3) S1.h S1.n (PV.int .i64) ((out).length) out/\OwnL (S1.e 4) S1.h S1.n (PV.int .i64) st.length (st++junk)/\i<=p.length/\out++xe (p.drop i) st.reverse=sE p/\out.length+st.length=i/\st.length+junk.length<=i/\NId (S1.e 4) (S1.e 3)) (λi _ _ _=>p.length-i) 0 [] [] [] ?_ (dC trivial aj);rintro i out st junk S1 ⟨fF1,A4,B7,A1,A0,A3,B5,A8⟩;obtain⟨A9,A2,B6⟩:=A4.ou;obtain⟨C4,B2,C8⟩:=B7.ou;have di1_4i1_3:=(A8).ou B2.1 A2.1;have fL1:=(aa fF1 (aa A2 (aa B2 di1_4i1_3)))
 .by_cases hi:i<p.length
  .rw[aN hi,Bi]at A0
   refine dE ai fL1 (aI λzb hc=> ?_);refine ku (λ(o2:List Int) (s2:List Int) (j2:List Int) S2=>(S2.e 0=.p (lI m0 p)/\eI S2 5 i)/\OwnL (S2.e 3) S2.h S2.n (PV.int .i64) ((o2).length) o2/\OwnL (S2.e 4) S2.h S2.n (PV.int .i64) s2.length (s2++j2)/\o2++(s2.reverse.takeWhile (λy=>decide (y<p.getD i 0))++xe (p.drop (i+1)) (p.getD i 0::s2.reverse.dropWhile (λy=>decide (y<p.getD i 0))))=sE p/\o2.length+s2.length=i/\s2.length+j2.length<=i/\NId (S2.e 4) (S2.e 3)/\S1.n<=S2.n) (λ_ s2 _=>s2.length) out st junk ?_ (dC fL1 aj);rintro o2 s2 j2 S2 ⟨fF2,C9,E5,A6,B3,C1,B1,D3⟩;obtain⟨F3,C6,F4⟩:=C9.ou;obtain⟨I6,D4,I7⟩:=E5.ou;have di2_4i2_3:=(B1).ou D4.1 C6.1;have fL2:=(aa fF2 (aa C6 (aa D4 di2_4i2_3)))
   .have push:(s2.reverse.takeWhile (λy=>decide (y<p.getD i 0))=[])->s2.reverse.dropWhile (λy=>decide (y<p.getD i 0))=s2.reverse->o2++xe (p.drop (i+1)) (s2++[p.getD i 0]).reverse=sE p:=λh1 h2=>by
     rw[h1,h2]at A6;rw[List.reverse_append];exact A6
    rcases acf s2 with rfl|⟨r,y,rfl⟩
    .have q1:=push rfl rfl
     cases j2 with
     |nil=>
      refine dE ai fL2 (aD λzb=> ?_);refine rL (i+1) o2 [p.getD i 0] [] (dC fL2 aj) (dC fL2 (aD λzb=> ?_));all_goals(first|exact q1|skip)
     |cons z zs=>
      refine dE ai fL2 (aD λzb=> ?_);refine rL (i+1) o2 [p.getD i 0] zs (dC fL2 aj) (dC fL2 (bu ?_ ?_))<;>intro zb;all_goals(first|exact q1|(simp only[List.length_nil,zC1]at C1;omega)|skip)
    .have g2:(((r.length+1:Nat):Int)-1).toNat=r.length:=by omega
     have g1:(r++y::j2).getD r.length 0=y:=by
      have:=aa3 (y:=y) (st:=r) (junk:=j2)
      rwa [zA7]at this
     have g3:(r++[y]).reverse=y::r.reverse:=by simp
     have g4:(r++[y]).length=r.length+1:=by simp
     rw[g3]at A6 push;by_cases hy:y<p.getD i 0
     .rw[aaT hy,adh hy]at A6
      refine dE ai (aa fL2 (aa @g1 (aa @g2 (aa @g4 @hy)))) (aI λzb hc=> ?_);refine gG (o2++[y]) r (y::j2) (dC fL2 aj) (dC fL2 (aD λzb=> ?_));all_goals(first|exact A6|(rw[zA7];exact A6)|(rw[g1];done)|(simp only[zA3,List.length_nil,zC1]at B3 C1 |-;omega)|skip)
     .have q1:=push (aaU hy) (adi hy)
      have hy':(y<p.getD i 0)=False:=zC6 hy;cases j2 with
      |nil=>
       have g6:(r.length+1=(r++[y]).length)=True:=zF5 (by simp);refine dE ai (aa fL2 (aa @g1 (aa @g2 (aa @g4 (aa @g6 @hy'))))) (aI λzb hc=> ?_);refine rL (i+1) o2 (r++[y]++[p.getD i 0]) [] (dC fL2 aj) (dC fL2 (aD λzb=> ?_));all_goals(first|exact q1|(rw[show r++[y,p.getD i 0]=r++[y]++[p.getD i 0]by simp];exact q1)|(simp only[zA3,List.length_nil,zC1]at B3 C1 |-;omega)|skip)
      |cons z zs=>
       have g6:(r.length+1=(r++y::z::zs).length)=False:=zC6 (by simp);have g7:(r.length+2<=(r++y::z::zs).length)=True:=zF5 (by simp);have g8:List.take (r.length+1) (r++y::z::zs)=r++[y]:=by rw[show r++y::z::zs=(r++[y])++z::zs by simp,zG4 (by simp),zA2 (by simp)]
       have g9:List.drop (r.length+2) (r++y::z::zs)=zs:=by rw[show r++y::z::zs=(r++[y,z])++zs by simp,List.drop_append_of_le_length (by simp),zA6 (by simp)];rfl
       refine dE ai (aa fL2 (aa @g1 (aa @g2 (aa @g4 (aa @g6 (aa @g7 (aa @g8 (aa @g9 @hy')))))))) ?_;all_goals try(apply nn;repeat' first|exact jb|apply aa|(apply nq;intro zb hc)|(apply np;intro zb)|intro j')<;>try apply nu
       refine rL (i+1) o2 (r++[y]++[p.getD i 0]) zs (dC fL2 aj) (dC fL2 (bu ?_ ?_))<;>intro zb;all_goals(first|exact q1|(rw[show r++[y,p.getD i 0]=r++[y]++[p.getD i 0]by simp];exact q1)|(simp only[zA3,List.length_nil,zC1]at B3 C1 |-;omega)|skip)
  .obtain rfl:i=p.length:=by omega
   have e9:List.drop p.length p=[]:=List.drop_length;rw[e9]at A0;have eT:List.take st.length (st++junk)=st:=by rw[zG4 (zB1 _),zE6]
   have eU:List.take st.length (st.reverse++List.drop st.length (st++junk))=st.reverse:=by rw[zG4 (by simp),zA2 (by simp)]
   have eV:st.reverse.length=st.length:=zC4;refine dE ai (aa fL1 (aa @eT (aa @eU @eV))) (aI λzb hc=> ?_);all_goals(first|(rw[zA2 (l:=st.reverse) (by simp),zA2 (by simp)];exact A0)|(simp;done)|skip)
def y4(f:List Int->List Int)(p:List Int):Int:=if ac p=true then AO f 64 p else -1
theorem xO{f:List Int->List Int}: -1<=y4 f p/\y4 f p<=64:=by
 unfold y4;split
 .have:=T5 (f:=f) (d:=64) (p:=p);omega
 .omega
theorem eF(p:List Int)(g:FuncId)(f:List Int->List Int)(hp:ac p=true)(hf:∀q,aF q=true->q.length=p.length->aF (f q)=true/\(f q).length=q.length/\(rl q=false->DG (f q)<DG q))(hg:∀(m:Bool) (q:List Int),q.length<=8->aF q=true->Fun Tryz.prog g [lI m q] [oI (f q)]):Fun Tryz.prog 306 [lI m0 p,.fn g [] []] [.int .i64 (AO f 64 p)]:=by
 refine fO au [4] Tryz.func306 ?_;have cE1:=@br;obtain⟨h8,hq⟩:=al hp;have h64:DG p<=64:=zE0 EG (zI9 h8 h8);refine dE ai trivial (aD λzb=> ?_);refine xN (λ(b:Bool) (id:Nat) (q:List Int) (k:Nat) (d:Nat) S1=>S1.e 0=(bif b then AV.p (lI m0 q)else AV.ref id 0 q.length)/\S1.e 1=.p (.fn g [] [])/\eI S1 5 k/\aF q=true/\q.length=p.length/\(k:Int)+AO f d q=AO f 64 p/\DG q<=d/\k+d=64/\(b=true\/(id<S1.n/\S1.h id=.live false (List.map (PV.int .i64) q)))) (λ_ _ _ _ d=>d) true 0 p 0 64 ?_ (dC trivial aj);rintro b id q k d S1 ⟨C0,X2,E8,A1,A0,A3,B5,C7,E4⟩;have fL1:=(aa C0 (aa X2 E8))
 .have hpq:ac q=true:=by simp only[ac,A1,zG1,zC2];omega
  obtain⟨f1,f2,f3⟩:=hf q A1 A0;have cg:=λm:Bool=>hg m q (by omega) A1;cases hu:rl q with
  |true=>
   rw[DO hu]at A3;cases b with
   |true=>
    simp only[cond_true]at C0;have cE1:=@cg;have cE2:=@br;exact dE ai (aa fL1 (aa @C0 (aa @hpq @hu))) aj
   |false=>
    simp only[cond_false]at C0;rcases E4 with e|⟨e1,e2⟩
    .cases e
    .have n4:=dJ e1
     have cE1:=@cg;have cE2:=@br;exact dE ai (aa fL1 (aa @C0 (aa @e2 (aa @n4 (aa @hpq @hu))))) aj
  |false=>
   have f4:=f3 hu;obtain⟨d,rfl⟩:∃e,d=e+1:=⟨d-1,by omega⟩;rw[AO,hu,zA8 (by decide)]at A3;cases b with
   |true=>
    simp only[cond_true]at C0;have cE1:=@cg;have cE2:=@br;refine dE ai (aa fL1 (aa @C0 (aa @hpq @hu))) (aD λzb=> ?_);exact nI false (S1.n+1280) (f q) (k+1) d (dC fL1 aj) (dC fL1 aj);all_goals(first|(rw[<-A3];omega)|skip)
   |false=>
    simp only[cond_false]at C0;rcases E4 with e|⟨e1,e2⟩
    .cases e
    .have n4:=dJ e1
     have cE1:=@cg;have cE2:=@br;refine dE ai (aa fL1 (aa @C0 (aa @e2 (aa @n4 (aa @hpq @hu))))) (aD λzb=> ?_);exact nI false (S1.n+1280) (f q) (k+1) d (dC fL1 aj) (dC fL1 aj);all_goals(first|(rw[<-A3];omega)|skip)
theorem iU(p:List Int)(hl:p.length<=1048576):Fun Tryz.prog 233 [lI m0 p] [.int .i64 (y4 sE p)]:=by
 by_cases h:ac p=true
 .have c1:=λm0:Bool=>eF (m0:=m0) p 122 sE h (λq hq _=>DU hq) (λm q hl _=>eG (m0:=m) q hl)
  rw[y4,zB0 h];refine fO au [2] Tryz.func233 ?_;have cE1:=@ae;have cE2:=@eF;have cE3:=@eG;have cE1:=@c1;have cE2:=@ae;exact dE ai @h aj
 .rw[y4,zA8 h]
  rw[zA9]at h;refine fO au [2] Tryz.func233 ?_;have cE1:=@ae;have cE2:=@eF;have cE3:=@eG;exact dE ai @h aj
theorem iJ(p:List Int)(hl:p.length<=1048576):Fun Tryz.prog 174 [lI m0 p] [.int .i64 (y4 sE p)]:=by
 by_cases h:ac p=true
 .obtain⟨h8,hq⟩:=al h
  have h64:DG p<=64:=zE0 EG (zI9 h8 h8);rw[y4,zB0 h];refine fO au [2] Tryz.func174 ?_;have cE1:=@ah;have cE2:=@bh;have cE3:=@iI;refine dE ai @h (aD λzb=> ?_);refine xN (λ(b:Bool) (id:Nat) (q:List Int) (k:Nat) (d:Nat) S1=>S1.e 0=(bif b then AV.p (lI m0 q)else AV.ref id 0 q.length)/\eI S1 3 k/\aF q=true/\q.length=p.length/\(k:Int)+AO sE d q=AO sE 64 p/\DG q<=d/\k+d=64/\(b=true\/(id<S1.n/\S1.h id=.live false (List.map (PV.int .i64) q)))) (λ_ _ _ _ d=>d) true 0 p 0 64 ?_ (dC trivial aj);rintro b id q k d S1 ⟨C0,M0,A1,A0,A3,B5,C7,E4⟩;have fL1:=(aa C0 M0)
  .have q8:q.length<=8:=by omega
   obtain⟨f1,f2,f3⟩:=DU A1;cases hu:rl q with
   |true=>
    rw[DO hu]at A3;cases b with
    |true=>
     simp only[cond_true]at C0;exact dE ai (aa fL1 (aa @C0 @hu)) aj
    |false=>
     simp only[cond_false]at C0;rcases E4 with e|⟨e1,e2⟩
     .cases e
     .have n4:=dJ e1
      exact dE ai (aa fL1 (aa @C0 (aa @e2 (aa @n4 @hu)))) aj
   |false=>
    have f4:=f3 hu;obtain⟨d,rfl⟩:∃e,d=e+1:=⟨d-1,by omega⟩;rw[AO,hu,zA8 (by decide)]at A3;cases b with
    |true=>
     simp only[cond_true]at C0;refine dE ai (aa fL1 (aa @C0 @hu)) (aD λzb=> ?_);exact nI false (S1.n+1024) (sE q) (k+1) d (dC fL1 aj) (dC fL1 aj);all_goals(first|(rw[<-A3];omega)|skip)
    |false=>
     simp only[cond_false]at C0;rcases E4 with e|⟨e1,e2⟩
     .cases e
     .have n4:=dJ e1
      refine dE ai (aa fL1 (aa @C0 (aa @e2 (aa @n4 @hu)))) (aD λzb=> ?_);exact nI false (S1.n+1024) (sE q) (k+1) d (dC fL1 aj) (dC fL1 aj);all_goals(first|(rw[<-A3];omega)|skip)
 .rw[y4,zA8 h]
  rw[zA9]at h;refine fO au [2] Tryz.func174 ?_;have cE1:=@ah;have cE2:=@bh;have cE3:=@iI;exact dE ai @h aj
end Go.Gl
