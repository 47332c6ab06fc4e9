/-
  What the functions compute, and what the law asks of it: texts joined. Conditions: those that each lemma names.
-/
import Derived.Test.YtjimcmbfljdelaaGreatDoorT18
import Derived.Test.YtjimcmbfljdelaaGreatDoorT13
import Derived.Test.YtjimcmbfljdelaaGreatDoorT1
import Derived.Test.YtjimcmbfljdelaaGreatDoorT3
import Derived.Test.YtjimcmbfljdelaaGreatDoorT2
import Derived.Test.YtjimcmbfljdelaaGreatDoorT4
set_option linter.unusedSimpArgs false
set_option linter.unusedVariables false
set_option maxRecDepth 20000
set_option linter.unusedSectionVars false
set_option maxHeartbeats 16000000
variable{v x:Int}{i j k m n:Nat}{L l:List (List Int)}{f:Go.FuncId}{e0 m0:Bool}{p q:List Int}{r:List Go.Gl.PV}{c:List Nat}
namespace Go.Gl
open Go Go.Proofs
variable [Amb][NoQ]
def mE(v:Int)(x:Int):Int:=x+bU (decide (v<=x))
def lr(q:List Int)(v:Int):List Int:=q.map (mE v)++[v]
def BN(L:List (List Int))(q:List Int):Nat->List (List Int)
 |0=>[]
 |v+1=>BN L q v++if pB L (lr q ((v:Int)+1))=true then[lr q ((v:Int)+1)]else[]
def AR(L last:List (List Int))(n:Nat):List (List Int):=last.flatMap λq=>BN L q n
def jd(L:List (List Int)):Nat->List (List Int)
 |0=>[[]]
 |k+1=>AR L (jd L k) (k+1)
theorem zX{L:List (List Int)}{q:List Int}:∀{v:Nat},(BN L q v).length<=v
 |0=>zB1 _
 |v+1=>by
  have:=zX (L:=L) (q:=q) (v:=v);rw[BN,zA3];split<;>simp<;>omega
theorem zY{L:List (List Int)}{n:Nat}:∀{last:List (List Int)},(AR L last n).length<=last.length*n
 |[]=>by simp[AR]
 |q::l=>by
  have h1:=zX (L:=L) (q:=q) (v:=n);have h2:=zY (L:=L) (n:=n) (last:=l);rw[AR,List.flatMap_cons,zA3,zC1,Nat.succ_mul];rw[AR]at h2;omega
theorem Yj(h:0<=x){m:Int}(h2:x<=m):0<=mE v x/\mE v x<=m+1:=by
 have:=ik (decide (v<=x));unfold mE;omega
theorem nxV_mem{L:List (List Int)}{q y:List Int}:∀{n:Nat},y∈BN L q n↔pB L y=true/\∃v:Nat,v<n/\y=lr q ((v:Int)+1)
 |0=>by simp[BN]
 |n+1=>by
  rw[BN,zB3,nxV_mem (n:=n)];constructor
  .rintro(⟨h,v,hv,e⟩|h)
   .exact⟨h,v,by omega,e⟩
   .split at h
    .rename_i g;rw[zB7]at h;subst h;exact⟨g,n,by omega,rfl⟩
    .simp at h
  .rintro⟨h,v,hv,e⟩
   by_cases hn:v=n
   .subst hn;subst e;right;rw[zB0 h];simp
   .exact .inl ⟨h,v,by omega,e⟩
theorem Oq{L:List (List Int)}:∀{k:Nat},∀q∈jd L k,q.length=k/\∀x∈q,0<=x/\x<=k
 |0,q,h=>by simp[jd]at h;subst h;simp
 |k+1,y,h=>by
  rw[jd,AR,List.mem_flatMap]at h;obtain⟨q,hq,hy⟩:=h;obtain⟨_,v,hv,rfl⟩:=nxV_mem.1 hy;obtain⟨h1,h2⟩:=Oq q hq;refine⟨by simp[lr,h1],λx hx=> ?_⟩;rw[lr,zB3]at hx;rcases hx with hx|hx
  .obtain⟨z,hz,rfl⟩:=zD0.1 hx
   have:=Yj (v:=(v:Int)+1) (h2 z hz).1 (h2 z hz).2;omega
  .simp at hx;omega
theorem Hq{L:List (List Int)}:∀{k:Nat},k<=6->(jd L k).length<=6^k
 |0,_=>by simp[jd]
 |k+1,h=>by
  have h1:=zY (L:=L) (n:=k+1) (last:=jd L k);have h2:=zI9 (Hq (L:=L) (k:=k) (by omega)) h;rw[jd,zG7];omega
theorem Os(h:k<=6):(jd L k).length<=46656:=zE0 (Hq h) (zE0 (Nat.pow_le_pow_right (by omega) h) (by decide))
def Ea:FuncId->List Bool:=λf=>[]
theorem Qn:Ea f=[]:=_root_.id rfl
theorem JO:ga Ea=false/\gu Ea=false/\gs Ea=false/\gr Ea=false/\gB Ea=false:=⟨rfl,rfl,rfl,rfl,rfl⟩
attribute [go_sem] Qn JO
theorem vm{e1 m1:Bool}(L last:List (List Int))(n:Int)(hn:0<=n/\n<=8)(hL:L.length<=1099511627776)(hl:∀q∈L,q.length<=8)(h1:last.length<=16777216)(h2:∀q∈last,q.length<=7/\∀x∈q,0<=x/\x<=8):Fun Tryz.prog 290 [lE m0 e0 L,lE m1 e1 last,.int .i64 n] [.sl .own (List.map (cK false) (AR L last n.toNat))]:=by
 obtain⟨N,rfl⟩:=zG6 hn.1;rw[zC9];refine fO Ea [6] Tryz.func290 ?_;have cE1:=@bw;have cE2:=@cE;have cD1:=d7 (d8 22 [17,19,20]) [(0,17),(1,17),(2,17),(3,17),(4,17),(5,17),(6,17),(7,17),(0,19)];refine dE ai trivial (aD λzb=> ?_);refine ao (λ(k:Nat) S1=>(S1.e 0=.p (lE m0 e0 L)/\S1.e 1=.p (lE m1 e1 last)/\eI S1 2 N/\eI S1 8 k)/\OwnL (S1.e 7) S1.h S1.n (cK false) ((AR L (last.take k) N).length) (AR L (last.take k) N)/\k<=last.length) (λk=>last.length-k) 0 ?_ (dC trivial aj);rintro k S1 ⟨fF1,G0,A1⟩;obtain⟨K8,E7,K9⟩:=G0.ou;have fL1:=(aa fF1 E7);have b1:(AR L (last.take k) N).length<=16777216*8:=zE0 zY (zI9 (by simp;omega) (by omega));by_cases hk:k<last.length
 .obtain⟨g1,g2⟩:=h2 _ (am (d:=[]) hk)
  refine dE ai fL1 (aI λzb hc=> ?_);refine ao (λ(v:Nat) S2=>(S2.e 0=.p (lE m0 e0 L)/\S2.e 1=.p (lE m1 e1 last)/\eI S2 2 N/\eI S2 8 k/\eI S2 9 ((v+1)))/\OwnL (S2.e 7) S2.h S2.n (cK false) ((AR L (last.take k) N++BN L (last.getD k []) v).length) (AR L (last.take k) N++BN L (last.getD k []) v)/\v<=N/\S1.n<=S2.n) (λv=>N-v) 0 ?_ (dC fL1 (bu (λzb=> ?_) λzb=> ?_));rintro v S2 ⟨fF2,J8,A6,B1⟩;obtain⟨I1,J9,Q7⟩:=J8.ou;have fL2:=(aa fF2 J9);have b2:=zX (L:=L) (q:=last.getD k []) (v:=v);by_cases hv:v<N
  .refine dE ai fL2 (aI λzb hc=> ?_)
   refine ao (λ(i:Nat) S4=>(S4.e 0=.p (lE m0 e0 L)/\S4.e 1=.p (lE m1 e1 last)/\eI S4 2 N/\S4.e 7=.ref I1 0 (AR L (last.take k) N++BN L (last.getD k []) v).length/\S4.h I1=.live false (List.map (cK false) (AR L (last.take k) N++BN L (last.getD k []) v))/\eI S4 8 k/\eI S4 9 ((v+1))/\eI S4 11 i)/\OwnL (S4.e 10) S4.h S4.n (PV.int .i64) ((((last.getD k []).take i).map (mE ((v:Int)+1))).length) (((last.getD k []).take i).map (mE ((v:Int)+1)))/\i<=(last.getD k []).length/\NId (S4.e 10) (.ref I1 0 0)/\S2.n<=S4.n) (λi=>(last.getD k []).length-i) 0 ?_ (dC fL2 aj);rintro i S4 ⟨fF4,W9,I9,E9,K5⟩;obtain⟨i4_10,Q9,l4_10⟩:=W9.ou;have di4_10i2_7:=(E9).ou Q9.1 rfl;have X0:=dJ (x:=I1) (n:=S4.n);have fL4:=(aa fF4 (aa Q9 (aa di4_10i2_7 X0)));by_cases hi:i<(last.getD k []).length
   .have g3:=g2 _ (am (d:=0) hi)
    have g4:=ik (decide ((v:Int)+1<=(last.getD k []).getD i 0));refine dE ai fL4 (aI λzb hc=> ?_);refine ak (i+1) (dC fL4 aj) (dC fL4 (aD λzb=> ?_));all_goals(rw[aq (d:=0) hi])
    all_goals simp[mE]
   .obtain rfl:i=(last.getD k []).length:=by omega
    have e1:List.take ((last.getD k []).length+1) ((last.getD k []).map (mE ((v:Int)+1))++[(v:Int)+1])=lr (last.getD k []) ((v:Int)+1):=by rw[zA2 (by simp),lr]
    have e2:(lr (last.getD k []) ((v:Int)+1)).length<=8:=by rw[lr,zA3,zB2,zC5];omega
    refine dE ai (aa fL4 @e1) (f9 ?_ ?_)<;>intro zb hc
    .refine ak (v+1) (dC fL4 aj) (dC fL4 (bu ?_ ?_))<;>intro zb
     all_goals(rw[BN,zB0 hc])
     all_goals simp[zE9]
    .refine ak (v+1) (dC fL4 aj) (dC fL4 (bu ?_ ?_))<;>intro zb
     all_goals(rw[BN,zA8 (by rw[hc];decide)])
     all_goals simp
  .skip
   obtain rfl:v=N:=by omega
   refine dE ai fL2 (aI λzb hc=> ?_);refine ak (k+1) (dC fL2 aj) (dC fL2 (bu ?_ ?_))<;>intro zb;all_goals(rw[aq (d:=[]) hk])
   all_goals simp[AR]
  all_goals simp[BN]
 .skip
  obtain rfl:k=last.length:=by omega
  exact dE ai fL1 aj
def Te(q:List (List Int)):PV:=lE false false q
theorem Zd{q:List (List Int)}:Te q=lE false false q:=_root_.id rfl
theorem XG{l:List (List (List Int))}{x:List (List Int)}:List.map Te l++(lE false false x::r)=List.map Te (l++[x])++r:=by simp[Te]
theorem Xk:noRo (Te l)=true:=dv (λ_=>Mk) l
theorem Rn{l:List (List (List Int))}:noRoL (l.map Te)=true:=dv (λ_=>Xk) l
attribute [go_sem] Zd XG Rn
def uz(L:List (List Int))(k:Nat):List (List (List Int)):=(List.range k).map (jd L)
theorem Jc:uz L (k+1)=uz L k++[jd L k]:=by simp[uz,zF7]
theorem wL:(uz L k).length=k:=by simp[uz]
theorem Tt(h:i<k):(uz L k).getD i []=jd L i:=by
 rw[zA0,uz,zA5,List.getElem?_range h];rfl
theorem nC(L:List (List Int))(n:Int)(hn:0<=n/\n<=6)(hL:L.length<=1099511627776)(hl:∀q∈L,q.length<=8):Fun Tryz.prog 208 [lE m0 e0 L,.int .i64 n] [.sl .own (List.map Te (uz L (n.toNat+1)))]:=by
 obtain⟨N,rfl⟩:=zG6 hn.1;rw[zC9];refine fO au [4] Tryz.func208 ?_;have cE1:=@vm;refine dE ai trivial (aD λzb=> ?_);refine ao (λ(k:Nat) S1=>(S1.e 0=.p (lE m0 e0 L)/\eI S1 1 N/\eI S1 7 ((k+1)))/\FroL (S1.e 5) S1.h S1.n (cK false) ((jd L k).length) (jd L k)/\OwnL (S1.e 6) S1.h S1.n Te ((uz L (k+1)).length) (uz L (k+1))/\k<=N/\NId (S1.e 6) (S1.e 5)) (λk=>N-k) 0 ?_ (dC trivial aj);rintro k S1 ⟨fF1,A7,C3,A1,A8⟩;obtain⟨B4,A5,B8⟩:=A7.ou;obtain⟨C5,B9,E0⟩:=C3.ou;have di1_6i1_5:=(A8).ou B9.1 A5.1;have fL1:=(aa fF1 (aa A5 (aa B9 di1_6i1_5)));have b0:=wL (L:=L) (k:=k+1);by_cases hk:k<N
 .have b1:=Os (L:=L) (k:=k) (by omega)
  have b2:∀q∈jd L k,q.length<=7/\∀x∈q,0<=x/\x<=8:=λq hq=>by
   obtain⟨g1,g2⟩:=Oq q hq;exact⟨by omega,λx hx=>by have:=g2 x hx;omega⟩
  have e1:AR L (jd L k) ((k:Int)+1).toNat=jd L (k+1):=rfl;refine dE ai (aa fL1 (aa @b0 @e1)) (aI λzb hc=> ?_);refine ak (k+1) (dC fL1 aj) (dC fL1 (bu ?_ ?_))<;>intro zb;all_goals first|(simp only[wL];done)|(rw[Jc (k:=k+1)];rfl)
 .obtain rfl:k=N:=by omega
  exact dE ai fL1 aj
def uW(L:List (List Int))(n:Int):List Int:=if aG L=true/\0<=n/\n<=6 then(List.range (n.toNat+1)).map λk=>((jd L k).length:Int)else[]
theorem dy(L:List (List Int))(n:Int)(hL:L.length<=1048576)(hl:∀q∈L,q.length<=1048576):Fun Tryz.prog 106 [lE m0 e0 L,.int .i64 n] [oI (uW L n)]:=by
 by_cases hc0:aG L=true/\0<=n/\n<=6
 .have e1:uW L n=(List.range (n.toNat+1)).map λk=>((jd L k).length:Int):=zB0 hc0
  have hb:=gn hc0.1;have e3:=hc0.1;have b0:=wL (L:=L) (k:=n.toNat+1);rw[e1];refine fO au [4] Tryz.func106 ?_;have cE1:=@aA;have cE2:=@ay;have cE3:=@nC;refine dE ai @e3 (aI ?_)<;>(intro zb hc;repeat (have zc:=zb.1;replace zb:=zb.2));refine ao (λ(k:Nat) S1=>(S1.e 0=.p (lE m0 e0 L)/\eI S1 7 k)/\OwnL (S1.e 6) S1.h S1.n Te ((uz L (n.toNat+1)).length) (uz L (n.toNat+1))/\OwnL (S1.e 5) S1.h S1.n (PV.int .i64) (((List.range k).map (λk=>((jd L k).length:Int))).length) ((List.range k).map (λk=>((jd L k).length:Int)))/\k<=n.toNat+1/\NId (S1.e 5) (S1.e 6)) (λk=>n.toNat+1-k) 0 ?_ (dC trivial aj);rintro k S1 ⟨fF1,C3,A7,A1,A8⟩;obtain⟨C5,B9,E0⟩:=C3.ou;obtain⟨B4,A5,B8⟩:=A7.ou;have di1_5i1_6:=(A8).ou A5.1 B9.1;have fL1:=(aa fF1 (aa B9 (aa A5 di1_5i1_6)));by_cases hk:k<n.toNat+1
  .have e4:=Tt (L:=L) hk
   have b1:=Os (L:=L) (k:=k) (by omega);refine dE ai (aa fL1 (aa @e4 @b0)) (aI ?_)<;>(intro zb hc;repeat (have zc:=zb.1;replace zb:=zb.2));refine ak (k+1) (dC fL1 aj) (dC fL1 (bu ?_ ?_))<;>intro zb;all_goals simp[zF7]
  .obtain rfl:k=n.toNat+1:=by omega
   exact dE ai (aa fL1 @b0) aj
 .rw[show uW L n=[]from zA8 hc0]
  refine fO au [4] Tryz.func106 ?_;have cE1:=@aA;have cE2:=@ay;have cE3:=@nC;refine dE ai trivial (f9 ?_ ?_)<;>(intro zb hc;repeat (have zc:=zb.1;replace zb:=zb.2));all_goals exact absurd ⟨by assumption,by assumption⟩ hc0
def DA(p q:List Int)(c:List Nat):Prop:=c.Pairwise (·<·)/\(∀x∈c,x<p.length)/\∀i j,i<j->j<c.length->(q.getD i 0<q.getD j 0↔p.getD (c.getD i 0) 0<p.getD (c.getD j 0) 0)
theorem Nz{α:Type}{a b:List α}{d:α}(h:i<a.length):(a++b).getD i d=a.getD i d:=by
 grind
theorem ahN{α:Type}{a b:List α}{d:α}(h:a.length<=i):(a++b).getD i d=b.getD (i-a.length) d:=by
 grind
theorem Yu{α β:Type}{f:α->β}{l:List α}{d:α}{e:β}(h:i<l.length):(l.map f).getD i e=f (l.getD i d):=by
 grind
theorem af2{α:Type}{a:List α}{x d:α}:(a++[x]).getD a.length d=x:=by grind
theorem good_snoc:DA p q (c++[m])↔DA p q c/\(∀x∈c,x<m)/\m<p.length/\∀l,l<c.length->(q.getD l 0<q.getD c.length 0↔p.getD (c.getD l 0) 0<p.getD m 0):=by
 unfold DA;rw[List.pairwise_append];constructor
 .rintro⟨⟨h1,_,h2⟩,h3,h4⟩
  refine⟨⟨h1,λx hx=>h3 x (zB3.2 (.inl hx)),λi j hij hj=> ?_⟩,λx hx=>h2 x hx m (by simp),h3 m (by simp),λl hl=> ?_⟩
  .grind
  grind
 .rintro⟨⟨h1,h3,h4⟩,h2,h5,h6⟩
  refine⟨⟨h1,by simp,λx hx y hy=>by rw[zB7]at hy;subst hy;exact h2 x hx⟩,λx hx=> ?_,λi j hij hj=> ?_⟩
  .rcases zB3.1 hx with g|g
   .exact h3 x g
   .rw[zB7]at g;subst g;exact h5
  .rw[zA3,zC5]at hj
   by_cases e:j=c.length
   .subst e;rw[Nz hij,af2];exact h6 i hij
   .rw[Nz (by omega),Nz (by omega)];exact h4 i j hij (by omega)
def frN(c:List Nat):Nat:=if c.length=0 then 0 else c.getD (c.length-1) 0+1
theorem tx:aT 0 (c.map Int.ofNat)=(frN c:Int):=by
 grind [aT,frN]
theorem ND(h:c.Pairwise (·<·)):frN c<=m↔∀x∈c,x<m:=by
 grind [frN,zE7,List.pairwise_iff_getElem]
theorem fit_cast:mI 0 p q (c.map Int.ofNat) (m:Int)=true↔∀l,l<c.length->(q.getD l 0<q.getD c.length 0↔p.getD (c.getD l 0) 0<p.getD m 0):=by
 simp_all [mI,tC,zC8,zB2,zD5,Yu]
theorem Gv{p q:List Int}:∀{d:Nat} {c:List Nat},DA p q c->c.length+d=q.length->(eO 0 p q d (c.map Int.ofNat)≠[]↔∃t,t.length=d/\DA p q (c++t))
 |0,c,hc,hd=>by
  simp_all [eO,zC0]
 |d+1,c,hc,hd=>by
  rw[eO,ne_eq,List.flatMap_eq_nil_iff];constructor
  .intro h
   obtain⟨j,hj⟩:=Classical.not_forall.1 h;rw[Classical.not_imp,zD5,tx]at hj;obtain⟨h1,h2⟩:=hj;rw[show((frN c:Int)+(j:Int))=((frN c+j:Nat):Int)by omega]at h2;have h4:mI 0 p q (c.map Int.ofNat) ((frN c+j:Nat):Int)=true:=by
    grind
   rw[zB0 h4]at h2;have g:DA p q (c++[frN c+j]):=good_snoc.2 ⟨hc,(ND hc.1).1 (by omega),by omega,fit_cast.1 h4⟩;have:=(Gv (d:=d) g (by simp;omega)).1 (by grind);grind
  .rintro⟨t,ht,hg⟩ h
   cases t with
   |nil=>simp at ht
   |cons m t=>
    rw[show c++m::t=(c++[m])++t by simp]at hg;have g:DA p q (c++[m]):=by
     refine⟨(List.pairwise_append.1 hg.1).1,λx hx=>hg.2.1 x (zB3.2 (.inl hx)),λi j hij hj=> ?_⟩;have:=hg.2.2 i j hij (by rw[zA3];omega)
     rwa [Nz (a:=c++[m]) (by omega),Nz (a:=c++[m]) hj]at this
    obtain⟨_,g2,g3,g4⟩:=good_snoc.1 g;have g5:=(ND hc.1).2 g2;have:=h (m-frN c) (zD5.2 (by rw[tx];omega));rw[tx,show((frN c:Int)+((m-frN c:Nat):Int))=(m:Int)by omega,zB0 (fit_cast.2 g4)]at this;exact(Gv (d:=d) g (by simp;omega)).2 ⟨t,by simpa using ht,hg⟩ (by rw[zE2];exact this)
theorem hasB_iff:ft p q=true↔∃c,c.length=q.length/\DA p q c:=by
 have:=Gv (p:=p) (q:=q) (d:=q.length) (c:=[]) ⟨List.Pairwise.nil,by simp,by simp⟩ (by simp);rw[ft];simp only[lI,oI,lE,zE8,zE1]at this;rw[<-this];cases eO 0 p q q.length []<;>simp
theorem Ss{p':List Int}(g:Nat->Nat)(hm:∀i j,i<j->j<p.length->g i<g j)(hl:∀i,i<p.length->g i<p'.length)
  (ho:∀i j,i<p.length->j<p.length->(p.getD i 0<p.getD j 0↔p'.getD (g i) 0<p'.getD (g j) 0)) (h:ft p q=true):ft p' q=true:=by
 obtain⟨c,hc,h1,h2,h3⟩:=hasB_iff.1 h;refine hasB_iff.2 ⟨c.map g,by simpa using hc, ?_,λx hx=> ?_,λi j hij hj=> ?_⟩
 .rw[List.pairwise_map]
  grind [List.Pairwise.imp_of_mem]
 .grind
 .rw[zB2]at hj
  rw[Yu (d:=0) (by omega),Yu (d:=0) hj,h3 i j hij hj];exact ho _ _ (h2 _ (am (by omega))) (h2 _ (am hj))
theorem aes{y:Int}:mE v x<mE v y↔x<y:=by
 grind [mE,bU]
theorem ID{b:List Int}(h:ft q b=true):ft (lr q v) b=true:=by
 refine Ss (λi=>i) (λi j h _=>h) (λi h=>by simp[lr];omega) (λi j hi hj=> ?_) h;rw[lr,Nz (by simpa using hi),Nz (by simpa using hj),Yu (d:=0) hi,Yu (d:=0) hj,aes]
theorem OM(h:pB L (lr q v)=true):pB L q=true:=by
 grind [pB,ID]
theorem lack_iff:v∈jg p n↔1<=v/\v<=n/\v∉p:=by
 refine⟨ye,λ⟨h1,h2,h3⟩=> ?_⟩;rw[jg,List.mem_filter,zD0];refine⟨⟨(v-1).toNat,zD5.2 (by omega),by omega⟩, ?_⟩;grind
theorem GJ{n:Nat}:∀{k:Nat} {y:List Int},y.length=k->(∀v∈y,1<=v/\v<=(n:Int))->y.Nodup->y∈fx n k [[]]
 |0,y,hk,_,_=>by grind [fx]
 |k+1,y,hk,h1,h2=>by
  have hy:y=y.take k++[y.getD k 0]:=by simp_all [aq,zA2]
  rw[hy]at h1 h2;rw[List.nodup_append]at h2;have ih:=GJ (n:=n) (k:=k) (y:=y.take k) (by simp;omega) (λv hv=>h1 v (zB3.2 (.inl hv))) h2.1;have h4:=h1 (y.getD k 0) (by simp);rw[oz,List.mem_flatMap];refine⟨y.take k,ih, ?_⟩;rw[fD,zD0];exact⟨y.getD k 0,lack_iff.2 ⟨h4.1,h4.2,λe=>h2.2.2 _ e _ (by simp) rfl⟩,hy.symm⟩
theorem permL_mem:p∈dz n↔aF p=true/\p.length=n:=by
 refine⟨λh=>⟨vJ h,ke _ h⟩,λ⟨h1,h2⟩=> ?_⟩;obtain⟨h3,h4⟩:=permB_iff.1 h1;rw[h2]at h3;exact GJ h2 h3 h4
theorem vr{α:Type}{a b:List α}{x y:α}(h:a++[x]=b++[y]):a=b/\x=y:=by
 grind [List.append_inj']
theorem RV:(jg p n).Nodup:=by
 grind [jg,List.pairwise_lt_range]
theorem MK{n:Nat}:∀{k:Nat},(fx n k [[]]).Nodup
 |0=>by simp[fx]
 |k+1=>by
  rw[oz,zH0,List.pairwise_flatMap];refine⟨λa _=> ?_, ?_⟩
  .grind [fD,vr,RV]
  .refine List.Pairwise.imp (λh x hx y hy e=> ?_) (zH0.1 (MK (n:=n) (k:=k)))
   grind [fD,vr]
theorem LR:(dz n).Nodup:=MK
def Og(v x:Int):Int:=if v<x then x-1 else x
theorem Ag(h:x≠v):mE v (Og v x)=x:=by
 grind [mE,Og,bU]
theorem Cq{y:Int}(h:mE v x=mE v y):x=y:=by
 have h1:¬x<y:=λg=>by have:=aes (v:=v).2 g;omega
 have h2:¬y<x:=λg=>by have:=aes (v:=v).2 g;omega
 omega
theorem Si:mE v x≠v:=by
 grind [mE,bU]
theorem RI{f:Int->Int}(hf:∀x y,f x=f y->x=y):∀{a b:List Int},a.map f=b.map f->a=b
 |[],[],_=>rfl
 |[],_::_,h=>by simp at h
 |_::_,[],h=>by simp at h
 |x::a,y::b,h=>by
  rw[zC3,zC3,List.cons.injEq]at h;rw[hf _ _ h.1,RI hf h.2]
theorem Cr{q':List Int}{v':Int}(h:lr q v=lr q' v'):q=q'/\v=v':=by
 obtain⟨h1,rfl⟩:=vr h;grind [RI,Cq]
theorem aac(h:aF q=true)(hk:q.length=k)(h1:1<=v)(h2:v<=k+1):aF (lr q v)=true/\(lr q v).length=k+1:=by
 obtain⟨g1,g2⟩:=permB_iff.1 h;have e:(lr q v).length=k+1:=by simp[lr,hk]
 refine⟨permB_iff.2 ⟨λx hx=> ?_, ?_⟩,e⟩
 .rw[e]
  rw[lr,zB3,zB7]at hx;rcases hx with hx|rfl
  .obtain⟨y,hy,rfl⟩:=zD0.1 hx
   have:=g1 y hy;have:=ik (decide (v<=y));unfold mE;omega
  .omega
 .rw[lr,List.nodup_append]
  grind [Cq,Si]
theorem HW(h:aF p=true)(hk:p.length=k+1):∃q v,aF q=true/\q.length=k/\1<=v/\v<=(k:Int)+1/\p=lr q v:=by
 obtain⟨g1,g2⟩:=permB_iff.1 h;have hp:p=p.take k++[p.getD k 0]:=by simp_all [aq,zA2]
 have hv:=g1 (p.getD k 0) (am (by omega));rw[hk]at g1 hv;generalize p.getD k 0=v at hp hv;have hl:(p.take k).length=k:=by simp;omega
 rw[hp]at g2;rw[List.nodup_append]at g2;have hne:∀x∈p.take k,x≠v:=λx hx e=>g2.2.2 x hx v (by simp) e;have he:((p.take k).map (Og v)).map (mE v)=p.take k:=by
  rw[List.map_map];exact(zH4 (λx hx=>Ag (hne x hx))).trans (List.map_id _)
 refine⟨(p.take k).map (Og v),v,permB_iff.2 ⟨λx hx=> ?_, ?_⟩,by simp;omega,by omega,by omega,by rw[lr,he];exact hp⟩
 .rw[zB2,hl]
  obtain⟨y,hy,rfl⟩:=zD0.1 hx;have b1:=g1 y (List.mem_of_mem_take hy);have b2:=hne y hy;unfold Og;split<;>omega
 .rw[zH0,List.pairwise_map]
  refine List.Pairwise.imp_of_mem (λ{x y} hx hy h e=>h ?_) (zH0.1 g2.1);have:=zB5 (mE v) e
  rwa [Ag (hne x hx),Ag (hne y hy)]at this
theorem AA{L:List (List Int)}(h0:pB L []=true):∀{k:Nat} {p:List Int},p∈jd L k↔aF p=true/\p.length=k/\pB L p=true
 |0,p=>by
  rw[jd,zB7];refine⟨λh=>by subst h;exact⟨rfl,rfl,h0⟩,λh=>List.length_eq_zero_iff.1 h.2.1⟩
 |k+1,p=>by
  rw[jd,AR,List.mem_flatMap];constructor
  .rintro⟨q,hq,hy⟩
   obtain⟨h1,v,hv,rfl⟩:=nxV_mem.1 hy;obtain⟨h2,h3,_⟩:=(AA h0).1 hq;have:=aac h2 h3 (v:=(v:Int)+1) (by omega) (by omega);grind
  .rintro⟨h1,h2,h3⟩
   obtain⟨q,v,g1,g2,g3,g4,rfl⟩:=HW h1 h2;refine⟨q,(AA h0).2 ⟨g1,g2,OM h3⟩,nxV_mem.2 ⟨h3,(v-1).toNat,by omega, ?_⟩⟩;rw[show(((v-1).toNat:Nat):Int)+1=v by omega]
theorem Mf{L:List (List Int)}{q:List Int}:∀{n:Nat},(BN L q n).Nodup
 |0=>by simp[BN]
 |n+1=>by
  rw[BN,List.nodup_append];refine⟨Mf,by split<;>simp,λx hx y hy e=> ?_⟩;grind [nxV_mem,Cr]
theorem Or{L:List (List Int)}:∀{k:Nat},(jd L k).Nodup
 |0=>by simp[jd]
 |k+1=>by
  rw[jd,AR,zH0,List.pairwise_flatMap];refine⟨λa _=>zH0.1 Mf,List.Pairwise.imp (λh x hx y hy e=> ?_) (zH0.1 (Or (L:=L) (k:=k)))⟩;grind [nxV_mem,Cr]
theorem v7{α:Type}[DecidableEq α]:∀{a b:List α},a.Nodup->(∀x,x∈a->x∈b)->a.length<=b.length
 |[],_,_,_=>Nat.zero_le _
 |x::a,b,h1,h2=>by
  rw[List.nodup_cons]at h1;have hx:=h2 x (by simp);have:=v7 (a:=a) (b:=b.erase x) h1.2 λy hy=>(List.mem_erase_of_ne (λ(e:y=x)=>h1.1 (by rw[<-e];exact hy))).2 (h2 y (by simp[hy]));grind
theorem RR{α:Type}[DecidableEq α]{a b:List α}(ha:a.Nodup)(hb:b.Nodup)(h:∀x,x∈a↔x∈b):a.length=b.length:=
 Nat.le_antisymm (v7 ha λx=>(h x).1) (v7 hb λx=>(h x).2)
theorem Jd:p∈aM L k↔aF p=true/\p.length=k/\pB L p=true:=by
 grind [aM,permL_mem]
theorem Ot:(aM L k).Nodup:=List.Nodup.sublist List.filter_sublist LR
theorem ZC(h:aG L=true):pB L []=true:=by
 simp only[pB,Bool.not_eq_true',List.any_eq_false];intro b hb e;obtain⟨c,hc,h1,h2,_⟩:=hasB_iff.1 e;simp only[aG,zB9]at h;have hb0:b=[]:=by
  grind
 obtain⟨i,hi,rfl⟩:=zE7 hb;have:=zC8.1 h.2 i (zD5.2 hi);grind
theorem Jb(h:aG L=true):(jd L k).length=(aM L k).length:=
 RR Or Ot λx=>by rw[AA (ZC h),Jd]
def eY(g:List Int->Nat->List Int)(p:List Int):Nat->List (List Int)×Nat×Int
 |0=>([],0,0)
 |k+1=>if max (eY g p k).2.2 (p.getD k 0)=k+1 then((eY g p k).1++[g (ge p (eY g p k).2.1 (k+1)) (eY g p k).2.1],k+1,max (eY g p k).2.2 (p.getD k 0))
  else((eY g p k).1,(eY g p k).2.1,max (eY g p k).2.2 (p.getD k 0))
theorem jz{g:List Int->Nat->List Int}{p:List Int}:∀{k:Nat},(eY g p k).2.1<=k/\(eY g p k).1.length<=k
 |0=>by simp[eY]
 |k+1=>by have:=jz (g:=g) (p:=p) (k:=k);grind [eY]
theorem Bf{g g':List Int->Nat->List Int}{p:List Int}:∀{k:Nat},(eY g p k).2=(eY g' p k).2/\(eY g p k).1.length=(eY g' p k).1.length
 |0=>⟨rfl,rfl⟩
 |k+1=>by
  have:=Bf (g:=g) (g':=g') (p:=p) (k:=k);grind [eY]
def rm(s:List Int)(f:Nat):List Int:=s.map λx=>x+ -(f:Int)
def p7(s:List Int)(_:Nat):List Int:=kM s
theorem lX(l:List Int)(d:Int)(hl:l.length<=1048576)(hb:∀x∈l, -1000000<=x/\x<=1000000)(hd: -1000000<=d/\d<=1000000):Fun Tryz.prog 301 [lI m0 l,.int .i64 d] [oI (l.map (λx=>x+d))]:=by
 refine fO au [4] Tryz.func301 ?_;refine dE ai trivial (aD λzb=> ?_);refine ao (λ(k:Nat) S1=>(eI S1 1 d/\S1.e 9=.p (lI m0 l)/\eI S1 10 l.length/\eI S1 11 k)/\OwnL (S1.e 5) S1.h S1.n (PV.int .i64) (((l.take k).map (λx=>x+d)).length) ((l.take k).map (λx=>x+d))/\k<=l.length) (λk=>l.length-k) 0 ?_ (dI zF trivial aj);rintro k S1 ⟨fF1,A7,A1⟩;obtain⟨B4,A5,B8⟩:=A7.ou;have fL1:=(aa fF1 A5);have b1:k<l.length-> -1000000<=l.getD k 0/\l.getD k 0<=1000000:=λh=>hb _ (am h);refine dE zF fL1 (zk7 ?_ ?_ ?_ ?_ ?_ ?_ ?_)<;>intro zb hc;all_goals try have b2:=b1 (by omega)
 all_goals try exact eQ
 .refine ak (k+1) (dC fL1 aj) (dC fL1 (aD λzb=> ?_))
  rw[aq (d:=0) (by omega),zE2];rfl
 .rw[zA2 (by omega)]
theorem abc{a b:Nat}(hb:∀x∈p,0<=x/\x<=8):∀x∈ge p a b, -1000000<=x/\x<=1000000:=λx hx=>by have:=hb x (kK hx);omega
theorem fe(h:ac p=true):∀x∈p,0<=x/\x<=8:=λx hx=>by
 grind [ac,permB_iff]
theorem Lh{g:List Int->Nat->List Int}{p:List Int}(hb:∀x∈p,0<=x/\x<=8):∀{k:Nat},k<=p.length->0<=(eY g p k).2.2/\(eY g p k).2.2<=8
 |0,_=>by simp[eY]
 |k+1,h=>by
  have h1:=Lh (g:=g) hb (k:=k) (by omega);grind [am,eY]
theorem cy(p:List Int)(hl:p.length<=8)(hb:∀x∈p,0<=x/\x<=8):Fun Tryz.prog 312 [lI m0 p] [.sl .own (List.map (cK false) ((eY rm p p.length).1))]:=by
 refine fO au [2] Tryz.func312 ?_;have cE1:=@lX;refine dE ai trivial (aD λzb=> ?_);refine ao (λ(k:Nat) S1=>(S1.e 9=.p (lI m0 p)/\eI S1 10 p.length/\S1.e 0=.p (lI m0 p)/\eI S1 4 ((eY rm p k).2.1)/\eI S1 5 ((eY rm p k).2.2)/\eI S1 11 k)/\OwnL (S1.e 3) S1.h S1.n (cK false) (((eY rm p k).1).length) ((eY rm p k).1)/\k<=p.length) (λk=>p.length-k) 0 ?_ (dC trivial aj);rintro k S1 ⟨fF1,A4,A1⟩;obtain⟨A9,A2,B6⟩:=A4.ou;have fL1:=(aa fF1 A2);have b1:=jz (g:=rm) (p:=p) (k:=k);have b2:=Lh (g:=rm) hb A1;have b3:List.drop (eY rm p k).2.1 (List.take (k+1) p)=ge p (eY rm p k).2.1 (k+1):=rfl;by_cases hk:k<p.length
 .have b4:=hb _ (am (d:=0) hk)
  have b5:(ge p (eY rm p k).2.1 (k+1)).length=k+1-(eY rm p k).2.1:=iP (by omega);have b6:=abc (a:=(eY rm p k).2.1) (b:=k+1) hb;have b7:((k:Int)+1).toNat=k+1:=by omega
  refine dE ai (aa fL1 (aa @b3 @b7)) (f9 ?_ ?_)<;>intro zb hc
  .have x1:eY rm p (k+1)=_:=zB0 hc
   refine ak (k+1) (dC fL1 aj) (dC fL1 (Pu ?_ ?_ ?_ ?_))<;>intro zb;all_goals(rw[x1];try simp[rm,p7])
  .have x1:eY rm p (k+1)=_:=zA8 hc
   refine ak (k+1) (dC fL1 aj) (dC fL1 (Pu ?_ ?_ ?_ ?_))<;>intro zb;all_goals(rw[x1])
 .refine dE ai fL1 (aI λzb hc=> ?_)
  obtain rfl:k=p.length:=by omega
  rfl
theorem bG(p:List Int)(hp:ac p=true):Fun Tryz.prog 281 [lI m0 p] [.sl .own (List.map (cK false) ((eY p7 p p.length).1))]:=by
 refine fO au [2] Tryz.func281 ?_;have cE1:=@bK;have cE2:=@ah;have cE3:=@gb;have hl:=(al hp).1;have hb:=fe hp;refine dE ai @hp (aD λzb=> ?_);refine ao (λ(k:Nat) S1=>(S1.e 0=.p (lI m0 p)/\eI S1 4 ((eY p7 p k).2.1)/\eI S1 5 ((eY p7 p k).2.2)/\eI S1 6 k)/\OwnL (S1.e 3) S1.h S1.n (cK false) (((eY p7 p k).1).length) ((eY p7 p k).1)/\k<=p.length) (λk=>p.length-k) 0 ?_ (dC trivial aj);rintro k S1 ⟨fF1,A4,A1⟩;obtain⟨A9,A2,B6⟩:=A4.ou;have fL1:=(aa fF1 A2);have b1:=jz (g:=p7) (p:=p) (k:=k);have b2:=Lh (g:=p7) hb A1;have b3:List.drop (eY p7 p k).2.1 (List.take (k+1) p)=ge p (eY p7 p k).2.1 (k+1):=rfl;by_cases hk:k<p.length
 .have b4:=hb _ (am (d:=0) hk)
  have b5:(ge p (eY p7 p k).2.1 (k+1)).length=k+1-(eY p7 p k).2.1:=iP (by omega);have b7:((k:Int)+1).toNat=k+1:=by omega
  refine dE ai (aa fL1 (aa @b3 @b7)) (f9 ?_ ?_)<;>intro zb hc
  .have x1:eY p7 p (k+1)=_:=zB0 hc
   refine ak (k+1) (dC fL1 aj) (dC fL1 (Pu ?_ ?_ ?_ ?_))<;>intro zb;all_goals(rw[x1];try simp[rm,p7])
  .have x1:eY p7 p (k+1)=_:=zA8 hc
   refine ak (k+1) (dC fL1 aj) (dC fL1 (Pu ?_ ?_ ?_ ?_))<;>intro zb;all_goals(rw[x1])
 .refine dE ai fL1 (aI λzb hc=> ?_)
  obtain rfl:k=p.length:=by omega
  rfl
def partN(p:List Int):Nat:=(eY rm p p.length).1.length
theorem BD:(eY p7 p p.length).1.length=partN p:=(Bf (g:=p7) (g':=rm)).2
def iC(L:List (List Int))(n:Nat):Int:=((aM L n).filter λp=>decide (partN p=1)).length
def gO(L:List (List Int))(n:Int):List Int:=if aG L=true/\0<=n/\n<=6 then(List.range (n.toNat+1)).map (iC L)else[]
theorem Dn{α:Type}{l:List α}{d:α}{f:α->Bool}(h:j<l.length):(((l.take (j+1)).filter f).length:Int)=((l.take j).filter f).length+bU (f (l.getD j d)):=by
 grind [aq,bU]
theorem Ol{α:Type}{l:List α}{f:α->Bool}:((l.take j).filter f).length<=l.length:=zE0 (zG8 _ _) (by grind)
theorem dB(L:List (List Int))(n:Int)(hL:L.length<=1048576)(hl:∀l∈L,l.length<=1048576):Fun Tryz.prog 249 [lE m0 e0 L,.int .i64 n] [oI (gO L n)]:=by
 by_cases hc0:aG L=true/\0<=n/\n<=6
 .have e1:gO L n=(List.range (n.toNat+1)).map (iC L):=zB0 hc0
  obtain⟨m,hm⟩:∃m:Nat,m=n.toNat+1:=⟨_,rfl⟩;rw[<-hm]at e1;have hb:=gn hc0.1;have e3:=hc0.1;rw[e1];refine fO au [4] Tryz.func249 ?_;have cE1:=@di;have cE2:=@aw;have cE3:=@dm;have cE4:=@cy;refine dE ai @e3 (aI ?_)<;>(intro zb hc;repeat (have zc:=zb.1;replace zb:=zb.2));refine ao (λ(k:Nat) S1=>(S1.e 0=.p (lE m0 e0 L)/\eI S1 20 ((n+1))/\eI S1 21 k)/\OwnL (S1.e 5) S1.h S1.n (PV.int .i64) (((List.range k).map (iC L)).length) ((List.range k).map (iC L))/\(k:Int)<=n+1) (λk=>n.toNat+1-k) 0 ?_ (dC trivial aj);rintro k S1 ⟨fF1,A7,A1⟩;obtain⟨B4,A5,B8⟩:=A7.ou;have fL1:=(aa fF1 A5);by_cases hk:(k:Int)<n+1
  .have b1:=ko (L:=L) (n:=k) (by omega)
   refine dE ai fL1 (aI ?_)<;>(intro zb hc;repeat (have zc:=zb.1;replace zb:=zb.2))
   .refine ao (λ(j:Nat) S2=>(S2.e 0=.p (lE m0 e0 L)/\eI S2 27 ((aM L k).length)/\eI S2 28 j/\eI S2 7 ((((aM L k).take j).filter (λp=>decide (partN p=1))).length)/\eI S2 20 ((n+1))/\eI S2 21 k)/\OwnL (S2.e 26) S2.h S2.n (cK false) ((aM L k).length) (aM L k)/\OwnL (S2.e 5) S2.h S2.n (PV.int .i64) (((List.range k).map (iC L)).length) ((List.range k).map (iC L))/\j<=(aM L k).length/\NId (S2.e 5) (S2.e 26)/\S1.n<=S2.n) (λj=>(aM L k).length-j) 0 ?_ (dC fL1 aj)
    rintro j S2 ⟨fF2,X1,D2,A6,B1,D3⟩;obtain⟨i2_26,R0,l2_26⟩:=X1.ou;obtain⟨D7,D1,G1⟩:=D2.ou;have di2_5i2_26:=(B1).ou D1.1 R0.1;have fL2:=(aa fF2 (aa R0 (aa D1 di2_5i2_26)));have b2:=Ol (l:=aM L k) (f:=λp=>decide (partN p=1)) (j:=j);have b0:(List.map (iC L) (List.range k)).length=k:=by simp
    by_cases hj:j<(aM L k).length
    .have b3:=ii (by omega) (am (d:=[]) hj)
     have b4:=fe b3.1;have b5:=Dn (f:=λp=>decide (partN p=1)) (d:=[]) hj;have b6:(eY rm ((aM L k).getD j []) ((aM L k).getD j []).length).1.length=partN ((aM L k).getD j []):=rfl;refine dE ai (aa fL2 @b6) (f9 ?_ ?_)<;>(intro zb hc;repeat (have zc:=zb.1;replace zb:=zb.2))
     .refine ak (j+1) (dC fL2 aj) (dC fL2 (aD ?_))<;>intro zb
      rw[b5,zB6 (by omega)];rfl
     .refine ak (j+1) (dC fL2 aj) (dC fL2 (aD ?_))<;>intro zb
      rw[b5,zB8 (by omega)];simp[bU]
    .refine dE ai fL2 (aI ?_)<;>(intro zb hc;repeat (have zc:=zb.1;replace zb:=zb.2))
     .refine ak (k+1) (dC fL2 aj) (dC fL2 (bu ?_ ?_))<;>intro zb
      all_goals(obtain rfl:j=(aM L k).length:=by omega)
      all_goals first|(rw[zF7,zE2,zE6];rfl)|(simp;done)|(simp;rfl)
  .skip
   refine dE ai fL1 (aI ?_)<;>(intro zb hc;repeat (have zc:=zb.1;replace zb:=zb.2));obtain rfl:k=m:=by omega
   all_goals(rw[zA2 (by simp)])
 .have e1:gO L n=[]:=zA8 hc0
  rw[e1];refine fO au [4] Tryz.func249 ?_;have cE1:=@di;have cE2:=@aw;have cE3:=@dm;have cE4:=@cy;refine dE ai trivial (aI ?_)<;>(intro zb hc;repeat (have zc:=zb.1;replace zb:=zb.2));exact absurd ⟨by assumption,by assumption⟩ hc0
theorem kC(L:List (List Int))(n:Int)(hL:L.length<=1048576)(hl:∀l∈L,l.length<=1048576):Fun Tryz.prog 192 [lE m0 e0 L,.int .i64 n] [oI (gO L n)]:=by
 by_cases hc0:aG L=true/\0<=n/\n<=6
 .have e1:gO L n=(List.range (n.toNat+1)).map (iC L):=zB0 hc0
  obtain⟨m,hm⟩:∃m:Nat,m=n.toNat+1:=⟨_,rfl⟩;rw[<-hm]at e1;have hb:=gn hc0.1;have e3:=hc0.1;rw[e1];refine fO au [4] Tryz.func192 ?_;have cE1:=@aA;have cE2:=@bw;have cE3:=@ay;have cE4:=@cL;have cE5:=@bG;refine dE ai @e3 (aI ?_)<;>(intro zb hc;repeat (have zc:=zb.1;replace zb:=zb.2));refine ao (λ(k:Nat) S1=>(S1.e 0=.p (lE m0 e0 L)/\eI S1 1 n/\eI S1 6 k)/\OwnL (S1.e 5) S1.h S1.n (PV.int .i64) (((List.range k).map (iC L)).length) ((List.range k).map (iC L))/\(k:Int)<=n+1) (λk=>n.toNat+1-k) 0 ?_ (dC trivial aj);rintro k S1 ⟨fF1,A7,A1⟩;obtain⟨B4,A5,B8⟩:=A7.ou;have fL1:=(aa fF1 A5);by_cases hk:(k:Int)<n+1
  .have b1:=ko (L:=L) (n:=k) (by omega)
   have e2:ij L k=aM L k:=by rw[ij,zB0 ⟨e3,by omega,by omega⟩,zC9]
   refine dE ai (aa fL1 @e2) (aI ?_)<;>(intro zb hc;repeat (have zc:=zb.1;replace zb:=zb.2))
   .refine ao (λ(j:Nat) S2=>(S2.e 0=.p (lE m0 e0 L)/\eI S2 1 n/\eI S2 9 j/\eI S2 7 ((((aM L k).take j).filter (λp=>decide (partN p=1))).length)/\eI S2 6 k)/\OwnL (S2.e 8) S2.h S2.n (cK false) ((aM L k).length) (aM L k)/\OwnL (S2.e 5) S2.h S2.n (PV.int .i64) (((List.range k).map (iC L)).length) ((List.range k).map (iC L))/\j<=(aM L k).length/\NId (S2.e 5) (S2.e 8)/\S1.n<=S2.n) (λj=>(aM L k).length-j) 0 ?_ (dC fL1 aj)
    rintro j S2 ⟨fF2,J7,D2,A6,B1,D3⟩;obtain⟨Q3,F6,Q4⟩:=J7.ou;obtain⟨D7,D1,G1⟩:=D2.ou;have di2_5i2_8:=(B1).ou D1.1 F6.1;have fL2:=(aa fF2 (aa F6 (aa D1 di2_5i2_8)));have b2:=Ol (l:=aM L k) (f:=λp=>decide (partN p=1)) (j:=j);have b0:(List.map (iC L) (List.range k)).length=k:=by simp
    by_cases hj:j<(aM L k).length
    .have b3:=ii (by omega) (am (d:=[]) hj)
     have b4:=b3.1;have b5:=Dn (f:=λp=>decide (partN p=1)) (d:=[]) hj;have b6:=BD (p:=(aM L k).getD j []);have b7:=ik (decide (partN ((aM L k).getD j [])=1));have b8:decide ((partN ((aM L k).getD j []):Int)=1)=decide (partN ((aM L k).getD j [])=1):=by congr 1;rw[eq_iff_iff];omega
     refine dE ai (aa fL2 (aa @b6 @b8)) (aI ?_)<;>(intro zb hc;repeat (have zc:=zb.1;replace zb:=zb.2))
     .exact ak (j+1) (dC fL2 aj) (dC fL2 aj)
    .refine dE ai fL2 (aI ?_)<;>(intro zb hc;repeat (have zc:=zb.1;replace zb:=zb.2))
     .refine ak (k+1) (dC fL2 aj) (dC fL2 (bu ?_ ?_))<;>intro zb
      all_goals(obtain rfl:j=(aM L k).length:=by omega)
      all_goals first|(rw[zF7,zE2,zE6];rfl)|(simp;done)|(simp;rfl)
  .skip
   refine dE ai fL1 (aI ?_)<;>(intro zb hc;repeat (have zc:=zb.1;replace zb:=zb.2));obtain rfl:k=m:=by omega
   all_goals(rw[zA2 (by simp)])
 .have e1:gO L n=[]:=zA8 hc0
  rw[e1];refine fO au [4] Tryz.func192 ?_;have cE1:=@aA;have cE2:=@bw;have cE3:=@ay;have cE4:=@cL;have cE5:=@bG;refine dE ai trivial (aI ?_)<;>(intro zb hc;repeat (have zc:=zb.1;replace zb:=zb.2));exact absurd ⟨by assumption,by assumption⟩ hc0
def ciN(L:List (List Int))(k:Nat):Int:=((aM L k).length:Int)
theorem adv{n:Int}(h:aG L=true/\0<=n/\n<=6):uW L n=(List.range (n.toNat+1)).map (ciN L):=by
 rw[uW,zB0 h];exact zH4 λk _=>by rw[Jb h.1,ciN]
theorem bc(L:List (List Int))(n:Int)(hL:L.length<=1048576)(hl:∀q∈L,q.length<=1048576):Fun Tryz.prog 153 [lE m0 e0 L,.int .i64 n] [oI (uW L n)]:=by
 by_cases hc0:aG L=true/\0<=n/\n<=6
 .have e1:=adv hc0
  have hb:=gn hc0.1;have e3:=hc0.1;rw[e1];refine fO au [4] Tryz.func153 ?_;have cE1:=@di;have cE2:=@aw;have cE3:=@dm;refine dE ai @e3 (aI ?_)<;>(intro zb hc;repeat (have zc:=zb.1;replace zb:=zb.2));refine ao (λ(k:Nat) S1=>(S1.e 0=.p (lE m0 e0 L)/\eI S1 17 ((n+1))/\eI S1 18 k)/\OwnL (S1.e 5) S1.h S1.n (PV.int .i64) (((List.range k).map (ciN L)).length) ((List.range k).map (ciN L))/\(k:Int)<=n+1) (λk=>n.toNat+1-k) 0 ?_ (dC trivial aj);rintro k S1 ⟨fF1,A7,A1⟩;obtain⟨B4,A5,B8⟩:=A7.ou;have fL1:=(aa fF1 A5);by_cases hk:(k:Int)<n+1
  .have b1:=ko (L:=L) (n:=k) (by omega)
   refine dE ai fL1 (aI ?_)<;>(intro zb hc;repeat (have zc:=zb.1;replace zb:=zb.2));refine ak (k+1) (dC fL1 aj) (dC fL1 (bu ?_ ?_))<;>intro zb;all_goals simp[zF7,ciN]
  .obtain rfl:k=n.toNat+1:=by omega
   exact dE ai fL1 aj;all_goals(rw[zA2 (by simp)])
 .rw[show uW L n=[]from zA8 hc0]
  refine fO au [4] Tryz.func153 ?_;have cE1:=@di;have cE2:=@aw;have cE3:=@dm;refine dE ai trivial (aI ?_)<;>(intro zb hc;repeat (have zc:=zb.1;replace zb:=zb.2));all_goals exact absurd ⟨by assumption,by assumption⟩ hc0
def Uk(m:Int):Int:=2^(max (m-1) 0).toNat
theorem aft:∀k,k<6->(1:Int)<=2^k/\(2:Int)^k<=32:=by decide
theorem Uj{m:Int}(h:m<=6):1<=Uk m/\Uk m<=32:=aft _ (by omega)
theorem ci(m:Int):Fun Tryz.prog 318 [.int .i64 m] [.int .i64 1]:=by
 refine fO au [2] Tryz.func318 ?_;exact dE ai trivial aj
theorem ch(m:Int)(h0:0<=m/\m<=6):Fun Tryz.prog 319 [.int .i64 m] [.int .i64 (Uk m)]:=by
 refine fO au [2] Tryz.func319 ?_;have b:=Uj h0.2;have e:1*2^(max (m-1) 0).toNat=Uk m:=Int.one_mul _;exact dE ai trivial aj;all_goals first|exact e|(rw[e];simp only[fU];omega)
theorem cf(m:Int)(h0:0<=m/\m<=6):Fun Tryz.prog 322 [.int .i64 m] [.int .i64 (HI (max (m-1) 0))]:=by
 refine fO au [2] Tryz.func322 ?_;have cE1:=@nb;exact dE ai trivial aj
def ln:Nat->List UInt8
 |0=>[111,110,101]
 |1=>[112,111,119,101,114,115]
 |2=>[102,105,98,111,110,97,99,99,105]
 |3=>[99,97,116,97,108,97,110]
 |_=>[115,99,104,114,111,101,100,101,114]
def knF(k:Nat)(m:Int):Int:=match k with
 |0=>1
 |1=>Uk m
 |2=>Fb m
 |3=>Fw m
 |_=>HI (max (m-1) 0)
def knK(c:List Int)(k m:Nat):Bool:=(List.range m).all λi=>decide (c.getD i 0=knF k i)
theorem sa{c:List Int}:knK c k (m+1)=(knK c k m&&decide (c.getD m 0=knF k m)):=by simp[knK,zF7]
def Ph(c:List Int)(k:Nat):Bool:=knK c k c.length
def Jr(c:List Int):List UInt8:=if Ph c 0 then ln 0 else if Ph c 1 then ln 1 else if Ph c 2 then ln 2 else if Ph c 3 then ln 3 else if Ph c 4 then ln 4 else[111,116,104,101,114]
theorem MZ{c:List Int}(h5:k<5)(h:∀j,j<k->Ph c j=false)(hk:Ph c k=true):Jr c=ln k:=by
 obtain rfl|rfl|rfl|rfl|rfl:k=0\/k=1\/k=2\/k=3\/k=4:=by omega
 .rw[Jr,zB0 hk]
 .rw[Jr,h 0 (by omega),zB0 hk];rfl
 .rw[Jr,h 0 (by omega),h 1 (by omega),zB0 hk];rfl
 .rw[Jr,h 0 (by omega),h 1 (by omega),h 2 (by omega),zB0 hk];rfl
 .rw[Jr,h 0 (by omega),h 1 (by omega),h 2 (by omega),h 3 (by omega),zB0 hk];rfl
theorem MY{c:List Int}(h:∀j,j<5->Ph c j=false):Jr c=[111,116,104,101,114]:=by
 rw[Jr,h 0 (by omega),h 1 (by omega),h 2 (by omega),h 3 (by omega),h 4 (by omega)];rfl
def lV(L:List (List Int))(n:Int):List UInt8:=if aG L=true/\4<=n/\n<=6 then Jr (uW L n)else[]
theorem Hs{n:Int}(h:aG L=true/\4<=n/\n<=6):(uW L n).length=n.toNat+1:=by
 rw[uW,zB0 ⟨h.1,by omega⟩];simp
theorem Ch:(ln 0=ln 1)=False/\(ln 0=ln 2)=False/\(ln 0=ln 3)=False/\(ln 0=ln 4)=False/\(ln 2=ln 1)=False/\(ln 3=ln 1)=False/\(ln 3=ln 2)=False/\(ln 4=ln 1)=False/\(ln 4=ln 2)=False/\(ln 4=ln 3)=False:=by decide
theorem wb:([112,111,119,101,114,115]:List UInt8)=ln 1/\([102,105,98,111,110,97,99,99,105]:List UInt8)=ln 2/\([99,97,116,97,108,97,110]:List UInt8)=ln 3/\([115,99,104,114,111,101,100,101,114]:List UInt8)=ln 4:=⟨rfl,rfl,rfl,rfl⟩
theorem BT{n:Int}:sf .u64 n=(0<=n/\n<=18446744073709551615):=by simp only[sf];rfl
theorem afk{m:Int}:1*2^(max 0 (m-1)).toNat=Uk m:=by rw[Int.one_mul,Uk,Int.max_comm]
theorem nB(k:Nat)(m:Int)(hk:k<5)(h0:0<=m/\m<=6):Fun Tryz.prog 286 [.str (ln k),.int .i64 m] [.int .i64 (knF k m)]:=by
 have b:=Uj h0.2;have e:1*2^(max 0 (m-1)).toNat=Uk m:=afk;have e2:max 0 (m-1)=max (m-1) 0:=Int.max_comm ..;have u3:(Tryz.prog.underlying 3).isSome=true:=by rw[Tryz.underlying3];rfl
 obtain rfl|rfl|rfl|rfl|rfl:k=0\/k=1\/k=2\/k=3\/k=4:=by omega
 all_goals simp only[knF]
 .refine fO au [4] Tryz.func286 ?_
  have cE1:=@bK;have cE2:=@ct;have cE3:=@cM;have cE4:=@cr;exact dE ai (aa @wb (aa @Ch @u3)) aj;all_goals first|rfl|exact e|(rw[e];simp only[fU];omega)|(simp only[BT];omega)|exact zB5 HI e2|trace_state
 .refine fO au [4] Tryz.func286 ?_
  have cE1:=@bK;have cE2:=@ct;have cE3:=@cM;have cE4:=@cr;refine dE ai (aa @wb (aa @Ch @u3)) (aD λzb=> ?_);all_goals first|rfl|exact e|(rw[e];simp only[fU];omega)|(simp only[BT];omega)|exact zB5 HI e2|trace_state
 .refine fO au [4] Tryz.func286 ?_
  have cE1:=@bK;have cE2:=@ct;have cE3:=@cM;have cE4:=@cr;exact dE ai (aa @wb (aa @Ch @u3)) aj;all_goals first|rfl|exact e|(rw[e];simp only[fU];omega)|(simp only[BT];omega)|exact zB5 HI e2|trace_state
 .refine fO au [4] Tryz.func286 ?_
  have cE1:=@bK;have cE2:=@ct;have cE3:=@cM;have cE4:=@cr;exact dE ai (aa @wb (aa @Ch @u3)) aj;all_goals first|rfl|exact e|(rw[e];simp only[fU];omega)|(simp only[BT];omega)|exact zB5 HI e2|trace_state
 .refine fO au [4] Tryz.func286 ?_
  have cE1:=@bK;have cE2:=@ct;have cE3:=@cM;have cE4:=@cr;refine dE ai (aa @wb (aa @Ch @u3)) (aD λzb=> ?_);all_goals first|rfl|exact e|(rw[e];simp only[fU];omega)|(simp only[BT];omega)|exact zB5 HI e2|trace_state
def kws:List (List UInt8):=[ln 0,ln 1,ln 2,ln 3,ln 4]
theorem uO:kws.length=5:=rfl
theorem acp(hk:k<5):kws.getD k []=ln k:=by
 obtain rfl|rfl|rfl|rfl|rfl:k=0\/k=1\/k=2\/k=3\/k=4:=by omega
 all_goals rfl
theorem kE(L:List (List Int))(n:Int)(hL:L.length<=1048576)(hl:∀l∈L,l.length<=1048576):Fun Tryz.prog 191 [lE m0 e0 L,.int .i64 n] [.str (lV L n)]:=by
 by_cases h:aG L=true/\4<=n/\n<=6
 .have hb:=h.1
  have cl:=Hs h;have e:lV L n=Jr (uW L n):=zB0 h;rw[e];obtain⟨c,hc0⟩:∃c,uW L n=c:=⟨_,rfl⟩;rw[hc0]at cl |-
  refine fO au [4] Tryz.func191 ?_;have cE1:=@aA;have cE2:=@ay;have cE3:=@dy;have cE4:=@nB;have cD1:=d7 (d8 15 [11]) [(2,11),(3,11),(4,11),(5,11)];refine dE ai (aa @hb @hc0) (aI ?_)<;>(intro zb hc;repeat (have zc:=zb.1;replace zb:=zb.2));refine ao (λ(k:Nat) S1=>(S1.e 0=.p (lE m0 e0 L)/\eI S1 1 n/\eI S1 7 k)/\OwnL (S1.e 5) S1.h S1.n (PV.int .i64) ((c).length) c/\OwnL (S1.e 6) S1.h S1.n PV.str ((kws).length) kws/\k<=5/\(∀j,j<k->Ph c j=false)/\NId (S1.e 6) (S1.e 5)) (λk=>5-k) 0 ?_ (dC trivial aj);rintro k S1 ⟨fF1,A7,C3,A1,A0,A8⟩;obtain⟨B4,A5,B8⟩:=A7.ou;obtain⟨C5,B9,E0⟩:=C3.ou;have di1_6i1_5:=(A8).ou B9.1 A5.1;have J5:=of_eq_false di1_6i1_5.1;have fL1:=(aa fF1 (aa A5 (aa B9 di1_6i1_5)));by_cases hk:k<5
  .have e1:=acp hk
   refine dE ai (aa fL1 @uO) (aI ?_)<;>(intro zb hc;repeat (have zc:=zb.1;replace zb:=zb.2));refine ao (λ(m:Nat) S2=>(S2.e 0=.p (lE m0 e0 L)/\eI S2 1 n/\S2.e 5=.ref B4 0 (c).length/\S2.h B4=.live false (List.map (PV.int .i64) c)/\S2.e 6=.ref C5 0 (kws).length/\S2.h C5=.live false (List.map PV.str kws)/\eI S2 7 k/\S2.e 8=.p (.bool (knK c k m))/\eI S2 9 m)/\(m:Int)<=n+1/\S1.n<=S2.n) (λm=>n.toNat+1-m) 0 ?_ (dC fL1 aj);rintro m S2 ⟨fF2,A6,B1⟩;have H3:=dJ (x:=B4) (n:=S2.n);have K0:=dJ (x:=C5) (n:=S2.n);have di1_5i1_6:=qp (x:=B4) (y:=C5);have fL2:=(aa fF2 (aa H3 (aa K0 di1_5i1_6)));by_cases hm:(m:Int)<n+1
   .refine dE ai (aa fL2 (aa @e1 @uO)) (f9 ?_ ?_)<;>(intro zb hc;repeat (have zc:=zb.1;replace zb:=zb.2))
    .refine ak (m+1) (dC fL2 aj) (dC fL2 (aD ?_))<;>intro zb
     all_goals(rw[sa];simp[*])
    .refine ak (m+1) (dC fL2 aj) (dC fL2 (aD ?_))<;>intro zb
     all_goals(rw[sa];simp[*])
   .obtain rfl:m=c.length:=by omega
    refine dE ai (aa fL2 (aa @e1 @uO)) (f9 ?_ ?_)<;>(intro zb hc;repeat (have zc:=zb.1;replace zb:=zb.2))
    .exact(MZ (by omega) A0 hc).symm
    .refine ak (k+1) (dC fL2 aj) (dC fL2 (aD ?_))<;>intro zb
     intro j hj;by_cases e:j=k
     .subst e;exact hc
     .exact A0 j (by omega)
  .obtain rfl:k=5:=by omega
   refine dE ai (aa fL1 @uO) (aD ?_)<;>intro zb;all_goals exact(MY A0).symm
 .rw[show lV L n=[]from zA8 h]
  refine fO au [4] Tryz.func191 ?_;have cE1:=@aA;have cE2:=@ay;have cE3:=@dy;have cE4:=@nB;have cD1:=d7 (d8 15 [11]) [(2,11),(3,11),(4,11),(5,11)];refine dE ai trivial (aI ?_)<;>(intro zb hc;repeat (have zc:=zb.1;replace zb:=zb.2));all_goals exact absurd ⟨by assumption,by omega,by omega⟩ h
end Go.Gl
