/-
  What the functions compute, and what the law asks of it: texts joined. Conditions: those that each lemma names.
-/
import Derived.Test.YtjimcmbfljdelaaGreatDoorT26
import Derived.Test.YtjimcmbfljdelaaGreatDoorT25
import Derived.Test.YtjimcmbfljdelaaGreatDoorT21
import Derived.Test.YtjimcmbfljdelaaGreatDoorT1
import Derived.Test.YtjimcmbfljdelaaGreatDoorT4
import Derived.Test.YtjimcmbfljdelaaGreatDoorT22
import Derived.Test.YtjimcmbfljdelaaGreatDoorT10
import Derived.Test.YtjimcmbfljdelaaGreatDoorT24
import Derived.Test.YtjimcmbfljdelaaGreatDoorT5
set_option linter.unusedSimpArgs false
set_option linter.unusedVariables false
set_option maxRecDepth 20000
set_option linter.unusedSectionVars false
set_option maxHeartbeats 16000000
variable{L:List (List Int)}{n:Int}{k:Nat}{c l p q r v:List Int}{e0 m0 m1:Bool}
namespace Go.Gl
open Go Go.Proofs
variable [Amb][NoQ]
variable [TabA]
def yS:List UInt8:=[102,105,110,105,116,101]
def Kk:List UInt8:=[115,117,109,115]
def Of(L:List (List Int)):List (List UInt8):=[[99,111,117,110,116,115],jE (uW L 5),[107,110,111,119,110],lV L 5,[119,104,111,108,101],jE (gO L 5),[115,108,111,116,115],cP (DQ L 5)]
def xH(L:List (List Int)):List (List UInt8):=Of L++(if qY L=true then[yS]else[])++(if Ls L=true then[Kk]else[])
def Fr(L:List (List Int)):List UInt8:=if aG L=true then Lib.join (xH L) [32]else[]
theorem Dq:∀x∈uW L n, -9223372036854775808<=x/\x<=9223372036854775807:=λx hx=>by
 unfold uW at hx;split at hx
 .obtain⟨k,hk,rfl⟩:=zD0.1 hx
  have:=Os (L:=L) (k:=k) (by rw[zD5]at hk;omega);omega
 .simp at hx
theorem Vs:∀x∈gO L n, -9223372036854775808<=x/\x<=9223372036854775807:=λx hx=>by
 unfold gO at hx;split at hx
 .obtain⟨k,hk,rfl⟩:=zD0.1 hx
  have h1:=ko (L:=L) (n:=k) (by rw[zD5]at hk;omega);have h2:=zG8 (λp=>decide (partN p=1)) (aM L k);unfold iC;omega
 .simp at hx
theorem PO: -1<=DQ L n/\DQ L n<=8:=by
 unfold DQ;split
 .have:=FQ (L:=L) (m:=n.toNat+1);omega
 .omega
theorem RX:(ln k).length<=9:=by
 unfold ln;split<;>decide
theorem MX:(lV L n).length<=9:=by
 unfold lV Jr
 repeat' split
 all_goals first|exact RX|decide
theorem cc5(h:aG L=true):(uW L 5).length=6:=by rw[uW,zB0 ⟨h,by omega⟩];rfl
theorem wh5(h:aG L=true):(gO L 5).length=6:=by rw[gO,zB0 ⟨h,by omega⟩];rfl
theorem Mg(h:l.length=6):jE l=Lib.join (jI l) [44]:=by rw[jE,zA8 (by rintro rfl;simp at h)]
theorem Zk(h:aG L=true):∀x∈xH L,x.length<=200:=λx hx=>by
 have h1:=mB (Dq (L:=L) (n:=5));have h2:=mB (Vs (L:=L) (n:=5));have h3:=MX (L:=L) (n:=5);have h4:=dZ (n:=DQ L 5) (by have:=PO (L:=L) (n:=5);omega) (by have:=PO (L:=L) (n:=5);omega);rw[cc5 h]at h1;rw[wh5 h]at h2;simp only[xH,Of,zB3,zD7,List.not_mem_nil,or_false]at hx;rcases hx with(hx|hx)|hx
 .rcases hx with rfl|rfl|rfl|rfl|rfl|rfl|rfl|rfl<;>first|omega|(simp;done)
 .split at hx<;>simp at hx;subst hx;decide
 .split at hx<;>simp at hx;subst hx;decide
theorem Di(h:aG L=true):(Lib.join (xH L) [32]).length<=4000:=by
 have:=fV (sep:=[32]) (Zk h);have e:(xH L).length<=10:=by unfold xH Of;(repeat' split)<;>simp
 simp at this;omega
theorem oH(L:List (List Int))(hL:L.length<=1048576)(hl:∀l∈L,l.length<=1048576):Fun Tryz.prog 130 [lE m0 e0 L] [.str (Fr L)]:=by
 by_cases hb:aG L=true
 .have e0:Fr L=Lib.join (xH L) [32]:=zB0 hb
  have b0:=Di hb;have b1:=Dq (L:=L) (n:=5);have b2:=Vs (L:=L) (n:=5);have b3:=PO (L:=L) (n:=5);have b4:=cc5 hb;have b5:=wh5 hb;rw[e0];obtain⟨W,hW⟩:∃W,Of L=W:=⟨_,rfl⟩;have hn:W.length=8:=by rw[<-hW];rfl
  have hw:[PV.str [99,111,117,110,116,115],PV.str (jE (uW L 5)),PV.str [107,110,111,119,110],PV.str (lV L 5),PV.str [119,104,111,108,101],PV.str (jE (gO L 5)),PV.str [115,108,111,116,115],PV.str (cP (DQ L 5))]=List.map PV.str W:=by rw[<-hW];rfl
  have hf:([102,105,110,105,116,101]:List UInt8)=yS:=rfl;have hs:([115,117,109,115]:List UInt8)=Kk:=rfl;have n1:∀x:List UInt8,(W++[x]).length=9:=λx=>by rw[zA3,hn];rfl
  have n3:∀x y:List UInt8,(W++[x]++[y]).length=10:=λx y=>by rw[zA3,n1];rfl
  have k1:∀x:List UInt8,List.take 9 (W++[x])=W++[x]:=λx=>zA2 (by rw[n1];omega);have k8:List.take 8 W=W:=zA2 (by omega);have n4:∀x y:List UInt8,(W++[x,y]).length=10:=λx y=>by rw[zA3,hn];rfl
  have k4:∀x y:List UInt8,List.take 10 (W++[x,y])=W++[x,y]:=λx y=>zA2 (by rw[n4];omega);have k3:∀x y:List UInt8,List.take 10 (W++[x]++[y])=W++[x]++[y]:=λx y=>zA2 (by rw[n3];omega);rw[xH,hW]at b0 |-
  by_cases h1:qY L=true
  .by_cases h2:Ls L=true
   .rw[zB0 h1,zB0 h2]at b0 |-
    simp only[zC0,zA7,zF8,zE1]at b0 |-
    refine fO au [2] Tryz.func130 ?_;have cE1:=@aw;have cE2:=@bc;have cE3:=@ba;have cE4:=@dD;have cE5:=@dB;have cE6:=@eN;have cE7:=@aQ;have cE8:=@fp;have cE9:=@dF;have cE10:=@az;refine dE ai (aa @hb (aa @h1 (aa @h2 (aa @hw (aa @hn (aa @hf (aa @hs (aa @n1 (aa @n3 (aa @n4 (aa @k1 (aa @k3 (aa @k4 @k8))))))))))))) ?_;all_goals try(apply nn;repeat' first|exact jb|apply aa|(apply nq;intro zb hc)|(apply np;intro zb)|intro j')<;>try apply nu
   .rw[zA9]at h2
    rw[zB0 h1,zA8 (by rw[h2];decide)]at b0 |-
    simp only[zC0,zA7,zF8,zE1]at b0 |-
    refine fO au [2] Tryz.func130 ?_;have cE1:=@aw;have cE2:=@bc;have cE3:=@ba;have cE4:=@dD;have cE5:=@dB;have cE6:=@eN;have cE7:=@aQ;have cE8:=@fp;have cE9:=@dF;have cE10:=@az;refine dE ai (aa @hb (aa @h1 (aa @h2 (aa @hw (aa @hn (aa @hf (aa @hs (aa @n1 (aa @n3 (aa @n4 (aa @k1 (aa @k3 (aa @k4 @k8))))))))))))) ?_;all_goals try(apply nn;repeat' first|exact jb|apply aa|(apply nq;intro zb hc)|(apply np;intro zb)|intro j')<;>try apply nu
  .rw[zA9]at h1
   by_cases h2:Ls L=true
   .rw[zA8 (by rw[h1];decide),zB0 h2]at b0 |-
    simp only[zC0,zA7,zF8,zE1]at b0 |-
    refine fO au [2] Tryz.func130 ?_;have cE1:=@aw;have cE2:=@bc;have cE3:=@ba;have cE4:=@dD;have cE5:=@dB;have cE6:=@eN;have cE7:=@aQ;have cE8:=@fp;have cE9:=@dF;have cE10:=@az;refine dE ai (aa @hb (aa @h1 (aa @h2 (aa @hw (aa @hn (aa @hf (aa @hs (aa @n1 (aa @n3 (aa @n4 (aa @k1 (aa @k3 (aa @k4 @k8))))))))))))) ?_;all_goals try(apply nn;repeat' first|exact jb|apply aa|(apply nq;intro zb hc)|(apply np;intro zb)|intro j')<;>try apply nu
   .rw[zA9]at h2
    rw[zA8 (by rw[h1];decide),zA8 (by rw[h2];decide)]at b0 |-
    simp only[zC0,zA7,zF8,zE1]at b0 |-
    refine fO au [2] Tryz.func130 ?_;have cE1:=@aw;have cE2:=@bc;have cE3:=@ba;have cE4:=@dD;have cE5:=@dB;have cE6:=@eN;have cE7:=@aQ;have cE8:=@fp;have cE9:=@dF;have cE10:=@az;refine dE ai (aa @hb (aa @h1 (aa @h2 (aa @hw (aa @hn (aa @hf (aa @hs (aa @n1 (aa @n3 (aa @n4 (aa @k1 (aa @k3 (aa @k4 @k8))))))))))))) ?_;all_goals try(apply nn;repeat' first|exact jb|apply aa|(apply nq;intro zb hc)|(apply np;intro zb)|intro j')<;>try apply nu
 .rw[zA9]at hb
  rw[show Fr L=[]from zA8 (by rw[hb];decide)];refine fO au [2] Tryz.func130 ?_;have cE1:=@aw;have cE2:=@bc;have cE3:=@ba;have cE4:=@dD;have cE5:=@dB;have cE6:=@eN;have cE7:=@aQ;have cE8:=@fp;have cE9:=@dF;have cE10:=@az;exact dE ai @hb aj
theorem oe(L:List (List Int))(hL:L.length<=1048576)(hl:∀l∈L,l.length<=1048576):Fun Tryz.prog 92 [lE m0 e0 L] [.str (Fr L)]:=by
 by_cases hb:aG L=true
 .have e0:Fr L=Lib.join (xH L) [32]:=zB0 hb
  have b0:=Di hb;have b1:=Dq (L:=L) (n:=5);have b2:=Vs (L:=L) (n:=5);have b3:=PO (L:=L) (n:=5);have b4:=cc5 hb;have b5:=wh5 hb;have g1:=oK b1;have g2:=oK b2;have g3:=MX (L:=L) (n:=5);have g4:=dZ (n:=DQ L 5) (by omega) (by omega);rw[e0];refine fO au [2] Tryz.func92 ?_;have cE1:=@ay;have cE2:=@dy;have cE3:=@kz;have cE4:=@kE;have cE5:=@kC;have cE6:=@mh;have cE7:=@aL;have cE8:=@nF;have cE9:=@kG;refine dE ai @hb (AN ?_ ?_ ?_ ?_)<;>(intro zb hc;repeat (have zc:=zb.1;replace zb:=zb.2));all_goals have zf:qY L=true\/qY L=false:=by cases qY L<;>simp
  all_goals(rw[xH,Of,Mg b4,Mg b5])
  all_goals simp only[*,zH3,zE3,Bool.false_eq_true,zF8,zE1,zC0,Lib.join_cons,Lib.joinTail,List.flatMap_cons,List.flatMap_nil,zA7,yS,Kk]
  all_goals first|rfl|(simp;done)|trace_state
 .rw[zA9]at hb
  rw[show Fr L=[]from zA8 (by rw[hb];decide)];refine fO au [2] Tryz.func92 ?_;have cE1:=@ay;have cE2:=@dy;have cE3:=@kz;have cE4:=@kE;have cE5:=@kC;have cE6:=@mh;have cE7:=@aL;have cE8:=@nF;have cE9:=@kG;exact dE ai @hb aj
end Go.Gl
namespace Go.Gl
open Go Go.Proofs
variable [Amb][NoQ]
def sD(p:List Int)(k:Nat):List Int:=(p.set k (p.getD (k+1) 0)).set (k+1) (p.getD k 0)
theorem PM:∀n,n<7->(dz n).all (λp=>decide (de p p.length<=15)&&(!decide (de p p.length<=0)||rl p)&&(List.range (n-1)).all λk=> !decide (p.getD (k+1) 0<p.getD k 0)||(aF (sD p k)&&decide (de (sD p k) (sD p k).length=de p p.length-1)))=true:=by decide+kernel
theorem dT:(sD p k).length=p.length:=by simp[sD]
theorem mP(hp:aF p=true)(h6:p.length<=6):de p p.length<=15/\(de p p.length<=0->rl p=true)/\∀k,k+1<p.length->p.getD (k+1) 0<p.getD k 0->aF (sD p k)=true/\de (sD p k) (sD p k).length=de p p.length-1:=by
 have h:=zC8.1 (PM p.length (by omega)) p (permL_mem.2 ⟨hp,rfl⟩);simp only[zB9,zI8,Bool.not_eq_true',zG3,zC8,zD5,zC2]at h;exact⟨h.1.1,λg=>h.1.2.resolve_left λq=>q g,λk hk g=>(h.2 k (by omega)).resolve_left λq=>q g⟩
def uj(g:List Int->Int)(p:List Int):Nat->Int
 |0=>0
 |k+1=>uj g p k+if p.getD (k+1) 0<p.getD k 0 then g (sD p k)else 0
def Pc:Nat->List Int->Int
 |0,_=>1
 |f+1,p=>if rl p=true then 1 else uj (Pc f) p (p.length-1)
def o5(p:List Int):Int:=Pc (de p p.length).toNat p
def Jv(p:List Int):Int:=if ac p=true/\1<=p.length/\p.length<=6 then o5 p else -1
theorem Uf:∀{f:Nat} {p:List Int},p.length<=6->0<=Pc f p/\Pc f p<=((5^f:Nat):Int)
 |0,_,_=>by simp[Pc]
 |f+1,p,h=>by
  have h5:0<5^f:=Nat.pow_pos (by decide);have key:∀k,0<=uj (Pc f) p k/\uj (Pc f) p k<=((k*5^f:Nat):Int):=λk=>by
   induction k with
   |zero=>simp[uj]
   |succ k ih=>
    have:=Uf (f:=f) (p:=sD p k) (by rw[dT];exact h);rw[uj,Nat.succ_mul];split<;>omega
  have h2:=zD9 (5^f) (show p.length-1<=5 by omega);have:=key (p.length-1);rw[Pc,zG7];split<;>omega
theorem Lv{g g':List Int->Int}{p:List Int}:∀{k:Nat},(∀j,j<k->p.getD (j+1) 0<p.getD j 0->g (sD p j)=g' (sD p j))->uj g p k=uj g' p k
 |0,_=>rfl
 |k+1,h=>by
  rw[uj,uj,Lv λj hj=>h j (by omega)];split
  .rename_i e;rw[h k (by omega) e]
  .rfl
theorem zu(h:rl p=true):o5 p=1:=by
 unfold o5;cases (de p p.length).toNat<;>simp[Pc,h]
theorem Gb(hp:aF p=true)(h6:p.length<=6)(h:rl p=false):o5 p=uj o5 p (p.length-1):=by
 obtain⟨_,q1,q2⟩:=mP hp h6;have h0:¬de p p.length<=0:=λg=>by rw[q1 g]at h;cases h
 obtain⟨m,hm⟩:∃m,(de p p.length).toNat=m+1:=⟨(de p p.length).toNat-1,by omega⟩
 conv=>lhs;unfold o5
 rw[hm,Pc,h,zA8 (by simp)];refine Lv λj hj hd=> ?_;have:=(q2 j (by omega) hd).2;unfold o5;rw[this,show(de p p.length-1).toNat=m by omega]
theorem Gc(hp:aF p=true)(h6:p.length<=6):0<=o5 p/\o5 p<=30517578125:=by
 have:=Uf (f:=(de p p.length).toNat) h6;have h2:(5:Nat)^(de p p.length).toNat<=5^15:=Nat.pow_le_pow_right (by decide) (by have:=(mP hp h6).1;omega);have h3:(5:Nat)^15=30517578125:=by decide
 unfold o5;omega
theorem Lw{p:List Int}(hp:aF p=true)(h6:p.length<=6):∀{k:Nat},k+1<=p.length->0<=uj o5 p k/\uj o5 p k<=k*30517578125
 |0,_=>by simp[uj]
 |k+1,hk=>by
  have h:=Lw hp h6 (k:=k) (by omega);rw[uj];split
  .rename_i e
   have:=Gc ((mP hp h6).2.2 k (by omega) e).1 (by rw[dT];exact h6);push_cast;omega
  .push_cast;omega
def GoodM(n:Nat)(M:List (List UInt8×Int)):Prop:=∀e∈M,∃q,aF q=true/\q.length=n/\e=(cO q,o5 q)
theorem Ty{a b:Int}(a0:0<=a)(a1:a<=9)(b0:0<=b)(b1:b<=9)(h:re a=re b):a=b:=by
 have h1:=AB a0 a1;have h2:=AB b0 b1;rw[h]at h1;omega
theorem AZ(hp:ac p=true)(hq:ac q=true)(h0:p≠[])(hl:q.length=p.length)(h:cO q=cO p):q=p:=by
 have h1:q≠[]:=λe=>h0 (zA4 (by rw[<-hl,e];rfl));rw[cO,cO,zB0 hp,zB0 hq,zA8 h0,zA8 h1]at h;have a:=fe hp;have b:=fe hq;clear h0 h1 hp hq
 induction p generalizing q with
 |nil=>exact zA4 hl
 |cons x p ih=>
  match q,hl with
  |y::q,hl=>
   simp only[lI,oI,lE,zC3,List.cons.injEq]at h;have:=a x zH1;have:=b y zH1;rw[Ty (by omega) (by omega) (by omega) (by omega) h.1,ih (by simpa using hl) h.2 (λz hz=>a z (zF1 _ hz)) λz hz=>b z (zF1 _ hz)]
theorem GoodM.at{n:Nat}{M:List (List UInt8×Int)}(h:GoodM n M)(hp:aF p=true)(h6:p.length<=6)(h1:1<=p.length)(hn:p.length=n){c:Int}(hm:(cO p,c)∈M):c=o5 p:=by
 obtain⟨q,hq,hl,e⟩:=h _ hm;rw[Prod.mk.injEq]at e;have i:∀{r:List Int},aF r=true->r.length<=6->ac r=true:=λ{r} h k=>by rw[ac,h,zG1];exact zB6 (by omega)
 rw[e.2,AZ (i hp h6) (i hq (by omega)) (by intro e;rw[e]at h1;simp at h1) (by omega) e.1.symm]
theorem GoodM.snoc{n:Nat}{M:List (List UInt8×Int)}(h:GoodM n M)(hp:aF p=true)(hn:p.length=n):GoodM n (M++[(cO p,o5 p)]):=λe he=>by
 rcases zB3.1 he with he|he
 .exact h e he
 .exact⟨p,hp,hn,by simpa using he⟩
theorem Ws:(List.range r.length).map (λj=>r.getD j 0)=r:=by
 apply List.ext_getElem
 .simp
 grind
theorem Ok{x:Int}:(r.filter λz=>decide (z<x)).length=((List.range r.length).filter λj=>decide (r.getD j 0<x)).length:=by
 conv=>lhs;rw[<-Ws (r:=r)]
 rw[List.filter_map,zB2];rfl
theorem LS(hq:aF q=true):kM q=q:=by
 obtain⟨h1,h2⟩:=permB_iff.1 hq;rw[Eo (a:=0) h2 (λx hx=>by have:=h1 x hx;omega)];simp
theorem WQ(hq:aF q=true)(hl:v.length=q.length)(h:∀i j,i<q.length->j<q.length->(v.getD j 0<v.getD i 0↔q.getD j 0<q.getD i 0)):kM v=q:=by
 rw[<-LS hq];apply List.ext_getElem
 .rw[eE,eE,hl]
 .intro i h1 h2
  rw[eE]at h1 h2;have e1:=uK (r:=v) h1;have e2:=uK (r:=q) h2;rw[zA0,zA1 (by rw[eE];exact h1),zH5]at e1;rw[zA0,zA1 (by rw[eE];exact h2),zH5]at e2;rw[e1,e2,Ok,Ok,hl];grind [List.filter_congr]
def rV(n:Nat):Nat->List Int->List (List Int)
 |0,c=>[c]
 |d+1,c=>(xZ n c).flatMap (rV n d)
theorem Md{n:Nat}:∀{d:Nat} {c:List Int},rV n (d+1) c=(rV n d c).flatMap (xZ n)
 |0,c=>by simp[rV]
 |d+1,c=>by
  show(xZ n c).flatMap (rV n (d+1))=((xZ n c).flatMap (rV n d)).flatMap (xZ n);rw[List.flatMap_assoc];exact zB5 (λf=>List.flatMap f (xZ n c)) (funext λx=>Md)
theorem LP{n:Nat}:∀{k:Nat},jf n k=rV n k []
 |0=>rfl
 |k+1=>by rw[jf,LP,Md]
theorem SE:tU c=aT 1 c:=rfl
theorem BM{n:Nat}:∀{d:Nat} {c l:List Int},l∈rV n d c->l.take c.length=c/\l.length=c.length+d
 |0,c,l,h=>by grind [rV]
 |d+1,c,l,h=>by
  rw[rV,List.mem_flatMap]at h;obtain⟨x,hx,hl⟩:=h;rw[xZ,DE,zD0]at hx;obtain⟨i,_,rfl⟩:=hx;obtain⟨h1,h2⟩:=BM hl;rw[zA3]at h1 h2;refine⟨?_,by simp at h2 |-;omega⟩;have:=zB5 (List.take c.length) h1;grind
def Pf(p q:List Int)(m:Nat)(l:List Int):Bool:=(List.range (l.length-m)).all λi=>mI 1 p q (l.take (m+i)) (l.getD (m+i) 0)
theorem abF{m:Nat}(h:m<l.length):Pf p q m l=(mI 1 p q (l.take m) (l.getD m 0)&&Pf p q (m+1) l):=by
 unfold Pf;obtain⟨r,hr⟩:∃r,l.length-m=r+1:=⟨l.length-m-1,by omega⟩;grind [List.range_succ_eq_map,List.all_map]
theorem Gw{p q:List Int}:∀{d:Nat} {c:List Int},eO 1 p q d c=(rV p.length d c).filter (Pf p q c.length)
 |0,c=>by simp[eO,rV,Pf]
 |d+1,c=>by
  rw[eO,rV,List.filter_flatMap,xZ,DE,List.flatMap_map,SE];refine zB5 (λf=>List.flatMap f _) (funext λj=> ?_);have hm:∀l∈rV p.length d (c++[aT 1 c+(j:Int)]),Pf p q c.length l=(mI 1 p q c (aT 1 c+j)&&Pf p q (c++[aT 1 c+(j:Int)]).length l):=λl hl=>by
   obtain⟨h1,h2⟩:=BM hl;rw[zA3,zC5]at h1 h2;have e1:l.take c.length=c:=by
    have:=zB5 (List.take c.length) h1;grind
   have e2:l.getD c.length 0=aT 1 c+j:=by
    have:(l.take (c.length+1)).getD c.length 0=(c++[aT 1 c+(j:Int)]).getD c.length 0:=by rw[h1]
    rw[zA0,zH2,zB0 (by omega),<-zA0]at this;rw[this,zA0,zD1 (zB1 _)];simp
   rw[abF (by omega),e1,e2,zA3,zC5]
  rw[List.filter_congr hm];cases hf:mI 1 p q c (aT 1 c+j)with
  |true=>
   rw[zB0 rfl,Gw];exact List.filter_congr λl _=>by rw[zF4]
  |false=>
   rw[zA8 (by simp)];exact(List.filter_eq_nil_iff.2 λl _=>by simp).symm
theorem Rg:Pf p q 0 l=true↔∀k,k<l.length->∀a,a<k->(q.getD a 0<q.getD k 0↔(AQ p l).getD a 0<(AQ p l).getD k 0):=by
 have hv:∀k,k<l.length->(AQ p l).getD k 0=p.getD (l.getD k 0-1).toNat 0:=λk hk=>by
  simp_all [AQ,zA0,zA5,zA1]
 rw[Pf,zC8];constructor
 .intro h k hk a ha
  have h1:=h k (zD5.2 (by omega));rw[zI0,mI,tC,zC8]at h1;have h2:=h1 a (zD5.2 (by simp;omega));rw[zD3,Nat.min_eq_left (by omega),beq_iff_eq,decide_eq_decide]at h2;rw[hv a (by omega),hv k hk]
  rwa [zA0 (l:=l.take k),zH2,zB0 ha,<-zA0]at h2
 .intro h k hk
  rw[zD5]at hk;rw[zI0,mI,tC,zC8];intro a ha;rw[zD5,zD3]at ha;have h2:=h k (by omega) a (by omega);rw[hv a (by omega),hv k (by omega)]at h2;rw[zD3,Nat.min_eq_left (by omega),beq_iff_eq,decide_eq_decide]
  rwa [zA0 (l:=l.take k),zH2,zB0 (by omega),<-zA0]
theorem LO{n:Nat}:∀{k:Nat},∀l∈jf n k,l.Pairwise (·<·)/\∀x∈l,x<tU l
 |0,l,h=>by simp_all [jf]
 |k+1,l,h=>by
  rw[jf,List.mem_flatMap]at h;obtain⟨r,hr,h⟩:=h;rw[xZ,DE,zD0]at h;obtain⟨i,_,rfl⟩:=h;obtain⟨h1,h2⟩:=LO r hr;have e:tU (r++[tU r+(i:Int)])=tU r+i+1:=by
   grind [tU]
  grind
def UU(p q l:List Int):Bool:=decide (kM (AQ p l)=q)
theorem vS(h:v.Nodup){i j:Nat}(hi:i<v.length)(hj:j<v.length)(hne:i≠j):v.getD i 0≠v.getD j 0:=by
 grind [List.getElem_inj]
theorem WF(hp:p.Nodup)(hl:l∈jf p.length k):(AQ p l).Nodup:=by
 have h1:=(LO l hl).1;have h2:=(xY l hl).2.1;rw[AQ];refine td (h1.imp λh=>Int.ne_of_lt h) λx hx y hy e=> ?_;have a:=h2 x hx;have b:=h2 y hy;exact vS hp (by omega) (by omega) (by omega)
theorem Yf(hp:aF p=true)(hq:aF q=true)(hl:l∈jf p.length q.length):UU p q l=Pf p q 0 l:=by
 have hn:=WF (permB_iff.1 hp).2 hl;have hk:=(xY l hl).1;have hv:(AQ p l).length=q.length:=by simp[AQ,hk]
 have hqn:=(permB_iff.1 hq).2;rw[Bool.eq_iff_iff,Rg,UU,zC2];constructor
 .intro h k h1 a h2
  rw[<-LT (r:=AQ p l) (by omega) (by omega),h]
 .intro h
  refine WQ hq hv λi j hi hj=> ?_;rcases Nat.lt_trichotomy j i with g|g|g
  .exact(h i (by omega) j g).symm
  .subst g;omega
  .have h1:=h j (by omega) i g
   have h2:=vS hn (i:=i) (j:=j) (by omega) (by omega) (by omega);have h3:=vS hqn (i:=i) (j:=j) hi hj (by omega);omega
theorem Xe(hp:aF p=true)(hq:aF q=true):(jf p.length q.length).filter (UU p q)=eO 1 p q q.length []:=by
 grind [Gw,LP,List.filter_congr,Yf]
theorem UT(hl:l∈jf p.length q.length):l.length=q.length/\∀x∈l,1<=x/\x<=p.length:=⟨(xY l hl).1,(xY l hl).2.1⟩
theorem LK(h:k<l.length):AQ p (l.take (k+1))=AQ p (l.take k)++[p.getD (l.getD k 0-1).toNat 0]:=by
 unfold AQ;rw[aq (d:=0) h,zE2];rfl
theorem QS:(AQ p l).length=l.length:=by simp[AQ]
theorem pJ{m2:Bool}(p q l:List Int)(hp:p.length<=8)(hq:q.length<=8)(hl:l.length<=8)(hb:∀x∈l,1<=x/\x<=p.length):Fun Tryz.prog 264 [lI m0 p,lI m1 q,lI m2 l] [.bool (UU p q l)]:=by
 refine fO au [6] Tryz.func264 ?_;have cE1:=@kX;have cE2:=@dh;refine dE ai trivial (aD λzb=> ?_);refine ao (λ(k:Nat) S1=>(S1.e 0=.p (lI m0 p)/\S1.e 1=.p (lI m1 q)/\S1.e 11=.p (lI m2 l)/\eI S1 12 l.length/\eI S1 13 k)/\OwnL (S1.e 7) S1.h S1.n (PV.int .i64) ((AQ p (l.take k)).length) (AQ p (l.take k))/\k<=l.length) (λk=>l.length-k) 0 ?_ (dC trivial aj);rintro k S1 ⟨fF1,G0,A1⟩;obtain⟨K8,E7,K9⟩:=G0.ou;have fL1:=(aa fF1 E7);have b1:=QS (p:=p) (l:=l.take k);have b2:(l.take k).length=k:=by simp;omega
 by_cases hk:k<l.length
 .have b3:=LK (p:=p) hk
  have b4:=hb _ (am (d:=0) hk);refine dE ai fL1 (aI λzb hc=> ?_);refine ak (k+1) (dC fL1 aj) (dC fL1 (bu ?_ ?_))<;>intro zb;all_goals(rw[b3];try simp)
 .obtain rfl:k=l.length:=by omega
  have e1:l.take l.length=l:=zA2 (by omega);have b5:=eE (l:=AQ p l);rw[e1]at b1;refine dE ai (aa fL1 @e1) (aI λzb hc=> ?_);all_goals rfl
def Me(p q:List Int)(k:Nat):List (List Int):=((jf p.length q.length).take k).filter (UU p q)
theorem abG(h:k<(jf p.length q.length).length)(g:UU p q ((jf p.length q.length).getD k [])=true):Me p q (k+1)=Me p q k++[(jf p.length q.length).getD k []]:=by
 grind [Me,aq]
theorem abH(h:k<(jf p.length q.length).length)(g:UU p q ((jf p.length q.length).getD k [])=false):Me p q (k+1)=Me p q k:=by
 grind [Me,aq]
theorem Gy:(Me p q k).length<=k:=zE0 (zG8 _ _) (by grind)
theorem zW(hp:ac p=true)(hq:ac q=true):Me p q (jf p.length q.length).length=eO 1 p q q.length []:=by
 grind [Me,ac,Xe]
theorem bz(p q:List Int)(hp:ac p=true)(hq:ac q=true):Fun Tryz.prog 146 [lI m0 p,lI m1 q] [.sl .own (List.map (cK false) (eO 1 p q q.length []))]:=by
 refine fO au [4] Tryz.func146 ?_;have cE1:=@xA;have cE2:=@pJ;have h8:p.length<=8:=by simp[ac]at hp;exact hp.1
 have g8:q.length<=8:=by simp[ac]at hq;exact hq.1
 have hn:=uH p.length (by omega) q.length (by omega);have hm:=λk (h:k<(jf p.length q.length).length)=>UT (am (d:=[]) h);rw[<-zW hp hq];refine dE ai trivial (aD λzb=> ?_);refine ao (λ(k:Nat) S1=>(S1.e 0=.p (lI m0 p)/\S1.e 1=.p (lI m1 q)/\eI S1 14 ((jf p.length q.length).length)/\eI S1 15 k)/\OwnL (S1.e 13) S1.h S1.n (cK false) ((jf p.length q.length).length) (jf p.length q.length)/\OwnL (S1.e 5) S1.h S1.n (cK false) ((Me p q k).length) (Me p q k)/\k<=(jf p.length q.length).length/\NId (S1.e 5) (S1.e 13)) (λk=>(jf p.length q.length).length-k) 0 ?_ (dC trivial aj);rintro k S1 ⟨fF1,L9,A7,A1,A8⟩;obtain⟨W4,L0,W5⟩:=L9.ou;obtain⟨B4,A5,B8⟩:=A7.ou;have di1_5i1_13:=(A8).ou A5.1 L0.1;have fL1:=(aa fF1 (aa L0 (aa A5 di1_5i1_13)));have b1:=Gy (p:=p) (q:=q) (k:=k);by_cases hk:k<(jf p.length q.length).length
 .obtain⟨b2,b3⟩:=hm k hk
  cases hx:UU p q ((jf p.length q.length).getD k [])with
  |true=>
   have b4:=abG hk hx;refine dE ai (aa fL1 @hx) (aI λzb hc=> ?_);refine ak (k+1) (dC fL1 aj) (dC fL1 (bu ?_ ?_))<;>intro zb;all_goals(rw[b4];try simp)
  |false=>
   have b4:=abH hk hx;refine dE ai (aa fL1 @hx) (aI λzb hc=> ?_);refine ak (k+1) (dC fL1 aj) (dC fL1 (bu ?_ ?_))<;>intro zb;all_goals(rw[b4];try simp)
 .obtain rfl:k=(jf p.length q.length).length:=by omega
  exact dE ai fL1 aj
theorem rU(hp:ac p=true)(hq:ac q=true):(eO 1 p q q.length []).length<=70:=by
 have h8:p.length<=8:=by grind [ac]
 have g8:q.length<=8:=by grind [ac]
 rw[<-zW hp hq];grind [Gy,uH]
theorem BK(hp:ac p=true)(hq:ac q=true)(h:l∈eO 1 p q q.length []):l.length=q.length/\∀x∈l,1<=x/\x<=p.length:=by
 rw[<-zW hp hq]at h;exact UT (List.mem_of_mem_take (List.mem_filter.1 h).1)
theorem pR(p q:List Int)(hp:p.length<=1048576)(hq:q.length<=1048576):Fun Tryz.prog 68 [lI m0 p,lI m1 q] [.int .i64 ((if ac p&&ac q then((eO 1 p q q.length []).length:Int)else -1))]:=by
 cases h1:ac p with
 |false=>
  rw[zH9,zA8 (by simp)];refine fO au [4] Tryz.func68 ?_;have cE1:=@ae;have cE2:=@bz;exact dE ai @h1 aj
 |true=>
  cases h2:ac q with
  |false=>
   rw[Bool.and_false,zA8 (by simp)];refine fO au [4] Tryz.func68 ?_;have cE1:=@ae;have cE2:=@bz;exact dE ai (aa @h1 @h2) aj
  |true=>
   rw[zG1,zB0 rfl];refine fO au [4] Tryz.func68 ?_;have cE1:=@ae;have cE2:=@bz;exact dE ai (aa @h1 @h2) aj
end Go.Gl
