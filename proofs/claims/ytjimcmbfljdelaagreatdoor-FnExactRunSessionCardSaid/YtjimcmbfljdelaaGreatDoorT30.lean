/-
  What the functions compute, and what the law asks of it: texts joined. Conditions: those that each lemma names.
-/
import Derived.Test.YtjimcmbfljdelaaGreatDoorT26
import Derived.Test.YtjimcmbfljdelaaGreatDoorT17
import Derived.Test.YtjimcmbfljdelaaGreatDoorT18
import Derived.Test.YtjimcmbfljdelaaGreatDoorT1
import Derived.Test.YtjimcmbfljdelaaGreatDoorT2
import Derived.Test.YtjimcmbfljdelaaGreatDoorT27
import Derived.Test.YtjimcmbfljdelaaGreatDoorT25
import Derived.Test.YtjimcmbfljdelaaGreatDoorT3
set_option linter.unusedSimpArgs false
set_option linter.unusedVariables false
set_option maxRecDepth 20000
set_option linter.unusedSectionVars false
set_option maxHeartbeats 16000000
variable{p q:List Int}{L o out:List (List Int)}{d k n:Nat}{m0:Bool}{f:Go.FuncId}{h:Nat->Go.Gl.Blk}{t:List UInt8}{c:Int}
namespace Go.Gl
open Go Go.Proofs
variable [Amb][NoQ]
theorem Hh{p:List Int}{a:Nat}(h:2<=p.length):∀{k:Nat},fP p a k-a<p.length
 |0=>by rw[fP];omega
 |k+1=>by
  have:=Hh (a:=a) h (k:=k);grind [fP]
theorem zR(h:aF p=true)(h8:p.length<=8):ac p=true:=by
 grind [ac]
theorem Vd{p:List Int}(hp:ac p=true)(h2:2<=p.length):∀{j:Nat},∀q∈(aR p j).2.2,ac q=true/\q.length<p.length
 |0=>by simp[aR]
 |j+1=>by
  have ih:=Vd hp h2 (j:=j);obtain⟨h8,hq⟩:=al hp;rw[aR];split
  .rename_i hc
   intro q hm;rcases zB3.1 hm with g|g
   .exact ih q g
   .rw[zB7]at g;subst g
    have e1:=tD (p:=p) (a:=(aR p j).1) (k:=p.length);have e2:=Hh (p:=p) (a:=(aR p j).1) h2 (k:=p.length);have e3:(kM (ge p (aR p j).1 (fP p (aR p j).1 p.length))).length=fP p (aR p j).1 p.length-(aR p j).1:=by grind [eE,iP]
    grind [zR,x6,vR,permB_iff]
  .exact ih
theorem Lg{p:List Int}:∀{k:Nat},k<=p.length->∀l∈(eY p7 p k).1,0<l.length
 |0,_=>by simp[eY]
 |k+1,h=>by
  have ih:=Lg (p:=p) (k:=k) (by omega);grind [jz,p7,eY,eE,iP]
theorem y7(hp:ac p=true):(∀l∈aV p,0<l.length)/\fB (aV p)<=p.length:=by
 obtain⟨h8,hq⟩:=al hp;rw[<-nX hq];refine⟨Lg (zB1 _), ?_⟩;grind [sT,jz]
theorem LU(h2:1<L.length)(hne:∀l∈L,0<l.length)(hs:fB L<=n):(L.getD 0 []).length<n/\fB (L.drop 1)<n:=by
 match L,h2 with
 |a::b::t,_=>
  have h1:=hne a (by simp);have h3:=hne b (by simp);simp only[lI,oI,lE,fB,zC3,List.sum_cons]at hs;simp only[List.getD_cons_zero,List.drop_succ_cons,zI3,fB,zC3,List.sum_cons];omega
theorem Ck{k:Bool}(h2:1<L.length)(hne:∀l∈L,0<l.length)(hs:fB L<=n)(hn:n<=8)(hp:∀l∈L,aF l=true):
  ∀q∈[L.getD 0 [],fW (L.drop 1) k],ac q=true/\q.length<n:=by
 obtain⟨h3,h4⟩:=LU h2 hne hs;have h5:∀l∈L.drop 1,aF l=true:=λl hl=>hp l (List.mem_of_mem_drop hl);have h6:=ti (L:=L.drop 1) (k:=k) (zB1 _);grind [qL,zR]
theorem ry(hp:ac p=true)(h2:2<=p.length):∀q∈(aU p).2,ac q=true/\q.length<p.length:=by
 obtain⟨h8,hq⟩:=al hp;unfold aU;rw[zA8 (by omega)];split
 .rename_i h
  obtain⟨n1,n2⟩:=y7 hp;exact Ck h n1 n2 h8 (ly hp).1
 .split
  .rename_i _ h
   have hc:=eS hp;obtain⟨n1,n2⟩:=y7 hc;obtain⟨s1,s2,_,_⟩:=vu hp;refine Ck h (λl hl=> ?_) ?_ h8 s1
   .obtain⟨q,hq',rfl⟩:=zD0.1 hl
    grind [gM]
   grind [fB,eZ,zH4,gM]
  .exact Vd hp h2
theorem rx(hp:ac p=true):(aU p).2.length<=8/\(aU p).1.length<=8:=by
 grind [al,aU,wJ,eE]
def sX:Nat->List Int->List (List Int)
 |0,_=>[]
 |d+1,p=>if p.length<2 then[]else(aU p).1::(aU p).2.flatMap (sX d)
theorem Ge(h:p.length<2):sX d p=[]:=by
 cases d with
 |zero=>rfl
 |succ d=>rw[sX,zB0 h]
theorem Hb{f:List Int->List (List Int)}(h:∀q∈L,(f q).length<=n):(L.flatMap f).length<=L.length*n:=by
 induction L with
 |nil=>simp
 |cons a L ih=>
  grind [Nat.succ_mul]
theorem uF:∀{d:Nat} {p:List Int},ac p=true->(sX d p).length<=9^d
 |0,_,_=>by simp[sX]
 |d+1,p,hp=>by
  rw[sX];split
  .simp
  .rename_i h
   have h1:=Hb (L:=(aU p).2) (f:=sX d) (n:=9^d) λq hq=>uF (ry hp (by omega) q hq).1;have h2:=(rx hp).1;have h3:=zD9 (9^d) h2;grind
theorem zw:∀{d:Nat} {p:List Int},ac p=true->∀l∈sX d p,l.length<=8
 |0,_,_,l,h=>by cases h
 |d+1,p,hp,l,h=>by
  rw[sX]at h;split at h
  .cases h
  .rename_i h2
   rcases zD7.1 h with g|g
   .grind [rx]
   .obtain⟨q,hq,hl⟩:=List.mem_flatMap.1 g
    exact zw (ry hp (by omega) q hq).1 l hl
def uk:Nat->List Int->List (List Int)->List (List Int)
 |0,_,out=>out
 |d+1,p,out=>if p.length<2 then out else(aU p).2.foldl (λo q=>uk d q o) (nP out (aU p).1)
theorem aaa:∀{d:Nat} {p x:List Int} {out:List (List Int)},x∈uk d p out↔x∈out\/x∈sX d p
 |0,_,_,_=>by simp[uk,sX]
 |d+1,p,x,out=>by
  rw[uk,sX];split
  .simp
  .have key:∀(L:List (List Int)) (o:List (List Int)),x∈L.foldl (λo q=>uk d q o) o↔x∈o\/x∈L.flatMap (sX d):=by
    intro L
    induction L with
    |nil=>intro o;simp
    |cons a L ih=>intro o;rw[List.foldl_cons,ih,aaa,List.flatMap_cons,zB3];exact or_assoc
   grind [putP_mem]
theorem Gm:(nP L p).length<=L.length+1:=by
 grind [nP,Yi,Nm]
theorem zC:∀{d:Nat} {p:List Int} {out:List (List Int)},ac p=true->(uk d p out).length<=out.length+9^d
 |0,_,_,_=>by simp[uk]
 |d+1,p,out,hp=>by
  have h5:0<9^(d+1):=Nat.pow_pos (by decide);rw[uk];split
  .omega
  .rename_i h
   have key:∀(L:List (List Int)),(∀q∈L,ac q=true)->∀(o:List (List Int)),(L.foldl (λo q=>uk d q o) o).length<=o.length+L.length*9^d:=by
    intro L
    induction L with
    |nil=>intro _ o;simp
    |cons a L ih=>
     intro hL o;have h1:=ih (λq hq=>hL q (zF1 _ hq)) (uk d a o);have h2:=zC (d:=d) (out:=o) (hL a (by simp));grind [Nat.succ_mul]
   have h1:=key (aU p).2 (λq hq=>(ry hp (by omega) q hq).1) (nP out (aU p).1);have h2:=Gm (L:=out) (p:=(aU p).1);have h3:=zD9 (9^d) (rx hp).1;omega
theorem Gf(hp:ac p=true)(ho:∀l∈out,l.length<=8):∀l∈uk d p out,l.length<=8:=λl hl=>by
 grind [aaa,zw]
def HO(d:Nat)(L:List (List Int))(o:List (List Int)):List (List Int):=L.foldl (λo q=>uk d q o) o
theorem Lx:HO d (L++[q]) o=uk d q (HO d L o):=by grind [HO]
theorem Gg{d:Nat}:∀{L o:List (List Int)},(∀q∈L,ac q=true)->(∀l∈o,l.length<=8)->(HO d L o).length<=o.length+L.length*9^d/\∀l∈HO d L o,l.length<=8
 |[],o,_,ho=>by grind [HO]
 |a::L,o,h,ho=>by
  have h0:=h a (by simp);have h2:=zC (d:=d) (out:=o) h0;obtain⟨h3,h4⟩:=Gg (d:=d) (L:=L) (o:=uk d a o) (λq hq=>h q (zF1 _ hq)) (Gf h0 ho);grind [HO,Nat.succ_mul]
def y8(p:List Int):(List Int×List (List Int))×Bool:=if ac p&&decide (p.length≠0)then(aU p,true)else(([],[]),false)
theorem Lc(h:ac p=true)(h0:p.length≠0):y8 p=(aU p,true):=by simp[y8,h,h0]
theorem Ld(h:ac p=false):y8 p=(([],[]),false):=by simp[y8,h]
theorem Lb(h:p.length=0):y8 p=(([],[]),false):=by simp[y8,h]
theorem cF(p:List Int)(hl:p.length<=1048576):Fun Tryz.prog 177 [lI m0 p] [.agg [lI false ((y8 p).1.1),lE false false ((y8 p).1.2)],.bool ((y8 p).2)]:=by
 refine Fun.ofR (sg:=au) (rs:=[.cell 2 118,.tmp 3]) mo Tryz.func177 rfl rfl rfl rfl (by kernel_rfl) (by simp only[go_sem]) rfl ?_;have cE1:=@ah;have cE2:=@iD;refine dE ai trivial (Hx ?_ ?_ ?_ ?_ ?_ ?_ ?_ ?_ ?_ ?_)<;>(intro zb hc;repeat (have zc:=zb.1;replace zb:=zb.2));all_goals(first|assumption|(rw[Ld hc]<;>rfl)|(rw[Lb (by omega)]<;>rfl)|(rw[Lc (by assumption) (by omega)]))
theorem Ho{p:List Int}(h8:p.length<=8):∀{j:Nat},∀q∈(aR p j).2.2,1<=q.length
 |0=>by simp[aR]
 |j+1=>by
  have ih:=Ho h8 (j:=j);rw[aR];split
  .rename_i hc
   intro q hm;rcases zB3.1 hm with g|g
   .exact ih q g
   .rw[zB7]at g;subst g
    have e1:=tD (p:=p) (a:=(aR p j).1) (k:=p.length);rw[eE,iP (by omega)];omega
  .exact ih
theorem Cl{k:Bool}(h2:1<L.length)(hne:∀l∈L,0<l.length):∀q∈[L.getD 0 [],fW (L.drop 1) k],1<=q.length:=by
 match L,h2 with
 |a::b::t,_=>
  have h1:=hne a (by simp);have h3:=hne b (by simp);have h6:=ti (L:=b::t) (k:=k) (zB1 _);rw[zE6]at h6;simp only[lI,oI,lE,fB,zC3,List.sum_cons]at h6;intro q hq;simp only[List.getD_cons_zero,List.drop_succ_cons,zI3,zD7,List.not_mem_nil,or_false]at hq;rcases hq with rfl|rfl
  .exact h1
  .omega
theorem FV(hp:ac p=true)(h2:2<=p.length):∀q∈(aU p).2,1<=q.length:=by
 obtain⟨h8,hq⟩:=al hp;unfold aU;rw[zA8 (by omega)];split
 .rename_i h
  exact Cl h (y7 hp).1
 .split
  .rename_i _ h
   obtain⟨n1,n2⟩:=y7 (eS hp);refine Cl h λl hl=> ?_;obtain⟨q,hq',rfl⟩:=zD0.1 hl;rw[gM];exact n1 q hq'
  .exact Ho h8
def tI:Nat->List Int->List UInt8
 |0,_=>[49]
 |d+1,p=>if p.length=1 then[49]else cO (aU p).1++[40]++Lib.join ((aU p).2.map (tI d)) [32]++[41]
theorem y3:∀{d:Nat} {p:List Int},ac p=true->(tI d p).length<=30*9^d
 |0,p,_=>by simp[tI]
 |d+1,p,hp=>by
  have h9:9^(d+1)=9*9^d:=by rw[zG7,Nat.mul_comm]
  have h1:0<9^d:=Nat.pow_pos (by decide);rw[tI];by_cases h2:p.length=1
  .rw[zB0 h2];simp;omega
  .rw[zA8 h2]
   by_cases h0:p.length=0
   .have e:p=[]:=zA4 h0
    subst e;have:(cO (aU []).1++[40]++Lib.join ((aU []).2.map (tI d)) [32]++[41]).length<=30:=by
     have e:aU []=([],[]):=by decide
     rw[e];simp only[zE8,Lib.join_nil];decide
    omega
   .have hf:=ry hp (by omega)
    obtain⟨n1,n2⟩:=rx hp;have hj:=fV (sep:=[32]) (n:=30*9^d) (l:=(aU p).2.map (tI d)) λx hx=>by
     obtain⟨q,hq,rfl⟩:=zD0.1 hx;exact y3 (hf q hq).1
    rw[zB2]at hj;have h7:=zD9 (30*9^d+([32]:List UInt8).length) n1;have ht:=kv (aU p).1;simp only[zA3,zC5]at hj h7 |-
    omega
theorem tr9:∀d,d<=8->30*9^d<=1300000000:=by decide
def tZ(p:List Int):List UInt8:=if ac p=true/\p.length≠0 then tI 8 p else[]
theorem uC:(tZ p).length<=1300000000:=by
 unfold tZ;split
 .rename_i h;exact zE0 (y3 h.1) (tr9 8 (by decide))
 .simp
theorem yb(h:k<L.length):(L.take (k+1)).map (tI d)=(L.take k).map (tI d)++[tI d (L.getD k [])]:=by
 rw[aq (d:=[]) h,zE2];rfl
theorem trJ(hd:d<=8)(hp:ac p=true)(h2:2<=p.length):(Lib.join ((aU p).2.map (tI d)) [32]).length<=100000000000:=by
 have hf:=ry hp h2;obtain⟨n1,n2⟩:=rx hp;have hj:=fV (sep:=[32]) (n:=1300000000) (l:=(aU p).2.map (tI d)) λx hx=>by
  obtain⟨q,hq,rfl⟩:=zD0.1 hx;exact zE0 (y3 (hf q hq).1) (tr9 d hd)
 rw[zB2]at hj;have h7:=zD9 (1300000000+([32]:List UInt8).length) n1;simp only[zC5]at hj h7;omega
theorem uo:∀(d:Nat) {m0:Bool} (p:List Int),d<=8->ac p=true->1<=p.length->p.length<=d->Fun Tryz.prog 236 [lI m0 p] [.str (tI d p)]:=by
 intro d
 induction d with
 |zero=>intro m0 p _ _ h1 h2;omega
 |succ d ih=>
  intro m0 p hd hp h1 hl;by_cases h2:p.length=1
  .rw[tI,zB0 h2]
   refine fO au [2] Tryz.func236 ?_;have cE1:=@cu;have cE2:=@be;have cE3:=@az;exact dE ai @h2 aj
  .have hf:=ry hp (by omega)
   have hq:=FV hp (by omega);obtain⟨n1,n2⟩:=rx hp;have j1:=trJ (d:=d) (by omega) hp (by omega);have t1:=kv (aU p).1;have e2:((p.length:Int)=1)=False:=zC6 (by omega);rw[tI,zA8 h2];refine fO au [2] Tryz.func236 ?_;have cE1:=@cu;have cE2:=@be;have cE3:=@az;have cE1:=@ih;have cE2:=@cu;have cE3:=@be;have cE4:=@az;refine dE ai @e2 (aD λzb=> ?_);refine ao (λ(k:Nat) S1=>(S1.e 14=.p (lE false false ((aU p).2))/\eI S1 15 ((aU p).2.length)/\eI S1 16 k)/\PtrL (S1.e 3) S1.h S1.n (.live false [.sl (.lent false) (List.map (PV.int .i64) (aU p).1),.sl (.lent false) (List.map (cK false) (aU p).2)])/\OwnL (S1.e 4) S1.h S1.n PV.str ((((aU p).2.take k).map (tI d)).length) (((aU p).2.take k).map (tI d))/\k<=(aU p).2.length/\NId (S1.e 4) (nk (S1.e 3))) (λk=>(aU p).2.length-k) 0 ?_ (dC trivial aj);rintro k S1 ⟨fF1,A4,B7,A1,A8⟩;obtain⟨A9,A2,B6⟩:=A4.ou;obtain⟨C4,B2,C8⟩:=B7.ou;have di1_4i1_3:=(A8).ou B2.1 (cc A2.1);have fL1:=(aa fF1 (aa A2 (aa B2 di1_4i1_3)))
   .have lk:(((aU p).2.take k).map (tI d)).length=k:=by rw[zB2,zD3];omega
    by_cases hk:k<(aU p).2.length
    .obtain⟨q1,q2⟩:=hf _ (am (d:=[]) hk)
     have q3:=hq _ (am (d:=[]) hk);have e3:=yb (d:=d) hk;have cE1:=@ih;have cE2:=@cu;have cE3:=@be;have cE4:=@az;refine dE ai fL1 (aI λzb hc=> ?_);refine ak (k+1) (dC fL1 aj) (dC fL1 (aD λzb=> ?_));all_goals(first|(rw[e3];done)|(rw[e3,zA3];rfl)|skip)
    .have e4:(aU p).2.take k=(aU p).2:=zA2 (by omega)
     have cE1:=@ih;have cE2:=@cu;have cE3:=@be;have cE4:=@az;exact dE ai (aa fL1 @e4) aj;all_goals(first|(simp only[zA7];done)|skip)
theorem gY(p:List Int)(hl:p.length<=1048576):Fun Tryz.prog 127 [lI m0 p] [.str (tZ p)]:=by
 by_cases h:ac p=true
 .have h8:=(al h).1
  by_cases h0:p.length=0
  .have e:tZ p=[]:=by rw[tZ,zA8 (λg=>g.2 h0)]
   rw[e];refine fO au [2] Tryz.func127 ?_;have cE1:=@ae;exact dE ai (aa @h @h0) aj
  .have e:tZ p=tI 8 p:=by rw[tZ,zB0 ⟨h,h0⟩]
   have e0:((p.length:Int)=0)=False:=zC6 (by omega);have c1:=λm0:Bool=>uo 8 (m0:=m0) p (by decide) h (by omega) h8;rw[e];refine fO au [2] Tryz.func127 ?_;have cE1:=@ae;have cE1:=@c1;have cE2:=@ae;exact dE ai (aa @h @e0) aj
 .have e:tZ p=[]:=by rw[tZ,zA8 (λg=>h g.1)]
  rw[e];rw[zA9]at h;refine fO au [2] Tryz.func127 ?_;have cE1:=@ae;exact dE ai @h aj
theorem rA:∀(d:Nat) {m0:Bool} (p:List Int),d<=8->ac p=true->1<=p.length->p.length<=d->Fun Tryz.prog 89 [lI m0 p] [.str (tI d p)]:=by
 intro d
 induction d with
 |zero=>intro m0 p _ _ h1 h2;omega
 |succ d ih=>
  intro m0 p hd hp h1 hl;have e5:=Lc hp (show p.length≠0 by omega);by_cases h2:p.length=1
  .rw[tI,zB0 h2]
   refine fO au [2] Tryz.func89 ?_;have cE1:=@cF;have cE2:=@aH;have cE3:=@bj;exact dE ai (aa @h2 @e5) aj
  .have hf:=ry hp (by omega)
   have hq:=FV hp (by omega);obtain⟨n1,n2⟩:=rx hp;have j1:=trJ (d:=d) (by omega) hp (by omega);have t1:=kv (aU p).1;have e2:((p.length:Int)=1)=False:=zC6 (by omega);rw[tI,zA8 h2];refine fO au [2] Tryz.func89 ?_;have cE1:=@cF;have cE2:=@aH;have cE3:=@bj;have cE1:=@ih;have cE2:=@cF;have cE3:=@aH;have cE4:=@bj;refine dE ai (aa @e2 @e5) (aD λzb=> ?_);refine ao (λ(k:Nat) S1=>eI S1 6 k/\PtrL (S1.e 3) S1.h S1.n (.live false [.sl (.lent false) (List.map (PV.int .i64) (aU p).1),.sl (.lent false) (List.map (cK false) (aU p).2)])/\OwnL (S1.e 5) S1.h S1.n PV.str ((((aU p).2.take k).map (tI d)).length) (((aU p).2.take k).map (tI d))/\k<=(aU p).2.length/\NId (S1.e 5) (nk (S1.e 3))) (λk=>(aU p).2.length-k) 0 ?_ (dC trivial aj);rintro k S1 ⟨fF1,A4,A7,A1,A8⟩;obtain⟨A9,A2,B6⟩:=A4.ou;obtain⟨B4,A5,B8⟩:=A7.ou;have di1_5i1_3:=(A8).ou A5.1 (cc A2.1);have fL1:=(aa fF1 (aa A2 (aa A5 di1_5i1_3)))
   .have lk:(((aU p).2.take k).map (tI d)).length=k:=by rw[zB2,zD3];omega
    by_cases hk:k<(aU p).2.length
    .obtain⟨q1,q2⟩:=hf _ (am (d:=[]) hk)
     have q3:=hq _ (am (d:=[]) hk);have e3:=yb (d:=d) hk;have cE1:=@ih;have cE2:=@cF;have cE3:=@aH;have cE4:=@bj;refine dE ai fL1 (aI λzb hc=> ?_);refine ak (k+1) (dC fL1 aj) (dC fL1 (aD λzb=> ?_));all_goals(first|(rw[e3];done)|(rw[e3,zA3];rfl)|skip)
    .have e4:(aU p).2.take k=(aU p).2:=zA2 (by omega)
     have cE1:=@ih;have cE2:=@cF;have cE3:=@aH;have cE4:=@bj;exact dE ai (aa fL1 @e4) aj;all_goals(first|(simp only[zA7];done)|skip)
theorem abO:∀d,d<=8->9^d<=43046721:=by decide
theorem Ai:∀(d:Nat) {m0:Bool} (p:List Int),d<=8->ac p=true->p.length<=d->Fun Tryz.prog 310 [lI m0 p] [.sl .own (List.map (cK false) (sX d p))]:=by
 intro d
 induction d with
 |zero=>
  intro m0 p hd hp hl;rw[Ge (by omega)];refine fO au [2] Tryz.func310 ?_;have cE1:=@cu;exact dE ai trivial aj
 |succ d ih=>
  intro m0 p hd hp hl;by_cases h2:p.length<2
  .rw[Ge h2]
   refine fO au [2] Tryz.func310 ?_;have cE1:=@cu;exact dE ai trivial aj
  .have hf:=ry hp (by omega)
   obtain⟨n1,n2⟩:=rx hp;have e:sX (d+1) p=(aU p).1::(aU p).2.flatMap (sX d):=by rw[sX,zA8 h2]
   have h9:=abO d (by omega);rw[e];refine fO au [2] Tryz.func310 ?_;have cE1:=@cu;have cE1:=@ih;have cE2:=@cu;refine dE ai @hp (aI λzb hc=> ?_);refine ao (λ(k:Nat) S1=>(S1.e 16=.p (lE false false ((aU p).2))/\eI S1 17 ((aU p).2.length)/\eI S1 18 k)/\OwnL (S1.e 4) S1.h S1.n (cK false) (((aU p).1::((aU p).2.take k).flatMap (sX d)).length) ((aU p).1::((aU p).2.take k).flatMap (sX d))/\k<=(aU p).2.length) (λk=>(aU p).2.length-k) 0 ?_ (dC trivial aj);rintro k S1 ⟨fF1,B7,A1⟩;obtain⟨C4,B2,C8⟩:=B7.ou;have fL1:=(aa fF1 B2)
   .have g1:=Hb (L:=(aU p).2.take k) (f:=sX d) (n:=9^d) λq hq=>uF (hf q (List.mem_of_mem_take hq)).1
    have g2:=zD9 (9^d) (show((aU p).2.take k).length<=8 by rw[zD3];omega);by_cases hk:k<(aU p).2.length
    .obtain⟨q1,q2⟩:=hf _ (am (d:=[]) hk)
     have q3:=uF (d:=d) q1;have q4:((aU p).2.take (k+1)).flatMap (sX d)=((aU p).2.take k).flatMap (sX d)++sX d ((aU p).2.getD k []):=by
      rw[aq (d:=[]) hk,List.flatMap_append];simp
     have cE1:=@ih;have cE2:=@cu;refine dE ai (aa fL1 @q1) (aI λzb hc=> ?_);refine ak (k+1) (dC fL1 aj) (dC fL1 (bu ?_ ?_))<;>intro zb;all_goals(first|(rw[q4,zA3];omega)|(rw[q4];done)|skip)
    .have cE1:=@cu;have cE2:=trivial
     refine dE ai fL1 (aI λzb hc=> ?_);rw[zA2 (by omega)]
def uh(p:List Int):Bool:=ac p&& !((sX 8 p).any λq=>decide ((2:Int)<(q.length:Int)))
theorem dX(q:List Int)(hq:q.length<=1048576):Fun Tryz.prog 311 [lI m0 q] [.bool (decide ((2:Int)<(q.length:Int)))]:=by
 refine fO au [2] Tryz.func311 ?_;exact dE ai trivial aj
theorem cJ(p:List Int)(hp:p.length<=1048576):Fun Tryz.prog 238 [lI m0 p] [.bool (uh p)]:=by
 by_cases h:ac p=true
 .obtain⟨h8,_⟩:=al h
  have b1:=uF (d:=8) h;have b2:=zw (d:=8) h;have c1:=λ(e0 m0:Bool)=>an (e0:=e0) (m0:=m0) (sX 8 p) 311 [] (λq=>decide ((2:Int)<(q.length:Int))) (by omega) (λq hq=>dX (m0:=e0) q (by have:=b2 q hq;omega));have c2:=λ(m0:Bool)=>Ai 8 (m0:=m0) p (by decide) h h8;rw[uh,h,zF4];refine fO au [2] Tryz.func238 ?_;have cE1:=@ae;have cE2:=@an;have cE3:=@dX;have cE1:=@c1;have cE2:=@c2;have cE3:=@ae;have cE4:=@an;have cE5:=@dX;exact dE ai @h aj
 .rw[zA9]at h
  rw[uh,h,zH9];refine fO au [2] Tryz.func238 ?_;have cE1:=@ae;have cE2:=@an;have cE3:=@dX;exact dE ai @h aj
def vw:FuncId->List Bool:=λf=>if f=343 then[false,true]else if f=378 then[true]else[]
theorem Qj:vw f=if f=343 then[false,true]else if f=378 then[true]else[]:=_root_.id rfl
theorem JK:ga vw=false/\gu vw=false/\gs vw=false/\gr vw=false/\gB vw=false:=⟨rfl,rfl,rfl,rfl,rfl⟩
attribute [go_sem] Qj JK
theorem vk:∀(d:Nat) {m0:Bool} (p:List Int) (out:List (List Int)),d<=8->ac p=true->p.length<=d->(∀l∈out,l.length<=8)->out.length+9^d<=1000000000->
  CallT Tryz.prog true 343 [.pv (lI m0 p),.mu false (List.map (cK false) out)] [none,none] [.sl .own (List.map (cK false) (uk d p out))]:=by
 intro d
 induction d with
 |zero=>
  intro m0 p out hd hp hl hr ho;rw[show uk 0 p out=out from rfl];refine CallT.of (sg:=vw) (ts:=[4]) mo Tryz.func343 rfl rfl rfl rfl (by kernel_rfl) (by simp only[go_sem]) rfl rfl ?_;have cE1:=@iD;have cM1:=@mU;exact dE dN trivial aj
 |succ d ih=>
  intro m0 p out hd hp hl hr ho;by_cases h2:p.length<2
  .have e:uk (d+1) p out=out:=by rw[uk,zB0 h2]
   rw[e];refine CallT.of (sg:=vw) (ts:=[4]) mo Tryz.func343 rfl rfl rfl rfl (by kernel_rfl) (by simp only[go_sem]) rfl rfl ?_;have cE1:=@iD;have cM1:=@mU;exact dE dN trivial aj
  .have hf:=ry hp (by omega)
   obtain⟨n1,n2⟩:=rx hp;have e:uk (d+1) p out=HO d (aU p).2 (nP out (aU p).1):=by rw[uk,zA8 h2];rfl
   have h9:=abO d (by omega);have h10:9^(d+1)=9*9^d:=by rw[zG7,Nat.mul_comm]
   have h11:0<9^d:=Nat.pow_pos (by decide);have p1:=Gm (L:=out) (p:=(aU p).1);have p2:∀l∈nP out (aU p).1,l.length<=8:=λl hl=>by
    rcases putP_mem.1 hl with g|g
    .rw[g];exact n2
    .exact hr l g
   have hr':∀l∈out,l.length<=1048576:=λl hl=>by have:=hr l hl;omega
   rw[e];refine CallT.of (sg:=vw) (ts:=[4]) mo Tryz.func343 rfl rfl rfl rfl (by kernel_rfl) (by simp only[go_sem]) rfl rfl ?_;have cE1:=@iD;have cM1:=@mU;refine dE dN @hp (aI λzb hc=> ?_);refine ao (λ(k:Nat) S1=>(S1.e 0=.p (lI m0 p)/\eI S1 6 k)/\OwnM (S1.e 1) S1.h S1.n (cK false) ((HO d ((aU p).2.take k) (nP out (aU p).1)).length) (HO d ((aU p).2.take k) (nP out (aU p).1))/\PtrL (S1.e 5) S1.h S1.n (.live false [.sl (.lent false) (List.map (PV.int .i64) (aU p).1),.sl (.lent false) (List.map (cK false) (aU p).2)])/\k<=(aU p).2.length/\NId (nk (S1.e 5)) (S1.e 1)) (λk=>(aU p).2.length-k) 0 ?_ (dC trivial aj);rintro k S1 ⟨fF1,E3,A7,A1,A8⟩;obtain⟨I2,R4,D6,I3⟩:=E3.ou;obtain⟨B4,A5,B8⟩:=A7.ou;have di1_5i1_1:=(A8).ou (cc A5.1) D6.1;have fL1:=(aa fF1 (aa D6 (aa A5 di1_5i1_1)))
   .obtain⟨g1,g2⟩:=Gg (d:=d) (L:=(aU p).2.take k) (o:=nP out (aU p).1) (λq hq=>(hf q (List.mem_of_mem_take hq)).1) p2
    have g3:=zD9 (9^d) (show((aU p).2.take k).length<=8 by rw[zD3];omega);by_cases hk:k<(aU p).2.length
    .obtain⟨q1,q2⟩:=hf _ (am (d:=[]) hk)
     have q4:HO d ((aU p).2.take (k+1)) (nP out (aU p).1)=uk d ((aU p).2.getD k []) (HO d ((aU p).2.take k) (nP out (aU p).1)):=by
      rw[aq (d:=[]) hk,Lx]
     have g5:=zD9 (9^d) (show((aU p).2.take k).length<=7 by rw[zD3];omega);have cM2:=@ih;refine dE dN (aa fL1 (aa @q1 @T7)) (aI λzb hc=> ?_);refine ak (k+1) (dC fL1 aj) (dC fL1 (bu ?_ ?_))<;>intro zb;all_goals(first|(rw[q4];done)|skip)
    .have cM2:=trivial
     refine dE dN fL1 (aI λzb hc=> ?_);rw[zA2 (by omega)]
theorem vo(p:List Int)(hp:p.length<=1048576):Fun Tryz.prog 280 [lI m0 p] [.sl .own (List.map (cK false) ((if ac p=true then uk 8 p []else[])))]:=by
 by_cases h:ac p=true
 .obtain⟨h8,_⟩:=al h
  have c1:=λ(m0:Bool)=>vk 8 (m0:=m0) p [] (by decide) h h8 (λl hl=>by cases hl) (by decide);simp only[lI,oI,lE,zE8]at c1;rw[zB0 h];refine fO vw [2] Tryz.func280 ?_;have cE1:=@ah;have cM1:=@c1;exact dE ai @h aj
 .rw[zA8 h]
  rw[zA9]at h;refine fO vw [2] Tryz.func280 ?_;have cE1:=@ah;exact dE ai @h aj
theorem abb:∃X,(if ac p=true then uk 8 p []else[])=X/\X.length<=43046721/\(∀q∈X,q.length<=8)/\(∀q∈X,2<q.length->uh p=false)/\((∀q∈X,¬2<q.length)->uh p=ac p):=by
 refine⟨_,rfl, ?_⟩;by_cases h:ac p=true
 .rw[zB0 h]
  have hm:∀x,x∈uk 8 p []↔x∈sX 8 p:=λx=>by rw[aaa];simp
  refine⟨by have:=zC (d:=8) (out:=[]) h;simpa using this,Gf h (λl hl=>by cases hl),λq hq h2=> ?_,λh2=> ?_⟩
  .rw[uh,Bool.and_eq_false_iff]
   refine .inr ?_;rw[Bool.not_eq_false',List.any_eq_true];exact⟨q,(hm q).1 hq,zB6 (by omega)⟩
  .rw[uh]
   have:((sX 8 p).any λq=>decide ((2:Int)<(q.length:Int)))=false:=by
    rw[<-zA9,List.any_eq_true];rintro⟨q,hq,g⟩;have:=h2 q ((hm q).2 hq);have:=of_decide_eq_true g;omega
   rw[this];simp
 .rw[zA8 h]
  rw[zA9]at h;refine⟨by simp,λq hq=>(by cases hq),λq hq=>(by cases hq),λ_=> ?_⟩;rw[uh,h];rfl
theorem kH(p:List Int)(hp:p.length<=1048576):Fun Tryz.prog 180 [lI m0 p] [.bool (uh p)]:=by
 refine fO au [2] Tryz.func180 ?_;have cE1:=@vo;have cE2:=@ah;obtain⟨X,x0,x1,x2,x3,x4⟩:=abb (p:=p);refine dE ai @x0 (aD λzb=> ?_);refine ao (λ(k:Nat) S1=>(S1.e 0=.p (lI m0 p)/\eI S1 4 k)/\OwnL (S1.e 3) S1.h S1.n (cK false) ((X).length) X/\k<=X.length/\(∀q∈X.take k,¬2<q.length)) (λk=>X.length-k) 0 ?_ (dC trivial aj);rintro k S1 ⟨fF1,A4,A1,A0⟩;obtain⟨A9,A2,B6⟩:=A4.ou;have fL1:=(aa fF1 A2);by_cases hk:k<X.length
 .by_cases hd:2<(X.getD k []).length
  .rw[x3 _ (am hk) hd]
   exact dE ai fL1 aj
  .refine dE ai fL1 (aI λzb hc=> ?_)
   refine ak (k+1) (dC fL1 aj) (dC fL1 (aD λzb=> ?_));all_goals(first|(intro q hq;rw[aq (d:=[]) hk]at hq;rcases zB3.1 hq with g|g;exact A0 q g;rw[zB7]at g;subst g;exact hd)|skip)
 .rw[zA2 (by omega)]at A0
  rw[x4 A0];exact dE ai fL1 aj
theorem gT(p:List Int)(hl:p.length<=1048576):Fun Tryz.prog 89 [lI m0 p] [.str (tZ p)]:=by
 by_cases h:ac p=true
 .have h8:=(al h).1
  by_cases h0:p.length=0
  .have e:tZ p=[]:=by rw[tZ,zA8 (λg=>g.2 h0)]
   have e5:=Lb h0;rw[e];refine fO au [2] Tryz.func89 ?_;have cE1:=@cF;have cE2:=@aH;have cE3:=@bj;exact dE ai @e5 aj
  .have e:tZ p=tI 8 p:=by rw[tZ,zB0 ⟨h,h0⟩]
   rw[e];exact rA 8 (m0:=m0) p (by decide) h (by omega) h8
 .have e:tZ p=[]:=by rw[tZ,zA8 (λg=>h g.1)]
  rw[e];rw[zA9]at h;have e5:=Ld h;refine fO au [2] Tryz.func89 ?_;have cE1:=@cF;have cE2:=@aH;have cE3:=@bj;exact dE ai @e5 aj
theorem acR{a o l b o' l':Nat}{ys zs:List PV}{kd kd':IntKind}{n n':Int}:fu true h k [.p (.int kd n),.ref a o l,.ref b o' l'] [.int kd' n',.sl .own ys,.sl .own zs] F0=(kd=kd'/\n=n'/\fiT (h a) o l ys/\fiT (h b) o' l' zs/\a≠b):=by
 simp only[fu,fin,mJ,fiT];cases h a<;>cases h b<;>simp[F0,Dj,Pl.row,and_assoc]
attribute [local go_sem] acR
def sV:FuncId->List Bool:=λf=>if f=197 then[false,true,true]else[]
theorem Qt:sV f=if f=197 then[false,true,true]else[]:=_root_.id rfl
theorem JU:ga sV=false/\gu sV=false/\gs sV=false/\gr sV=false/\gB sV=false:=⟨rfl,rfl,rfl,rfl,rfl⟩
attribute [go_sem] Qt JU
def yL(F:List Int->List (List UInt8×Int)->List (List UInt8×Int))(p:List Int)(M:List (List UInt8×Int)):Nat->List (List UInt8×Int)
 |0=>M
 |k+1=>if p.getD (k+1) 0<p.getD k 0 then F (sD p k) (yL F p M k)else yL F p M k
def sH(M:List (List UInt8×Int)):List (List UInt8):=M.map Prod.fst
def vt(M:List (List UInt8×Int)):List Int:=M.map Prod.snd
theorem GZ{M:List (List UInt8×Int)}:(sH M).length=M.length:=by simp[sH]
theorem FW{M:List (List UInt8×Int)}:(vt M).length=M.length:=by simp[vt]
theorem UB{M:List (List UInt8×Int)}(h:k<M.length):((sH M).getD k [],(vt M).getD k 0)∈M:=by
 simp only[sH,vt,zA0,zA5,zA1 h];exact List.getElem_mem h
theorem acT{M:List (List UInt8×Int)}:List.take M.length (sH M)=sH M:=zA2 (by rw[GZ];exact zB1 _)
theorem aa6{M:List (List UInt8×Int)}:List.take M.length (vt M)=vt M:=zA2 (by rw[FW];exact zB1 _)
theorem acU{M:List (List UInt8×Int)}:sH (M++[(t,c)])=sH M++[t]:=by simp[sH]
theorem aa7{M:List (List UInt8×Int)}:vt (M++[(t,c)])=vt M++[c]:=by simp[vt]
attribute [local go_sem] GZ FW acT aa6
set_option maxHeartbeats 16000000
theorem ud:∀(f:Nat) (p:List Int) (M:List (List UInt8×Int)),aF p=true->1<=p.length->p.length<=6->de p p.length<=f->GoodM p.length M->M.length+6^f<=1000000000000->
  ∃M',GoodM p.length M'/\M'.length+1<=M.length+6^f/\∀m0,CallT Tryz.prog true 197 [.pv (lI m0 p),.mu false (List.map PV.str (sH M)),.mu false (List.map (PV.int .i64) (vt M))] [none,none,none] [.int .i64 (o5 p),.sl .own (List.map PV.str (sH M')),oI (vt M')]:=by
 intro f
 induction f with
 |zero=>
  intro p M hp h1 h6 hi hM hb;have hu:=(mP hp h6).2.1 (by omega);have e:=zu hu;refine⟨M,hM,by simp,λm0=> ?_⟩;rw[e];refine CallT.of (sg:=sV) (ts:=[6,7,8]) mo Tryz.func197 rfl rfl rfl rfl (by kernel_rfl) (by simp only[go_sem]) rfl rfl ?_;have cE1:=@bh;have cE2:=@aH;exact dE dN @hu aj
 |succ f ih=>
  intro p M hp h1 h6 hi hM hb;have h4:0<6^f:=Nat.pow_pos (by decide);rw[zG7]at hb;obtain⟨_,s1,s2⟩:=mP hp h6;cases hu:rl p with
  |true=>
   have e:=zu hu;refine⟨M,hM,by rw[zG7];omega,λm0=> ?_⟩;rw[e];refine CallT.of (sg:=sV) (ts:=[6,7,8]) mo Tryz.func197 rfl rfl rfl rfl (by kernel_rfl) (by simp only[go_sem]) rfl rfl ?_;have cE1:=@bh;have cE2:=@aH;exact dE dN @hu aj
  |false=>
   have e:=Gb hp h6 hu;have hpp:ac p=true:=by rw[ac,hp,zG1];exact zB6 (by omega)
   have hpl:=kv p;by_cases hm:∃c,(cO p,c)∈M
   .refine⟨M,hM,by rw[zG7];omega,λm0=> ?_⟩
    generalize ht:cO p=t at*
    refine CallT.of (sg:=sV) (ts:=[6,7,8]) mo Tryz.func197 rfl rfl rfl rfl (by kernel_rfl) (by simp only[go_sem]) rfl rfl ?_;have cE1:=@bh;have cE2:=@aH;refine dE dN (aa @hu @ht) (aD λzb=> ?_);refine ao (λ(k:Nat) S1=>(S1.e 0=.p (lI m0 p)/\S1.e 9=.p (.str t)/\eI S1 10 k)/\OwnM (S1.e 1) S1.h S1.n PV.str ((sH M).length) (sH M)/\OwnM (S1.e 2) S1.h S1.n (PV.int .i64) ((vt M).length) (vt M)/\k<=M.length/\(∀i,i<k->(sH M).getD i []≠t)/\NId (S1.e 2) (S1.e 1)) (λk=>M.length-k) 0 ?_ (dC trivial aj);rintro k S1 ⟨fF1,E3,E6,A1,A0,A8⟩;obtain⟨I2,R4,D6,I3⟩:=E3.ou;obtain⟨D8,P7,G6,J0⟩:=E6.ou;have di1_2i1_1:=(A8).ou G6.1 D6.1;have fL1:=(aa fF1 (aa D6 (aa G6 di1_2i1_1)))
    .by_cases hk:k<M.length
     .by_cases hg:(sH M).getD k []=t
      .have q:=hM.at hp h6 h1 rfl (c:=(vt M).getD k 0) (by rw[ht,<-hg];exact UB hk)
       have hg1:((sH M).getD k []=t)=True:=zF5 hg;exact dE dN (aa fL1 (aa @hg1 @q)) aj
      .have hg1:((sH M).getD k []=t)=False:=zC6 hg
       refine dE dN (aa fL1 @hg1) (aI λzb hc=> ?_);refine ak (k+1) (dC fL1 aj) (dC fL1 (aD λzb=> ?_));intro i hi;by_cases e3:i=k
       .rw[e3];exact hg
       .exact A0 i (by omega)
     .exfalso
      obtain⟨c,hc⟩:=hm;obtain⟨i,hi,e2⟩:=zE7 hc;exact A0 i (by omega) (by rw[sH,zA0,zA5,zA1 hi,e2];rfl)
   .obtain⟨F,hF⟩:∃F:List Int->List (List UInt8×Int)->List (List UInt8×Int),∀q N,aF q=true->1<=q.length->q.length<=6->de q q.length<=f->GoodM q.length N->N.length+6^f<=1000000000000->
      GoodM q.length (F q N)/\(F q N).length+1<=N.length+6^f/\∀m0,CallT Tryz.prog true 197 [.pv (lI m0 q),.mu false (List.map PV.str (sH N)),.mu false (List.map (PV.int .i64) (vt N))] [none,none,none] [.int .i64 (o5 q),.sl .own (List.map PV.str (sH (F q N))),oI (vt (F q N))]:=by
     classical
     refine⟨λq N=>if h:∃M',GoodM q.length M'/\M'.length+1<=N.length+6^f/\∀m0,CallT Tryz.prog true 197 [.pv (lI m0 q),.mu false (List.map PV.str (sH N)),.mu false (List.map (PV.int .i64) (vt N))] [none,none,none] [.int .i64 (o5 q),.sl .own (List.map PV.str (sH M')),oI (vt M')]then h.choose else N,λq N a b c d e g=> ?_⟩;have h:=ih q N a b c d e g
     dsimp only
     rw[dif_pos h];exact h.choose_spec
    have hch:∀k,k+1<=p.length->GoodM p.length (yL F p M k)/\(yL F p M k).length+k<=M.length+k*6^f:=λk=>by
     induction k with
     |zero=>intro _;exact⟨hM,by simp[yL]⟩
     |succ k ihk=>
      intro hk;obtain⟨r1,r2⟩:=ihk (by omega);have r3:=zD9 (6^f) (show k<=5 by omega);rw[yL,Nat.succ_mul];split
      .rename_i g
       obtain⟨g1,g2⟩:=s2 k hk g;have:=hF (sD p k) (yL F p M k) g1 (by rw[dT];omega) (by rw[dT];exact h6) (by omega) (by rw[dT];exact r1) (by omega);rw[dT]at this;exact⟨this.1,by omega⟩
      .exact⟨r1,by omega⟩
    have h2:2<=p.length:=by
     match p,hu with
     |[],hu=>cases hu
     |[x],hu=>
      have:=(permB_iff.1 hp).1 x (by simp);simp only[zC5]at this;obtain rfl:x=1:=by omega
      cases hu
     |_::_::_,_=>simp
    obtain⟨z1,z2⟩:=hch (p.length-1) (by omega);have z3:=zD9 (6^f) (show p.length-1<=5 by omega);refine⟨yL F p M (p.length-1)++[(cO p,o5 p)],z1.snoc hp rfl,by rw[zG7,zA3,zC5];omega,λm0=> ?_⟩;generalize ht:cO p=t at*
    refine CallT.of (sg:=sV) (ts:=[6,7,8]) mo Tryz.func197 rfl rfl rfl rfl (by kernel_rfl) (by simp only[go_sem]) rfl rfl ?_;have cE1:=@bh;have cE2:=@aH;refine dE dN (aa @hu @ht) (aD λzb=> ?_);refine ao (λ(k:Nat) S1=>(S1.e 0=.p (lI m0 p)/\S1.e 9=.p (.str t)/\eI S1 10 k)/\OwnM (S1.e 1) S1.h S1.n PV.str ((sH M).length) (sH M)/\OwnM (S1.e 2) S1.h S1.n (PV.int .i64) ((vt M).length) (vt M)/\k<=M.length/\NId (S1.e 2) (S1.e 1)) (λk=>M.length-k) 0 ?_ (dC trivial aj);rintro k S1 ⟨fF1,E3,E6,A1,A8⟩;obtain⟨I2,R4,D6,I3⟩:=E3.ou;obtain⟨D8,P7,G6,J0⟩:=E6.ou;have di1_2i1_1:=(A8).ou G6.1 D6.1;have fL1:=(aa fF1 (aa D6 (aa G6 di1_2i1_1)))
    .by_cases hk:k<M.length
     .have hg1:((sH M).getD k []=t)=False:=zC6 λhg=>hm ⟨_,by rw[<-hg];exact UB hk⟩
      refine dE dN (aa fL1 @hg1) (aI λzb hc=> ?_);exact ak (k+1) (dC fL1 aj) (dC fL1 aj)
     .obtain rfl:k=M.length:=by omega
      refine dE dN fL1 (aI λzb hc=> ?_);refine ao (λ(k:Nat) S2=>(S2.e 0=.p (lI m0 p)/\S2.e 9=.p (.str t)/\eI S2 11 (uj o5 p k)/\eI S2 12 k)/\OwnM (S2.e 1) S2.h S2.n PV.str ((sH (yL F p M k)).length) (sH (yL F p M k))/\OwnM (S2.e 2) S2.h S2.n (PV.int .i64) ((vt (yL F p M k)).length) (vt (yL F p M k))/\k+1<=p.length/\NId (S2.e 2) (S2.e 1)/\S1.n<=S2.n) (λk=>p.length-k) 0 ?_ (dC fL1 aj);rintro k S2 ⟨fF2,Y9,K3,A6,B1,D3⟩;obtain⟨i2_1,mm2_1,R6,l2_1⟩:=Y9.ou;obtain⟨G5,mm2_2,R7,R1⟩:=K3.ou;have di2_2i2_1:=(B1).ou R7.1 R6.1;have fL2:=(aa fF2 (aa R6 (aa R7 di2_2i2_1)))
      .obtain⟨r1,r2⟩:=hch k (by omega)
       have r3:=zD9 (6^f) (show k<=5 by omega);have r4:=Lw hp h6 (k:=k) (by omega);by_cases hk:k+1<p.length
       .by_cases hg:p.getD (k+1) 0<p.getD k 0
        .obtain⟨g1,g2⟩:=s2 k hk hg
         have q3:uj o5 p (k+1)=uj o5 p k+o5 (sD p k):=by rw[uj,zB0 hg]
         have q4:yL F p M (k+1)=F (sD p k) (yL F p M k):=by rw[yL,zB0 hg]
         have q5:=Gc g1 (by rw[dT];exact h6);have q6:=hF (sD p k) (yL F p M k) g1 (by rw[dT];omega) (by rw[dT];exact h6) (by omega) (by rw[dT];exact r1) (by omega);have c1:=q6.2.2;have q7:=q6.2.1;generalize hN:F (sD p k) (yL F p M k)=N at*
         generalize hv:o5 (sD p k)=v at*
         unfold sD at c1;have e1:List.take p.length ((p.set k (p.getD (k+1) 0)).set (k+1) (p.getD k 0))=(p.set k (p.getD (k+1) 0)).set (k+1) (p.getD k 0):=zA2 (by simp);have cM1:=@c1;refine dE dN (aa fL2 (aa @hg @e1)) (aI λzb hc=> ?_);refine ak (k+1) (dC fL2 aj) (dC fL2 (yQ ?_ ?_ ?_))<;>intro zb;all_goals(first|rw[q4]|rw[q3])
        .have q3:uj o5 p (k+1)=uj o5 p k:=by rw[uj,zA8 hg,Int.add_zero]
         have q4:yL F p M (k+1)=yL F p M k:=by rw[yL,zA8 hg]
         have hg':(p.getD (k+1) 0<p.getD k 0)=False:=zC6 hg;have cM1:=trivial;refine dE dN (aa fL2 @hg') (aI λzb hc=> ?_);refine ak (k+1) (dC fL2 aj) (dC fL2 (yQ ?_ ?_ ?_))<;>intro zb;all_goals(first|rw[q4]|rw[q3])
       .obtain rfl:k=p.length-1:=by omega
        have cM1:=trivial;refine dE dN (aa fL2 @e) (AN ?_ ?_ ?_ ?_)<;>intro zb hc;all_goals first|(simp[GZ,FW];done)|((first|rw[acU]|rw[aa7]);exact zA2 (by simp[GZ,FW]))
theorem pH(p:List Int)(hl:p.length<=1048576):Fun Tryz.prog 95 [lI m0 p] [.int .i64 (Jv p)]:=by
 by_cases h:ac p=true/\1<=p.length/\p.length<=6
 .obtain⟨h1,h2,h3⟩:=id h
  have hp:=(al h1).2;have hi:=(mP hp h3).1;obtain⟨M',_,_,c1⟩:=ud 15 p [] hp h2 h3 (by omega) (λe he=>by cases he) (by decide);have f1:((1:Int)<=(p.length:Int))=True:=zF5 (by omega);have f2:((p.length:Int)<=6)=True:=zF5 (by omega);rw[Jv,zB0 h];simp only[lI,oI,lE,sH,vt,zE8]at c1;refine fO sV [2] Tryz.func95 ?_;have cE1:=@aA;have cE2:=@ah;have cM1:=@c1;exact dE dN (aa @h1 (aa @f1 @f2)) aj
 .rw[Jv,zA8 h]
  cases h1:ac p with
  |true=>
   have h2:¬(1<=p.length/\p.length<=6):=λq=>h ⟨h1,q⟩;refine fO sV [2] Tryz.func95 ?_;have cE1:=@aA;have cE2:=@ah;exact dE ai @h1 aj
  |false=>
   refine fO sV [2] Tryz.func95 ?_;have cE1:=@aA;have cE2:=@ah;exact dE ai @h1 aj
end Go.Gl
