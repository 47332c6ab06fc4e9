/-
  What the functions compute, and what the law asks of it: texts joined. Conditions: those that each lemma names.
-/
import Derived.Test.YtjimcmbfljdelaaGreatDoorT25
import Derived.Test.YtjimcmbfljdelaaGreatDoorT1
import Derived.Test.YtjimcmbfljdelaaGreatDoorT27
import Derived.Test.YtjimcmbfljdelaaGreatDoorT8
import Derived.Test.YtjimcmbfljdelaaGreatDoorT7
import Derived.Test.YtjimcmbfljdelaaGreatDoorT6
import Derived.Maps.OwnSet
import Derived.StringKeys
set_option linter.unusedSimpArgs false
set_option linter.unusedVariables false
set_option maxRecDepth 20000
set_option linter.unusedSectionVars false
set_option maxHeartbeats 16000000
variable{p q:List Int}{B b i j k off z:Nat}{m0:Bool}{w w':Go.World}{M:Nat->Prop}{P:Go.Program}{f:Go.FuncId}{args:List Go.Gl.PV}{s:List UInt8}{vs:List Go.Value}{v:Go.Value}
namespace Go.Gl
open Go Go.Proofs
variable [Amb][NoQ]
theorem af3{a:Nat}:(p.drop a).getD b 0=p.getD (a+b) 0:=by
 rw[zA0,zG0,<-zA0]
theorem rq(h:i<=j)(hj:j<p.length):(p.drop i).take (j+1-i)=(p.drop i).take (j-i)++[p.getD j 0]:=by
 rw[show j+1-i=(j-i)+1 by omega,aq (d:=0) (by rw[zI6];omega),af3,show i+(j-i)=j by omega]
theorem Lu{p:List Int}{i:Nat}:∀{d j:Nat},j=i+d->j<p.length->(∀t,i<=t->t<j->p.getD (t+1) 0<p.getD t 0)->pd (p.drop i) []=pd (p.drop (j+1)) ((p.drop i).take (j+1-i)).reverse
 |0,j,e,hj,_=>by
  obtain rfl:j=i:=by omega
  rw[rq (zB1 _) hj,Nat.sub_self,List.take_zero,zE1,List.reverse_singleton,aN hj,pd]
 |d+1,j,e,hj,hd=>by
  obtain⟨k,rfl⟩:∃k,j=k+1:=⟨j-1,by omega⟩;rw[Lu (d:=d) (j:=k) (by omega) (by omega) (λt h1 h2=>hd t h1 (by omega)),rq (j:=k) (by omega) (by omega),List.reverse_append,List.reverse_singleton,List.singleton_append,aN hj,pd,zB0 (hd k (by omega) (by omega)),rq (j:=k+1) (by omega) hj,List.reverse_append,List.reverse_singleton,List.singleton_append];rw[show k+1-i=(k-i)+1 by omega]at*
  congr 2;rw[<-show k+1-i=(k-i)+1 by omega,rq (j:=k) (by omega) (by omega),List.reverse_append,List.reverse_singleton,List.singleton_append]
theorem Gd(h:i<=j)(hj:j<p.length)(he:j+1=p.length\/¬p.getD (j+1) 0<p.getD j 0)(hd:∀t,i<=t->t<j->p.getD (t+1) 0<p.getD t 0):
  pd (p.drop i) []=((p.drop i).take (j+1-i)).reverse++pd (p.drop (j+1)) []:=by
 rw[Lu (d:=j-i) (by omega) hj hd,rq h hj,List.reverse_append,List.reverse_singleton,List.singleton_append];by_cases e:j+1=p.length
 .rw[zA6 (by omega)];simp[pd]
 .have h2:¬p.getD (j+1) 0<p.getD j 0:=by
   rcases he with g|g
   .exact absurd g e
   .exact g
  rw[aN (k:=j+1) (by omega)];simp only[pd,zA8 h2]
theorem iH(p:List Int)(hl:p.length<=8):Fun Tryz.prog 160 [lI m0 p] [oI (rN p)]:=by
 refine fO au [2] Tryz.func160 ?_;have cE1:=@aK;refine dE ai trivial (aD λzb=> ?_);refine nw (λ(i:Nat) (o:List Int) S1=>(S1.e 0=.p (lI m0 p)/\eI S1 4 i)/\OwnL (S1.e 3) S1.h S1.n (PV.int .i64) ((o).length) o/\i<=p.length/\o++pd (p.drop i) []=rN p/\o.length=i) (λi _=>p.length-i) 0 [] ?_ (dC trivial aj);rintro i o S1 ⟨fF1,A4,A1,A0,A3⟩;obtain⟨A9,A2,B6⟩:=A4.ou;have fL1:=(aa fF1 A2)
 .by_cases hi:i<p.length
  .refine dE ai fL1 (aI λzb hc=> ?_)
   refine ao (λ(j:Nat) S2=>(S2.e 0=.p (lI m0 p)/\eI S2 4 i/\eI S2 5 j)/\OwnL (S2.e 3) S2.h S2.n (PV.int .i64) ((o).length) o/\(i<=j/\j<p.length)/\(∀t,i<=t->t<j->p.getD (t+1) 0<p.getD t 0)/\S1.n<=S2.n) (λj=>p.length-j) i ?_ (dC fL1 aj);rintro j S2 ⟨fF2,C9,A6,B3,B1⟩;obtain⟨F3,C6,F4⟩:=C9.ou;have fL2:=(aa fF2 C6)
   .have fin:(j+1=p.length\/¬p.getD (j+1) 0<p.getD j 0)->(o++((p.drop i).take (j+1-i)).reverse)++pd (p.drop (j+1)) []=rN p:=λhe=>by
     rw[zA7,<-Gd A6.1 A6.2 he B3];exact A0
    have el:((p.drop i).take (j+1-i)).reverse.length=j+1-i:=by rw[zC4,zD3,zI6];omega
    have ek:List.drop i (List.take (j+1) p)=(p.drop i).take (j+1-i):=List.drop_take;have ej:((j:Int)+1).toNat=j+1:=by omega
    by_cases hj:j+1<p.length
    .by_cases hd:p.getD (j+1) 0<p.getD j 0
     .refine dE ai (aa fL2 (aa @hd @ej)) (aI λzb hc=> ?_)
      refine ak (j+1) (dC fL2 aj) (dC fL2 (aD λzb=> ?_));all_goals(first|(intro t h1 h2;rcases Nat.lt_or_ge t j with g|g;exact B3 t h1 g;obtain rfl:t=j:=(by omega);exact hd)|skip)
     .have q1:=fin (.inr hd)
      have hd':(p.getD (j+1) 0<p.getD j 0)=False:=zC6 hd;refine dE ai (aa fL2 (aa @hd' (aa @ej @ek))) (aI λzb hc=> ?_);refine jC (j+1) (o++((p.drop i).take (j+1-i)).reverse) (dC fL2 aj) (dC fL2 (aD λzb=> ?_));all_goals(first|exact q1|(rw[<-zA7];exact q1)|(rw[zA3,el];omega)|skip)
    .have q1:=fin (.inl (by omega))
     refine dE ai (aa fL2 (aa @ej @ek)) (aI λzb hc=> ?_);refine jC (j+1) (o++((p.drop i).take (j+1-i)).reverse) (dC fL2 aj) (dC fL2 (aD λzb=> ?_));all_goals(first|exact q1|(rw[<-zA7];exact q1)|(rw[zA3,el];omega)|skip)
  .obtain rfl:i=p.length:=by omega
   rw[List.drop_length]at A0;have q1:o=rN p:=by rw[<-A0];simp[pd]
   exact dE ai fL1 aj;all_goals(first|exact q1|(rw[q1];done)|skip)
def oM(p:List Int):Nat->List (List Int)×Nat
 |0=>([],0)
 |i+1=>if i+1=p.length\/p.getD i 0<p.getD (i+1) 0 then((oM p i).1++[[((oM p i).2:Int)+1,(i:Int)+1]],i+1)else oM p i
def HU(q r:List Int):List Int:=q.take (r.getD 0 0-1).toNat++((q.drop (r.getD 0 0-1).toNat).take ((r.getD 1 0).toNat-(r.getD 0 0-1).toNat)).reverse++q.drop (r.getD 1 0).toNat
def qD(L:List (List Int))(q:List Int):List Int:=L.foldl HU q
theorem LN{r:List Int}(h0:1<=r.getD 0 0)(h1:r.getD 0 0<=r.getD 1 0)(h2:r.getD 1 0<=q.length):(HU q r).length=q.length:=by
 unfold HU;simp only[zA3,zC4,zD3,zI6];omega
theorem vI{n:Nat}:∀{L:List (List Int)} {q:List Int},q.length=n->(∀r∈L,1<=r.getD 0 0/\r.getD 0 0<=r.getD 1 0/\r.getD 1 0<=n)->(qD L q).length=n
 |[],_,h,_=>h
 |r::L,q,h,hr=>by
  have:=hr r zH1;rw[qD,List.foldl_cons];exact vI (L:=L) (by rw[LN this.1 this.2.1 (by omega)];exact h) λr hr'=>hr r (zF1 _ hr')
theorem Hc{p:List Int}(hn:p.Nodup):∀{i:Nat},i<=p.length->(oM p i).2<=i/\(oM p i).1.length<=i/\(∀r∈(oM p i).1,r.length=2/\1<=r.getD 0 0/\r.getD 0 0<=r.getD 1 0/\r.getD 1 0<=p.length)/\
  (∀t,(oM p i).2<=t->t<i->p.getD (t+1) 0<p.getD t 0)/\(i=p.length->(oM p i).2=i)/\
  ∃O:List Int,O.length=(oM p i).2/\qD (oM p i).1 p=O++p.drop (oM p i).2/\O++pd (p.drop (oM p i).2) []=rN p
 |0,_=>⟨zB1 _,zB1 _,λr h=>(by cases h),λt _ h=>absurd h (by omega),λh=>rfl,[],rfl,by simp[oM,qD],by simp[oM,rN]⟩
 |i+1,hi=>by
  obtain⟨h1,h2,h3,h4,_,O,o1,o2,o3⟩:=Hc hn (i:=i) (by omega);rw[oM];by_cases hB:i+1=p.length\/p.getD i 0<p.getD (i+1) 0
  .rw[zB0 hB]
   generalize hs:(oM p i).2=s at*
   generalize hL:(oM p i).1=L at*
   simp only;have he:i+1=p.length\/¬p.getD (i+1) 0<p.getD i 0:=by
    rcases hB with g|g
    .exact .inl g
    .exact .inr (by omega)
   have hr:=Gd h1 (by omega) he h4;refine⟨zB1 _,by simp;omega,λr hr=> ?_,λt g1 g2=>by omega,by intros;trivial,O++((p.drop s).take (i+1-s)).reverse, ?_, ?_, ?_⟩
   .rcases zB3.1 hr with g|g
    .exact h3 r g
    .rw[zB7]at g;subst g
     refine⟨rfl, ?_, ?_, ?_⟩<;>simp<;>omega
   .simp only[zA3,zC4,zD3,zI6];omega
   .rw[qD,List.foldl_append,List.foldl_cons,List.foldl_nil,<-qD,o2]
    unfold HU;have e0:([(s:Int)+1,(i:Int)+1].getD 0 0-1).toNat=s:=by simp
    have e1:([(s:Int)+1,(i:Int)+1].getD 1 0).toNat=i+1:=by simp<;>omega
    rw[e0,e1];congr 1
    .congr 1
     .rw[<-o1,zG4 (zB1 _),zE6]
     .rw[<-o1,List.drop_append_of_le_length (zB1 _),List.drop_length,zE1]
    .rw[List.drop_append,zA6 (by omega),zE1,zI4,show s+(i+1-O.length)=i+1 by omega]
   .rw[zA7,<-hr];exact o3
  .rw[zA8 hB]
   refine⟨by omega,by omega,h3,λt g1 g2=> ?_,λe=>absurd (.inl e) hB,O,o1,o2,o3⟩;rcases Nat.lt_or_ge t i with g|g
   .exact h4 t g1 g
   .obtain rfl:t=i:=by omega
    have hne:p.getD t 0≠p.getD (t+1) 0:=λe=>by
     rw[zA0,zA0,zA1 (by omega),zA1 (by omega)]at e;exact List.pairwise_iff_getElem.1 (zH0.1 hn) t (t+1) (by omega) (by omega) (by omega) (by simpa using e)
    omega
theorem YD(hn:p.Nodup):qD (oM p p.length).1 p=rN p:=by
 obtain⟨_,_,_,_,h5,O,o1,o2,o3⟩:=Hc hn (zB1 _);rw[h5 rfl,List.drop_length]at o2 o3;rw[o2,<-o3];simp[pd]
theorem Ak(p:List Int)(hl:p.length<=8)(hn:p.Nodup):Fun Tryz.prog 225 [lI m0 p] [.sl .own (List.map (cK false) ((oM p p.length).1))]:=by
 refine fO au [2] Tryz.func225 ?_;refine dE ai trivial (aD λzb=> ?_);refine ao (λ(i:Nat) S1=>(S1.e 0=.p (lI m0 p)/\eI S1 4 ((oM p i).2)/\eI S1 8 p.length/\eI S1 9 i)/\OwnL (S1.e 3) S1.h S1.n (cK false) (((oM p i).1).length) ((oM p i).1)/\i<=p.length) (λi=>p.length-i) 0 ?_ (dC trivial aj);rintro i S1 ⟨fF1,A4,A1⟩;obtain⟨A9,A2,B6⟩:=A4.ou;have fL1:=(aa fF1 A2)
 .obtain⟨b1,b2,_⟩:=Hc hn A1
  by_cases hi:i<p.length
  .have e0:oM p (i+1)=if i+1=p.length\/p.getD i 0<p.getD (i+1) 0 then((oM p i).1++[[((oM p i).2:Int)+1,(i:Int)+1]],i+1)else oM p i:=rfl
   have ei:((i:Int)+1).toNat=i+1:=by omega
   by_cases hE:i+1=p.length
   .rw[zB0 (.inl hE)]at e0
    have e1:(oM p (i+1)).1=(oM p i).1++[[((oM p i).2:Int)+1,(i:Int)+1]]:=by rw[e0]
    have e2:(oM p (i+1)).2=i+1:=by rw[e0]
    have hE':((i:Int)+1=(p.length:Int))=True:=zF5 (by omega);refine dE ai (aa fL1 (aa @hE' @ei)) (aI λzb hc=> ?_);refine ak (i+1) (dC fL1 aj) (dC fL1 (bu ?_ ?_))<;>intro zb;all_goals(first|(rw[e1];done)|(rw[e2];done)|(rw[e2];rfl)|(rw[e1,zA3];rfl)|(rw[e1,zE2];rfl)|skip)
   .have hE':((i:Int)+1=(p.length:Int))=False:=zC6 (by omega)
    by_cases hr:p.getD i 0<p.getD (i+1) 0
    .rw[zB0 (.inr hr)]at e0
     have e1:(oM p (i+1)).1=(oM p i).1++[[((oM p i).2:Int)+1,(i:Int)+1]]:=by rw[e0]
     have e2:(oM p (i+1)).2=i+1:=by rw[e0]
     refine dE ai (aa fL1 (aa @hE' (aa @hr @ei))) (aI λzb hc=> ?_);refine ak (i+1) (dC fL1 aj) (dC fL1 (bu ?_ ?_))<;>intro zb;all_goals(first|(rw[e1];done)|(rw[e2];done)|(rw[e2];rfl)|(rw[e1,zA3];rfl)|(rw[e1,zE2];rfl)|skip)
    .rw[zA8 (by omega)]at e0
     have hr':(p.getD i 0<p.getD (i+1) 0)=False:=zC6 hr;refine dE ai (aa fL1 (aa @hE' (aa @hr' @ei))) (aI λzb hc=> ?_);refine ak (i+1) (dC fL1 aj) (dC fL1 (yQ ?_ ?_ ?_))<;>intro zb;all_goals(first|(rw[e0];done)|skip)
  .obtain rfl:i=p.length:=by omega
   exact dE ai fL1 aj
theorem fZ(p:List Int)(hl:p.length<=8)(hn:p.Nodup):Fun Tryz.prog 123 [lI m0 p] [oI (rN p)]:=by
 refine fO Bn [2] Tryz.func123 ?_;have cE1:=@aW;have cE2:=@Ak;have cM1:=@d6;have cD1:=d7 (d8 10 [9]) [];have hr:=Bs;obtain⟨_,b2,b3,_⟩:=Hc hn (zB1 p.length);have bp:=YD hn;generalize hF:(oM p p.length).1=F at*
 have cM2:=@hr;refine dE ai @hF (aD λzb=> ?_);refine ao (λ(k:Nat) S1=>(eI S1 10 F.length/\eI S1 11 k)/\OwnL (S1.e 3) S1.h S1.n (PV.int .i64) ((qD (F.take k) p).length) (qD (F.take k) p)/\OwnL (S1.e 9) S1.h S1.n (cK false) ((F).length) F/\k<=F.length/\NId (S1.e 9) (S1.e 3)) (λk=>F.length-k) 0 ?_ (dC trivial aj);rintro k S1 ⟨fF1,A4,Y8,A1,A8⟩;obtain⟨A9,A2,B6⟩:=A4.ou;obtain⟨i1_9,R5,l1_9⟩:=Y8.ou;have di1_9i1_3:=(A8).ou R5.1 A2.1;have fL1:=(aa fF1 (aa A2 (aa R5 di1_9i1_3)))
 .have q1:(qD (F.take k) p).length=p.length:=vI rfl λr hr=>(b3 r (List.mem_of_mem_take hr)).2
  by_cases hk:k<F.length
  .obtain⟨r1,r2,r3,r4⟩:=b3 _ (am (l:=F) (i:=k) (d:=[]) hk)
   have e1:qD (F.take (k+1)) p=HU (qD (F.take k) p) (F.getD k []):=by rw[aq (d:=[]) hk,qD,List.foldl_append];rfl
   unfold HU at e1;have q2:(qD (F.take (k+1)) p).length=p.length:=vI rfl λr hr=>(b3 r (List.mem_of_mem_take hr)).2;have e6:((F.getD k []).getD 0 0-1).toNat+(((F.getD k []).getD 1 0).toNat-((F.getD k []).getD 0 0-1).toNat)=((F.getD k []).getD 1 0).toNat:=by omega
   have cM2:=@hr;refine dE ai fL1 (aI λzb hc=> ?_);refine ak (k+1) (dC fL1 aj) (dC fL1 (aD λzb=> ?_));all_goals(first|(rw[e1];done)|(rw[q1,q2];done)|(rw[e6,e1,zA7];done)|skip)
  .rw[zA2 (by omega),bp]at q1
   have e2:qD (F.take k) p=rN p:=by rw[zA2 (by omega),bp]
   have cM2:=@hr;exact dE ai (aa fL1 @e2) aj;all_goals(first|exact e2|skip)
theorem jS(p:List Int)(hl:p.length<=1048576):Fun Tryz.prog 234 [lI m0 p] [.int .i64 (y4 rN p)]:=by
 by_cases h:ac p=true
 .have c1:=λm0:Bool=>eF (m0:=m0) p 123 rN h (λq hq _=>El hq) (λm q hl hq=>fZ (m0:=m) q hl (permB_iff.1 hq).2)
  rw[y4,zB0 h];refine fO au [2] Tryz.func234 ?_;have cE1:=@ae;have cE2:=@eF;have cE3:=@fZ;have cE1:=@c1;have cE2:=@ae;exact dE ai @h aj
 .rw[y4,zA8 h]
  rw[zA9]at h;refine fO au [2] Tryz.func234 ?_;have cE1:=@ae;have cE2:=@eF;have cE3:=@fZ;exact dE ai @h aj
theorem jO(p:List Int)(hl:p.length<=1048576):Fun Tryz.prog 175 [lI m0 p] [.int .i64 (y4 rN p)]:=by
 by_cases h:ac p=true
 .obtain⟨h8,hq⟩:=al h
  have h64:DG p<=64:=zE0 EG (zI9 h8 h8);rw[y4,zB0 h];refine fO au [2] Tryz.func175 ?_;have cE1:=@ah;have cE2:=@bh;have cE3:=@iH;refine dE ai @h (aD λzb=> ?_);refine xN (λ(b:Bool) (id:Nat) (q:List Int) (k:Nat) (d:Nat) S1=>S1.e 0=(bif b then AV.p (lI m0 q)else AV.ref id 0 q.length)/\eI S1 3 k/\aF q=true/\q.length=p.length/\(k:Int)+AO rN d q=AO rN 64 p/\DG q<=d/\k+d=64/\(b=true\/(id<S1.n/\S1.h id=.live false (List.map (PV.int .i64) q)))) (λ_ _ _ _ d=>d) true 0 p 0 64 ?_ (dC trivial aj);rintro b id q k d S1 ⟨C0,M0,A1,A0,A3,B5,C7,E4⟩;have fL1:=(aa C0 M0)
  .have q8:q.length<=8:=by omega
   obtain⟨f1,f2,f3⟩:=El A1;cases hu:rl q with
   |true=>
    rw[DO hu]at A3;cases b with
    |true=>
     simp only[cond_true]at C0;exact dE ai (aa fL1 (aa @C0 @hu)) aj
    |false=>
     simp only[cond_false]at C0;rcases E4 with e|⟨e1,e2⟩
     .cases e
     .have n4:=dJ e1
      exact dE ai (aa fL1 (aa @C0 (aa @e2 (aa @n4 @hu)))) aj
   |false=>
    have f4:=f3 hu;obtain⟨d,rfl⟩:∃e,d=e+1:=⟨d-1,by omega⟩;rw[AO,hu,zA8 (by decide)]at A3;cases b with
    |true=>
     simp only[cond_true]at C0;refine dE ai (aa fL1 (aa @C0 @hu)) (aD λzb=> ?_);exact nI false (S1.n+1024) (rN q) (k+1) d (dC fL1 aj) (dC fL1 aj);all_goals(first|(rw[<-A3];omega)|skip)
    |false=>
     simp only[cond_false]at C0;rcases E4 with e|⟨e1,e2⟩
     .cases e
     .have n4:=dJ e1
      refine dE ai (aa fL1 (aa @C0 (aa @e2 (aa @n4 @hu)))) (aD λzb=> ?_);exact nI false (S1.n+1024) (rN q) (k+1) d (dC fL1 aj) (dC fL1 aj);all_goals(first|(rw[<-A3];omega)|skip)
 .rw[y4,zA8 h]
  rw[zA9]at h;refine fO au [2] Tryz.func175 ?_;have cE1:=@ah;have cE2:=@bh;have cE3:=@iH;exact dE ai @h aj
end Go.Gl
namespace Go.Gl
open Go Go.Proofs Go.RowKit Go.Lib Go.Maps
variable [Amb][NoQ]
def AbW(z:Nat)(w:World):Prop:=∀B o,Amb.tb B=some o->w.heap[B]? =some o/\B<z
theorem AbW.keep(h:AbW z w)(hk:Keep w w' M)(hM:∀x,M x->z<=x):AbW z w':=λB o hB=>by
 obtain⟨h1,h2⟩:=h B o hB;exact⟨by rw[hk.block B (zC7.1 h1).1 λq=>by have:=hM B q;omega];exact h1,h2⟩
theorem AbW.ha(h:AbW z w):∀B o,Amb.tb B=some o->w.heap[B]? =some o:=λB o hB=>(h B o hB).1
theorem Fun.lookT(hf:Fun P f args [.str s])(w:World)(ha:∀B o,Amb.tb B=some o->w.heap[B]? =some o)(hr:RepL w (λ_=>False) (λ_=>True) args vs):
  Calls P f ⟨vs⟩ w λe w'=>e=.returned (.string ⟨s.toArray⟩)/\Keep w w' (λ_=>False):=
 Fun.look hf (λ_=>rfl) rfl (λ_ _ _ v h=>by simpa only[RepP]using h) w ha hr
def Rq(w:World)(q:List Int)(v:Value):Prop:=RepP w (λ_=>False) (λ_=>True) (.sl (.lent true) (q.map (PV.int .i64))) v
theorem Rq.keep(h:Rq w q v)(hk:∀B a o,w.cell? ⟨B,o,none⟩=some a->w'.heap[B]? =w.heap[B]?):Rq w' q v:=
 RepP.tr (F:=λ_=>False) (λB o v _ hv=>⟨by rw[cell?_same (hk B _ _ hv)];exact hv,id⟩) (λ_ _ _ h=>h) _ _ h
theorem Rq.at(h:Rq w q v)(h0:0<q.length):∃b off c,v=.slice (some ⟨b,off,none⟩) q.length c/\∀j,j<q.length->w.cell? ⟨b,off+j,none⟩=some (.int .i64 (q.getD j 0)):=by
 obtain⟨a,cap,e,_,_,_,h3⟩:∃a cap,v=.slice a (q.map (PV.int .i64)).length cap/\_:=by simpa only[Rq,RepP]using h
 rcases h3 with h3|⟨b,off,rfl,_,_,h3⟩
 .exact absurd (List.map_eq_nil_iff.1 h3) (by rintro rfl;simp at h0)
 .refine⟨b,off,cap,by rw[e,zB2],λj hj=> ?_⟩
  rw[aY]at h3;obtain⟨u,u1,_,u3⟩:=h3 j (.int .i64 (q.getD j 0)) (by rw[zA5,zA0,zA1 hj];rfl);rw[u1];simp only[RepP]at u3;rw[u3]
theorem WY{l:Loc}(h:Own w (bI q) l)(hv:tT l q.length v)(h0:0<q.length):
  v=.slice (some ⟨l.B,l.off,none⟩) q.length l.cap/\(∀j,j<q.length->w.cell? ⟨l.B,l.off+j,none⟩=some (.int .i64 (q.getD j 0)))/\(∀j,j<q.length->w.frozen? ⟨l.B,l.off+j,none⟩=false)/\q.length<=l.cap/\l.cap<=maxLen/\owns (bI q) l l.B:=by
 obtain⟨n1,n2,n3⟩:=id h;rw[zB2]at n1;have hc:l.cap≠0:=by omega
 obtain⟨a,rfl,ha⟩:=hv;obtain rfl:=ha.resolve_left hc;obtain⟨⟨cs,E,lo,hi,g1,g2,g3⟩,g4,_⟩:=n3.resolve_left hc;refine⟨rfl,λj hj=> ?_,λj hj=> ?_,n1,n2,hc,rfl⟩
 .rw[aY]at g4
  obtain⟨u,u1,_,u3⟩:=g4 j (.int .i64 (q.getD j 0)) (by rw[zA5,zA0,zA1 hj];rfl);simp only[RepP]at u3;rw[u1,u3]
 .rcases g3 with g3|⟨g3,_⟩
  .simp only[World.frozen?,g1];simp;omega
  .cases g3
theorem abl{c:Nat}(h:∀j,j<q.length->w.cell? ⟨b,off+j,none⟩=some (.int .i64 (q.getD j 0)))(h1:q.length<=c)(h2:c<=maxLen):Rq w q (.slice (some ⟨b,off,none⟩) q.length c):=by
 simp only[Rq,RepP];refine⟨_,_,by rw[zB2],by rw[zB2];exact h1,h2,(by intro e;cases e),.inr ⟨b,off,rfl,λh=>h,(by intro e;cases e), ?_⟩⟩;rw[aY];intro j x hj;rw[zA5]at hj;by_cases hl:j<q.length
 .rw[zA1 hl]at hj
  simp only[zE4,zF2]at hj;subst hj;refine⟨_,h j hl,rfl, ?_⟩;rw[zA0,zA1 hl];simp only[RepP,zH5]
 .rw[zG9 (by omega)]at hj;cases hj
theorem KJ{x y:Int}(hi:i+1<p.length)(hc:∀j,j<p.length->w.cell? ⟨b,off+j,none⟩=some (.int .i64 (p.getD j 0)))(hx:x=p.getD (i+1) 0)(hy:y=p.getD i 0):
  Tnd w ((w.setCell ⟨b,off+i,none⟩ (.int .i64 x)).setCell ⟨b,off+(i+1),none⟩ (.int .i64 y)).drew b/\
  ∀j,j<(sD p i).length->((w.setCell ⟨b,off+i,none⟩ (.int .i64 x)).setCell ⟨b,off+(i+1),none⟩ (.int .i64 y)).drew.cell? ⟨b,off+j,none⟩=some (.int .i64 ((sD p i).getD j 0)):=by
 subst hx;subst hy;refine⟨((Tnd.setCell _ _ _ _).trans (Tnd.setCell _ _ _ _)).trans (Tnd.drew _ _),λj hj=> ?_⟩;rw[dT]at hj;show((w.setCell ⟨b,off+i,none⟩ (.int .i64 (p.getD (i+1) 0))).setCell ⟨b,off+(i+1),none⟩ (.int .i64 (p.getD i 0))).cell? ⟨b,off+j,none⟩=_;have ne:∀{m k:Nat},m≠k->(⟨b,off+m,none⟩:Addr)≠⟨b,off+k,none⟩:=λh e=>h (by injection e with _ e _;omega);by_cases e1:j=i+1
 .rw[e1]
  rw[World.cell?_setCell_same (u:=.int .i64 (p.getD (i+1) 0)) (h:=by rw[World.cell?_setCell_other (h:=ne (by omega))];exact hc _ hi)];simp[sD,zA0,hi]
 .rw[World.cell?_setCell_other (h:=ne (by omega))]
  by_cases e2:j=i
  .subst e2
   rw[World.cell?_setCell_same (h:=hc _ hj)];simp[sD,zA0,hj]
  .rw[World.cell?_setCell_other (h:=ne (by omega)),hc j hj]
   simp only[sD,zA0];rw[List.getElem?_set_ne (by omega),List.getElem?_set_ne (by omega)]
theorem kyl:Keyed Tryz.prog 9:=string_keyed Tryz.underlying9
theorem kyz(w:World):(zeroValue 3).run Tryz.prog w=.ok (.int .i64 0) w:=by kernel_rfl
def UO(p:List Int):Lit:=.string (cO p)
theorem MW:keyOf Tryz.prog 9 (.string ⟨(cO p).toArray⟩)=some (UO p):=by
 have:=kv p;exact Go.WideMaps.keyOf_string_mk Tryz.underlying9 (by show(cO p).length<=_;unfold maxLen;omega)
abbrev MD:=DataW Unit
def acz(n:Int):MD:=.lit (.int .i64 n)
def Pa(n:Nat)(D:MD):Prop:=∀q,aF q=true->q.length=n->Maps.has D (UO q)=true->D.atKey (UO q) (acz 0)=acz (o5 q)
theorem rS{D:MD}(h:w.ownsMap Tryz.prog 9 (plainElem Tryz.prog 3) B k D):B<w.heap.size:=by
 obtain⟨es,cl,h1,_⟩:=h;exact(zC7.1 h1).1
theorem m5{D:MD}(h:w.ownsMap Tryz.prog 9 (plainElem Tryz.prog 3) B k D)(e:w'.heap[B]? =w.heap[B]?):w'.ownsMap Tryz.prog 9 (plainElem Tryz.prog 3) B k D:=by
 obtain⟨es,cl,h1,h2⟩:=h;exact⟨es,cl,by rw[e];exact h1,h2⟩
def crM(a:Act):Nat:=match (a.tmps[9]? :Option Value)with
 |some (Value.int _ n)=>(10-n).toNat
 |_=>0
theorem Kx(h:Tnd w w' b):Keep w w' (λx=>x=b):=⟨h.os,h.tape,h.output,h.size,λk hk hn=>h.other k hk hn,λ_=>h.drawn⟩
theorem RY{w1 w2 w3 w4 w5:World}(hB:B<w1.heap.size)(h1:Keep w1 w2 (λ_=>False))(h2:Keep w2 w3 (λ_=>False))(h3:Keep w3 w4 (λx=>x=b))(h4:Keep w4 w5 (λx=>x=B))(hb:w2.heap.size<=b):Keep w1 w5 (λx=>x=B):=by
 have s1:=h1.size;have s2:=h2.size;have s3:=h3.size;have k:=(((gW h1 (M':=λx=>x=b\/x=B) (λ_ q=>q.elim)).trans (gW h2 (λ_ q=>q.elim))).trans (gW h3 (λ_ q=>.inl q))).trans (gW h4 (λ_ q=>.inr q));exact⟨k.os,k.tape,k.output,k.size,λi hi hn=>k.block i hi λq=>q.elim (λe=>by omega) hn,k.drawn⟩
set_option maxHeartbeats 4000000
theorem adt:∀(f:Nat) (p:List Int),aF p=true->1<=p.length->p.length<=6->de p p.length<=f->∀(z B k:Nat) (D:MD) (w:World) (v:Value),AbW z w->z<=B->w.ownsMap Tryz.prog 9 (plainElem Tryz.prog 3) B k D->k+6^f<=1000000000000->Pa p.length D->Rq w p v->
  Calls Tryz.prog 255 #[v,.map (some B)] w λe w'=>e=.returned (.int .i64 (o5 p))/\∃k' D',k'+1<=k+6^f/\w'.ownsMap Tryz.prog 9 (plainElem Tryz.prog 3) B k' D'/\Pa p.length D'/\Keep w w' (λx=>x=B):=by
 intro f
 induction f with
 |zero=>
  intro p hp h1 h6 hi z B k D w v hA hz hM hb hG hR;have hu:=(mP hp h6).2.1 (by omega);have hpp:ac p=true:=by rw[ac,hp,zG1];exact zB6 (by omega)
  obtain⟨b,off,c,rfl,hc⟩:=hR.at (by omega);rw[zu hu]
  go_enter Tryz.func255,Tryz.ntmps255
  go_wp2_with fail
  refine(Fun.lookB (br (m0:=true) p hpp) w hA.ha (vs:=[_]) (jB hR lD)).mono ?_;rintro e w1 ⟨rfl,k1⟩;rw[hu];show _
  go_wp2_with fail
  go_ret
  exact⟨rfl,k,D,by omega,m5 hM (k1.same B (rS hM)),hG,gW k1 (λ_ q=>q.elim)⟩
 |succ f ih=>
  intro p hp h1 h6 hi z B k D w v hA hz hM hb hG hR;have hpp:ac p=true:=by rw[ac,hp,zG1];exact zB6 (by omega)
  obtain⟨b,off,cp,rfl,hc⟩:=hR.at (by omega);obtain⟨_,_,s2⟩:=mP hp h6;cases hu:rl p with
  |true=>
   rw[zu hu]
   go_enter Tryz.func255,Tryz.ntmps255
   go_wp2_with fail
   refine(Fun.lookB (br (m0:=true) p hpp) w hA.ha (vs:=[_]) (jB hR lD)).mono ?_;rintro e w1 ⟨rfl,k1⟩;rw[hu];show _
   go_wp2_with fail
   go_ret
   exact⟨rfl,k,D,by have:0<6^(f+1):=Nat.pow_pos (by decide);omega,m5 hM (k1.same B (rS hM)),hG,gW k1 (λ_ q=>q.elim)⟩
  |false=>
   rw[Gb hp h6 hu]
   go_enter Tryz.func255,Tryz.ntmps255
   go_wp2_with fail
   refine(Fun.lookB (br (m0:=true) p hpp) w hA.ha (vs:=[_]) (jB hR lD)).mono ?_;rintro e w1 ⟨rfl,k1⟩;rw[hu];show _
   go_wp2_with fail
   have hR1:Rq w1 p (.slice (some ⟨b,off,none⟩) p.length cp):=hR.keep λx a o ha=>k1.same x (cell?_lt ha);refine(Fun.lookT (be (m0:=true) p (by omega)) w1 (hA.keep k1 (λ_ q=>q.elim)).ha (vs:=[_]) (jB hR1 lD)).mono ?_;rintro e w2 ⟨rfl,k2⟩;show _;have hM2:w2.ownsMap Tryz.prog 9 (plainElem Tryz.prog 3) B k D:=m5 (m5 hM (k1.same B (rS hM))) (k2.same B (by have:=rS hM;have:=k1.size;omega));cases hh:Maps.has D (UO p)with
   |true=>
    go_wp2_with (at_lookup;refine wpList_lookup_own_ok_int _ rfl _ _ 151 rfl 9 3 .i64 kyl Tryz.underlying151 Tryz.underlying3 (kyz _) B k D rfl hM2 _ _ rfl MW ?_;intro c hat hwc)
    go_ret
    have hc:D.atKey (UO p) (.lit (.int .i64 0))=.lit (.int .i64 (o5 p)):=hG p hp rfl hh;rw[hc]at hat;simp only[DataW.lit.injEq,Lit.int.injEq,true_and]at hat;rw[Gb hp h6 hu]at hat;subst hat;exact⟨rfl,k,D,by rw[zG7];have:0<6^f:=Nat.pow_pos (by decide);omega,hM2,hG,(gW k1 (λ_ q=>q.elim)).trans (gW k2 (λ_ q=>q.elim))⟩
   |false=>
    go_wp2_with (at_lookup;refine wpList_lookup_own_ok_int _ rfl _ _ 151 rfl 9 3 .i64 kyl Tryz.underlying151 Tryz.underlying3 (kyz _) B k D rfl hM2 _ _ rfl MW ?_;intro c hat hwc)
    refine wp_loop (λa w3=>∃(i k':Nat) (D':MD) (x10 x11 x12 x13 x14 x15 x16 x17 x18 x19 x20 x21 x22 x23 x24 x25 x26 x27 x28 x29 x30 x31 x32 x33 x34 x35 x36 x37 x38 x39 x40 x41 x42 x43 x44 x45 x46 x47 x48 x49 x50 x51 x52 x53 x54 x55 x56 x57 x58 x59 x60 x61 x62 x63 x64 x65:Value),a={tmps:=((Value.slice (some ⟨b,off,none⟩) p.length cp)::(.map (some B))::undef::undef::(.int .i64 0)::(.string ⟨(cO p).toArray⟩)::(.int .i64 c)::(.bool false)::(.int .i64 (uj o5 p i))::(.int .i64 ((i+1:Nat):Int))::x10::x11::x12::x13::x14::x15::x16::x17::x18::x19::x20::x21::x22::x23::x24::x25::x26::x27::x28::x29::x30::x31::x32::x33::x34::x35::x36::x37::x38::x39::x40::x41::x42::x43::x44::x45::x46::x47::x48::x49::x50::x51::x52::x53::x54::x55::x56::x57::x58::x59::x60::x61::x62::x63::x64::x65::[]).toArray,defers:=[]}/\i+1<=p.length/\k'+i<=k+i*6^f/\w3.ownsMap Tryz.prog 9 (plainElem Tryz.prog 3) B k' D'/\Pa p.length D'/\Keep w w3 (λx=>x=B)) (λa _=>crM a) ⟨0,k,D,_,_,_,_,_,_,_,_,_,_,_,_,_,_,_,_,_,_,_,_,_,_,_,_,_,_,_,_,_,_,_,_,_,_,_,_,_,_,_,_,_,_,_,_,_,_,_,_,_,_,_,_,_,_,_,_,rfl,h1,by omega,hM2,hG,(gW k1 (λ_ q=>q.elim)).trans (gW k2 (λ_ q=>q.elim))⟩ ?_;rintro a w3 ⟨i,k',D',x10,x11,x12,x13,x14,x15,x16,x17,x18,x19,x20,x21,x22,x23,x24,x25,x26,x27,x28,x29,x30,x31,x32,x33,x34,x35,x36,x37,x38,x39,x40,x41,x42,x43,x44,x45,x46,x47,x48,x49,x50,x51,x52,x53,x54,x55,x56,x57,x58,x59,x60,x61,x62,x63,x64,x65,rfl,hi3,hk3,hM3,hG3,k3⟩;have hbB:∀{w':World} {E:MD} {m:Nat},w'.ownsMap Tryz.prog 9 (plainElem Tryz.prog 3) B m E->∀x a o,w'.cell? ⟨x,o,none⟩=some a->x≠B:=λhh x a o hx e=>by
     subst e;obtain⟨es,cl,g1,_⟩:=hh;rw[cell?_eq,g1]at hx;cases hx
    have hR3:Rq w3 p (.slice (some ⟨b,off,none⟩) p.length cp):=hR.keep λx a o ha=>k3.block x (cell?_lt ha) (hbB hM x a o ha);have hc3:∀j,j<p.length->w3.cell? ⟨b,off+j,none⟩=some (.int .i64 (p.getD j 0)):=λj hj=>by
     rw[cell?_same (k3.block b (cell?_lt (hc j hj)) (hbB hM _ _ _ (hc j hj)))];exact hc j hj
    have s4:=Lw hp h6 (k:=i) (by omega);by_cases hl:i+1<p.length
    .have e1:=hc3 i (by omega)
     have e2:=hc3 (i+1) hl;have s3:=s2 i hl;have q4:uj o5 p (i+1)=uj o5 p i+if p.getD (i+1) 0<p.getD i 0 then o5 (sD p i)else 0:=rfl
     obtain⟨x,hx⟩:∃x,p.getD i 0=x:=⟨_,rfl⟩;obtain⟨y,hy⟩:∃y,p.getD (i+1) 0=y:=⟨_,rfl⟩;rw[hx]at e1;rw[hy]at e2;rw[hx,hy]at s3 q4;clear hc3;have kd:Keep w3 w3.drew (λ_=>False):=⟨rfl,rfl,rfl,zB1 _,λ_ _ _=>rfl,λ_=>Nat.le_succ _⟩;by_cases hd:y<x
     .go_wp2_with fail
      go_region
      go_wp2_with fail
      have hR3':Rq w3.drew p (.slice (some ⟨b,off,none⟩) p.length cp):=hR3.keep λ_ _ _ _=>rfl;have hA3:=(hA.keep k3 (λx hx=>by rw[hx];exact hz)).keep kd (λ_ q=>q.elim);refine(Fun.row (aW (m0:=true) p (by omega)) (by simp[aZ,impWs,impW,impW1,hwsH]) w3.drew hA3.ha (vs:=[_]) (jB hR3' lD)).mono ?_;rintro e w4 ⟨qv,ql,rfl,qh,qo,qn,k4⟩;obtain⟨rfl,hq,hf,l1,l2,l3⟩:=WY qo qh (by omega);have qn':=qn _ l3;generalize ql.B=qb at*
      generalize ql.off=qf at*
      generalize ql.cap=qc at*
      have q1:=hq i (by omega);have q2:=hq (i+1) hl;rw[hx]at q1;rw[hy]at q2;obtain⟨T,hT⟩:=KJ hl hq hy.symm hx.symm;clear hq;have f1:=hf i (by omega);have f2:=hf (i+1) hl;clear hf;show _
      go_wp2_with fail
      go_region
      go_wp2_with fail
      obtain⟨g1,g2⟩:=s3 hd;have kT:=Kx T;have z3:w3.heap.size<=w4.heap.size:=k4.size;have bq:B≠qb:=λe=>by have:=rS hM3;have:w3.heap.size<=qb:=qn';omega
      have hM4:=m5 (m5 hM3 (k4.same B (rS hM3))) (kT.block B (by have:=rS hM3;omega) bq);have hA4:=(hA3.keep k4 (λ_ q=>q.elim)).keep kT (λx hx=>by rw[hx];have:=rS hM3;have:w3.heap.size<=qb:=qn';omega);have q6:=ih (sD p i) g1 (by rw[dT];omega) (by rw[dT];exact h6) (by omega) z B k' D' _ _ hA4 hz hM4 (by have:(i+1)*6^f<=5*6^f:=zD9 _ (by omega);rw[zG7]at hb;rw[Nat.succ_mul]at this;omega) (by rw[dT];exact hG3) (abl hT (by rw[dT];exact l1) l2);rw[dT]at q6;refine q6.mono ?_;rintro e w5 ⟨rfl,k5,D5,r1,r2,r3,r4⟩;have q5:=Gc g1 (by rw[dT];exact h6);rw[zB0 hd]at q4;generalize hv:o5 (sD p i)=v at*
      show _
      go_wp2_with fail
      have k35:Keep w3 w5 (λx=>x=B):=RY (rS hM3) kd k4 kT r4 qn';refine⟨⟨i+1,k5,D5,_,_,_,_,_,_,_,_,_,_,_,_,_,_,_,_,_,_,_,_,_,_,_,_,_,_,_,_,_,_,_,_,_,_,_,_,_,_,_,_,_,_,_,_,_,_,_,_,_,_,_,_,_,_,_,_,by rw[q4];rfl,by omega,by rw[Nat.succ_mul];omega,r2,r3,k3.trans k35⟩, ?_⟩;simp[crM];omega
     .rw[zA8 hd,Int.add_zero]at q4
      go_wp2_with fail
      go_region
      go_wp2_with fail
      refine⟨⟨i+1,k',D',_,_,_,_,_,_,_,_,_,_,_,_,_,_,_,_,_,_,_,_,_,_,_,_,_,_,_,_,_,_,_,_,_,_,_,_,_,_,_,_,_,_,_,_,_,_,_,_,_,_,_,_,_,_,_,_,by rw[q4];rfl,by omega,by rw[Nat.succ_mul];have:0<6^f:=Nat.pow_pos (by decide);omega,m5 hM3 rfl,hG3,k3.trans (gW kd (λ_ q=>q.elim))⟩, ?_⟩;simp[crM];omega
    .obtain rfl:i=p.length-1:=by omega
     have e9:p.length-1+1=p.length:=by omega
     rw[e9]
     go_wp2_with (at_mapUpdate;refine wpList_mapUpdate_own _ rfl _ _ _ 151 rfl 9 3 kyl Tryz.underlying151 _ B k' _ rfl hM3 (by unfold maxLen;have:(p.length-1)*6^f<=5*6^f:=zD9 _ (by omega);rw[zG7]at hb;omega) _ _ _ rfl rfl MW _ [] (plainElem_int Tryz.underlying3 (WalkArith.wf_i64 (by omega))) ?_;intro w6 hM6 hg6)
     go_ret
     refine⟨rfl,k'+1,_, ?_,hM6, ?_,k3.trans ⟨hg6.os,hg6.tape,hg6.output,hg6.size,λx hx hn=>hg6.block x hx (λe=>hn (by injection e)),λq=>by rw[NoQ.no]at q;cases q⟩⟩
     .have:(p.length-1)*6^f<=5*6^f:=zD9 _ (by omega)
      have:0<6^f:=Nat.pow_pos (by decide);rw[zG7];rcases Nat.eq_zero_or_pos (p.length-1)with e|e
      .rw[e,Nat.zero_mul]at hk3;omega
      .omega
     .intro q hq hn hs
      by_cases e:UO q=UO p
      .have:q=p:=AZ hpp (by rw[ac,hq,zG1];exact zB6 (by omega)) (by rintro rfl;simp at h1) hn (by injection e)
       subst this;rw[atKey_put_same hM3.isMap (show WideAt.IsKeyLit (UO q)from trivial),Gb hp h6 hu];rfl
      .rw[has_put_other e]at hs
       rw[atKey_put_other e];exact hG3 q hq hn hs
theorem Tp(p:List Int)(hl:p.length<=1048576)(w:World)(v:Value)(ha:∀B o,Amb.tb B=some o->w.heap[B]? =some o)(hR:Rq w p v):Calls Tryz.prog 135 #[v] w λe w'=>e=.returned (.int .i64 (Jv p))/\Keep w w' (λ_=>False):=by
 have hA:AbW w.heap.size w:=λB o hB=>⟨ha B o hB,(zC7.1 (ha B o hB)).1⟩;obtain⟨a,cp,rfl⟩:∃a cp,v=.slice a p.length cp:=by
  obtain⟨a,cp,e,_⟩:∃a cap,v=.slice a (p.map (PV.int .i64)).length cap/\_:=by simpa only[Rq,RepP]using hR
  exact⟨a,cp,by rw[e,zB2]⟩
 by_cases h:ac p=true/\1<=p.length/\p.length<=6
 .obtain⟨h1,h2,h3⟩:=id h
  have hp:=(al h1).2;have l1:((p.length:Int)==0)=false:=by rw[beq_eq_false_iff_ne];omega
  have l2:¬((6:Int)<(p.length:Int)):=by omega
  rw[Jv,zB0 h];have hmm:=@run_makeMap Tryz.prog
  go_enter Tryz.func135,Tryz.ntmps135
  go_wp2_with fail
  refine(Fun.lookB (ae (m0:=true) p hl) w ha (vs:=[_]) (jB hR lD)).mono ?_;rintro e w1 ⟨rfl,k1⟩;rw[h1];show _
  go_wp2_with fail
  have pA:=Pushed.alloc w1 (.map #[] 0);have kA:=k1.trans (pA.keep (λ_=>False));refine(adt 15 p hp h2 h3 (mP hp h3).1 w.heap.size w1.heap.size 0 (.map []) _ _ (hA.keep kA (λ_ q=>q.elim)) k1.size (World.ownsMap_made _ _ _ _) (by decide) (λq _ _ hh=>by simp[Maps.has]at hh) (hR.keep λx a o hx=>kA.same x (cell?_lt hx))).mono ?_;rintro e w2 ⟨rfl,k',D',_,_,_,kk⟩;show _
  go_wp2_with fail
  go_ret
  exact⟨rfl,Nb ((gW kA (M':=λx=>x=w1.heap.size) (λ_ q=>q.elim)).trans kk) (λx hx=>by rw[hx];exact k1.size)⟩
 .rw[Jv,zA8 h]
  cases h1:ac p with
  |false=>
   go_enter Tryz.func135,Tryz.ntmps135
   go_wp2_with fail
   refine(Fun.lookB (ae (m0:=true) p hl) w ha (vs:=[_]) (jB hR lD)).mono ?_;rintro e w1 ⟨rfl,k1⟩;rw[h1];show _
   go_wp2_with fail
   go_ret
   exact⟨rfl,k1⟩
  |true=>
   have h2:p.length=0\/6<p.length:=by
    by_cases q:p.length=0
    .exact .inl q
    .exact .inr (Nat.lt_of_not_le λr=>h ⟨h1,by omega,r⟩)
   go_enter Tryz.func135,Tryz.ntmps135
   go_wp2_with fail
   refine(Fun.lookB (ae (m0:=true) p hl) w ha (vs:=[_]) (jB hR lD)).mono ?_;rintro e w1 ⟨rfl,k1⟩;rw[h1];show _;rcases h2 with h2|h2
   .have l1:((p.length:Int)==0)=true:=by rw[beq_iff_eq];omega
    go_wp2_with fail
    go_ret
    exact⟨rfl,k1⟩
   .have l1:((p.length:Int)==0)=false:=by rw[beq_eq_false_iff_ne];omega
    have l2:(6:Int)<(p.length:Int):=by omega
    go_wp2_with fail
    go_ret
    exact⟨rfl,k1⟩
theorem pQ(p:List Int)(hl:p.length<=1048576):Fun Tryz.prog 135 [lI m0 p] [.int .i64 (Jv p)]:=by
 refine Fun.of_plain (v:=.int .i64 (Jv p)) Tryz.func135 rfl (by decide) rfl λw F G vs ha hr=> ?_;simp only[RepL]at hr;obtain⟨v,_,rfl,hv,rfl⟩:=hr;have hv:Rq w p v:=by
  simp only[Rq,RepP]at hv |-
  obtain⟨a,c,e1,e2,e3,_,e5⟩:=hv;refine⟨a,c,e1,e2,e3,(by intro e;cases e),e5.imp id λ⟨B,off,f1,f2,f3,f4⟩=>⟨B,off,f1,λh=>h,(by intro e;cases e),Gi f4⟩⟩
 refine(Tp p hl w v ha hv).mono ?_;rintro e w' ⟨rfl,k⟩;exact⟨rfl,k.os,k.tape,k.output,k.size,λB hB=>k.same B hB⟩
end Go.Gl
