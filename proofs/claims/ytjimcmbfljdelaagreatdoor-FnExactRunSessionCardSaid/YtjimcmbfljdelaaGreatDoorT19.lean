/-
  What the functions compute, and what the law asks of it: texts joined. Conditions: those that each lemma names.
-/
import Derived.Test.YtjimcmbfljdelaaGreatDoorT13
import Derived.Test.YtjimcmbfljdelaaGreatDoorT3
import Derived.Test.YtjimcmbfljdelaaGreatDoorT1
import Derived.Test.YtjimcmbfljdelaaGreatDoorShelfS
import Derived.Test.YtjimcmbfljdelaaGreatDoorT6
set_option linter.unusedSimpArgs false
set_option linter.unusedVariables false
set_option maxRecDepth 20000
set_option linter.unusedSectionVars false
set_option maxHeartbeats 16000000
variable{L R:List Int}{p x:Int}{i j:Nat}{f:Go.FuncId}{e0 m0:Bool}
namespace Go.Gl
open Go Go.Proofs
variable [Amb][NoQ]
def AJ(L:List Int)(x:Int):Nat->Nat
 |0=>0
 |k+1=>if x<L.getD k 0 then AJ L x k else k+1
theorem Dt{L:List Int}{p:Int}:∀{k:Nat},AJ L p k<=k/\(∀i,AJ L p k<=i->i<k->p<L.getD i 0)/\(AJ L p k=0\/¬p<L.getD (AJ L p k-1) 0)
 |0=>⟨zB1 _,λi _ h=>absurd h (by omega),.inl rfl⟩
 |k+1=>by
  rw[AJ];by_cases e:p<L.getD k 0
  .rw[zB0 e]
   obtain⟨h1,h2,h3⟩:=Dt (L:=L) (p:=p) (k:=k);grind
  grind
def lu(L:List Int)(x:Int)(j:Nat):List Int:=L.take j++x::L.drop j
def un(L:List Int)(x:Int):List Int:=lu L x (AJ L x L.length)
def cW(L:List Int):List Int:=L.foldl un []
theorem fY:(lu L p j).length=L.length+1:=by
 grind [lu]
theorem Iw:(un L x).Perm (x::L):=by
 grind [un,lu,zF0]
theorem KY(L:List Int):∀{A:List Int},(L.foldl un A).Perm (L++A):=by
 induction L with
 |nil=>grind
 |cons y l ih=>
  grind [Iw]
theorem srtI_perm:(cW L).Perm L:=by
 have:=KY L (A:=[]);rw[zC0]at this;exact this
theorem me:(cW L).length=L.length:=srtI_perm.length_eq
theorem QO(h:L.Pairwise (·<=·))(hij:i<j)(hj:j<L.length):L.getD i 0<=L.getD j 0:=by
 grind [List.pairwise_iff_getElem]
theorem Sh(h:L.Pairwise (·<=·)):(un L x).Pairwise (·<=·):=by
 obtain⟨h1,h2,h3⟩:=Dt (L:=L) (p:=x) (k:=L.length);have q:=h;rw[<-zF0 (AJ L x L.length) L,List.pairwise_append]at q;unfold un lu;rw[List.pairwise_append,zF6];have lo:∀y∈L.take (AJ L x L.length),y<=x:=λy hy=>by
  obtain⟨i,hi,e⟩:=zE7 hy;simp only[zD3]at hi;rw[List.getElem_take]at e;have e2:L.getD i 0=y:=by grind
  rcases h3 with h3|h3
  .omega
  .by_cases q:i=AJ L x L.length-1
   .rw[<-q]at h3;omega
   .have:=QO h (i:=i) (j:=AJ L x L.length-1) (by omega) (by omega);omega
 have hi:∀y∈L.drop (AJ L x L.length),x<=y:=λy hy=>by
  obtain⟨i,hi,e⟩:=zE7 hy;simp only[zI6]at hi;rw[List.getElem_drop]at e;have e2:L.getD (AJ L x L.length+i) 0=y:=by grind
  grind
 grind
theorem VZ(L:List Int):∀{A:List Int},A.Pairwise (·<=·)->(L.foldl un A).Pairwise (·<=·):=by
 induction L with
 |nil=>exact λh=>h
 |cons x l ih=>grind [Sh]
theorem PX:(cW L).Pairwise (·<=·):=VZ L List.Pairwise.nil
theorem Ui:∀{A B:List Int},A.Pairwise (·<=·)->B.Pairwise (·<=·)->A.Perm B->A=B
 |[],B,_,_,h=>by simp_all
 |a::A,[],_,_,h=>by simp_all
 |a::A,b::B,ha,hb,h=>by
  have pa:=zF6.1 ha;have pb:=zF6.1 hb;have e:a=b:=by
   have h1:a∈b::B:=h.subset (by simp);have h2:b∈a::A:=h.symm.subset (by simp);grind
  subst e;rw[Ui pa.2 pb.2 (List.perm_cons a |>.1 h)]
theorem sB{L:List Int}{p:Int}:∀{k j:Nat},j<=k->(∀q,j<=q->q<k->p<L.getD q 0)->(0<j->¬p<L.getD (j-1) 0)->AJ L p k=j
 |0,j,h,_,_=>by rw[AJ];omega
 |k+1,j,h,h1,h2=>by
  rw[AJ];by_cases e:j=k+1
  .grind
  .rw[zB0 (h1 k (by omega) (by omega))]
   exact sB (by omega) (λq a b=>h1 q a (by omega)) h2
theorem tw{α:Type}{A B:List α}{d:α}(h:i<A.length):(A++B).getD i d=A.getD i d:=by
 grind
theorem Sk(h:j<=L.length):(lu L p j).getD j 0=p:=by
 grind [lu]
theorem Sj(h:j<=L.length)(hi:i<j):(lu L p j).getD i 0=L.getD i 0:=by
 grind [lu]
theorem Ix(h0:0<j)(h:j<=L.length):((lu L p j++R).set j (L.getD (j-1) 0)).set (j-1) p=lu L p (j-1)++R:=by
 obtain⟨i,rfl⟩:∃i,j=i+1:=⟨j-1,by omega⟩;rw[Nat.add_sub_cancel];apply zI7;intro q;have l1:(lu L p (i+1)++R).length=L.length+1+R.length:=by grind [fY]
 rw[List.getElem?_set,List.getElem?_set,zI1,l1];have hd:∀{a:Nat},a<L.length->L[a]? =some (L.getD a 0):=λ{a} ha=>by grind
 have key:∀{k q:Nat},k<=L.length->q<L.length+1->(lu L p k)[q]? =if q<k then L[q]? else if q=k then some p else L[q-1]? :=λ{k q} hk hq=>by
  unfold lu;grind
 by_cases hq:q<L.length+1
 .rw[zD8 (by rw[fY];exact hq),zD8 (by rw[fY];exact hq),key (by omega) hq,key (by omega) hq]
  by_cases e1:i=q
  .subst e1;rw[zB0 rfl,zB0 (by omega),zA8 (by omega),zB0 rfl]
  .rw[zA8 e1]
   by_cases e2:i+1=q
   .subst e2;rw[zB0 rfl,zB0 (by omega),zA8 (by omega),zA8 (by omega),Nat.add_sub_cancel,hd (by omega)]
   .rw[zA8 e2]
    by_cases e3:q<i
    .rw[zB0 (by omega),zB0 e3]
    .rw[zA8 (by omega),zA8 (by omega),zA8 e3,zA8 (by omega)]
 .rw[zA8 (by omega),zA8 (by omega),zD1 (by rw[fY];omega),zD1 (by rw[fY];omega),fY,fY]
theorem iq(h:i<L.length):cW (L.take (i+1))=un (cW (L.take i)) (L.getD i 0):=by
 grind [aq,cW]
theorem FU(h:i<=L.length):(cW (L.take i)).length=i:=by
 grind [me]
theorem No:lu L p L.length=L++[p]:=by unfold lu;simp
theorem KZ:cW (L.take 1)=L.take 1:=by
 cases L with
 |nil=>rfl
 |cons a l=>rfl
theorem aah(a b:Int):Fun Tryz.prog 382 [.int .i64 a,.int .i64 b] [.bool (decide (a<b))]:=by
 refine fO au [4] Tryz.func382 ?_;have cE1:=@uy;exact dE ai trivial aj
theorem AH(n:Int)(h0:0<=n)(h1:n<=255):Fun Tryz.prog 384 [.int .u64 n] [.int .i64 (Lib.bitLen n.toNat:Int)]:=by
 refine Fun.of_plain Tryz.func384 rfl rfl rfl ?_;intro w F G vs _ hv;simp only[RepL]at hv;obtain⟨a,vs1,rfl,ha,rfl⟩:=hv;have ha:=zG ha;subst ha;exact(Tryz.bits_Len64 n w h0 (by omega)).mono λe w' h=>⟨h.1,h.2▸Go.RowKit.Below.refl _ _⟩
theorem rY(n:Int)(h0:0<=n)(h1:n<=255):Fun Tryz.prog 375 [.int .u64 n] [.int .i64 ((Lib.bitLen n.toNat:Int))]:=by
 refine fO au [2] Tryz.func375 ?_;have cE1:=@AH;exact dE ai trivial aj
theorem iA(Z:List Int)(hl:Z.length<=12):CallT Tryz.prog false 392 [.mu false (List.map (PV.int .i64) Z),.pv (.int .i64 0),.pv (.int .i64 ((Z.length:Int)))] [some (List.map (PV.int .i64) (cW Z)),none,none] []:=by
 refine fX au [] Tryz.func392 ?_;have cE1:=@aah;have cD1:=d7 (d8 15 [13]) [];have cD2:=d7 (d8 18 [15,17]) [(2,15),(3,15),(4,15)];refine dE ai trivial (aD λzb=> ?_);refine ao (λ(i:Nat) S1=>(S1.e 0=.ref 0 0 (cW (Z.take i)++Z.drop i).length/\S1.h 0=.live true (List.map (PV.int .i64) (cW (Z.take i)++Z.drop i))/\eI S1 1 0/\eI S1 2 ((Z.length:Int))/\eI S1 6 i)/\0<S1.n/\(i<=Z.length\/(Z.length=0/\i=1))/\1<=i) (λi=>Z.length-i) 1 ?_ (dC trivial (bu (λzb=> ?_) λzb=> ?_));rintro i S1 ⟨fF1,J1,A1,A0⟩;have n0:=dJ (x:=0) (n:=S1.n);have fL1:=(aa fF1 n0)
 .by_cases hi:i<Z.length
  .have e0:=FU (L:=Z) (i:=i) (by omega)
   refine dE ai fL1 (aI λzb hc=> ?_);refine ao (λ(j:Nat) S2=>(S2.e 0=.ref 0 0 (lu (cW (Z.take i)) (Z.getD i 0) j++Z.drop (i+1)).length/\S2.h 0=.live true (List.map (PV.int .i64) (lu (cW (Z.take i)) (Z.getD i 0) j++Z.drop (i+1)))/\eI S2 1 0/\eI S2 2 ((Z.length:Int))/\eI S2 6 i/\eI S2 7 j)/\0<S2.n/\j<=i/\(∀q,j<=q->q<i->Z.getD i 0<(cW (Z.take i)).getD q 0)/\S1.n<=S2.n) (λj=>j) i ?_ (dC fL1 (bu (λzb=> ?_) λzb=> ?_));rintro j S2 ⟨fF2,W3,A6,B3,B1⟩;have n0:=dJ (x:=0) (n:=S2.n);have fL2:=(aa fF2 n0)
   .have e4:=fY (L:=cW (Z.take i)) (p:=Z.getD i 0) (j:=j)
    have e1:(lu (cW (Z.take i)) (Z.getD i 0) j++Z.drop (i+1)).getD j 0=Z.getD i 0:=by rw[tw (by omega),Sk (by omega)]
    by_cases hj:0<j
    .have e3:((j:Int)-1).toNat=j-1:=by omega
     have e2:(lu (cW (Z.take i)) (Z.getD i 0) j++Z.drop (i+1)).getD (j-1) 0=(cW (Z.take i)).getD (j-1) 0:=by rw[tw (by omega),Sj (by omega) (by omega)]
     have e7:=Ix (L:=cW (Z.take i)) (p:=Z.getD i 0) (j:=j) hj (by omega) (R:=Z.drop (i+1));refine dE ai (aa fL2 (aa @e1 (aa @e2 (aa @e3 @e7)))) (f9 ?_ ?_)<;>intro zb hc
     .refine ak (j-1) (dC fL2 aj) (dC fL2 (bu ?_ ?_))<;>intro zb
      all_goals try (intro q h1 h2;by_cases h3:q=j-1)
      all_goals try (subst h3;exact hc)
      all_goals try (exact B3 q (by omega) h2)
      rw[zA3,zA3,fY,fY]
     .have e8:AJ (cW (Z.take i)) (Z.getD i 0) (cW (Z.take i)).length=j:=sB (by omega) (λq a b=>B3 q a (by omega)) λ_=>by omega
      have e9:lu (cW (Z.take i)) (Z.getD i 0) j=cW (Z.take (i+1)):=by rw[iq hi,un,e8]
      refine ak (i+1) (dC fL2 aj) (dC fL2 (bu ?_ ?_))<;>intro zb;all_goals rw[e9]
    .obtain rfl:j=0:=by omega
     refine dE ai fL2 (aD λzb=> ?_);have e8:AJ (cW (Z.take i)) (Z.getD i 0) (cW (Z.take i)).length=0:=sB (by omega) (λq a b=>B3 q a (by omega)) λh=>absurd h (by omega);have e9:lu (cW (Z.take i)) (Z.getD i 0) 0=cW (Z.take (i+1)):=by rw[iq hi,un,e8]
     refine ak (i+1) (dC fL2 aj) (dC fL2 (bu ?_ ?_))<;>intro zb;all_goals rw[e9]
   .rw[zA3,zA3,fY,e0,zI6,zI6];omega
   .have e1:=No (L:=cW (Z.take i)) (p:=Z.getD i 0)
    rw[e0]at e1;rw[e1,zA7,aN hi];rfl
  .have e1:cW (Z.take i)++Z.drop i=cW Z:=by
    rw[zA2 (by omega),zA6 (by omega),zC0]
   exact dE ai (aa fL1 @e1) aj
 .rw[KZ,zF0]
 .rw[KZ,zF0]
def qx:FuncId->List Bool:=λf=>if f=392 then[true]else[]
theorem HL:qx f=if f=392 then[true]else[]:=_root_.id rfl
theorem DM:ga qx=false/\gu qx=false/\gs qx=false/\gr qx=false/\gB qx=false:=⟨rfl,rfl,rfl,rfl,rfl⟩
attribute [go_sem] HL DM
theorem j4(Z:List Int)(b:Int)(hl:Z.length<=12):CallT Tryz.prog false 374 [.mu false (List.map (PV.int .i64) Z),.pv (.int .i64 0),.pv (.int .i64 ((Z.length:Int))),.pv (.int .i64 b)] [some (List.map (PV.int .i64) (cW Z)),none,none,none] []:=by
 refine fX qx [] Tryz.func374 ?_;have cE1:=@aah;have cM1:=@iA;have cD1:=d7 (d8 15 [12]) [];refine dE zF trivial (aD λzb=> ?_);refine ao (λ(u:Nat) S1=>(S1.e 0=.ref 0 0 (Z).length/\S1.h 0=.live true (List.map (PV.int .i64) Z)/\eI S1 1 0/\eI S1 2 ((Z.length:Int))/\eI S1 3 b/\S1.e 8=.p (.bool true)/\S1.e 9=.p (.bool true))/\0<S1.n) (λu=>u) 0 ?_ (dC trivial aj);rintro u S1 ⟨fF1,J1⟩;have n0:=dJ (x:=0) (n:=S1.n);have fL1:=(aa fF1 n0)
 .have e1:((Z.length:Int)-0<=12)=True:=zF5 (by omega)
  exact dE ai (aa fL1 @e1) aj
def vv:FuncId->List Bool:=λf=>if f=374 then[true]else[]
theorem Lm:vv f=if f=374 then[true]else[]:=_root_.id rfl
theorem Hy:ga vv=false/\gu vv=false/\gs vv=false/\gr vv=false/\gB vv=false:=⟨rfl,rfl,rfl,rfl,rfl⟩
attribute [go_sem] Lm Hy
theorem je(Z:List Int)(hl:Z.length<=12):CallT Tryz.prog false 339 [.mu false (List.map (PV.int .i64) Z)] [some (List.map (PV.int .i64) (cW Z))] []:=by
 refine fX vv [] Tryz.func339 ?_;have cE1:=@rY;have cM1:=@j4;have u3:(Tryz.prog.underlying 3).isSome=true:=by rw[Tryz.underlying3];rfl
 refine dE ai @u3 (aD λzb=> ?_)
 .show(0:Int)<=_/\_<=(18446744073709551615:Int);omega
theorem Wa:(L.mergeSort λx y=>decide (x<=y))=cW L:=by
 refine Ui ?_ PX ((List.mergeSort_perm L _).trans srtI_perm.symm);have:=List.pairwise_mergeSort (le:=λx y:Int=>decide (x<=y)) (λa b c h1 h2=>by simp at h1 h2 |-;omega) (λa b=>by simp;omega) L;exact this.imp λh=>by simpa using h
theorem ir(L:List Int)(hl:L.length<=1048576):CallT Tryz.prog false 339 [.mu false (List.map (PV.int .i64) L)] [some (List.map (PV.int .i64) (cW L))] []:=by
 refine Mt Tryz.func339 rfl rfl L (cW L) me ?_;intro w a B off cap ⟨h1,h2,h3⟩;by_cases h0:L.length=0
 .obtain rfl:L=[]:=zA4 h0
  refine(Tryz.slices_Sort_int_none a cap w).mono λe w' h=>⟨h.1, ?_⟩;obtain⟨_,rfl⟩:=h;by_cases hc:cap=0
  .exact .inl ⟨hc,rfl⟩
  .exact .inr ⟨hc,Tnd.drewN w' B 0,λj n hj=>by cases hj⟩
 .rcases h3 with h3|⟨rfl,cs,E,lo,hi,hcell,hfit,hfr,hx⟩
  .omega
  have hB:B<w.heap.size:=(zC7.1 hcell).1;have hm:maxLen=9223372036854775807:=rfl;refine(Tryz.slices_Sort_int B off cap L w ?_ hB (by omega)).mono λe w' h=>⟨h.1,.inr ⟨by omega, ?_⟩⟩
  .intro j hj
   simp only[List.size_toArray]at hj;constructor
   .rw[qj,hcell]
    simp only;rw[hx j _ (zA1 hj)];simp[hj]
   .simp only[World.frozen?,hcell];simp;omega
  .obtain⟨n,os,rfl⟩:=h.2
   rw[Wa];have T1:Tnd w (Go.Sort.ahead w n) B:=Tnd.drewN w B n;have T2:=Tnd.putRow (Go.Sort.ahead w n) B off (Value.int .i64) (cW L).toArray;have T3:=Tnd.grow (Go.Sort.putRow (Value.int .i64) (Go.Sort.ahead w n) B off (cW L).toArray) B (Nat.lt_of_lt_of_le hB (T1.trans T2).size) os;refine⟨(T1.trans T2).trans T3,λj n hj=> ?_⟩;have hj2:j<(cW L).length:=(zB4.1 hj).1;rw[qj];simp only[Go.Sort.grow];rw[Array.getElem?_append_left (Nat.lt_of_lt_of_le hB (T1.trans T2).size)];simp only[Go.Sort.putRow,Go.Sort.mapBlock,Go.Sort.ahead];rw[Array.getElem?_modify,zB0 rfl,hcell];have hl2:=me (L:=L);simp only[zE4,Go.Sort.onCells,Go.Sort.putCells,Array.getElem?_mapIdx,List.size_toArray];rw[Array.getElem?_eq_getElem (show off+j<cs.size by omega)];simp only[zE4];rw[zB0 ⟨by omega,by omega⟩,show off+j-off=j by omega];have e:=(zB4.1 hj).2;simp[hj2,e]
def Pq(L:List (List Int)):List UInt8:=if aG L=true then Lib.join (L.map cO) [32]else[]
theorem AD{L:List (List Int)}(h:L.length<=1048576):(Lib.join (L.map cO) [32]).length<=1099511627776:=by
 have:=fV (n:=8) (sep:=[32]) (l:=L.map cO) (λx hx=>by
  obtain⟨y,_,rfl⟩:=zD0.1 hx;exact kv y)
 rw[zB2]at this;simp only[zC5]at this;omega
theorem mF(L:List (List Int))(hL:L.length<=1048576)(hl:∀l∈L,l.length<=1048576):Fun Tryz.prog 47 [lE m0 e0 L] [.str (Pq L)]:=by
 have b9:=AD hL;cases h1:aG L with
 |false=>
  rw[Pq,h1,zA8 (by simp)];refine fO au [2] Tryz.func47 ?_;have cE1:=@aw;have cE2:=@be;have cE3:=@az;exact dE ai @h1 aj
 |true=>
  rw[Pq,h1,zB0 rfl];refine fO au [2] Tryz.func47 ?_;have cE1:=@aw;have cE2:=@be;have cE3:=@az;refine dE ai @h1 (aD λzb=> ?_);refine ao (λ(k:Nat) S1=>(S1.e 10=.p (lE m0 e0 L)/\eI S1 11 L.length/\eI S1 12 k)/\OwnL (S1.e 3) S1.h S1.n PV.str (((L.take k).map cO).length) ((L.take k).map cO)/\k<=L.length) (λk=>L.length-k) 0 ?_ (dC trivial aj);rintro k S1 ⟨fF1,A4,A1⟩;obtain⟨A9,A2,B6⟩:=A4.ou;have fL1:=(aa fF1 A2);by_cases hk:k<L.length
  .have b2:=hl _ (am (d:=[]) hk)
   have b3:(L.take (k+1)).map cO=(L.take k).map cO++[cO (L.getD k [])]:=by rw[aq (d:=[]) hk,zE2];rfl
   refine dE ai fL1 (aI λzb hc=> ?_);refine ak (k+1) (dC fL1 aj) (dC fL1 (aD λzb=> ?_));all_goals(rw[b3])
  .obtain rfl:k=L.length:=by omega
   rw[zE6]at*
   exact dE ai fL1 aj
theorem du(L:List (List Int))(hL:L.length<=1048576)(hl:∀l∈L,l.length<=1048576):Fun Tryz.prog 22 [lE m0 e0 L] [.str (Pq L)]:=by
 have b9:=AD hL;cases h1:aG L with
 |false=>
  rw[Pq,h1,zA8 (by simp)];refine fO au [2] Tryz.func22 ?_;have cE1:=@ay;have cE2:=@aH;have cE3:=@bj;refine dE ai @h1 (aD λzb=> ?_);refine ao (λ(out:List (List UInt8)) S1=>(S1.e 0=.p (lE m0 e0 L)/\eI S1 4 0)/\OwnL (S1.e 3) S1.h S1.n PV.str ((out).length) out/\out.length=0/\Lib.join out [32]=[]) (λ_=>0) [] ?_ (dI ai trivial aj);rintro out S1 ⟨fF1,A4,A1,A0⟩;obtain⟨A9,A2,B6⟩:=A4.ou;have fL1:=(aa fF1 A2);have b8:(Lib.join out [32]).length<=1099511627776:=by rw[A0];simp
  exact dE ai (aa fL1 @h1) aj;all_goals(rw[A0])
 |true=>
  rw[Pq,h1,zB0 rfl];refine fO au [2] Tryz.func22 ?_;have cE1:=@ay;have cE2:=@aH;have cE3:=@bj;refine dE ai @h1 (aD λzb=> ?_);refine ao (λ(k:Nat) S1=>(S1.e 0=.p (lE m0 e0 L)/\eI S1 4 k)/\OwnL (S1.e 3) S1.h S1.n PV.str (((L.take k).map cO).length) ((L.take k).map cO)/\k<=L.length) (λk=>L.length-k) 0 ?_ (dC trivial aj);rintro k S1 ⟨fF1,A4,A1⟩;obtain⟨A9,A2,B6⟩:=A4.ou;have fL1:=(aa fF1 A2);by_cases hk:k<L.length
  .have b2:=hl _ (am (d:=[]) hk)
   have b3:(L.take (k+1)).map cO=(L.take k).map cO++[cO (L.getD k [])]:=by rw[aq (d:=[]) hk,zE2];rfl
   refine dE ai (aa fL1 @h1) (aI λzb hc=> ?_);refine ak (k+1) (dC fL1 aj) (dC fL1 (aD λzb=> ?_));all_goals(rw[b3])
  .obtain rfl:k=L.length:=by omega
   rw[zE6]at*
   exact dE ai (aa fL1 @h1) aj
end Go.Gl
