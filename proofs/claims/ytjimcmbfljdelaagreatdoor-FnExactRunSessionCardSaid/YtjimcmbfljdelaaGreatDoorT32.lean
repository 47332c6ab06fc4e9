/-
  What the functions compute, and what the law asks of it: texts joined. Conditions: those that each lemma names.
-/
import Derived.Test.YtjimcmbfljdelaaGreatDoorT29
import Derived.Test.YtjimcmbfljdelaaGreatDoorT1
import Derived.Test.YtjimcmbfljdelaaGreatDoorT22
import Derived.Test.YtjimcmbfljdelaaGreatDoorT8
import Derived.Test.YtjimcmbfljdelaaGreatDoorT7
import Derived.Test.YtjimcmbfljdelaaGreatDoorT10
import Derived.Test.YtjimcmbfljdelaaGreatDoorShelfU
import Derived.Test.YtjimcmbfljdelaaGreatDoorT6
import Derived.Laws.RangeString
import Derived.Maps.AppendAt
set_option linter.unusedSimpArgs false
set_option linter.unusedVariables false
set_option maxRecDepth 20000
set_option linter.unusedSectionVars false
set_option maxHeartbeats 16000000
variable{l s t:List UInt8}{B i id k len n pos z:Nat}{m m1 m2:Bool}{cs:List Go.Gl.DC}{rs:List (Option (List Go.Gl.PV))}{a p q r:List Int}{args c:List Go.Gl.PV}{C:Go.Gl.R->Prop}{vs xs:List Go.Value}{f:Go.FuncId}{P:Go.Program}{b:UInt8}{w w' w2 w3:Go.World}{jv pv v x y:Go.Value}{E e:Go.TypeId}{tmps:Array Go.Value}{F G:Nat->Prop}
namespace Go.Gl
open Go Go.Proofs
variable [Amb][NoQ]
variable [TabA]
def um(t:List UInt8)(J:List Int):Nat->List UInt8
 |0=>[]
 |k+1=>um t J k++(if k=0\/J.contains (k:Int)=true then[]else[95])++[t.getD k 0]
theorem Mj{t:List UInt8}{J:List Int}:∀{k:Nat},(um t J k).length<=2*k
 |0=>zB1 _
 |k+1=>by
  have:=Mj (t:=t) (J:=J) (k:=k);rw[um];simp only[zA3,zC5];split<;>simp only[List.length_nil,zC5]<;>omega
theorem XS(h:k<t.length):(t.drop k).take 1=[t.getD k 0]:=by
 rw[List.drop_eq_getElem_cons h,List.take_succ_cons,List.take_zero,zA0,zA1 h];rfl
theorem ace(h:k<t.length):(t.take (k+1)).drop k=[t.getD k 0]:=by
 rw[<-XS h,List.drop_take,Nat.add_sub_cancel_left]
def Mi(P J:List Int):List UInt8:=if xg P J=true then um (cO P) J (cO P).length else[]
theorem uv(P J:List Int)(hP:P.length<=1048576)(hJ:J.length<=1048576):Fun Tryz.prog 143 [.agg [lI m1 P,lI m2 J]] [.str (Mi P J)]:=by
 cases h1:xg P J with
 |false=>
  rw[Mi,h1,zA8 (by simp)];refine fO au [2] Tryz.func143 ?_;have cE1:=@dq;have cE2:=@be;have cE3:=@cA;exact dE ai @h1 aj
 |true=>
  have h9:=kv P;rw[Mi,h1,zB0 rfl];generalize ht:cO P=t at*
  refine fO au [2] Tryz.func143 ?_;have cE1:=@dq;have cE2:=@be;have cE3:=@cA;refine dE ai (aa @h1 @ht) (aD λzb=> ?_);refine ao (λ(k:Nat) S1=>(S1.e 3=.p (.str t)/\eI S1 13 t.length/\eI S1 14 k/\S1.e 4=.p (.str (um t J k)))/\PtrL (S1.e 1) S1.h S1.n (.live false [lI m1 P,lI m2 J])/\k<=t.length) (λk=>t.length-k) 0 ?_ (dC trivial aj);rintro k S1 ⟨fF1,E3,A1⟩;obtain⟨I2,D6,I3⟩:=E3.ou;have fL1:=(aa fF1 D6);have b1:=Mj (t:=t) (J:=J) (k:=k);by_cases hk:k<t.length
  .have b2:(t.drop k).take 1=[t.getD k 0]:=XS hk
   have b3:(t.take (k+1)).drop k=[t.getD k 0]:=ace hk;by_cases g0:k=0
   .have b4:um t J (k+1)=um t J k++[t.getD k 0]:=by rw[um,zB0 (.inl g0),zC0]
    have g2:((0:Int)<(k:Int))=False:=zC6 (by omega);refine dE ai (aa fL1 (aa @b2 (aa @b3 @g2))) (aI λzb hc=> ?_);refine ak (k+1) (dC fL1 aj) (dC fL1 (aD λzb=> ?_));all_goals(rw[b4])
   .have g2:((0:Int)<(k:Int))=True:=zF5 (by omega)
    cases g1:J.contains (k:Int)with
    |true=>
     have b4:um t J (k+1)=um t J k++[t.getD k 0]:=by rw[um,zB0 (.inr g1),zC0]
     refine dE ai (aa fL1 (aa @b2 (aa @b3 (aa @g1 @g2)))) (aI λzb hc=> ?_);refine ak (k+1) (dC fL1 aj) (dC fL1 (aD λzb=> ?_));all_goals(rw[b4])
    |false=>
     have b4:um t J (k+1)=um t J k++[95]++[t.getD k 0]:=by rw[um,zA8 (by rw[g1];simp[g0])]
     refine dE ai (aa fL1 (aa @b2 (aa @b3 (aa @g1 @g2)))) (aI λzb hc=> ?_);refine ak (k+1) (dC fL1 aj) (dC fL1 (aD λzb=> ?_));all_goals(rw[b4];try simp)
  .obtain rfl:k=t.length:=by omega
   exact dE ai fL1 aj
theorem uf(P J:List Int)(hP:P.length<=1048576)(hJ:J.length<=1048576):Fun Tryz.prog 203 [.agg [lI m1 P,lI m2 J]] [.str (Mi P J)]:=by
 cases h1:xg P J with
 |false=>
  rw[Mi,h1,zA8 (by simp)];refine fO au [2] Tryz.func203 ?_;have cE1:=@fv;have cE2:=@gc;have cE3:=@aL;exact dE ai @h1 aj
 |true=>
  have h3:ac P=true:=by rw[xg,zB9]at h1;exact h1.1
  have pf:=al h3;rw[Mi,h1,zB0 rfl];by_cases h4:P=[]
  .have e:um (cO P) J (cO P).length=[45]:=by
    rw[cO,zB0 h3,zB0 h4];rfl
   rw[e];have h5:((P.length:Int)=0)=True:=zF5 (by rw[h4];rfl);clear h4;refine fO au [2] Tryz.func203 ?_;have cE1:=@fv;have cE2:=@gc;have cE3:=@aL;exact dE ai (aa @h1 @h5) aj
  .have e:cO P=P.map re:=by rw[cO,zB0 h3,zA8 h4]
   have h5:((P.length:Int)=0)=False:=zC6 λq=>h4 (zA4 (by omega));rw[e,zB2];refine fO au [2] Tryz.func203 ?_;have cE1:=@fv;have cE2:=@gc;have cE3:=@aL;refine dE ai (aa @h1 @h5) (aD λzb=> ?_);refine ao (λ(k:Nat) S1=>(S1.e 3=.p (.str (um (P.map re) J k))/\eI S1 4 k)/\PtrL (S1.e 1) S1.h S1.n (.live false [lI m1 P,lI m2 J])/\k<=P.length) (λk=>P.length-k) 0 ?_ (dC trivial aj);rintro k S1 ⟨fF1,E3,A1⟩;obtain⟨I2,D6,I3⟩:=E3.ou;have fL1:=(aa fF1 D6);have b1:=Mj (t:=P.map re) (J:=J) (k:=k);by_cases hk:k<P.length
   .have q:=ju pf.2 hk
    have b2:cP (P.getD k 0)=[(P.map re).getD k 0]:=by rw[qW q.1 (by omega)];simp[zA0,hk]
    by_cases g0:k=0
    .have b4:um (P.map re) J (k+1)=um (P.map re) J k++[(P.map re).getD k 0]:=by rw[um,zB0 (.inl g0),zC0]
     have g2:((0:Int)<(k:Int))=False:=zC6 (by omega);refine dE ai (aa fL1 (aa @b2 @g2)) (aI λzb hc=> ?_);refine ak (k+1) (dC fL1 aj) (dC fL1 (aD λzb=> ?_));all_goals(rw[b4])
    .have g2:((0:Int)<(k:Int))=True:=zF5 (by omega)
     cases g1:J.contains (k:Int)with
     |true=>
      have b4:um (P.map re) J (k+1)=um (P.map re) J k++[(P.map re).getD k 0]:=by rw[um,zB0 (.inr g1),zC0]
      refine dE ai (aa fL1 (aa @b2 (aa @g1 @g2))) (aI λzb hc=> ?_);refine ak (k+1) (dC fL1 aj) (dC fL1 (aD λzb=> ?_));all_goals(rw[b4])
     |false=>
      have b4:um (P.map re) J (k+1)=um (P.map re) J k++[95]++[(P.map re).getD k 0]:=by rw[um,zA8 (by rw[g1];simp[g0])]
      refine dE ai (aa fL1 (aa @b2 (aa @g1 @g2))) (aI λzb hc=> ?_);refine ak (k+1) (dC fL1 aj) (dC fL1 (aD λzb=> ?_));all_goals(rw[b4];try simp)
   .obtain rfl:k=P.length:=by omega
    exact dE ai fL1 aj
end Go.Gl
namespace Go.Gl
open Go Go.Proofs
variable [Amb][NoQ]
def jL(s:List UInt8):Nat->List UInt8×List Int
 |0=>([],[])
 |k+1=>if s.getD k 0=95 then jL s k else((jL s k).1++[s.getD k 0],if 0<k/\s.getD (k-1) 0≠95 then(jL s k).2++[((jL s k).1.length:Int)]else(jL s k).2)
theorem vU{s:List UInt8}:∀{k:Nat},(jL s k).1.length<=k/\(jL s k).2.length<=k
 |0=>by simp[jL]
 |k+1=>by
  have:=vU (s:=s) (k:=k);rw[jL];split
  .omega
  .split<;>simp<;>omega
def sF(s:List UInt8):List UInt8:=(jL s s.length).1
def DF(s:List UInt8):Bool:=lq (sF s)&&decide (Mi (cq (sF s)) (jL s s.length).2=s)
def Ia(s:List UInt8):List Int:=if DF s=true then cq (sF s)else[]
def Ib(s:List UInt8):List Int:=if DF s=true then(jL s s.length).2 else[]
theorem Uu:(Ia s).length<=s.length:=by
 have:=vU (s:=s) (k:=s.length);have:=jD (s:=sF s);unfold Ia sF at*;split
 .omega
 .simp
theorem Uv:(Ib s).length<=s.length:=by
 have:=vU (s:=s) (k:=s.length);unfold Ib;split
 .omega
 .simp
variable [TabA]
def inQ(x:Option (Option (List PV)))(id o l:Nat)(F:PV->List Nat->Prop):Prop:=match x with
 |some (some c)=>o+l<=c.length/\F (.sl .ro ((c.drop o).take l)) [id]
 |_=>False
theorem acu{x:Option (List PV)}{r o l:Nat}{F:PV->List Nat->Prop}:Sn (.deep m cs (rs++[x])) id r o l F=inQ (rs++[x])[r]? id o l F:=_root_.id rfl
theorem acv{o l:Nat}{F:PV->List Nat->Prop}:inQ (some (some c)) id o l F=(o+l<=c.length/\F (.sl (.lent true) ((c.drop o).take l)) [id]):=_root_.id rfl
theorem XV:ldA (dk (PV.int .i64) false [p,q]) id 0 2 C=C ⟨.agg [.inn id 0 0 p.length,.inn id 1 0 q.length],[],[id]⟩:=by
 simp[ldA,dk,canon,DC.av,zF7]
theorem af6{xs:List PV}{F:List (Nat×Nat×Pl)->Prop}:fiJ (dk (PV.int .i64) false [p,q]) k id 0 len xs F=fiI (some (some (p.map (PV.int .i64)))) k id 0 len xs F:=_root_.id rfl
theorem af5{xs:List PV}{F:List (Nat×Nat×Pl)->Prop}:fiJ (dk (PV.int .i64) false [p,q]) k id 1 len xs F=fiI (some (some (q.map (PV.int .i64)))) k id 1 len xs F:=_root_.id rfl
attribute [local go_sem] acu acv XV af6 af5
def Eb:FuncId->List Bool:=λf=>if f=4294967297 then[false,true,false,false]else[]
theorem Qo:Eb f=if f=4294967297 then[false,true,false,false]else[]:=_root_.id rfl
theorem JP:ga Eb=false/\gu Eb=false/\gs Eb=true/\gr Eb=false/\gB Eb=false:=⟨rfl,rfl,rfl,rfl,rfl⟩
attribute [go_sem] Qo JP
theorem sQ(s:List UInt8)(hs:s.length<=1048576):Fun Tryz.prog 103 [.str s] [.agg [lI false (Ia s),lI false (Ib s)],.bool (DF s)]:=by
 refine Fun.ofR (sg:=Eb) (rs:=[.cell 2 82,.tmp 3]) mo Tryz.func103 rfl rfl rfl rfl (by kernel_rfl) (by simp only[go_sem]) rfl ?_;have cE1:=@aP;have cE2:=@uf;refine dE ai trivial (aD λzb=> ?_);refine ao (λ(k:Nat) S1=>S1.e 0=.p (.str s)/\PtrL (S1.e 2) S1.h S1.n (.deep false [.v (.sl .own []),.v (.sl .own [])] [])/\Dst2 (S1.e 4) S1.h S1.n (List.map (PV.int .i64) ([])) (List.map (PV.int .i64) ((jL s k).2))/\S1.e 5=.p (.str ((jL s k).1))/\eI S1 6 k/\k<=s.length/\NId (nk (S1.e 4)) (nk (S1.e 2))) (λk=>s.length-k) 0 ?_ (dC trivial aj);rintro k S1 ⟨C0,E6,B7,E8,G3,A1,A8⟩;obtain⟨C4,ra1_4,rb1_4,rs1_4,R8,Z0,C8,Z1,Z2,Z3,Z4,Z5,Z6,Z7,Z8,Z9,w91_4⟩:=B7.out;obtain⟨D8,F7,K1,J0⟩:=E6.out;have J5:=(A8).out (cc R8) (cc F7);have K2:=dJ (x:=D8) (n:=S1.n);have ni1_4:=dJ (x:=C4) (n:=S1.n);have di1_2i1_4:=qp (x:=D8) (y:=C4);have fL1:=(aa C0 (aa E8 (aa G3 (aa F7 (aa K1 (aa R8 (aa Z0 (aa Z1 (aa Z2 (aa Z3 (aa Z4 (aa Z5 (aa Z6 (aa Z7 (aa Z8 (aa Z9 (aa w91_4 (aa K2 (aa ni1_4 di1_2i1_4)))))))))))))))))));have b1:=vU (s:=s) (k:=k);by_cases hk:k<s.length
 .by_cases g:s.getD k 0=95
  .have g1:(((s.getD k 0).toNat:Int)=95)=True:=zF5 (by rw[g];rfl)
   have b2:jL s (k+1)=jL s k:=by rw[jL,zB0 g]
   refine dE ai (aa fL1 @g1) (aI λzb hc=> ?_);refine ak (k+1) (dC fL1 aj) (dC fL1 (bu ?_ ?_))<;>intro zb;all_goals(rw[b2])
  .have g1:(((s.getD k 0).toNat:Int)=95)=False:=zC6 λq=>g (UInt8.toNat_inj.1 (Int.ofNat.inj q))
   have b3:(s.drop k).take 1=[s.getD k 0]:=XS hk;have b4:(s.take (k+1)).drop k=[s.getD k 0]:=ace hk;by_cases h2:0<k/\s.getD (k-1) 0≠95
   .have b2:jL s (k+1)=((jL s k).1++[s.getD k 0],(jL s k).2++[((jL s k).1.length:Int)]):=by rw[jL,zA8 g,zB0 h2]
    have e0:((k:Int)-1).toNat=k-1:=by omega
    have g2:((0:Int)<(k:Int))=True:=zF5 (by omega);have g3:(((s.getD (k-1) 0).toNat:Int)=95)=False:=zC6 λq=>h2.2 (UInt8.toNat_inj.1 (Int.ofNat.inj q));refine dE ai (aa fL1 (aa @g1 (aa @g2 (aa @g3 (aa @e0 (aa @b3 @b4)))))) (aI λzb hc=> ?_);refine ak (k+1) (dC fL1 aj) (dC fL1 (bu ?_ ?_))<;>intro zb;all_goals(rw[b2];try simp)
   .have b2:jL s (k+1)=((jL s k).1++[s.getD k 0],(jL s k).2):=by rw[jL,zA8 g,zA8 h2]
    by_cases h0:0<k
    .have e0:((k:Int)-1).toNat=k-1:=by omega
     have g2:((0:Int)<(k:Int))=True:=zF5 (by omega);have g3:(((s.getD (k-1) 0).toNat:Int)=95)=True:=zF5 (by
      have:s.getD (k-1) 0=95:=Classical.not_not.1 λq=>h2 ⟨h0,q⟩;rw[this];rfl)
     refine dE ai (aa fL1 (aa @g1 (aa @g2 (aa @g3 (aa @e0 (aa @b3 @b4)))))) (aI λzb hc=> ?_);refine ak (k+1) (dC fL1 aj) (dC fL1 (bu ?_ ?_))<;>intro zb;all_goals(rw[b2];try simp)
    .have g2:((0:Int)<(k:Int))=False:=zC6 (by omega)
     refine dE ai (aa fL1 (aa @g1 (aa @g2 (aa @b3 @b4)))) (aI λzb hc=> ?_);refine ak (k+1) (dC fL1 aj) (dC fL1 (bu ?_ ?_))<;>intro zb;all_goals(rw[b2];try simp)
 .obtain rfl:k=s.length:=by omega
  generalize hD:(jL s s.length).1=D at*
  generalize hJ:(jL s s.length).2=J at*
  have d1:DF s=(lq D&&decide (Mi (cq D) J=s)):=by rw[DF,sF,hD,hJ]
  have d2:Ia s=if DF s=true then cq D else[]:=by rw[Ia,sF,hD]
  have d3:Ib s=if DF s=true then J else[]:=by rw[Ib,hJ]
  have b2:=jD (s:=D);rw[d2,d3,d1];cases p1:lq D with
  |false=>
   exact dE ai (aa fL1 @p1) aj
  |true=>
   by_cases p2:Mi (cq D) J=s
   .have p3:(Mi (cq D) J=s)=True:=zF5 p2
    exact dE ai (aa fL1 (aa @p1 @p3)) aj
   .have p3:(Mi (cq D) J=s)=False:=zC6 p2
    exact dE ai (aa fL1 (aa @p1 @p3)) aj
end Go.Gl
namespace Go.Gl
open Go Go.Proofs Go.RowKit Go.Lib
variable [Amb][NoQ]
variable [TabA][SplA]
theorem Fun.lookS'(hf:Fun P f args [.str s])(w:World)(ha:∀B o,Amb.tb B=some o->w.heap[B]? =some o)(hr:RepL w (λ_=>False) (λ_=>True) args vs):
  Calls P f ⟨vs⟩ w λe w'=>e=.returned (.string ⟨s.toArray⟩)/\Keep w w' (λ_=>False):=
 Fun.look hf (λ_=>rfl) rfl (λ_ _ _ v h=>by simpa only[RepP]using h) w ha hr
theorem Wp(h:¬b=95):∀{k:Nat},Lib.replaceK [95] [] k (b::l)=b::Lib.replaceK [95] [] k l
 |0=>rfl
 |k+1=>by
  have e:Lib.index (b::l) [95]=if Lib.index l [95]== -1 then -1 else Lib.index l [95]+1:=by
   rw[Lib.index];have hp:List.isPrefixOf [95] (b::l)=false:=by simp[List.isPrefixOf];exact λe=>h e.symm
   rw[hp];rfl
  rw[Lib.replaceK,Lib.replaceK,e];by_cases hm:Lib.index l [95]= -1
  .simp[hm]
  .have hge:=Lib.index_ge l [95]
   obtain⟨j,hj⟩:∃j:Nat,Lib.index l [95]=j:=⟨(Lib.index l [95]).toNat,by omega⟩;have h1:¬((j:Int)= -1):=by omega
   have h2:¬((j:Int)+1= -1):=by omega
   have h3:((j:Int)+1).toNat=j+1:=by omega
   simp[hj,h1,h2,h3,List.take_succ_cons,Nat.add_right_comm]
theorem Ly:∀{s:List UInt8},Lib.replaceK [95] [] (s.count 95) s=s.filter λc=> !decide (c=95)
 |[]=>by simp[Lib.replaceK]
 |b::l=>by
  by_cases h:b=95
  .subst h
   have e:Lib.index (95::l) [95]=0:=by rw[Lib.index];simp[List.isPrefixOf]
   rw[List.count_cons_self,Lib.replaceK,e,List.filter_cons_of_neg (by simp),<-Ly];simp
  .rw[List.count_cons_of_ne (by simpa using h),Wp h,Ly,List.filter_cons_of_pos (by simpa using h)]
theorem Ut{s:List UInt8}:∀{k:Nat},k<=s.length->(jL s k).1=(s.take k).filter λc=> !decide (c=95)
 |0,_=>rfl
 |k+1,h=>by
  rw[aq (d:=0) (by omega),List.filter_append,<-Ut (by omega),jL];split
  .rename_i e;rw[e];simp
  .rename_i e;rw[List.filter_cons_of_pos (by rw[zB8 e];rfl),List.filter_nil]
theorem QC:Lib.replaceAll s [95] []=sF s:=by
 rw[Lib.replaceAll,Lib.replace,sF,Ut (zB1 _),zE6,<-Ly];simp[Lib.replaceNum,Lib.count_one]
theorem abm(w:World){s:ByteArray}(ty:TypeId)(hB:w.heap[B]? =some (.stringIter s pos))(h:pos<s.size)(ha:(s[pos]'h).toNat<128):
  (Instr.next (.pointer (some ⟨B,0,none⟩)) true ty).run P w=.ok (.tuple #[.bool true,.int .i64 pos,.int .i32 (s[pos]'h).toNat]) {w with heap:=w.heap.setIfInBounds B (.stringIter s (pos+1))}:=by
 simp only[Instr.next,getObj,setObj,zD4,Sem.run,hB,Result.andThen,h,zH3,decode_ascii s pos h ha];simp[goInt,Sem.run,hB]
theorem Wr(w:World){s:ByteArray}(ty:TypeId)(hB:w.heap[B]? =some (.stringIter s pos))(h:¬pos<s.size):
  (Instr.next (.pointer (some ⟨B,0,none⟩)) true ty).run P w=.ok (.tuple #[.bool false]) w:=by
 simp[Instr.next,getObj,Sem.run,hB,h]
theorem nY(s:List UInt8)(hs:s.length<=1048576):Fun Tryz.prog 142 [.str s,.str [95],.str []] [.str (sF s)]:=by
 refine Fun.of_plain (v:=.string ⟨(sF s).toArray⟩) Tryz.func142 rfl (by decide) rfl λw F G vs ha hr=> ?_;simp only[RepL]at hr;obtain⟨a,vs1,rfl,h1,b,vs2,rfl,h2,c,vs3,rfl,h3,rfl⟩:=hr;have h1:=iR h1;have h2:=iR h2;have h3:=iR h3;subst h1;subst h2;subst h3;obtain⟨m,hm⟩:=SplA.has w ha;refine(Tryz.strings_ReplaceAll ⟨s.toArray⟩ ⟨[95].toArray⟩ ⟨[].toArray⟩ m w (by show s.length<_;omega) hm (zB1 1) (by show s.length+_*0<=_;omega)).mono ?_;rintro e w' ⟨rfl,hb⟩;exact⟨by rw[<-QC],hb⟩
theorem Fun.two{b:Bool}(hf:Fun P f args [.sl .own (a.map (PV.int .i64)),.bool b])(hp:aZ false (args.map .pv) [] [.sl .own (a.map (PV.int .i64)),.bool b] args.length=.live false (a.map (PV.int .i64)))(w:World)(ha:∀B o,Amb.tb B=some o->w.heap[B]? =some o)(hr:RepL w (λ_=>False) (λ_=>True) args vs):
  Calls P f ⟨vs⟩ w λe w'=>∃v l,e=.returned (.tuple #[v,.bool b])/\tT l a.length v/\Own w' (bI a) l/\(∀B,owns (bI a) l B->w.heap.size<=B)/\Keep w w' (λ_=>False):=by
 refine(Fun.at hf w ha hr).mono ?_;rintro e w' ⟨v,ι',rfl,hk,ok,hv⟩;have hb:=ok.ok args.length;rw[hp]at hb;obtain⟨o1,o2⟩:=BE hb;simp only[impAll,imps,imp,imp1,RepA,RepAL,RepP,zB2]at hv;obtain⟨cs,rfl,x,xs,rfl,⟨a',cap,rfl,c1,c2,c3,c4⟩,y,ys,rfl,rfl,rfl⟩:=hv;refine⟨_,ι' args.length,rfl,⟨a',by simp at c2 |-;rw[c2],c4.imp (λh=>by simp at c2;omega) λh=>by simpa using h⟩,o1,λB ho=> ?_,hk⟩;rcases o2 B ho with q|q
 .exact q.1
 .exact q.2.elim
theorem Fz(h:w.heap[n]? =some (.cells #[x,y] E (0,0))):w.cell? ⟨n,0,none⟩=some x/\w.cell? ⟨n,1,none⟩=some y/\w.frozen? ⟨n,0,none⟩=false/\w.frozen? ⟨n,1,none⟩=false:=by
 refine⟨by rw[cell?_eq,h];rfl,by rw[cell?_eq,h];rfl, ?_, ?_⟩<;>simp[World.frozen?,h]
theorem zx(h0:tmps.getD 2 undef=.pointer (some ⟨n,0,none⟩))(h:w.heap[n]? =some (.cells #[x,y] E (0,0))):(results Tryz.f65 tmps).run Tryz.prog w=.ok (.tuple #[.agg #[x,y],tmps.getD 3 undef]) w:=by
 obtain⟨g0,g1,_,_⟩:=Fz h;rw[results_cell_tmp rfl,h0];simp[asAddr,loadVar,go_sem,g0,g1]
theorem Wq{o:Fl}{b off c:Nat}(hG:G b)(ho:o≠ .own)(h:∀j,j<q.length->w.cell? ⟨b,off+j,none⟩=some (.int .i64 (q.getD j 0)))(h1:q.length<=c)(h2:c<=maxLen):RepP w (λ_=>False) G (.sl o (q.map (PV.int .i64))) (.slice (some ⟨b,off,none⟩) q.length c):=by
 simp only[RepP];refine⟨_,_,by rw[zB2],by rw[zB2];exact h1,h2,λe=>absurd e ho,.inr ⟨b,off,rfl,λh=>h,λ_=>hG, ?_⟩⟩;rw[aY];intro j x hj;rw[zA5]at hj;by_cases hq:j<q.length
 .rw[zA1 hq]at hj
  obtain rfl:=(Option.some.inj hj).symm;refine⟨_,h j hq,rfl, ?_⟩;rw[zA0,zA1 hq];simp only[RepP];rfl
 .rw[zG9 (by omega)]at hj;cases hj
theorem Lz{o:Fl}{l:Loc}(ho:o≠ .own)(h:Own w (bI q) l)(hv:tT l q.length v)(hG:∀B,owns (bI q) l B->G B):RepP w (λ_=>False) G (.sl o (q.map (PV.int .i64))) v:=by
 obtain⟨n1,n2,n3⟩:=id h;obtain⟨a,rfl,ha⟩:=hv;simp only[RepP];refine⟨a,l.cap,by rw[zB2],n1,n2,λe=>absurd e ho, ?_⟩;by_cases hc:l.cap=0
 .exact .inl (zA4 (by omega))
 .exact .inr ⟨l.B,l.off,ha.resolve_left hc,λh=>h,λ_=>hG _ ⟨hc,rfl⟩,we (n3.resolve_left hc).2.1⟩
theorem Ue{o:Fl}{b:Nat}(hG:∀g,b<=g->G g)(ho:o≠ .own)(h:w.ownsRow b e 1 v q.length (q.map (Value.int .i64))):RepP w (λ_=>False) G (.sl o (q.map (PV.int .i64))) v:=by
 rcases h.2 with⟨rfl,h0⟩|⟨g,cap,cur,rfl,h2,h3,h4,h5,h6,h7⟩
 .obtain rfl:=zA4 h0
  simp only[RepP];exact⟨none,0,rfl,zB1 _,Nat.zero_le _,λe=>absurd e ho,.inl rfl⟩
 .refine Wq (hG g h2) ho (λj hj=> ?_) h4 h5
  have h8:(cur.toList.take (q.length*1))[j]? =(q.map (Value.int .i64))[j]? :=by rw[h7]
  rw[List.getElem?_take_of_lt (by omega),zA5,zA1 hj]at h8;rw[cell?_eq,h3];show cur[0+j]? =_;rw[zI0,<-Array.getElem?_toList,h8,zA0,zA1 hj];rfl
theorem y1{a b:Value}(h:w.heap[n]? =some (.cells #[a,b] E (0,0))):((w.setCell ⟨n,0,none⟩ x).setCell ⟨n,1,none⟩ y).heap[n]? =some (.cells #[x,y] E (0,0)):=by
 simp only[World.setCell];rw[Array.getElem?_modify,zB0 rfl,Array.getElem?_modify,zB0 rfl,h];rfl
theorem QY{b:Nat}(h:w.ownsRow b e z v n xs)(hk:∀B,B<w.heap.size->w'.heap[B]? =w.heap[B]?):w'.ownsRow b e z v n xs:=by
 refine⟨h.1, ?_⟩;rcases h.2 with q|⟨g,cap,cur,h1,h2,h3,h4⟩
 .exact .inl q
 .exact .inr ⟨g,cap,cur,h1,h2,by rw[hk g (zC7.1 h3).1];exact h3,h4⟩
theorem tP(h:Keep w w' (λ_=>False))(hn:n<=w.heap.size):Below n w w':=⟨h.os,h.tape,h.output,h.size,λk hk=>h.same k (by omega)⟩
theorem Vj{m:Nat}(h:Below m w w')(hn:n<=m):Below n w w':=⟨h.os,h.tape,h.output,h.size,λk hk=>h.block k (by omega)⟩
theorem zD:RepP w F G (.sl .fr (([]:List Int).map (PV.int .i64))) (.slice none 0 0):=by
 simp only[RepP,zE8];exact⟨none,0,rfl,zB1 _,Nat.zero_le _,λe=>(by cases e),.inl trivial⟩
theorem wS(h:i<s.length):(⟨s.toArray⟩:ByteArray)[i]'h=s.getD i 0:=by
 rw[zA0,zA1 h];rfl
theorem afy(h:s.getD k 0=95):jL s (k+1)=jL s k:=by rw[jL,zB0 h]
theorem afx(h:¬s.getD k 0=95)(h2:0<k/\s.getD (k-1) 0≠95):jL s (k+1)=((jL s k).1++[s.getD k 0],(jL s k).2++[((jL s k).1.length:Int)]):=by rw[jL,zA8 h,zB0 h2]
theorem abN(h:¬s.getD k 0=95)(h2:¬(0<k/\s.getD (k-1) 0≠95)):jL s (k+1)=((jL s k).1++[s.getD k 0],(jL s k).2):=by rw[jL,zA8 h,zA8 h2]
theorem afw(h2:0<k/\s.getD (k-1) 0≠95):0<(jL s k).1.length:=by
 obtain⟨h,h3⟩:=h2;obtain⟨j,rfl⟩:∃j,k=j+1:=⟨k-1,by omega⟩;rw[jL,zA8 (by simpa using h3)];simp
theorem Jh:((b.toNat:Int)==95)=decide (b=95):=by
 by_cases h:b=95
 .subst h;rfl
 .rw[zB8 h,beq_eq_false_iff_ne];exact λq=>h (UInt8.toNat_inj.1 (Int.ofNat.inj q))
theorem abM{s:List UInt8}{i:Nat}(hi:i<s.length):∀{k:Nat},i<k->s.getD i 0=95\/s.getD i 0∈(jL s k).1
 |k+1,h=>by
  by_cases e:i=k
  .subst e
   by_cases g:s.getD i 0=95
   .exact .inl g
   .rw[jL,zA8 g];exact .inr (by simp)
  .rcases abM hi (k:=k) (by omega)with q|q
   .exact .inl q
   .refine .inr ?_
    rw[jL];split
    .exact q
    .exact List.mem_append_left _ q
theorem QT(h:lq s=true)(hb:b∈s):b.toNat<128:=by
 rw[lq,zI8,zB9,zC2]at h;rcases h with rfl|h
 .simp only[zB7]at hb;subst hb;decide
 .have hp:=(fK h.2)
  have h1:=(permB_iff.1 hp.2).1 ((b.toNat:Int)-48) (List.mem_map_of_mem (f:=λc:UInt8=>(c.toNat:Int)-48) hb);have:=hp.1;omega
theorem LA{b:Nat}(h:w.ownsRow b e z v n xs):∃a l c,v=.slice a l c:=by
 rcases h.2 with q|⟨g,cap,cur,q,_⟩
 .exact⟨_,_,_,q.1⟩
 .exact⟨_,_,_,q⟩
def niM(w2:World)(s:List UInt8)(w3:World):Nat:=match w3.heap[w2.heap.size+1]? with|some (.stringIter _ k)=>s.length-k|_=>0
theorem vT{x:ByteArray}(h:w3.heap[w2.heap.size+1]? =some (.stringIter x i)):niM w2 s w3=s.length-i:=by rw[niM,h]
structure NiI(w2:World)(s:List UInt8)(pv:Value)(w3:World)(i:Nat)(r:List Int)(jv:Value):Prop where
 it:w3.heap[w2.heap.size+1]? =some (.stringIter ⟨s.toArray⟩ i)
 bx:w3.heap[w2.heap.size]? =some (.cells #[pv,jv] 82 (0,0))
 row:w3.ownsRow (w2.heap.size+2) 3 1 jv r.length (r.map (Value.int .i64))
 bl:Below w2.heap.size w2 w3
theorem NiI.next(I:NiI w2 s pv w3 i r jv):NiI w2 s pv {w3 with heap:=w3.heap.setIfInBounds (w2.heap.size+1) (.stringIter ⟨s.toArray⟩ (i+1))} (i+1) r jv:=by
 have hi:=(zC7.1 I.it).1;have ne:∀k,k≠w2.heap.size+1->(w3.heap.setIfInBounds (w2.heap.size+1) (.stringIter ⟨s.toArray⟩ (i+1)))[k]? =w3.heap[k]? :=λk hk=>by rw[Array.getElem?_setIfInBounds,zA8 (Ne.symm hk)]
 refine⟨by simp[hi],by rw[show({w3 with heap:=w3.heap.setIfInBounds (w2.heap.size+1) (.stringIter ⟨s.toArray⟩ (i+1))}:World).heap=w3.heap.setIfInBounds (w2.heap.size+1) (.stringIter ⟨s.toArray⟩ (i+1))from rfl,ne _ (by omega)];exact I.bx,⟨I.row.1, ?_⟩,⟨I.bl.os,I.bl.tape,I.bl.output,by have:=I.bl.size;simpa using this,λk hk=>by rw[<-I.bl.block k hk];exact ne k (by omega)⟩⟩;rcases I.row.2 with q|⟨g,cap,cur,h1,h2,h3,h4⟩
 .exact .inl q
 .exact .inr ⟨g,cap,cur,h1,h2,by rw[<-h3];exact ne g (by omega),h4⟩
theorem NiI.push{w4:World}{x:Int}(I:NiI w2 s pv w3 i r jv)(h:w4.ownsRow (w2.heap.size+2) 3 1 v (r.length+1) (r.map (Value.int .i64)++[.int .i64 x]))(hg:(w3.alloc (.cells #[.int .i64 x] 3)).grownBy w4 jv.ownBlock):w4.heap[w2.heap.size+1]? =some (.stringIter ⟨s.toArray⟩ i)/\w4.heap[w2.heap.size]? =some (.cells #[pv,jv] 82 (0,0))/\NiI w2 s pv (w4.setCell ⟨w2.heap.size,1,none⟩ v) i (r++[x]) v:=by
 have hi:=(zC7.1 I.it).1;have hb:∀k,k<w2.heap.size+2->w4.heap[k]? =w3.heap[k]? :=λk hk=>by
  rw[hg.block k (by show k<(w3.heap.push _).size;simp;omega) (λe=>by have:=I.row.lt k e.symm;omega)];show(w3.heap.push _)[k]? =_;rw[Array.getElem?_push,zA8 (by omega)]
 have hs:w3.heap.size<=w4.heap.size:=by
  have:=hg.size;have e:(w3.alloc (.cells #[.int .i64 x] 3)).heap.size=w3.heap.size+1:=(by show(w3.heap.push _).size=_;simp);omega
 have c1:w4.heap[w2.heap.size]? =some (.cells #[pv,jv] 82 (0,0)):=by rw[hb _ (by omega)];exact I.bx
 have c2:w4.heap[w2.heap.size+1]? =some (.stringIter ⟨s.toArray⟩ i):=by rw[hb _ (by omega)];exact I.it
 refine⟨c2,c1,by rw[Below.heap_setCell _ _ _ _ (by show _≠w2.heap.size;omega)];exact c2, ?_, ?_, ?_⟩
 .simp only[World.setCell]
  rw[Array.getElem?_modify,zB0 rfl,c1];rfl
 .refine⟨by simp, ?_⟩
  rw[zA3,zE2];rcases h.2 with q|⟨g,cap,cur,h1,h2,h3,h4⟩
  .exact .inl ⟨q.1,by have:=q.2;omega⟩
  .exact .inr ⟨g,cap,cur,h1,h2,by rw[Below.heap_setCell _ _ _ _ (by show _≠w2.heap.size;omega)];exact h3,h4⟩
 .refine⟨hg.os.trans I.bl.os,hg.tape.trans I.bl.tape,hg.output.trans I.bl.output, ?_,λk hk=> ?_⟩
  .have:=I.bl.size;simp;omega
  .rw[Below.heap_setCell _ _ _ _ (by show _≠w2.heap.size;omega),hb k (by omega)];exact I.bl.block k hk
set_option maxHeartbeats 4000000
theorem QV(s:List UInt8)(hs:s.length<=1048576)(w:World)(ha:∀B o,Amb.tb B=some o->w.heap[B]? =some o):Calls Tryz.prog 65 #[.string ⟨s.toArray⟩] w λe w'=>
  ∃u v,e=.returned (.tuple #[.agg #[u,v],.bool (DF s)])/\RepP w' (λ_=>False) (λB=>w.heap.size<=B) (.sl .fr ((Ia s).map (PV.int .i64))) u/\RepP w' (λ_=>False) (λB=>w.heap.size<=B) (.sl .fr ((Ib s).map (PV.int .i64))) v/\Below w.heap.size w w':=by
 have hd:=(vU (s:=s) (k:=s.length)).1;have hd:(sF s).length<=1048576:=by unfold sF;omega
 have p0:=Pushed.alloc w (.cells #[.slice none 0 0,.slice none 0 0] 82)
 go_enter Tryz.func65,Tryz.ntmps65
 go_wp2_with fail
 refine(Fun.lookS' (nY s hs) _ ?_ (vs:=[_,_,_]) (by simp only[RepL,RepP];exact⟨_,_,rfl,rfl,_,_,rfl,rfl,_,_,rfl,rfl,rfl⟩)).mono ?_
 .exact λB o hB=>by
   have h1:=ha B o hB;rw[p0.old (zC7.1 h1).1];exact h1
 rintro e w1 ⟨rfl,k1⟩;have k01:=(p0.keep (λ_=>False)).trans k1;have ha1:∀B o,Amb.tb B=some o->w1.heap[B]? =some o:=λB o hB=>by
  rw[k01.same B (zC7.1 (ha B o hB)).1];exact ha B o hB
 have z1:=k01.size;have c2:w1.heap[w.heap.size]? =some (.cells #[.slice none 0 0,.slice none 0 0] 82 (0,0)):=by rw[k1.same _ (by have:=p0.size;omega)];exact p0.at
 show _
 go_wp2_with fail
 refine(Fun.two (bf (sF s) hd) (by simp[aZ,impWs,impW,impW1,hwsH]) w1 ha1 (vs:=[_]) (by simp only[RepL,RepP];exact⟨_,_,rfl,rfl,rfl⟩)).mono ?_;rintro e w2 ⟨pv,pl,rfl,ph,po,pn,k2⟩;have c2:w2.heap[w.heap.size]? =some (.cells #[.slice none 0 0,.slice none 0 0] 82 (0,0)):=by rw[k2.same _ (zC7.1 c2).1];exact c2
 obtain⟨px,rfl⟩:=IC ph;obtain⟨c20,c21,c22,c23⟩:=Fz c2;cases hb:lq (sF s)with
 |false=>
  have e1:DF s=false:=by rw[DF,hb,zH9]
  show _
  go_wp2_with fail
  have e2:((w2.setCell ⟨w.heap.size,0,none⟩ (Value.slice none 0 0)).setCell ⟨w.heap.size,1,none⟩ (Value.slice none 0 0)).heap[w.heap.size]? =some (.cells #[.slice none 0 0,.slice none 0 0] 82 (0,0)):=y1 c2;refine bodyPost_ret (zx rfl e2) rfl ?_;refine⟨_,_,by rw[e1];rfl,by rw[Ia,zA8 (by rw[e1];decide)];exact zD,by rw[Ib,zA8 (by rw[e1];decide)];exact zD, ?_⟩;exact((tP k01 (zB1 _)).trans (tP k2 z1)).setCell (zB1 _) _ |>.setCell (zB1 _) _
 |true=>
  show _
  go_wp2_with fail
  obtain⟨i0,hi,hz0,hz1,hz2⟩:=info_parts (P:=Tryz.prog) (e:=3) (show(Tryz.prog.info? 3).map (λi=>(i.zero,i.size,i.bytes))=some (some (.int .i64 0),1,8)by kernel_rfl);have S0:NiI w2 s (Value.slice px (cq (sF s)).length pl.cap) ((w2.alloc (Obj.cells #[Value.slice px (cq (sF s)).length pl.cap,Value.slice none 0 0] 82)).iter ⟨s.toArray⟩ 0) 0 [] (.slice none 0 0):=by
   have q0:∀(W:World) (o:Obj),(W.alloc o).heap=W.heap.push o:=λ_ _=>rfl;have q1:∀(W:World) (x:ByteArray),(W.iter x 0).heap=W.heap.push (.stringIter x 0):=λ_ _=>rfl;exact⟨by rw[q1,q0,Array.getElem?_push,zB0 (by simp)],by rw[q1,q0];simp[Array.getElem?_push],World.ownsRow_nil _ _ _ _,⟨rfl,rfl,rfl,by rw[q1,q0];simp;omega,λk hk=>by rw[q1,q0,Array.getElem?_push,zA8 (by simp;omega),Array.getElem?_push,zA8 (by omega)]⟩⟩
  refine wp_loop (λa w3=>∃(k:Nat) (jv x8 x22 x23 x24 x25 x26 x27 x28 x29 x30 x31 x32 x33 x34 x35 x36 x37 x38 x39 x40 x41 x42 x43 x44 x45 x46 x47 x48 x49 x50 x51 x52:Value),a={tmps:=((Value.string ⟨s.toArray⟩)::undef::(Value.pointer (some ⟨w.heap.size,0,none⟩))::(Value.bool false)::(Value.slice px (cq (sF s)).length pl.cap)::(Value.bool true)::(Value.pointer (some ⟨w2.heap.size,0,none⟩))::(Value.int .i64 (jL s k).1.length)::x8::(Value.tuple #[Value.slice px (cq (sF s)).length pl.cap,.bool true])::(Value.string ⟨s.toArray⟩)::(Value.string ⟨(sF s).toArray⟩)::(Value.tuple #[Value.slice px (cq (sF s)).length pl.cap,.bool true])::(Value.slice px (cq (sF s)).length pl.cap)::(Value.bool true)::(Value.bool true)::(Value.bool false)::undef::(Value.slice px (cq (sF s)).length pl.cap)::(Value.agg #[Value.slice px (cq (sF s)).length pl.cap,.slice none 0 0])::(Value.string ⟨s.toArray⟩)::(Value.pointer (some ⟨w2.heap.size+1,0,none⟩))::x22::x23::x24::x25::x26::x27::x28::x29::x30::x31::x32::x33::x34::x35::x36::x37::x38::x39::x40::x41::x42::x43::x44::x45::x46::x47::x48::x49::x50::x51::x52::[]).toArray,defers:=[]}/\k<=s.length/\NiI w2 s (Value.slice px (cq (sF s)).length pl.cap) w3 k (jL s k).2 jv) (λ_ w3=>niM w2 s w3) ⟨0,_,_,_,_,_,_,_,_,_,_,_,_,_,_,_,_,_,_,_,_,_,_,_,_,_,_,_,_,_,_,_,_,_,rfl,Nat.zero_le _,S0⟩ ?_;rintro a w3 ⟨k,jv,x8,x22,x23,x24,x25,x26,x27,x28,x29,x30,x31,x32,x33,x34,x35,x36,x37,x38,x39,x40,x41,x42,x43,x44,x45,x46,x47,x48,x49,x50,x51,x52,rfl,hk,I⟩;by_cases h:k<s.length
  .have hnx:=λty=>abm (P:=Tryz.prog) w3 ty I.it h (by
    rw[wS h];rcases abM h (k:=s.length) h with q|q
    .rw[q];decide
    .exact QT hb q)
   have I4:=I.next
   revert hnx I4;generalize ({w3 with heap:=w3.heap.setIfInBounds (w2.heap.size+1) (.stringIter ⟨s.toArray⟩ (k+1))}:World)=w4;intro hnx I4;obtain⟨d0,d1,d2,d3⟩:=Fz I4.bx;have hrow:=I4.row;have b1:=vU (s:=s) (k:=k);have z4:=I4.bl.size;have z5:=(zC7.1 I4.it).1;have hM:=vT (s:=s) I.it
   go_wp2_with (first
    |(at_builtin;refine wpList_append_own_at _ rfl _ _ 29 rfl (w2.heap.size+2) 3 i0 (.int .i64 0) 1 8 rfl hi hz0 hz1 hz2 rfl (by decide) _ _ _ rfl (hrow.alloc _) ⟨w4.heap.size,0,none⟩ 1 1 [.int .i64 (jL s k).1.length] rfl rfl (cell_one_new _ _ _) (ints_oneCell .i64 [((jL s k).1.length:Int)]) (by unfold maxLen;omega) (by omega) (by simp;omega) ?_;intro v' w5 hown' hgrow hnil hloc;obtain⟨va,vn,vc,rfl⟩:=LA hown';obtain⟨e1,e2,e3⟩:=I4.push hown' hgrow;obtain⟨n0,n1,n2,n3⟩:=Fz e2)
    |go_in)
   .rename_i q
    rw[Jh,wS h,zC2]at q;have e:=afy q;exact⟨⟨k+1,jv,_,_,_,_,_,_,_,_,_,_,_,_,_,_,_,_,_,_,_,_,_,_,_,_,_,_,_,_,_,_,_,_,by rw[e],by omega,by rw[e];exact I4⟩,by rw[vT I4.it,hM];omega⟩
   .rename_i q1 q2 q3 q4
    rw[Jh,wS h,zG3]at q1;rw[bne,Jh,wS (by omega),Bool.not_eq_true',zG3]at q4;have e:=afx q1 ⟨by omega,q4⟩;exact⟨⟨k+1,_,_,_,_,_,_,_,_,_,_,_,_,_,_,_,_,_,_,_,_,_,_,_,_,_,_,_,_,_,_,_,_,_,by rw[e,zA3];rfl,by omega,by rw[e];exact e3⟩,by rw[vT e3.it,hM];omega⟩
   .rename_i q1 q2 q3 q4
    rw[Jh,wS h,zG3]at q1;rw[bne,Jh,wS (by omega),Bool.not_eq_false',zC2]at q4;have e:=abN q1 λx=>x.2 q4;exact⟨⟨k+1,jv,_,_,_,_,_,_,_,_,_,_,_,_,_,_,_,_,_,_,_,_,_,_,_,_,_,_,_,_,_,_,_,_,by rw[e,zA3];rfl,by omega,by rw[e];exact I4⟩,by rw[vT I4.it,hM];omega⟩
   .rename_i q1 q2
    rw[Jh,wS h,zG3]at q1;have e:=abN q1 λx=>by have:=afw x;omega
    exact⟨⟨k+1,by rw[e,zA3];rfl,by omega,_,by rw[e];exact I4⟩,by rw[vT I4.it];omega⟩
  .obtain rfl:k=s.length:=by omega
   have hnx:=λty=>Wr (P:=Tryz.prog) w3 ty I.it (by show ¬s.length<s.length;omega);obtain⟨ja,jn,jc,rfl⟩:=LA I.row;obtain⟨d0,d1,d2,d3⟩:=Fz I.bx;have b1:=vU (s:=s) (k:=s.length);have b2:=jD (s:=sF s);have ha3:∀B o,Amb.tb B=some o->w3.heap[B]? =some o:=λB o hB=>by
    have h1:=ha1 B o hB;have h2:=(zC7.1 h1).1;have:=k2.size;rw[I.bl.block B (by omega),k2.same B h2];exact h1
   have rP:=Lz (G:=λ_=>True) (o:=.lent true) (by intro e;cases e) (po.same I.bl.block) ph λ_ _=>trivial;have rJ:=Ue (G:=λ_=>True) (o:=.lent true) (λ_ _=>trivial) (by intro e;cases e) I.row
   go_wp2_with fail
   refine(Fun.lookS' (uv (m1:=true) (m2:=true) (cq (sF s)) (jL s s.length).2 (by omega) (by omega)) w3 ha3 (vs:=[_]) (by simp only[RepL];exact⟨_,_,rfl,by rw[RepP];exact⟨_,rfl,by simp only[RepL];exact⟨_,_,rfl,rP,_,_,rfl,rJ,rfl⟩⟩,rfl⟩)).mono ?_;rintro e w6 ⟨rfl,k6⟩;have bx6:w6.heap[w2.heap.size]? =some (.cells #[Value.slice px (cq (sF s)).length pl.cap,.slice ja jn jc] 82 (0,0)):=by rw[k6.same _ (zC7.1 I.bx).1];exact I.bx
   have c6:w6.heap[w.heap.size]? =some (.cells #[.slice none 0 0,.slice none 0 0] 82 (0,0)):=by
    have h2:=(zC7.1 c2).1;have:=I.bl.size;rw[k6.same _ (by omega),I.bl.block _ h2];exact c2
   obtain⟨g0,g1,g2,g3⟩:=Fz bx6;obtain⟨f0,f1,f2,f3⟩:=Fz c6;show _
   go_wp2_with fail
   .rename_i q
    refine bodyPost_ret (zx rfl (y1 c6)) rfl ?_;have e1:DF s=false:=by rw[DF,hb,zF4];simpa using q
    refine⟨_,_,by rw[e1];rfl,by rw[Ia,zA8 (by rw[e1];decide)];exact zD,by rw[Ib,zA8 (by rw[e1];decide)];exact zD, ?_⟩;have:=k2.size;exact(((tP k01 (zB1 _)).trans (tP k2 z1)).trans ((Vj I.bl (by omega)).trans (tP k6 (by have:=I.bl.size;omega)))).setCell (zB1 _) _ |>.setCell (zB1 _) _
   .rename_i q
    refine bodyPost_ret (zx rfl (y1 c6)) rfl ?_;have e1:DF s=true:=by rw[DF,hb,zF4];simpa using q
    have:=k2.size;have:=k1.size;have:=p0.size;refine⟨_,_,by rw[e1];rfl, ?_, ?_, ?_⟩
    .rw[Ia,zB0 e1]
     have o6:=(po.same I.bl.block).same k6.same;refine Lz (by intro e;cases e) (o6.move λB hB=> ?_) ph λB hB=>by have:=pn B hB;omega
     have:=pn B hB;rw[Below.heap_setCell _ _ _ _ (by show _≠w.heap.size;omega),Below.heap_setCell _ _ _ _ (by show _≠w.heap.size;omega)]
    .rw[Ib,zB0 e1]
     have o6:=QY I.row k6.same;refine Ue (λg hg=>by omega) (by intro e;cases e) (ownsRow_setCell_below (ownsRow_setCell_below o6 (by show w.heap.size<_;omega) _) (by show w.heap.size<_;omega) _)
    .exact(((tP k01 (zB1 _)).trans (tP k2 z1)).trans ((Vj I.bl (by omega)).trans (tP k6 (by have:=I.bl.size;omega)))).setCell (zB1 _) _ |>.setCell (zB1 _) _
theorem NC{G':Nat->Prop}(hF:∀B,¬F B)(hG:∀B,G B->G' B)(h:RepP w (λ_=>False) G (.sl .fr (q.map (PV.int .i64))) v):RepP w F G' (.sl .fr (q.map (PV.int .i64))) v:=by
 simp only[RepP]at h |-
 obtain⟨a,c,h1,h2,h3,_,h5⟩:=h;exact⟨a,c,h1,h2,h3,λe=>(by cases e),h5.imp id λ⟨B,off,e1,_,e3,e4⟩=>⟨B,off,e1,hF B,λ_=>hG B (e3 trivial),we e4⟩⟩
theorem tt(s:List UInt8)(hs:s.length<=1048576):Fun Tryz.prog 65 [.str s] [.agg [lI false (Ia s),lI false (Ib s)],.bool (DF s)]:=by
 refine Fun.of_any Tryz.func65 rfl (by decide) (by show((noRoL _&&(noRoL _&&true))&&(true&&true))=true;rw[dv (λ_=>rfl),dv (λ_=>rfl)];rfl) rfl rfl λw F G vs ha hG hr=> ?_;simp only[RepL]at hr;obtain⟨a,vs1,rfl,h1,rfl⟩:=hr;have h1:=iR h1;subst h1;refine(QV s hs w ha).mono ?_;rintro e w' ⟨u,v,rfl,ru,rv,hb⟩;refine⟨_,rfl,λF' ι hF=> ?_,hb⟩;simp only[impAll,imps,imp,impL,imp1,RepA,RepAL];refine⟨_,rfl,_,_,rfl,⟨_,rfl,_,_,rfl,NC hF hG ru,_,_,rfl,NC hF hG rv,rfl⟩,_,_,rfl, ?_,rfl⟩;simp only[RepP]
end Go.Gl
