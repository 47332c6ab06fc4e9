/-
  What the functions compute, and what the law asks of it: texts joined. Conditions: those that each lemma names.
-/
import Derived.Test.YtjimcmbfljdelaaGreatDoorT2
import Derived.Test.YtjimcmbfljdelaaGreatDoorT18
import Derived.Test.YtjimcmbfljdelaaGreatDoorT13
import Derived.Test.YtjimcmbfljdelaaGreatDoorT17
import Derived.Test.YtjimcmbfljdelaaGreatDoorShelfS
import Derived.Test.YtjimcmbfljdelaaGreatDoorT1
import Derived.Test.YtjimcmbfljdelaaGreatDoorShelfU
import Derived.Test.YtjimcmbfljdelaaGreatDoorT6
import Derived.Test.YtjimcmbfljdelaaGreatDoorT10
set_option linter.unusedSimpArgs false
set_option linter.unusedVariables false
set_option maxRecDepth 20000
set_option linter.unusedSectionVars false
set_option maxHeartbeats 16000000
variable{s:List UInt8}{k:Nat}{f:Go.FuncId}{p:List Int}{L T:List (List Int)}{W:List (List UInt8)}{e0 m0 m1:Bool}{a:UInt8}
namespace Go.Gl
open Go Go.Proofs
variable [Amb][NoQ]
def oq(s:List UInt8):Bool:=decide (s=[])||((ar 32 s).all lq&&aG ((ar 32 s).map cq))
def uJ(s:List UInt8):List (List Int):=if s=[]then[]else if oq s=true then(ar 32 s).map cq else[]
theorem iN{c:UInt8}:∀{s cur:List UInt8},∀x∈tJ c s cur,x.length<=s.length+cur.length
 |[],cur,x,h=>by simp[tJ]at h;subst h;simp
 |b::l,cur,x,h=>by
  rw[tJ]at h;split at h
  .rcases zD7.1 h with rfl|h
   .simp
   .have:=iN x h;simp at this |-;omega
  .have:=iN x h;simp at this |-;omega
theorem jD:(cq s).length<=s.length:=by
 unfold cq;split
 .simp
 .split
  .simp[Ju]
  .simp
theorem TP{α:Type}{l:List α}{p:α->Bool}{d:α}(h:k<l.length)(hf:p (l.getD k d)=false):l.all p=false:=by
 rw[List.all_eq_false];exact⟨l.getD k d,am h,by rw[hf];decide⟩
theorem x5(hn:¬s=[])(hk:k<(ar 32 s).length)(h:lq ((ar 32 s).getD k [])=false):oq s=false:=by
 rw[oq,zB8 hn,TP hk h];rfl
theorem En(hn:¬s=[])(h:(ar 32 s).all lq=true):oq s=aG ((ar 32 s).map cq):=by
 rw[oq,zB8 hn,h];simp
theorem ta(h:oq s=false):uJ s=[]:=by
 rw[uJ];split
 .rfl
 .rw[zA8 (by rw[h];decide)]
theorem zT(hn:¬s=[])(h:oq s=true):uJ s=(ar 32 s).map cq:=by rw[uJ,zA8 hn,zB0 h]
theorem Em(b9:∀x∈ar 32 s,x.length<=1048570):∀l∈((ar 32 s).take k).map cq,l.length<=1048576:=λl hl=>by
 obtain⟨x,hx,rfl⟩:=zD0.1 hl;have:=b9 x (List.mem_of_mem_take hx);have:=jD (s:=x);omega
def DY:FuncId->List Bool:=λf=>if f=4294967297 then[true,false,false,false]else[]
theorem Ql:DY f=if f=4294967297 then[true,false,false,false]else[]:=_root_.id rfl
theorem JM:ga DY=false/\gu DY=true/\gs DY=false/\gr DY=false/\gB DY=false:=⟨rfl,rfl,rfl,rfl,rfl⟩
attribute [go_sem] Ql JM
theorem cQ(s:List UInt8)(hl:s.length<=1048570):Fun Tryz.prog 32 [.str s] [.dl (List.map (List.map (PV.int .i64)) (uJ s)),.bool (oq s)]:=by
 refine fO DY [2,3] Tryz.func32 ?_;have cE1:=@aB;have cE2:=@aP;have cE3:=@ay;have b0:=lA (c:=32) (s:=s) (cur:=[]);have b9:∀x∈ar 32 s,x.length<=1048570:=λx hx=>by have:=iN x hx;simp at this;omega
 have b8:(ar 32 s).length<=1048571:=by unfold ar;omega
 have hS:=aB s 32 (by omega);rw[show(((32:UInt8).toNat:Nat):Int)=32 from rfl]at hS;have cE1:=@hS;have cE2:=@aB;have cE3:=@aP;have cE4:=@ay;refine dE ai trivial (pC ?_ ?_ ?_)<;>intro zb hc
 .subst hc;rfl
 .subst hc;rfl
 .have hn:=hc
  refine ao (λ(k:Nat) S1=>(S1.e 0=.p (.str s)/\eI S1 6 k)/\DwnL (S1.e 4) S1.h S1.n (PV.int .i64) ((((ar 32 s).take k).map cq).length) (((ar 32 s).take k).map cq)/\OwnL (S1.e 5) S1.h S1.n PV.str ((ar 32 s).length) (ar 32 s)/\k<=(ar 32 s).length/\((ar 32 s).take k).all lq=true/\NId (S1.e 5) (S1.e 4)) (λk=>(ar 32 s).length-k) 0 ?_ (dC trivial aj);rintro k S1 ⟨fF1,B7,A7,A1,A0,A8⟩;obtain⟨C4,B2,C8⟩:=B7.ou;obtain⟨B4,A5,B8⟩:=A7.ou;have di1_5i1_4:=(A8).ou A5.1 B2.1;have fL1:=(aa fF1 (aa B2 (aa A5 di1_5i1_4)));have b7:k<(ar 32 s).length->((ar 32 s).getD k []).length<=1048576:=λh=>by have:=b9 ((ar 32 s).getD k []) (am h);omega
  have r1:=Em b9 (k:=k);by_cases hk:k<(ar 32 s).length
  .have cE1:=@aB;have cE2:=@aP;have cE3:=@ay;have cE4:=trivial
   refine dE ai fL1 (pC ?_ ?_ ?_)<;>intro zb hc
   .rw[ta (x5 hn hk hc)];rfl
   .exact(x5 hn hk hc).symm
   .refine ak (k+1) (dC fL1 aj) (dC fL1 (bu ?_ ?_))<;>intro zb
    all_goals first|(rw[aq (d:=[]) hk];simp;done)|(rw[aq (d:=[]) hk,List.all_append,A0,zH7,hc];rfl)|skip
  .rw[zA2 (by omega)]at A0 r1
   have r2:=En hn A0;have e0:(ar 32 s).take k=ar 32 s:=zA2 (by omega);have cE1:=@aB;have cE2:=@aP;have cE3:=@ay;have cE4:=trivial;refine dE zF (aa fL1 @e0) (yP ?_ ?_ ?_ ?_ ?_ ?_ ?_ ?_ ?_ ?_ ?_ ?_ ?_ ?_)<;>intro zb hc;all_goals try exact r1
   all_goals try exact eQ
   .rw[ta (r2.trans hc)];rfl
   .exact(r2.trans hc).symm
   .rw[zT hn (r2.trans hc)]
   .exact(r2.trans hc).symm
theorem bm(s:List UInt8)(hl:s.length<=1048570):Fun Tryz.prog 32 [.str s] [.sl .own (List.map (cK false) (uJ s)),.bool (oq s)]:=by
 refine fO au [2,3] Tryz.func32 ?_;have cE1:=@aB;have cE2:=@aP;have cE3:=@ay;have b0:=lA (c:=32) (s:=s) (cur:=[]);have b9:∀x∈ar 32 s,x.length<=1048570:=λx hx=>by have:=iN x hx;simp at this;omega
 have b8:(ar 32 s).length<=1048571:=by unfold ar;omega
 have hS:=aB s 32 (by omega);rw[show(((32:UInt8).toNat:Nat):Int)=32 from rfl]at hS;have cE1:=@hS;have cE2:=@aB;have cE3:=@aP;have cE4:=@ay;refine dE ai trivial (pC ?_ ?_ ?_)<;>intro zb hc
 .subst hc;rfl
 .subst hc;rfl
 .have hn:=hc
  refine ao (λ(k:Nat) S1=>(S1.e 0=.p (.str s)/\eI S1 6 k)/\OwnL (S1.e 4) S1.h S1.n (cK false) ((((ar 32 s).take k).map cq).length) (((ar 32 s).take k).map cq)/\OwnL (S1.e 5) S1.h S1.n PV.str ((ar 32 s).length) (ar 32 s)/\k<=(ar 32 s).length/\((ar 32 s).take k).all lq=true/\NId (S1.e 5) (S1.e 4)) (λk=>(ar 32 s).length-k) 0 ?_ (dC trivial aj);rintro k S1 ⟨fF1,B7,A7,A1,A0,A8⟩;obtain⟨C4,B2,C8⟩:=B7.ou;obtain⟨B4,A5,B8⟩:=A7.ou;have di1_5i1_4:=(A8).ou A5.1 B2.1;have fL1:=(aa fF1 (aa B2 (aa A5 di1_5i1_4)));have b7:k<(ar 32 s).length->((ar 32 s).getD k []).length<=1048576:=λh=>by have:=b9 ((ar 32 s).getD k []) (am h);omega
  have r1:=Em b9 (k:=k);by_cases hk:k<(ar 32 s).length
  .have cE1:=@aB;have cE2:=@aP;have cE3:=@ay;have cE4:=trivial
   refine dE ai fL1 (pC ?_ ?_ ?_)<;>intro zb hc
   .rw[ta (x5 hn hk hc)];rfl
   .exact(x5 hn hk hc).symm
   .refine ak (k+1) (dC fL1 aj) (dC fL1 (bu ?_ ?_))<;>intro zb
    all_goals first|(rw[aq (d:=[]) hk];simp;done)|(rw[aq (d:=[]) hk,List.all_append,A0,zH7,hc];rfl)|skip
  .rw[zA2 (by omega)]at A0 r1
   have r2:=En hn A0;have e0:(ar 32 s).take k=ar 32 s:=zA2 (by omega);have cE1:=@aB;have cE2:=@aP;have cE3:=@ay;have cE4:=trivial;refine dE zF (aa fL1 @e0) (yP ?_ ?_ ?_ ?_ ?_ ?_ ?_ ?_ ?_ ?_ ?_ ?_ ?_ ?_)<;>intro zb hc;all_goals try exact r1
   all_goals try exact eQ
   .rw[ta (r2.trans hc)];rfl
   .exact(r2.trans hc).symm
   .rw[zT hn (r2.trans hc)]
   .exact(r2.trans hc).symm
def cZ(p:List Int)(T:List (List Int)):Bool:=ac p&&pB T p
theorem Fd(h:ac p=false):cZ p T=false:=by rw[cZ,h];rfl
theorem Fc(h:ac p=true):cZ p T=pB T p:=by rw[cZ,h];rfl
theorem TK(hk:k<W.length)(h:ft p (cq (W.getD k []))=true):pB (W.map cq) p=false:=by
 have h1:((W.map cq).any λq=>ft p q)=true:=List.any_eq_true.2 ⟨_,zD0.2 ⟨_,am hk,rfl⟩,h⟩;rw[pB,h1];rfl
theorem OL(h:∀t∈W,ft p (cq t)=false):pB (W.map cq) p=true:=by
 rw[pB,Bool.not_eq_true',<-zA9,List.any_eq_true];rintro⟨q,hq,h1⟩;obtain⟨t,ht,rfl⟩:=zD0.1 hq;rw[h t ht]at h1;cases h1
theorem cz(p:List Int)(W:List (List UInt8))(hp:p.length<=1048576)(hW:W.length<=8)(hw:∀t∈W,t.length<=100/\(cq t).length<=8):Fun Tryz.prog 315 [lI m0 p,.sl (.lent m1) (List.map PV.str W)] [.bool (cZ p (W.map cq))]:=by
 by_cases h:ac p=true
 .have h8:=(al h).1
  rw[Fc h];refine fO au [4] Tryz.func315 ?_;have cE1:=@ae;have cE2:=@bf;have cE1:=@f6;have cE2:=@ae;have cE3:=@bf;refine dE ai @h (aD λzb=> ?_);refine ao (λ(k:Nat) S1=>(S1.e 0=.p (lI m0 p)/\S1.e 12=.p (.sl (.lent m1) (List.map PV.str W))/\eI S1 13 W.length/\eI S1 14 k)/\k<=W.length/\(∀t∈W.take k,ft p (cq t)=false)) (λk=>W.length-k) 0 ?_ (dC trivial aj);rintro k S1 ⟨fL1,A1,A0⟩;by_cases hk:k<W.length
  .obtain⟨w1,w2⟩:=hw _ (am (d:=[]) hk)
   cases hc0:ft p (cq (W.getD k []))with
   |true=>
    rw[TK hk hc0];have cE1:=@f6;have cE2:=@ae;have cE3:=@bf;exact dE ai (aa fL1 @hc0) aj
   |false=>
    have cE1:=@f6;have cE2:=@ae;have cE3:=@bf;refine dE ai (aa fL1 @hc0) (aI λzb hc=> ?_);refine ak (k+1) (dC fL1 aj) (dC fL1 (aD λzb=> ?_));all_goals(first|(intro t ht;rw[aq (d:=[]) hk]at ht;rcases zB3.1 ht with g|g;exact A0 t g;rw[zB7]at g;subst g;exact hc0)|skip)
  .rw[zA2 (by omega)]at A0
   rw[OL A0];have cE1:=@ae;have cE2:=@bf;have cE3:=trivial;exact dE ai fL1 aj
 .rw[zA9]at h
  rw[Fd h];refine fO au [4] Tryz.func315 ?_;have cE1:=@ae;have cE2:=@bf;exact dE ai @h aj
theorem OK(h:aG L=true):∀q∈L,q.length<=8:=by
 simp only[aG,zB9]at h;intro q hq;obtain⟨i,hi,rfl⟩:=zE7 hq;have:=js h.2 hi;rw[zA0,zA1 hi]at this;exact(al this).1
theorem ew(L:List (List Int))(p:List Int)(hL:L.length<=1048576)(hl:∀l∈L,l.length<=1048576)(hp:p.length<=1048576):Fun Tryz.prog 97 [lE m0 e0 L,lI m1 p] [.bool ((aG L&&cZ p L))]:=by
 by_cases h1:aG L=true
 .have h2:=OK h1
  by_cases h:ac p=true
  .have h8:=(al h).1
   rw[Fc h,h1];refine fO au [4] Tryz.func97 ?_;have cE1:=@ay;have cE2:=@ah;have cE3:=@cE;exact dE ai (aa @h @h1) aj
  .rw[zA9]at h
   rw[Fd h,h1];refine fO au [4] Tryz.func97 ?_;have cE1:=@ay;have cE2:=@ah;have cE3:=@cE;exact dE ai (aa @h @h1) aj
 .rw[zA9]at h1
  rw[h1];refine fO au [4] Tryz.func97 ?_;have cE1:=@ay;have cE2:=@ah;have cE3:=@cE;exact dE ai @h1 aj
theorem cd(p:List Int)(t:List UInt8)(hp:p.length<=1048576)(ht:t.length<=100)(h1:(uJ t).length<=8)(h2:∀l∈uJ t,l.length<=8):Fun Tryz.prog 284 [lI m0 p,.str t] [.bool ((aG (uJ t)&&cZ p (uJ t)))]:=by
 refine fO au [4] Tryz.func284 ?_;have cE1:=@cQ;have cE2:=@bm;have cE3:=@ew;have cp:=bm t (by omega);have h3:∀l∈uJ t,l.length<=1048576:=λl hl=>by have:=h2 l hl;omega
 have cE1:=@cp;have cE2:=@ew;have cE3:=trivial;exact dE ai trivial aj
def yT:List (List Int):=[[2,1,4,3]]
def zi:List (List Int):=[[2,1,4,3],[3,4,1,2]]
def Az:List (List Int):=[[3,2,1]]
def zh:List (List Int):=[[3,4,1,2],[4,2,3,1]]
theorem TJ{a b:List Int}:pB [a,b] p=pB [b,a] p:=by
 unfold pB;simp only[List.any_cons,List.any_nil,Bool.or_false];rw[Bool.or_comm]
theorem cI(p:List Int)(hp:p.length<=1048576):Fun Tryz.prog 241 [lI m0 p] [.bool (cZ p yT)]:=by
 refine fO au [2] Tryz.func241 ?_;have cE1:=@cz;have c1:=cz (m0:=m0) (m1:=true) p [[50,49,52,51]] hp (by decide) (by decide+kernel);have e:cZ p (([[50,49,52,51]]:List (List UInt8)).map cq)=cZ p yT:=by
  rw[show([[50,49,52,51]]:List (List UInt8)).map cq=yT from by decide+kernel]
 rw[e]at c1;simp only[lI,oI,lE,zC3,zE8]at c1;have cE1:=@c1;exact dE ai trivial aj
theorem kF(p:List Int)(hp:p.length<=1048576):Fun Tryz.prog 183 [lI m0 p] [.bool (cZ p yT)]:=by
 refine fO au [2] Tryz.func183 ?_;have cE1:=@cd;have c1:=cd (m0:=m0) p [50,49,52,51] hp (by decide) (by decide+kernel) (by decide+kernel);have e1:uJ [50,49,52,51]=yT:=by decide+kernel
 have e2:aG yT=true:=by decide+kernel
 rw[e1,e2,zF4]at c1;have cE1:=@c1;exact dE ai trivial aj
theorem cv(p:List Int)(hp:p.length<=1048576):Fun Tryz.prog 243 [lI m0 p] [.bool (cZ p zi)]:=by
 refine fO au [2] Tryz.func243 ?_;have cE1:=@cz;have c1:=cz (m0:=m0) (m1:=true) p [[51,52,49,50],[50,49,52,51]] hp (by decide) (by decide+kernel);have e:cZ p (([[51,52,49,50],[50,49,52,51]]:List (List UInt8)).map cq)=cZ p zi:=by
  rw[show([[51,52,49,50],[50,49,52,51]]:List (List UInt8)).map cq=[[3,4,1,2],[2,1,4,3]]from by decide+kernel,cZ,cZ,zi,TJ]
 rw[e]at c1;simp only[lI,oI,lE,zC3,zE8]at c1;have cE1:=@c1;exact dE ai trivial aj
theorem jU(p:List Int)(hp:p.length<=1048576):Fun Tryz.prog 185 [lI m0 p] [.bool (cZ p zi)]:=by
 refine fO au [2] Tryz.func185 ?_;have cE1:=@cd;have c1:=cd (m0:=m0) p [50,49,52,51,32,51,52,49,50] hp (by decide) (by decide+kernel) (by decide+kernel);have e1:uJ [50,49,52,51,32,51,52,49,50]=zi:=by decide+kernel
 have e2:aG zi=true:=by decide+kernel
 rw[e1,e2,zF4]at c1;have cE1:=@c1;exact dE ai trivial aj
theorem ck(p:List Int)(hp:p.length<=1048576):Fun Tryz.prog 242 [lI m0 p] [.bool (cZ p Az)]:=by
 refine fO au [2] Tryz.func242 ?_;have cE1:=@cz;have c1:=cz (m0:=m0) (m1:=true) p [[51,50,49]] hp (by decide) (by decide+kernel);have e:cZ p (([[51,50,49]]:List (List UInt8)).map cq)=cZ p Az:=by
  rw[show([[51,50,49]]:List (List UInt8)).map cq=Az from by decide+kernel]
 rw[e]at c1;simp only[lI,oI,lE,zC3,zE8]at c1;have cE1:=@c1;exact dE ai trivial aj
theorem jw(p:List Int)(hp:p.length<=1048576):Fun Tryz.prog 184 [lI m0 p] [.bool (cZ p Az)]:=by
 refine fO au [2] Tryz.func184 ?_;have cE1:=@cd;have c1:=cd (m0:=m0) p [51,50,49] hp (by decide) (by decide+kernel) (by decide+kernel);have e1:uJ [51,50,49]=Az:=by decide+kernel
 have e2:aG Az=true:=by decide+kernel
 rw[e1,e2,zF4]at c1;have cE1:=@c1;exact dE ai trivial aj
theorem dL(p:List Int)(hp:p.length<=1048576):Fun Tryz.prog 240 [lI m0 p] [.bool (cZ p zh)]:=by
 refine fO au [2] Tryz.func240 ?_;have cE1:=@cz;have c1:=cz (m0:=m0) (m1:=true) p [[51,52,49,50],[52,50,51,49]] hp (by decide) (by decide+kernel);have e:cZ p (([[51,52,49,50],[52,50,51,49]]:List (List UInt8)).map cq)=cZ p zh:=by
  rw[show([[51,52,49,50],[52,50,51,49]]:List (List UInt8)).map cq=zh from by decide+kernel]
 rw[e]at c1;simp only[lI,oI,lE,zC3,zE8]at c1;have cE1:=@c1;exact dE ai trivial aj
theorem nD(p:List Int)(hp:p.length<=1048576):Fun Tryz.prog 182 [lI m0 p] [.bool (cZ p zh)]:=by
 refine fO au [2] Tryz.func182 ?_;have cE1:=@cd;have c1:=cd (m0:=m0) p [51,52,49,50,32,52,50,51,49] hp (by decide) (by decide+kernel) (by decide+kernel);have e1:uJ [51,52,49,50,32,52,50,51,49]=zh:=by decide+kernel
 have e2:aG zh=true:=by decide+kernel
 rw[e1,e2,zF4]at c1;have cE1:=@c1;exact dE ai trivial aj
def DZ:FuncId->List Bool:=λf=>if f=167 then[false,false,false,true]else if f=8589934759 then[false,false,true]else[]
theorem Qm:DZ f=if f=167 then[false,false,false,true]else if f=8589934759 then[false,false,true]else[]:=_root_.id rfl
theorem JN:ga DZ=false/\gu DZ=false/\gs DZ=false/\gr DZ=false/\gB DZ=false:=⟨rfl,rfl,rfl,rfl,rfl⟩
attribute [go_sem] Qm JN
theorem ce(p q:List Int)(hp:ac p=true)(hq:ac q=true):Fun Tryz.prog 205 [lI m0 p,lI m1 q] [.sl .own (List.map (cK false) (eO 1 p q q.length []))]:=by
 refine fO DZ [4] Tryz.func205 ?_;have cE1:=@ah;have p8:=(fK hp).1;have q8:=(fK hq).1;have h9:=pW (m0:=m0) (m1:=m1) p q p8 q8 q.length [] [] (zI0 _) (by simp) (by have h2:8^q.length<=8^8:=Nat.pow_le_pow_right (by omega) (by omega);simp only[List.length_nil,zI0];omega);simp only[lI,oI,lE,zE8,zE1]at h9;have cM1:=@h9;exact dE ai (aa @hp @hq) aj
theorem pI(p q:List Int)(hp:p.length<=1048576)(hq:q.length<=1048576):Fun Tryz.prog 105 [lI m0 p,lI m1 q] [.int .i64 ((if ac p&&ac q then((eO 1 p q q.length []).length:Int)else -1))]:=by
 by_cases h1:ac p=true
 .by_cases h2:ac q=true
  .rw[h1,h2]
   refine fO au [4] Tryz.func105 ?_;have cE1:=@ah;have cE2:=@ce;exact dE ai (aa @h1 @h2) aj
  .rw[zA9]at h2
   rw[h1,h2];refine fO au [4] Tryz.func105 ?_;have cE1:=@ah;have cE2:=@ce;exact dE ai (aa @h1 @h2) aj
 .rw[zA9]at h1
  rw[h1];refine fO au [4] Tryz.func105 ?_;have cE1:=@ah;have cE2:=@ce;exact dE ai @h1 aj
theorem bt(s:List UInt8)(n:Int)(h0:0<=n)(h1:n<=1048576)(h2:s.length<=1048576):Fun Tryz.prog 253 [.str s,.int .i64 n] [.str (Lib.repeatL s n.toNat)]:=by
 obtain⟨c,rfl⟩:∃c:Nat,n=c:=⟨n.toNat,by omega⟩;refine Fun.of_plain Tryz.func253 rfl rfl rfl ?_;intro w F G vs hamb hv;simp only[RepL]at hv;obtain⟨a,vs1,rfl,ha,b,vs2,rfl,hb,rfl⟩:=hv;have ha:=iR ha;subst ha;have hb:=zG hb;subst hb;have h3:(⟨s.toArray⟩:ByteArray).size*c<=140737488355328:=by
  have e:(⟨s.toArray⟩:ByteArray).size=s.length:=by simp[ByteArray.size]
  rw[e];have:=zI9 h2 (show c<=1048576 by omega);omega
 refine(Tryz.strings_Repeat ⟨s.toArray⟩ c w (by omega) h3).mono λe w' h=> ?_;exact⟨by rw[h.1];simp,h.2⟩
theorem QF:∀{n:Nat},Lib.repeatL [a] n=List.replicate n a:=by
 intro n;induction n with
 |zero=>rfl
 |succ n ih=>rw[List.replicate_succ,<-ih];rfl
theorem bT:bU true=1:=rfl
theorem bF:bU false=0:=rfl
def Ac(p:List Int)(k:Nat):Nat->Nat
 |0=>0
 |j+1=>Ac p k j+(if p.getD k 0<p.getD (k+1+j) 0 then 1 else 0)
theorem qJ{p:List Int}{k:Nat}:∀{j:Nat},Ac p k j<=j
 |0=>zB1 _
 |j+1=>by have:=qJ (p:=p) (k:=k) (j:=j);rw[Ac];split<;>omega
def uG(p:List Int):Nat->List UInt8×Nat
 |0=>([],0)
 |k+1=>((uG p k).1++List.replicate (Ac p k (p.length-(k+1))+1-(uG p k).2) 85++[68],max (uG p k).2 (Ac p k (p.length-(k+1))+1)-1)
theorem LJ{p:List Int}:∀{k:Nat},(uG p k).2<=p.length
 |0=>Nat.zero_le _
 |k+1=>by
  have a:=LJ (p:=p) (k:=k);have b:=qJ (p:=p) (k:=k) (j:=p.length-(k+1));rw[uG];dsimp only;omega
theorem LI{p:List Int}:∀{k:Nat},(uG p k).1.length<=k*(p.length+2)
 |0=>Nat.zero_le _
 |k+1=>by
  have a:=LI (p:=p) (k:=k);have b:=qJ (p:=p) (k:=k) (j:=p.length-(k+1));rw[uG,Nat.succ_mul];simp only[zA3,List.length_replicate,zC5];omega
def BA(p:List Int):Bool:=ac p&& !ft p [1,3,2]
def Pd(p:List Int):List UInt8:=if BA p=true then(uG p p.length).1 else[]
theorem bX(p:List Int)(k:Nat)(hp:p.length<=8)(hk:k<p.length):Fun Tryz.prog 289 [lI m0 p,.int .i64 k] [.int .i64 (Ac p k (p.length-(k+1)))]:=by
 refine fO au [4] Tryz.func289 ?_;have cE1:=@bw;have cD1:=d7 (d8 13 [10]) [(0,10)];refine dE ai trivial (aD λzb=> ?_);refine ao (λ(j:Nat) S1=>(S1.e 0=.p (lI m0 p)/\eI S1 1 k/\eI S1 5 (Ac p k j)/\eI S1 6 (k+(1+j)))/\j<=p.length-(k+1)) (λj=>p.length-(k+1)-j) 0 ?_ (dC trivial aj);rintro j S1 ⟨fL1,A1⟩;have b1:=qJ (p:=p) (k:=k) (j:=j);by_cases hj:j<p.length-(k+1)
 .have b2:Ac p k (j+1)=Ac p k j+(if p.getD k 0<p.getD (k+(1+j)) 0 then 1 else 0):=by rw[Ac,zE9]
  have e0:((k:Int)+(1+(j:Int))).toNat=k+(1+j):=by omega
  by_cases g:p.getD k 0<p.getD (k+(1+j)) 0
  .rw[zB0 g]at b2
   have g1:(p.getD k 0<p.getD (k+(1+j)) 0)=True:=zF5 g;refine dE ai (aa fL1 (aa @e0 (aa @g1 (aa @bT @bF)))) (aI λzb hc=> ?_);exact ak (j+1) (dC fL1 aj) (dC fL1 aj);all_goals(rw[b2];try simp[bU])
  .rw[zA8 g]at b2
   have g1:(p.getD k 0<p.getD (k+(1+j)) 0)=False:=zC6 g;refine dE ai (aa fL1 (aa @e0 (aa @g1 (aa @bT @bF)))) (aI λzb hc=> ?_);exact ak (j+1) (dC fL1 aj) (dC fL1 aj);all_goals(rw[b2];try simp[bU])
 .obtain rfl:j=p.length-(k+1):=by omega
  exact dE ai fL1 aj
theorem xr(p:List Int)(hp:p.length<=1048576):Fun Tryz.prog 201 [lI m0 p] [.str (Pd p),.bool (BA p)]:=by
 cases h1:ac p with
 |false=>
  have e:BA p=false:=by rw[BA,h1];rfl
  rw[Pd,e,zA8 (by simp)];refine fO au [2,3] Tryz.func201 ?_;have cE1:=@ah;have cE2:=@bW;have cE3:=@bX;exact dE ai @h1 aj
 |true=>
  have h8:p.length<=8:=by simp[ac]at h1;exact h1.1
  have c1:=λm0 m1:Bool=>bW (m0:=m0) (m1:=m1) p [1,3,2] h8 (by decide);simp only[lI,oI,lE,zC3,zE8]at c1;cases h2:ft p [1,3,2]with
  |true=>
   have e:BA p=false:=by rw[BA,h1,h2];rfl
   rw[Pd,e,zA8 (by simp)];rw[h2]at c1;refine fO au [2,3] Tryz.func201 ?_;have cE1:=@ah;have cE2:=@bW;have cE3:=@bX;have cE1:=@c1;have cE2:=@ah;have cE3:=@bW;have cE4:=@bX;exact dE ai (aa @h1 @h2) aj
  |false=>
   have e:BA p=true:=by rw[BA,h1,h2];rfl
   rw[Pd,e,zB0 rfl];rw[h2]at c1;refine fO au [2,3] Tryz.func201 ?_;have cE1:=@ah;have cE2:=@bW;have cE3:=@bX;have cE1:=@c1;have cE2:=@ah;have cE3:=@bW;have cE4:=@bX;refine dE ai (aa @h1 @h2) (aD λzb=> ?_);refine ao (λ(k:Nat) S1=>(S1.e 0=.p (lI m0 p)/\S1.e 4=.p (.str ((uG p k).1))/\eI S1 5 ((uG p k).2)/\eI S1 6 k)/\k<=p.length) (λk=>p.length-k) 0 ?_ (dC trivial aj);rintro k S1 ⟨fL1,A1⟩;have b1:=LJ (p:=p) (k:=k);have b2:=LI (p:=p) (k:=k);by_cases hk:k<p.length
   .have b3:=qJ (p:=p) (k:=k) (j:=p.length-(k+1))
    have b4:uG p (k+1)=((uG p k).1++List.replicate (Ac p k (p.length-(k+1))+1-(uG p k).2) 85++[68],max (uG p k).2 (Ac p k (p.length-(k+1))+1)-1):=rfl;have b5:k*(p.length+2)<=8*10:=zI9 (by omega) (by omega);generalize hw:Ac p k (p.length-(k+1))=w at*
    generalize ho:(uG p k).1=o at*
    generalize hh:(uG p k).2=h at*
    have cE1:=@ah;have cE2:=@bW;have cE3:=@bX;have cE4:=trivial;refine dE ai fL1 (aI λzb hc=> ?_);refine ao (λ(d:Nat) S2=>(S2.e 0=.p (lI m0 p)/\S2.e 4=.p (.str ((o++List.replicate d 85)))/\eI S2 5 ((h+d:Nat))/\eI S2 6 k)/\d<=w+1-h/\S1.n<=S2.n) (λd=>w+1-h-d) 0 ?_ (dC fL1 (aD λzb=> ?_));rintro d S2 ⟨fL2,A6,B1⟩
    .by_cases hd:d<w+1-h
     .have cE1:=@ah;have cE2:=@bW;have cE3:=@bX;have cE4:=trivial
      refine dE ai (aa fL2 @hw) (aI λzb hc=> ?_);refine ak (d+1) (dC fL2 aj) (dC fL2 (aD λzb=> ?_));all_goals(rw[List.replicate_succ'])
     .obtain rfl:d=w+1-h:=by omega
      have cE1:=@ah;have cE2:=@bW;have cE3:=@bX;have cE4:=trivial;refine dE ai (aa fL2 @hw) (aI λzb hc=> ?_);refine ak (k+1) (dC fL2 aj) (dC fL2 (bu ?_ ?_))<;>intro zb;all_goals(rw[b4];first|(simp;done)|(simp only;omega)|(dsimp only;simp;omega))
    all_goals simp
   .obtain rfl:k=p.length:=by omega
    have cE1:=@ah;have cE2:=@bW;have cE3:=@bX;have cE4:=trivial;exact dE ai fL1 aj
theorem xC(p:List Int)(hp:p.length<=1048576):Fun Tryz.prog 132 [lI m0 p] [.str (Pd p),.bool (BA p)]:=by
 cases h1:ac p with
 |false=>
  have e:BA p=false:=by rw[BA,h1];rfl
  rw[Pd,e,zA8 (by simp)];refine fO au [2,3] Tryz.func132 ?_;have cE1:=@ae;have cE2:=@bt;exact dE ai @h1 aj
 |true=>
  have h8:p.length<=8:=by simp[ac]at h1;exact h1.1
  have c1:=λm0 m1:Bool=>f6 (m0:=m0) (m1:=m1) p [1,3,2] h8 (by decide);simp only[lI,oI,lE,zC3,zE8]at c1;cases h2:ft p [1,3,2]with
  |true=>
   have e:BA p=false:=by rw[BA,h1,h2];rfl
   rw[Pd,e,zA8 (by simp)];rw[h2]at c1;refine fO au [2,3] Tryz.func132 ?_;have cE1:=@ae;have cE2:=@bt;have cE1:=@c1;have cE2:=@ae;have cE3:=@bt;exact dE ai (aa @h1 @h2) aj
  |false=>
   have e:BA p=true:=by rw[BA,h1,h2];rfl
   rw[Pd,e,zB0 rfl];rw[h2]at c1;refine fO au [2,3] Tryz.func132 ?_;have cE1:=@ae;have cE2:=@bt;have cE1:=@c1;have cE2:=@ae;have cE3:=@bt;refine dE ai (aa @h1 @h2) (aD λzb=> ?_);refine ao (λ(k:Nat) S1=>(S1.e 0=.p (lI m0 p)/\S1.e 19=.p (lI m0 p)/\eI S1 20 p.length/\eI S1 21 k/\S1.e 4=.p (.str ((uG p k).1))/\eI S1 5 ((uG p k).2))/\k<=p.length) (λk=>p.length-k) 0 ?_ (dC trivial aj);rintro k S1 ⟨fL1,A1⟩;have b1:=LJ (p:=p) (k:=k);have b2:=LI (p:=p) (k:=k);by_cases hk:k<p.length
   .have b3:=qJ (p:=p) (k:=k) (j:=p.length-(k+1))
    have b4:uG p (k+1)=((uG p k).1++List.replicate (Ac p k (p.length-(k+1))+1-(uG p k).2) 85++[68],max (uG p k).2 (Ac p k (p.length-(k+1))+1)-1):=rfl;have b5:k*(p.length+2)<=8*10:=zI9 (by omega) (by omega);generalize ho:(uG p k).1=o at*
    generalize hh:(uG p k).2=h at*
    have cE1:=@ae;have cE2:=@bt;have cE3:=trivial;refine dE ai fL1 (aI λzb hc=> ?_);refine ao (λ(d:Nat) S2=>(S2.e 0=.p (lI m0 p)/\S2.e 19=.p (lI m0 p)/\eI S2 20 p.length/\eI S2 21 k/\S2.e 4=.p (.str o)/\eI S2 5 h/\eI S2 7 (p.getD k 0)/\eI S2 8 ((1+Ac p k d:Nat))/\S2.e 29=.p (lI m0 (p.drop (k+1)))/\eI S2 30 (p.length-(k+1))/\eI S2 31 d)/\d<=p.length-(k+1)/\S1.n<=S2.n) (λd=>p.length-(k+1)-d) 0 ?_ (dC fL1 aj);rintro d S2 ⟨fL2,A6,B1⟩
    .have b6:=qJ (p:=p) (k:=k) (j:=d)
     by_cases hd:d<p.length-(k+1)
     .have b7:Ac p k (d+1)=Ac p k d+(if p.getD k 0<p.getD (k+1+d) 0 then 1 else 0):=rfl
      have b8:(p.drop (k+1)).getD d 0=p.getD (k+(1+d)) 0:=by rw[zA0,zG0,zE9,<-zA0]
      have b9:(p.drop (k+1)).length=p.length-(k+1):=by simp
      rw[zE9 k 1 d]at b7;by_cases g:p.getD k 0<p.getD (k+(1+d)) 0
      .rw[zB0 g]at b7
       have cE1:=@ae;have cE2:=@bt;have cE3:=trivial;refine dE ai (aa fL2 @b8) (aI λzb hc=> ?_);exact ak (d+1) (dC fL2 aj) (dC fL2 aj);all_goals(rw[b7];try omega)
      .rw[zA8 g]at b7
       have cE1:=@ae;have cE2:=@bt;have cE3:=trivial;refine dE ai (aa fL2 @b8) (aI λzb hc=> ?_);exact ak (d+1) (dC fL2 aj) (dC fL2 aj);all_goals(rw[b7];try omega)
     .obtain rfl:d=p.length-(k+1):=by omega
      generalize hw:Ac p k (p.length-(k+1))=w at*
      by_cases g:h<1+w
      .have g1:((h:Int)<((1+w:Nat):Int))=True:=zF5 (by omega)
       have g2:(((1+w:Nat):Int)-(h:Int)).toNat=w+1-h:=by omega
       have g3:=QF (a:=85) (n:=w+1-h);have cE1:=@ae;have cE2:=@bt;have cE3:=trivial;refine dE ai (aa fL2 (aa @g1 (aa @g2 @g3))) (aI λzb hc=> ?_);refine ak (k+1) (dC fL2 aj) (dC fL2 (bu ?_ ?_))<;>intro zb;all_goals(rw[b4];first|(simp;done)|(simp only;omega)|(dsimp only;simp;omega))
      .have g1:((h:Int)<((1+w:Nat):Int))=False:=zC6 (by omega)
       have g2:w+1-h=0:=by omega
       have cE1:=@ae;have cE2:=@bt;have cE3:=trivial;refine dE ai (aa fL2 @g1) (aI λzb hc=> ?_);refine ak (k+1) (dC fL2 aj) (dC fL2 (bu ?_ ?_))<;>intro zb;all_goals(rw[b4,g2];first|(simp;done)|(simp only;omega)|(dsimp only;simp;omega))
    all_goals simp
   .obtain rfl:k=p.length:=by omega
    have cE1:=@ae;have cE2:=@bt;have cE3:=trivial;exact dE ai fL1 aj
def uA(p:List Int)(s:Nat):List Int:=p.take s++([(p.length:Int)+1]++p.drop s)
theorem uV{s:Nat}:(uA p s).length=p.length+1:=by simp[uA];omega
theorem gS(p:List Int)(s:Nat)(h8:p.length<=1048576)(h1:s<=p.length):Fun Tryz.prog 166 [lI m0 p,.int .i64 s] [oI (uA p s)]:=by
 refine fO au [4] Tryz.func166 ?_;have cD1:=d7 (d8 15 [0,4,8,9,13]) [(0,1),(0,2),(0,3),(0,5),(4,5),(0,6),(4,6),(0,7),(4,7),(0,8),(1,8),(2,8),(3,8),(4,8),(0,10),(4,10),(8,10),(9,10),(0,11),(4,11),(8,11),(9,11),(0,12),(4,12),(8,12),(9,12)];have e1:List.take (p.length-s) (p.drop s)=p.drop s:=zA2 (by simp);have e2:((List.take s p).length+1=(List.take s p++[(p.length:Int)+1]).length)=True:=zF5 (by simp);refine dE zF (aa @e1 @e2) ?_;all_goals try(apply nn;repeat' first|exact jb|apply aa|(apply nq;intro zb hc)|(apply np;intro zb)|intro j')<;>try apply nu
 all_goals first|omega|(simp only[fU];omega)|(simp only[EI];omega)|(rw[zA2 (by simp;omega)];rfl)
def Ed:FuncId->List Bool:=λf=>if f=337 then[true]else[]
theorem Qq:Ed f=if f=337 then[true]else[]:=_root_.id rfl
theorem JR:ga Ed=false/\gu Ed=false/\gs Ed=false/\gr Ed=false/\gB Ed=false:=⟨rfl,rfl,rfl,rfl,rfl⟩
attribute [go_sem] Qq JR
theorem j6(p:List Int)(s:Nat)(h8:p.length<=1048570)(h1:s<=p.length):Fun Tryz.prog 269 [lI m0 p,.int .i64 s] [oI (uA p s)]:=by
 refine fO Ed [4] Tryz.func269 ?_;have cE1:=@aW;have c1:=λm0=>Nk (m0:=m0) p [(p.length:Int)+1] s h1 (by simp) (by omega) (by simp);simp only[lI,oI,lE,zC3,zE8]at c1;have cM1:=@c1;refine dE ai trivial (aD λzb=> ?_);all_goals rfl
def OS(L:List (List Int))(p:List Int)(k:Nat):List Int:=((List.range k).filter λs=>pB L (uA p s)).map λs:Nat=>(s:Int)
def FD(L:List (List Int))(p:List Int):List Int:=OS L p (p.length+1)
theorem Vo:OS L p (k+1)=OS L p k++if pB L (uA p k)=true then[(k:Int)]else[]:=by
 unfold OS;rw[zF7,List.filter_append,zE2];congr 1;simp only[List.filter_cons,List.filter_nil];split<;>rfl
theorem AL:(OS L p k).length<=k:=by
 rw[OS,zB2];exact zE0 (zG8 _ _) (by simp)
theorem lZ(L:List (List Int))(p:List Int)(hL:L.length<=1099511627776)(hl:∀q∈L,q.length<=8)(hp:p.length<=7):Fun Tryz.prog 258 [lE m0 e0 L,lI m1 p] [oI (FD L p)]:=by
 refine fO au [4] Tryz.func258 ?_;have cE1:=@j6;have cE2:=@dp;refine dE ai trivial (aD λzb=> ?_);refine ao (λ(k:Nat) S1=>(S1.e 0=.p (lE m0 e0 L)/\S1.e 1=.p (lI m1 p)/\eI S1 10 ((p.length+1))/\eI S1 11 k)/\OwnL (S1.e 5) S1.h S1.n (PV.int .i64) ((OS L p k).length) (OS L p k)/\k<=p.length+1) (λk=>p.length+1-k) 0 ?_ (dC trivial aj);rintro k S1 ⟨fF1,A7,A1⟩;obtain⟨B4,A5,B8⟩:=A7.ou;have fL1:=(aa fF1 A5);have b1:=AL (L:=L) (p:=p) (k:=k);have b2:=uV (p:=p) (s:=k);by_cases hk:k<p.length+1
 .have b3:=Vo (L:=L) (p:=p) (k:=k)
  cases hc0:pB L (uA p k)with
  |true=>
   rw[hc0,zB0 rfl]at b3;refine dE ai (aa fL1 @hc0) (aI λzb hc=> ?_);refine ak (k+1) (dC fL1 aj) (dC fL1 (bu ?_ ?_))<;>intro zb;all_goals(rw[b3];try simp)
  |false=>
   rw[hc0,zA8 (by simp),zC0]at b3;refine dE ai (aa fL1 @hc0) (aI λzb hc=> ?_);refine ak (k+1) (dC fL1 aj) (dC fL1 (bu ?_ ?_))<;>intro zb;all_goals(rw[b3];try simp)
 .obtain rfl:k=p.length+1:=by omega
  refine dE ai fL1 (aI λzb hc=> ?_);all_goals rfl
theorem gR(L:List (List Int))(p:List Int)(hL:L.length<=1099511627776)(hl:∀q∈L,q.length<=8)(hp:p.length<=7):Fun Tryz.prog 199 [lE m0 e0 L,lI m1 p] [oI (FD L p)]:=by
 refine fO au [4] Tryz.func199 ?_;have cE1:=@gS;have cE2:=@cE;refine dE ai trivial (aD λzb=> ?_);refine ao (λ(k:Nat) S1=>(S1.e 0=.p (lE m0 e0 L)/\S1.e 1=.p (lI m1 p)/\eI S1 6 k)/\OwnL (S1.e 5) S1.h S1.n (PV.int .i64) ((OS L p k).length) (OS L p k)/\k<=p.length+1) (λk=>p.length+1-k) 0 ?_ (dC trivial aj);rintro k S1 ⟨fF1,A7,A1⟩;obtain⟨B4,A5,B8⟩:=A7.ou;have fL1:=(aa fF1 A5);have b1:=AL (L:=L) (p:=p) (k:=k);have b2:=uV (p:=p) (s:=k);by_cases hk:k<p.length+1
 .have b3:=Vo (L:=L) (p:=p) (k:=k)
  cases hc0:pB L (uA p k)with
  |true=>
   rw[hc0,zB0 rfl]at b3;refine dE ai (aa fL1 @hc0) (aI λzb hc=> ?_);refine ak (k+1) (dC fL1 aj) (dC fL1 (bu ?_ ?_))<;>intro zb;all_goals(rw[b3];try simp)
  |false=>
   rw[hc0,zA8 (by simp),zC0]at b3;refine dE ai (aa fL1 @hc0) (aI λzb hc=> ?_);refine ak (k+1) (dC fL1 aj) (dC fL1 (bu ?_ ?_))<;>intro zb;all_goals(rw[b3];try simp)
 .obtain rfl:k=p.length+1:=by omega
  refine dE ai fL1 (aI λzb hc=> ?_);all_goals rfl
def Pr(L:List (List Int))(p:List Int):List Int:=if aG L=true/\cZ p L=true/\p.length<8 then FD L p else[]
theorem sC:(FD L p).length<=p.length+1:=AL
theorem ld(L:List (List Int))(p:List Int)(hL:L.length<=1048576)(hl:∀l∈L,l.length<=1048576)(hp:p.length<=1048576):Fun Tryz.prog 137 [lE m0 e0 L,lI m1 p] [.bool ((aG L&&cZ p L))]:=by
 by_cases h1:aG L=true
 .have h2:=OK h1
  by_cases h:ac p=true
  .have h8:=(al h).1
   rw[Fc h,h1];refine fO au [4] Tryz.func137 ?_;have cE1:=@aw;have cE2:=@ae;have cE3:=@dp;exact dE ai (aa @h @h1) aj
  .rw[zA9]at h
   rw[Fd h,h1];refine fO au [4] Tryz.func137 ?_;have cE1:=@aw;have cE2:=@ae;have cE3:=@dp;exact dE ai (aa @h @h1) aj
 .rw[zA9]at h1
  rw[h1];refine fO au [4] Tryz.func137 ?_;have cE1:=@aw;have cE2:=@ae;have cE3:=@dp;exact dE ai @h1 aj
theorem nN(L:List (List Int))(p:List Int)(hL:L.length<=1048576)(hl:∀l∈L,l.length<=1048576)(hp:p.length<=1048576):Fun Tryz.prog 257 [lE m0 e0 L,lI m1 p] [.bool ((aG L&&cZ p L&&decide (p.length<8)))]:=by
 cases hc0:(aG L&&cZ p L)with
 |true=>
  refine fO au [4] Tryz.func257 ?_;have cE1:=@ld;refine dE ai @hc0 (aD λzb=> ?_);all_goals(congr 1;exact propext (by omega))
 |false=>
  refine fO au [4] Tryz.func257 ?_;have cE1:=@ld;exact dE ai @hc0 aj
theorem Ll(h:aG L=true/\cZ p L=true/\p.length<8):∀q∈L,q.length<=8:=OK h.1
theorem qS(L:List (List Int))(p:List Int)(hL:L.length<=1048576)(hl:∀l∈L,l.length<=1048576)(hp:p.length<=1048576):Fun Tryz.prog 139 [lE m0 e0 L,lI m1 p] [oI (Pr L p)]:=by
 by_cases hc0:aG L=true/\cZ p L=true/\p.length<8
 .have h8:=Ll hc0
  have hz:=hc0.2.2;have e1:(aG L&&cZ p L&&decide (p.length<8))=true:=by rw[hc0.1,hc0.2.1,zB6 hc0.2.2];rfl
  rw[Pr,zB0 hc0];refine fO au [4] Tryz.func139 ?_;have cE1:=@nN;have cE2:=@lZ;exact dE ai @e1 aj
 .have e1:(aG L&&cZ p L&&decide (p.length<8))=false:=by
   rw[<-zA9];intro h;apply hc0;simpa[and_assoc]using h
  rw[Pr,zA8 hc0];refine fO au [4] Tryz.func139 ?_;have cE1:=@nN;have cE2:=@lZ;exact dE ai @e1 aj
theorem qw(L:List (List Int))(p:List Int)(hL:L.length<=1048576)(hl:∀l∈L,l.length<=1048576)(hp:p.length<=1048576):Fun Tryz.prog 99 [lE m0 e0 L,lI m1 p] [oI (Pr L p)]:=by
 by_cases hc0:aG L=true/\cZ p L=true/\p.length<8
 .have h8:=Ll hc0
  have hz:=hc0.2.2;have e1:(aG L&&cZ p L)=true:=by rw[hc0.1,hc0.2.1];rfl
  rw[Pr,zB0 hc0];refine fO au [4] Tryz.func99 ?_;have cE1:=@ew;have cE2:=@gR;exact dE ai @e1 aj
 .rw[Pr,zA8 hc0]
  cases e1:(aG L&&cZ p L)with
  |true=>
   have e2:aG L=true/\cZ p L=true:=by simpa using e1
   have e3:p.length<=8:=by
    have:=e2.2;unfold cZ at this;simp only[zB9]at this;exact(al this.1).1
   have e4:p.length=8:=by
    by_cases q:p.length<8
    .exact absurd ⟨e2.1,e2.2,q⟩ hc0
    .omega
   have e5:(p.length=8)=True:=zF5 e4;refine fO au [4] Tryz.func99 ?_;have cE1:=@ew;have cE2:=@gR;exact dE ai (aa @e1 @e5) aj
  |false=>
   refine fO au [4] Tryz.func99 ?_;have cE1:=@ew;have cE2:=@gR;exact dE ai @e1 aj
def wN(p:List Int)(n:Int):Prop:=ac p=true/\p.length<8/\0<=n/\n<=p.length
instance {p:List Int}{n:Int}:Decidable (wN p n):=by unfold wN;infer_instance
theorem wj(p:List Int)(n:Int)(hl:p.length<=1048576):Fun Tryz.prog 152 [lI m0 p,.int .i64 n] [oI ((if wN p n then uA p n.toNat else[])),.bool (decide (wN p n))]:=by
 by_cases hc0:wN p n
 .obtain⟨hp,h1,h2,h3⟩:=id hc0
  rw[zB0 hc0,zB6 hc0];obtain⟨k,rfl⟩:∃k:Nat,n=k:=⟨n.toNat,by omega⟩;rw[zC9];refine fO au [4,5] Tryz.func152 ?_;have cE1:=@ae;have cE2:=@j6;exact dE ai @hp aj
 .rw[zA8 hc0,zB8 hc0]
  by_cases hp:ac p=true
  .have h8:=(al hp).1
   have h2:¬(p.length<8/\0<=n/\n<=p.length):=λh=>hc0 ⟨hp,h⟩;refine fO au [4,5] Tryz.func152 ?_;have cE1:=@ae;have cE2:=@j6;exact dE ai @hp aj
  .rw[zA9]at hp
   refine fO au [4,5] Tryz.func152 ?_;have cE1:=@ae;have cE2:=@j6;exact dE ai @hp aj
theorem vq(p:List Int)(n:Int)(hl:p.length<=1048576):Fun Tryz.prog 83 [lI m0 p,.int .i64 n] [oI ((if wN p n then uA p n.toNat else[])),.bool (decide (wN p n))]:=by
 by_cases hc0:wN p n
 .obtain⟨hp,h1,h2,h3⟩:=id hc0
  rw[zB0 hc0,zB6 hc0];obtain⟨k,rfl⟩:∃k:Nat,n=k:=⟨n.toNat,by omega⟩;rw[zC9];refine fO au [4,5] Tryz.func83 ?_;have cE1:=@aA;have cE2:=@ah;have cE3:=@gS;exact dE ai @hp aj
 .rw[zA8 hc0,zB8 hc0]
  by_cases hp:ac p=true
  .have h8:=(al hp).1
   have h2:¬(p.length<8/\0<=n/\n<=p.length):=λh=>hc0 ⟨hp,h⟩;refine fO au [4,5] Tryz.func83 ?_;have cE1:=@aA;have cE2:=@ah;have cE3:=@gS;exact dE ai @hp aj
  .rw[zA9]at hp
   refine fO au [4,5] Tryz.func83 ?_;have cE1:=@aA;have cE2:=@ah;have cE3:=@gS;exact dE ai @hp aj
def IT(k:Int):List UInt8:=
 if k=1 then[50,51,49]else if k=2 then[51,50,49]else if k=3 then[50,52,49,51,32,51,49,52,50]else if k=4 then[50,51,49,32,51,49,50]
 else if k=5 then[49,51,50,32,50,51,49]else if k=6 then[50,49,52,51,32,51,52,49,50]else if k=7 then[49,50,51,32,49,51,50]else if k=8 then[50,51,49,32,51,49,50,32,51,50,49]else[]
theorem qu(k:Int):Fun Tryz.prog 31 [.int .i64 k] [.str (IT k)]:=by
 refine fO au [2] Tryz.func31 ?_;refine dE ai trivial (zk9 ?_ ?_ ?_ ?_ ?_ ?_ ?_ ?_ ?_)<;>(intro zb hc;repeat (have zc:=zb.1;replace zb:=zb.2));all_goals(simp_all [IT];done)
theorem Zc{k:Int}(h1:1<=k)(h2:k<=8):([PV.str [50,51,49],PV.str [51,50,49],PV.str [50,52,49,51,32,51,49,52,50],
    PV.str [50,51,49,32,51,49,50],PV.str [49,51,50,32,50,51,49],
    PV.str [50,49,52,51,32,51,52,49,50],PV.str [49,50,51,32,49,51,50],
    PV.str [50,51,49,32,51,49,50,32,51,50,49]]:List PV)[(k-1).toNat]? =some (.str (IT k)):=by
 have h:k=1\/k=2\/k=3\/k=4\/k=5\/k=6\/k=7\/k=8:=by omega
 rcases h with rfl|rfl|rfl|rfl|rfl|rfl|rfl|rfl<;>rfl
theorem NT{k:Int}(h:k<1\/8<k):IT k=[]:=by
 unfold IT
 iterate 8 rw[zA8 (by omega)]
theorem qQ(k:Int):Fun Tryz.prog 45 [.int .i64 k] [.str (IT k)]:=by
 refine Fun.of (sg:=au) (ts:=[2]) mo Tryz.func45 rfl rfl rfl rfl (by kernel_rfl) (by simp only[go_sem]) rfl ?_;have fc:True:=trivial
 repeat' first
  |with_reducible first|refine ZT ?_|refine zJ rfl ?_|(refine hK _ ?_;clear hK)|(refine hA ?_;clear hA hB)|(refine hB ?_;clear hA hB)|exact yZ|exact yY|refine Ko ?_ ?_|refine Kp ?_ ?_|refine aa ?_ ?_
  |(with_reducible refine WW ?_;decide)
  |((first|with_reducible first|refine u7 rfl rfl (λK hK=> ?_)|refine y0 rfl rfl (λK hK=> ?_)|refine VB (λA B hA hB=> ?_)|refine Kq rfl ?_|refine DN ?_|refine yX ?_|refine yU ?_|refine yV rfl ?_|refine yW rfl ?_ ?_|refine Ks ?_ (λj'=> ?_)|refine Kl ?_ ?_ ?_ ?_ ?_|refine Km ?_|refine Kr ?_ ?_ ?_|(intro hc;replace fc:=aa hc fc;try simp only[hcs]at hc))<;>(try simp(config:={maxSteps:=1000000}) only[go_sem,↓reduceIte,reduceCtorEq,Nat.reduceEqDiff,Nat.reduceAdd,Nat.reduceMul,Nat.reduceSub,Nat.reduceLeDiff,Int.reduceLT,Int.reduceLE,Int.reduceEq,Int.reduceSub,Int.reduceAdd,Int.reduceMul,Int.reduceNeg,Int.reduceToNat,fc])<;>(try with_reducible rfl))
 all_goals try (first|omega|(simp only[fU,vW];omega)|(simp only[fU,vW,EI];omega)|(simp only[EI];done)|exact zA2 (by simp))
 .exact(NT (by omega)).symm
 .rw[Zc (by omega) (by omega)]
  simp only[CI,go_sem,↓reduceIte,reduceCtorEq,Nat.reduceEqDiff,Nat.reduceAdd];have fc:True:=trivial
  repeat' first
   |with_reducible first|refine ZT ?_|refine zJ rfl ?_|(refine hK _ ?_;clear hK)|(refine hA ?_;clear hA hB)|(refine hB ?_;clear hA hB)|exact yZ|exact yY|refine Ko ?_ ?_|refine Kp ?_ ?_|refine aa ?_ ?_
   |(with_reducible refine WW ?_;decide)
   |((first|with_reducible first|refine u7 rfl rfl (λK hK=> ?_)|refine y0 rfl rfl (λK hK=> ?_)|refine VB (λA B hA hB=> ?_)|refine Kq rfl ?_|refine DN ?_|refine yX ?_|refine yU ?_|refine yV rfl ?_|refine yW rfl ?_ ?_|refine Ks ?_ (λj'=> ?_)|refine Kl ?_ ?_ ?_ ?_ ?_|refine Km ?_|refine Kr ?_ ?_ ?_|(intro hc;replace fc:=aa hc fc;try simp only[hcs]at hc))<;>(try simp(config:={maxSteps:=1000000}) only[go_sem,↓reduceIte,reduceCtorEq,Nat.reduceEqDiff,Nat.reduceAdd,Nat.reduceMul,Nat.reduceSub,Nat.reduceLeDiff,Int.reduceLT,Int.reduceLE,Int.reduceEq,Int.reduceSub,Int.reduceAdd,Int.reduceMul,Int.reduceNeg,Int.reduceToNat,fc])<;>(try with_reducible rfl))
 .exact(NT (by omega)).symm
def Fe(k:Int):List (List Int):=if IT k=[]then[]else uJ (IT k)
def CX(k:Int):Bool:=if IT k=[]then false else oq (IT k)
theorem Au{k:Int}:(IT k).length<=1000:=by
 unfold IT;repeat' split
 all_goals simp
theorem zS:(uJ s).length<=s.length+1/\∀l∈uJ s,l.length<=s.length:=by
 have h2:=lA (c:=32) (s:=s) (cur:=[]);unfold uJ;split
 .simp
 .split
  .refine⟨by rw[zB2];exact h2,λl hl=> ?_⟩
   obtain⟨x,hx,rfl⟩:=zD0.1 hl;have h3:=iN x hx;have h4:=jD (s:=x);simp at h3;omega
  .simp
theorem uS{k:Int}:(Fe k).length<=1001/\∀l∈Fe k,l.length<=1000:=by
 have h1:=Au (k:=k);have h2:=zS (s:=IT k);unfold Fe;split
 .simp
 .exact⟨by omega,λl hl=>by have:=h2.2 l hl;omega⟩
variable [SplA]
theorem bo(s:List UInt8)(hl:s.length<=1048570):Fun Tryz.prog 27 [.str s] [.sl .own (List.map (cK false) (uJ s)),.bool (oq s)]:=by
 refine fO au [2,3] Tryz.func27 ?_;have cE1:=@cV;have cE2:=@bf;have cE3:=@aw;have b0:=lA (c:=32) (s:=s) (cur:=[]);have b9:∀x∈ar 32 s,x.length<=1048570:=λx hx=>by have:=iN x hx;simp at this;omega
 have b8:(ar 32 s).length<=1048571:=by unfold ar;omega
 have hS:=cV s 32 (by omega);have cE1:=@hS;have cE2:=@cV;have cE3:=@bf;have cE4:=@aw;refine dE ai trivial (pC ?_ ?_ ?_)<;>intro zb hc
 .subst hc;rfl
 .subst hc;rfl
 .have hn:=hc
  refine ao (λ(k:Nat) S1=>(eI S1 15 ((ar 32 s).length)/\eI S1 16 k)/\OwnL (S1.e 4) S1.h S1.n (cK false) ((((ar 32 s).take k).map cq).length) (((ar 32 s).take k).map cq)/\OwnL (S1.e 14) S1.h S1.n PV.str ((ar 32 s).length) (ar 32 s)/\k<=(ar 32 s).length/\((ar 32 s).take k).all lq=true/\NId (S1.e 14) (S1.e 4)) (λk=>(ar 32 s).length-k) 0 ?_ (dC trivial aj);rintro k S1 ⟨fF1,B7,W8,A1,A0,A8⟩;obtain⟨C4,B2,C8⟩:=B7.ou;obtain⟨i1_14,Q8,l1_14⟩:=W8.ou;have di1_14i1_4:=(A8).ou Q8.1 B2.1;have fL1:=(aa fF1 (aa B2 (aa Q8 di1_14i1_4)));have b7:k<(ar 32 s).length->((ar 32 s).getD k []).length<=1048576:=λh=>by have:=b9 ((ar 32 s).getD k []) (am h);omega
  have r1:=Em b9 (k:=k);by_cases hk:k<(ar 32 s).length
  .have cE1:=@cV;have cE2:=@bf;have cE3:=@aw;have cE4:=trivial
   refine dE ai fL1 (pC ?_ ?_ ?_)<;>intro zb hc
   .rw[ta (x5 hn hk hc)];rfl
   .exact(x5 hn hk hc).symm
   .refine ak (k+1) (dC fL1 aj) (dC fL1 (bu ?_ ?_))<;>intro zb
    all_goals first|(rw[aq (d:=[]) hk];simp;done)|(rw[aq (d:=[]) hk,List.all_append,A0,zH7,hc];rfl)|skip
  .rw[zA2 (by omega)]at A0 r1
   have r2:=En hn A0;have e0:(ar 32 s).take k=ar 32 s:=zA2 (by omega);have cE1:=@cV;have cE2:=@bf;have cE3:=@aw;have cE4:=trivial;refine dE zF (aa fL1 @e0) (yP ?_ ?_ ?_ ?_ ?_ ?_ ?_ ?_ ?_ ?_ ?_ ?_ ?_ ?_)<;>intro zb hc;all_goals try exact r1
   all_goals try exact eQ
   .rw[ta (r2.trans hc)];rfl
   .exact(r2.trans hc).symm
   .rw[zT hn (r2.trans hc)]
   .exact(r2.trans hc).symm
end Go.Gl
