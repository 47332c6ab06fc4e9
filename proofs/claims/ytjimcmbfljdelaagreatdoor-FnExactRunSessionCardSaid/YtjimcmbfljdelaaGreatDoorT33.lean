/-
  What the functions compute, and what the law asks of it: texts joined. Conditions: those that each lemma names.
-/
import Derived.Test.YtjimcmbfljdelaaGreatDoorT22
import Derived.Test.YtjimcmbfljdelaaGreatDoorT10
import Derived.Test.YtjimcmbfljdelaaGreatDoorT26
import Derived.Test.YtjimcmbfljdelaaGreatDoorT30
import Derived.Test.YtjimcmbfljdelaaGreatDoorT20
import Derived.Test.YtjimcmbfljdelaaGreatDoorT1
import Derived.Test.YtjimcmbfljdelaaGreatDoorT12
import Derived.Test.YtjimcmbfljdelaaGreatDoorT4
import Derived.Test.YtjimcmbfljdelaaGreatDoorT17
import Derived.Test.YtjimcmbfljdelaaGreatDoorT31
set_option linter.unusedSimpArgs false
set_option linter.unusedVariables false
set_option maxRecDepth 20000
set_option linter.unusedSectionVars false
set_option maxHeartbeats 16000000
variable{L:List (List UInt8)}{b m0:Bool}{t w:List UInt8}{p:List Int}{f:Go.FuncId}{k:Nat}
namespace Go.Gl
open Go Go.Proofs
variable [Amb][NoQ]
def IG:Nat->List UInt8
 |0=>[115,105,109,112,108,101]
 |1=>[115,101,112,97,114,97,98,108,101]
 |2=>[108,97,121,101,114,101,100]
 |3=>[115,109,111,111,116,104]
 |4=>[118,101,120,105,108,108,97,114,121]
 |5=>[99,111,109,109,117,116,97,116,105,118,101]
 |6=>[109,101,114,103,101,100]
 |7=>[105,110,118,111,108,117,116,105,111,110]
 |_=>[97,108,116,101,114,110,97,116,105,110,103]
def fmP(p:List Int):Nat->Bool
 |0=>ac p&&lW p
 |1=>uh p
 |2=>qK p
 |3=>cZ p zh
 |4=>cZ p yT
 |5=>cZ p Az
 |6=>cZ p zi
 |7=>Af p
 |_=>w9 p
def DL(L:List (List UInt8))(b:Bool)(w:List UInt8):List (List UInt8):=if b=true then L++[w]else L
def lw(p:List Int):Nat->List (List UInt8)
 |0=>[]
 |k+1=>DL (lw p k) (fmP p k) (IG k)
def Ha(p:List Int):List UInt8:=if ac p=true then(if lw p 9=[]then[45]else Lib.join (lw p 9) [32])else[]
theorem TT:(DL L b w).length<=L.length+1:=by grind [DL]
theorem hU{p:List Int}:∀{k:Nat},(lw p k).length<=k/\∀w∈lw p k,w.length<=11
 |0=>by simp[lw]
 |k+1=>by
  obtain⟨h1,h2⟩:=hU (p:=p) (k:=k);have h3:(IG k).length<=11:=by
   match k with
   |0|1|2|3|4|5|6|7=>decide
   |n+8=>exact Nat.le_of_ble_eq_true rfl
  grind [lw,DL]
theorem Ao:(Lib.join (lw p 9) [32]).length<=108:=by
 obtain⟨h1,h2⟩:=hU (p:=p) (k:=9);have:=fV (sep:=[32]) h2;grind
def zm:FuncId->List Bool:=λf=>if f=178 then[true]else[]
theorem Qv:zm f=if f=178 then[true]else[]:=_root_.id rfl
theorem JW:ga zm=false/\gu zm=false/\gs zm=false/\gr zm=false/\gB zm=false:=⟨rfl,rfl,rfl,rfl,rfl⟩
attribute [go_sem] Qv JW
theorem bR(L:List (List UInt8))(b:Bool)(w:List UInt8)(hL:L.length<=1000):CallT Tryz.prog true 178 [.mu false (List.map PV.str L),.pv (.bool b),.pv (.str w)] [none,none,none] [.sl .own (List.map PV.str (DL L b w))]:=by
 refine fX zm [6] Tryz.func178 ?_;cases b with
 |true=>
  have e:DL L true w=L++[w]:=rfl;rw[e];exact dE dN trivial aj
 |false=>
  have e:DL L false w=L:=rfl;rw[e];exact dE dN trivial aj
theorem ed(p:List Int)(hp:p.length<=1048576):Fun Tryz.prog 90 [lI m0 p] [.str (Ha p)]:=by
 by_cases h:ac p=true
 .have n1:=hU (p:=p) (k:=1)
  have n2:=hU (p:=p) (k:=2);have n3:=hU (p:=p) (k:=3);have n4:=hU (p:=p) (k:=4);have n5:=hU (p:=p) (k:=5);have n6:=hU (p:=p) (k:=6);have n7:=hU (p:=p) (k:=7);have n8:=hU (p:=p) (k:=8);have n9:=hU (p:=p) (k:=9);have nj:=Ao (p:=p);have a0:=bR [] (ac p&&lW p) [115,105,109,112,108,101] (by decide);have a1:=bR (lw p 1) (uh p) [115,101,112,97,114,97,98,108,101] (by omega);have a2:=bR (lw p 2) (qK p) [108,97,121,101,114,101,100] (by omega);have a3:=bR (lw p 3) (cZ p zh) [115,109,111,111,116,104] (by omega);have a4:=bR (lw p 4) (cZ p yT) [118,101,120,105,108,108,97,114,121] (by omega);have a5:=bR (lw p 5) (cZ p Az) [99,111,109,109,117,116,97,116,105,118,101] (by omega);have a6:=bR (lw p 6) (cZ p zi) [109,101,114,103,101,100] (by omega);have a7:=bR (lw p 7) (Af p) [105,110,118,111,108,117,116,105,111,110] (by omega);have a8:=bR (lw p 8) (w9 p) [97,108,116,101,114,110,97,116,105,110,103] (by omega);rw[show DL [] (ac p&&lW p) [115,105,109,112,108,101]=lw p 1 from rfl]at a0;rw[show DL (lw p 1) (uh p) [115,101,112,97,114,97,98,108,101]=lw p 2 from rfl]at a1;rw[show DL (lw p 2) (qK p) [108,97,121,101,114,101,100]=lw p 3 from rfl]at a2;rw[show DL (lw p 3) (cZ p zh) [115,109,111,111,116,104]=lw p 4 from rfl]at a3;rw[show DL (lw p 4) (cZ p yT) [118,101,120,105,108,108,97,114,121]=lw p 5 from rfl]at a4;rw[show DL (lw p 5) (cZ p Az) [99,111,109,109,117,116,97,116,105,118,101]=lw p 6 from rfl]at a5;rw[show DL (lw p 6) (cZ p zi) [109,101,114,103,101,100]=lw p 7 from rfl]at a6;rw[show DL (lw p 7) (Af p) [105,110,118,111,108,117,116,105,111,110]=lw p 8 from rfl]at a7;rw[show DL (lw p 8) (w9 p) [97,108,116,101,114,110,97,116,105,110,103]=lw p 9 from rfl]at a8;have e:Ha p=if lw p 9=[]then[45]else Lib.join (lw p 9) [32]:=by rw[Ha,zB0 h]
  rw[e];have cp:=λm0:Bool=>ah (m0:=m0) p hp;rw[h]at cp;simp only[lI,oI,lE,zE8]at a0;refine fO zm [2] Tryz.func90 ?_;have cE1:=@ah;have cE2:=@nE;have cE3:=@kH;have cE4:=@mi;have cE5:=@nD;have cE6:=@kF;have cE7:=@jw;have cE8:=@jU;have cE9:=@jV;have cE10:=@jx;have cE11:=@bj;have cM1:=@bR;have cE1:=@cp;have cM1:=@a0;have cM2:=@a1;have cM3:=@a2;have cM4:=@a3;have cM5:=@a4;have cM6:=@a5;have cM7:=@a6;have cM8:=@a7;have cM9:=@a8;refine dE ai trivial (f9 ?_ ?_)<;>intro zb hc
  .rw[zB0 (zA4 (by omega))]
  .rw[zA8 (λe=>hc (by rw[e];rfl))]
 .have e:Ha p=[]:=by rw[Ha,zA8 h]
  rw[e];rw[zA9]at h;refine fO zm [2] Tryz.func90 ?_;have cE1:=@ah;have cE2:=@nE;have cE3:=@kH;have cE4:=@mi;have cE5:=@nD;have cE6:=@kF;have cE7:=@jw;have cE8:=@jU;have cE9:=@jV;have cE10:=@jx;have cE11:=@bj;have cM1:=@bR;exact dE ai @h aj
def NE:Nat->FuncId
 |0=>237
 |1=>238
 |2=>239
 |3=>240
 |4=>241
 |5=>242
 |6=>243
 |7=>244
 |_=>245
def fmCs:List PV:=[.str (IG 0),.fn (NE 0) [] [],.str (IG 1),.fn (NE 1) [] [],.str (IG 2),.fn (NE 2) [] [],.str (IG 3),.fn (NE 3) [] [],.str (IG 4),.fn (NE 4) [] [],.str (IG 5),.fn (NE 5) [] [],.str (IG 6),.fn (NE 6) [] [],.str (IG 7),.fn (NE 7) [] [],.str (IG 8),.fn (NE 8) [] []]
theorem CM:fmCs.length=18:=rfl
theorem acX(hk:k<9):List.take 2 (List.drop (k*2) fmCs)=[.str (IG k),.fn (NE k) [] []]:=by
 obtain rfl|rfl|rfl|rfl|rfl|rfl|rfl|rfl|rfl:k=0\/k=1\/k=2\/k=3\/k=4\/k=5\/k=6\/k=7\/k=8:=by omega
 all_goals rfl
theorem abz:nJ Tryz.prog 147=true:=by kernel_rfl
theorem SD:PV.cellOk .nilf=true:=_root_.id rfl
attribute [local go_sem] abz SD
theorem SG(hk:k<9)(p:List Int)(hp:p.length<=1048576):Fun Tryz.prog (NE k) [lI m0 p] [.bool (fmP p k)]:=by
 obtain rfl|rfl|rfl|rfl|rfl|rfl|rfl|rfl|rfl:k=0\/k=1\/k=2\/k=3\/k=4\/k=5\/k=6\/k=7\/k=8:=by omega
 .exact dM p hp
 .exact cJ p hp
 .exact dw p hp
 .exact dL p hp
 .exact cI p hp
 .exact ck p hp
 .exact cv p hp
 .exact cw p hp
 .exact cm p hp
theorem eg(p:List Int)(hp:p.length<=1048576):Fun Tryz.prog 128 [lI m0 p] [.str (Ha p)]:=by
 by_cases h:ac p=true
 .have e:Ha p=if lw p 9=[]then[45]else Lib.join (lw p 9) [32]:=by rw[Ha,zB0 h]
  have nj:=Ao (p:=p);rw[e];refine fO au [2] Tryz.func128 ?_;have cE1:=@ae;have cE2:=@dM;have cE3:=@cJ;have cE4:=@dw;have cE5:=@dL;have cE6:=@cI;have cE7:=@ck;have cE8:=@cv;have cE9:=@cw;have cE10:=@cm;have cE11:=@az;refine dE ai @h (aD λzb=> ?_);refine ao (λ(k:Nat) S1=>(S1.e 0=.p (lI m0 p)/\eI S1 22 9/\eI S1 23 k)/\OwnL (S1.e 4) S1.h S1.n PV.str ((lw p k).length) (lw p k)/\PrsL (S1.e 21) S1.h S1.n 9 fmCs/\k<=9/\NId (nk (S1.e 21)) (S1.e 4)) (λk=>9-k) 0 ?_ (dC trivial aj);rintro k S1 ⟨fF1,B7,o1_21,A1,A8⟩;obtain⟨C4,B2,C8⟩:=B7.ou;obtain⟨i1_21,R9,l1_21⟩:=o1_21.ou;have di1_21i1_4:=(A8).ou (AK R9.1) B2.1;have fL1:=(aa fF1 (aa B2 (aa R9 di1_21i1_4)))
  .obtain⟨n1,_⟩:=hU (p:=p) (k:=k)
   by_cases hk:k<9
   .have e1:=acX hk
    have c9:=λm0:Bool=>SG (m0:=m0) hk p hp;cases hb:fmP p k with
    |true=>
     have e2:lw p (k+1)=lw p k++[IG k]:=by rw[lw,hb];rfl
     have cE1:=@c9;have cE2:=@ae;have cE3:=@dM;have cE4:=@cJ;have cE5:=@dw;have cE6:=@dL;have cE7:=@cI;have cE8:=@ck;have cE9:=@cv;have cE10:=@cw;have cE11:=@cm;have cE12:=@az;refine dE ai (aa fL1 (aa @e1 (aa @CM @hb))) (aI λzb hc=> ?_);refine ak (k+1) (dC fL1 aj) (dC fL1 (bu ?_ ?_))<;>intro zb;all_goals(first|(rw[e2];done)|(rw[e2,zA3];rfl)|skip)
    |false=>
     have e2:lw p (k+1)=lw p k:=by rw[lw,hb];rfl
     have cE1:=@c9;have cE2:=@ae;have cE3:=@dM;have cE4:=@cJ;have cE5:=@dw;have cE6:=@dL;have cE7:=@cI;have cE8:=@ck;have cE9:=@cv;have cE10:=@cw;have cE11:=@cm;have cE12:=@az;refine dE ai (aa fL1 (aa @e1 (aa @CM @hb))) (aI λzb hc=> ?_);refine ak (k+1) (dC fL1 aj) (dC fL1 (bu ?_ ?_))<;>intro zb;all_goals(first|(rw[e2];done)|skip)
   .obtain rfl:k=9:=by omega
    have cE1:=@ae;have cE2:=@dM;have cE3:=@cJ;have cE4:=@dw;have cE5:=@dL;have cE6:=@cI;have cE7:=@ck;have cE8:=@cv;have cE9:=@cw;have cE10:=@cm;have cE11:=@az;have cE12:=trivial;refine dE ai fL1 (f9 ?_ ?_)<;>intro zb hc
    .rw[zB0 (zA4 (by omega))]
    .rw[zA8 (λe=>hc (by rw[e];rfl))]
 .have e:Ha p=[]:=by rw[Ha,zA8 h]
  rw[e];rw[zA9]at h;refine fO au [2] Tryz.func128 ?_;have cE1:=@ae;have cE2:=@dM;have cE3:=@cJ;have cE4:=@dw;have cE5:=@dL;have cE6:=@cI;have cE7:=@ck;have cE8:=@cv;have cE9:=@cw;have cE10:=@cm;have cE11:=@az;exact dE ai @h aj
end Go.Gl
namespace Go.Gl
open Go Go.Proofs
variable [Amb][NoQ]
variable [TabA]
def Fs(t:List UInt8):List UInt8:=if t=[]then[45]else t
theorem Tl:(Fs t).length<=t.length+1:=by unfold Fs;split<;>simp
theorem fy(t:List UInt8)(ht:t.length<=1099511627776):Fun Tryz.prog 46 [.str t] [.str (Fs t)]:=by
 refine fO au [2] Tryz.func46 ?_;by_cases h:t=[]
 .have e:Fs t=[45]:=zB0 h
  rw[e];subst h;exact dE ai trivial aj
 .have e:Fs t=t:=zA8 h
  rw[e];refine dE ai trivial (aI λzb hc=> ?_);all_goals(first|(exact absurd hc h)|skip)
def Jt(p:List Int):List (List UInt8):=[[116,114,101,101],Fs (tZ p),[100,101,115,99,101,110,116,115],jE (Ff p),[105,110,118,101,114,115,105,111,110,115],cP (de p p.length),[109,97,106,111,114],cP (Mw p),[99,121,99,108,101,115],cP (Oi p),[117,112],cP (vf p),[100,111,119,110],cP (wG p),[115,116,97,99,107],cP (y4 sE p),[112,111,112],cP (y4 rN p),[99,111,100,101],jE (aX p),Ha p]
def Zh(p:List Int):List UInt8:=if ac p=true then Lib.join (Jt p) [32]else[]
omit [TabA]in
theorem Zg(h:ac p=true):(0<=de p p.length/\de p p.length<=64)/\(-1<=vf p/\vf p<=8)/\(-1<=wG p/\wG p<=8)/\(∀x∈Ff p, -9223372036854775808<=x/\x<=9223372036854775807)/\(aX p).length<=8/\∀x∈aX p, -9223372036854775808<=x/\x<=9223372036854775807:=by
 obtain⟨h8,hq⟩:=al h;refine⟨?_, ?_, ?_,λx hx=>by have:=dsL_f.2 x hx;omega,by rw[fA];exact h8,λx hx=> ?_⟩
 .have h1:=Nj (p:=p) (k:=p.length) (zB1 _)
  have i2:p.length*p.length<=64:=zI9 h8 h8;omega
 .have:=UF h8
  rw[vf,zB0 h];omega
 .have:=UF (p:=p.reverse) (by rw[zC4];exact h8)
  rw[wG,zB0 h];omega
 .obtain⟨i,hi,rfl⟩:=zE7 hx
  have:=kn p i;rw[zA0,zA1 hi]at this;simp only[zH5]at this;omega
theorem adj(h:ac p=true):(jE (Ff p)).length<=177/\(jE (aX p)).length<=177/\(cP (de p p.length)).length<=21/\(cP (Mw p)).length<=21/\(cP (Oi p)).length<=21/\(cP (vf p)).length<=21/\(cP (wG p)).length<=21/\(cP (y4 sE p)).length<=21/\(cP (y4 rN p)).length<=21/\(Ha p).length<=108/\(Fs (tZ p)).length<=1300000001:=by
 obtain⟨i1,i2,i3,i4,i5,i6⟩:=Zg h;have m1:=Mv (p:=p);have m2:=Oh (p:=p);have m3:=xO (f:=sE) (p:=p);have m4:=xO (f:=rN) (p:=p);have n1:=mB i4;have n2:=mB i6;have n3:=(dsL_f (p:=p)).1;have t1:=uC (p:=p);have t2:=Tl (t:=tZ p);refine⟨by omega,by omega,dZ (by omega) (by omega),dZ (by omega) (by omega),dZ (by omega) (by omega),dZ (by omega) (by omega),dZ (by omega) (by omega),dZ (by omega) (by omega),dZ (by omega) (by omega), ?_,by omega⟩;rw[Ha,zB0 h];split
 .exact(by decide:([45]:List UInt8).length<=108)
 .exact Ao
theorem agd(h:ac p=true):(Lib.join (Jt p) [32]).length<=1099511627776:=by
 obtain⟨l1,l2,l3,l4,l5,l6,l7,l8,l9,l10,l11⟩:=adj h;have:=fV (sep:=[32]) (n:=1300000001) (l:=Jt p) λx hx=>by
  simp only[Jt,zD7,List.not_mem_nil,or_false]at hx;rcases hx with rfl|rfl|rfl|rfl|rfl|rfl|rfl|rfl|rfl|rfl|rfl|rfl|rfl|rfl|rfl|rfl|rfl|rfl|rfl|rfl|rfl<;>first|omega|(simp only[zC1,List.length_nil];omega)
 have e:(Jt p).length=21:=rfl;rw[e]at this;simp only[zC5]at this;omega
theorem pO(p:List Int)(hl:p.length<=1048576):Fun Tryz.prog 126 [lI m0 p] [.str (Zh p)]:=by
 by_cases h:ac p=true
 .obtain⟨i1,i2,i3,i4,i5,i6⟩:=Zg h
  have m1:=Mv (p:=p);have m2:=Oh (p:=p);have m3:=xO (f:=sE) (p:=p);have m4:=xO (f:=rN) (p:=p);have n3:=(dsL_f (p:=p)).1;have t1:=uC (p:=p);have j1:=agd h;have f1:(if ac p=true then de p p.length else -1)=de p p.length:=zB0 h;have f2:coL p=aX p:=zB0 h;have e:Zh p=Lib.join (Jt p) [32]:=zB0 h;have cj:=λm0:Bool=>az (m0:=m0) (Jt p) [32] (by rw[show(Jt p).length=21 from rfl];decide) j1;simp only[lI,oI,lE,Jt,zC3,zE8]at cj;rw[e,Jt];refine fO au [2] Tryz.func126 ?_;have cE1:=@ae;have cE2:=@gY;have cE3:=@fy;have cE4:=@dY;have cE5:=@ba;have cE6:=@fj;have cE7:=@aQ;have cE8:=@kZ;have cE9:=@ic;have cE10:=@jq;have cE11:=@ib;have cE12:=@iU;have cE13:=@jS;have cE14:=@ma;have cE15:=@eg;have cE16:=@az;have cE1:=@cj;have cE2:=@ae;have cE3:=@gY;have cE4:=@fy;have cE5:=@dY;have cE6:=@ba;have cE7:=@fj;have cE8:=@aQ;have cE9:=@kZ;have cE10:=@ic;have cE11:=@jq;have cE12:=@ib;have cE13:=@iU;have cE14:=@jS;have cE15:=@ma;have cE16:=@eg;exact dE ai (aa @h (aa @f1 @f2)) aj
 .have e:Zh p=[]:=zA8 h
  rw[e];rw[zA9]at h;refine fO au [2] Tryz.func126 ?_;have cE1:=@ae;have cE2:=@gY;have cE3:=@fy;have cE4:=@dY;have cE5:=@ba;have cE6:=@fj;have cE7:=@aQ;have cE8:=@kZ;have cE9:=@ic;have cE10:=@jq;have cE11:=@ib;have cE12:=@iU;have cE13:=@jS;have cE14:=@ma;have cE15:=@eg;have cE16:=@az;exact dE ai @h aj
theorem pG(p:List Int)(hl:p.length<=1048576):Fun Tryz.prog 88 [lI m0 p] [.str (Zh p)]:=by
 by_cases h:ac p=true
 .obtain⟨i1,i2,i3,i4,i5,i6⟩:=Zg h
  obtain⟨l1,l2,l3,l4,l5,l6,l7,l8,l9,l10,l11⟩:=adj h;have m1:=Mv (p:=p);have m2:=Oh (p:=p);have m3:=xO (f:=sE) (p:=p);have m4:=xO (f:=rN) (p:=p);have n3:=(dsL_f (p:=p)).1;have t1:=uC (p:=p);have f1:(if ac p=true then de p p.length else -1)=de p p.length:=zB0 h;have f2:(if ac p=true then aX p else[])=aX p:=zB0 h;have e:Zh p=Lib.join (Jt p) [32]:=zB0 h;rw[e,Jt];simp only[Lib.join_cons,Lib.joinTail,zC3,zE8,List.flatten_cons,List.flatten_nil,zC0];by_cases h0:tZ p=[]
  .have f3:Fs (tZ p)=[45]:=zB0 h0
   rw[f3];refine fO au [2] Tryz.func88 ?_;have cE1:=@ah;have cE2:=@gT;have cE3:=@dV;have cE4:=@cG;have cE5:=@eX;have cE6:=@aL;have cE7:=@kD;have cE8:=@hZ;have cE9:=@jm;have cE10:=@hY;have cE11:=@iJ;have cE12:=@jO;have cE13:=@d5;have cE14:=@ed;exact dE ai (aa @h (aa @f1 (aa @f2 @h0))) aj
  .have f3:Fs (tZ p)=tZ p:=zA8 h0
   have f4:(tZ p=[])=False:=zC6 h0;rw[f3];refine fO au [2] Tryz.func88 ?_;have cE1:=@ah;have cE2:=@gT;have cE3:=@dV;have cE4:=@cG;have cE5:=@eX;have cE6:=@aL;have cE7:=@kD;have cE8:=@hZ;have cE9:=@jm;have cE10:=@hY;have cE11:=@iJ;have cE12:=@jO;have cE13:=@d5;have cE14:=@ed;exact dE ai (aa @h (aa @f1 (aa @f2 @f4))) aj
 .have e:Zh p=[]:=zA8 h
  rw[e];rw[zA9]at h;refine fO au [2] Tryz.func88 ?_;have cE1:=@ah;have cE2:=@gT;have cE3:=@dV;have cE4:=@cG;have cE5:=@eX;have cE6:=@aL;have cE7:=@kD;have cE8:=@hZ;have cE9:=@jm;have cE10:=@hY;have cE11:=@iJ;have cE12:=@jO;have cE13:=@d5;have cE14:=@ed;exact dE ai @h aj
end Go.Gl
