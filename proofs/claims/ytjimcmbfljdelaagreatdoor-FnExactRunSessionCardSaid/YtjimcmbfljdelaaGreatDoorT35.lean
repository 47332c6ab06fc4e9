/-
  What the functions compute, and what the law asks of it: texts joined. Conditions: those that each lemma names.
-/
import Derived.Test.YtjimcmbfljdelaaGreatDoorT34
import Derived.Test.YtjimcmbfljdelaaGreatDoorT12
import Derived.Test.YtjimcmbfljdelaaGreatDoorT21
import Derived.Test.YtjimcmbfljdelaaGreatDoorT30
import Derived.Test.YtjimcmbfljdelaaGreatDoorT33
import Derived.Test.YtjimcmbfljdelaaGreatDoorT16
import Derived.Test.YtjimcmbfljdelaaGreatDoorT27
import Derived.Test.YtjimcmbfljdelaaGreatDoorT22
import Derived.Test.YtjimcmbfljdelaaGreatDoorT20
import Derived.Test.YtjimcmbfljdelaaGreatDoorT14
import Derived.Test.YtjimcmbfljdelaaGreatDoorT3
import Derived.Test.YtjimcmbfljdelaaGreatDoorT32
import Derived.Test.YtjimcmbfljdelaaGreatDoorT1
import Derived.Test.YtjimcmbfljdelaaGreatDoorT4
import Derived.Test.YtjimcmbfljdelaaGreatDoorT28
import Derived.Test.YtjimcmbfljdelaaGreatDoorT29
import Derived.Test.YtjimcmbfljdelaaGreatDoorT19
import Derived.Test.YtjimcmbfljdelaaGreatDoorT5
import Derived.Test.YtjimcmbfljdelaaGreatDoorT24
import Derived.Test.YtjimcmbfljdelaaGreatDoorT15
import Derived.Test.YtjimcmbfljdelaaGreatDoorT23
import Derived.Test.YtjimcmbfljdelaaGreatDoorT31
import Derived.Test.YtjimcmbfljdelaaGreatDoorT11
import Derived.Test.YtjimcmbfljdelaaGreatDoorT10
set_option linter.unusedSimpArgs false
set_option linter.unusedVariables false
set_option maxRecDepth 20000
set_option linter.unusedSectionVars false
set_option maxHeartbeats 16000000
variable{c:Prop}{a b p x:List Int}{l w:List UInt8}{n:Int}{X:List (List UInt8)}{L:List (List Int)}{m0 m1:Bool}{f:Go.FuncId}
namespace Go.Gl
open Go Go.Proofs
variable [Amb][NoQ]
theorem se[Decidable c]{x y:List Int×Bool×Bool}(h1:x.1.length<=1048576)(h2:y.1.length<=1048576):(if c then x else y).1.length<=1048576:=by split<;>assumption
theorem itL[Decidable c](h:x.length<=1048576):(if c then x else[]).length<=1048576:=by
 split
 .exact h
 .simp
def AW(w:List UInt8)(a b:List Int):List Int×Bool×Bool:=
 if w=[105,110,118,101,114,115,101]then((if ac a=true then jM a else[]),ac a,true)else
 if w=[114,101,118,101,114,115,101]then((if ac a=true then a.reverse else[]),true,true)else
 if w=[99,111,109,112,108,101,109,101,110,116]then((if ac a=true then dg a else[]),true,true)else
 if w=[110,101,120,116]then(Ru a,Eu a,true)else
 if w=[115,116,97,99,107]then((if ac a=true then sE a else[]),true,true)else
 if w=[112,111,112]then((if ac a=true then rN a else[]),true,true)else
 if w=[98,117,98,98,108,101]then((if ac a=true then buF a else[]),true,true)else
 if w=[115,117,109]then((if fR a b=true then mQ a b false else[]),fR a b,true)else
 if w=[115,107,101,119]then((if fR a b=true then mQ a b true else[]),fR a b,true)else
 ([],true,false)
def xM(w:List UInt8)(n:Int)(a:List Int):List Int×Bool×Bool:=
 if w=[115,121,109,109,101,116,114,121]then((if ac a=true/\0<=n/\n<=7 then jN a n.toNat else[]),decide (ac a=true/\0<=n/\n<=7),true)else
 if w=[100,114,111,112]then((if ac a=true/\1<=n/\n<=a.length then TY a (n-1).toNat else[]),decide (ac a=true/\1<=n/\n<=a.length),true)else
 if w=[99,104,105,108,100]then((if wN a n then uA a n.toNat else[]),decide (wN a n),true)else
 ([],false,false)
def Ez(X:List (List UInt8))(a b:List Int):List Int×Bool×Bool:=
 if X.length=1 then AW (X.getD 0 []) a b else
 if X.length≠2 then([],false,false)else
 if X.getD 0 []=[112,101,114,109]then(cq (X.getD 1 []),lq (X.getD 1 []),lq (X.getD 1 []))else
 if rn 12 (X.getD 1 [])=true then xM (X.getD 0 []) (qA 12 (X.getD 1 [])) a else([],false,false)
def qI(X:List (List UInt8)):List (List Int)×Bool×Bool:=
 if X.getD 0 []=[98,97,115,105,115]then(uJ (Lib.join (X.drop 1) [32]),oq (Lib.join (X.drop 1) [32]),true)else
 if X.getD 0 []≠[101,120,97,109,112,108,101]\/X.length≠2 then([],false,false)else
 (Fe (qA 12 (X.getD 1 [])),CX (qA 12 (X.getD 1 [])),rn 12 (X.getD 1 []))
def ZR(w:List UInt8)(a b:List Int)(L:List (List Int)):List UInt8:=
 if w=[115,104,111,119]then cO a else
 if w=[100,101,115,99,114,105,98,101]then Zh a else
 if w=[116,114,101,101]then Fs (tZ a)else
 if w=[102,97,109,105,108,105,101,115]then Ha a else
 if w=[116,97,98,108,101,97,117,120]then Ye a else
 if w=[99,108,97,115,115]then Fr L else
 if w=[98,117,105,108,100,105,110,103]then Fs (AF a)else
 if w=[114,97,110,107]then cP (if ac a then cY (aX a)else -1)else
 if w=[119,111,114,100,115]then cP (Jv a)else
 if w=[105,110]then Jz (aG L&&cZ a L)else
 if w=[115,105,116,101,115]then jE (Pr L a)else
 if w=[98,101,108,111,119]then Jz (zr a b)else
 if w=[119,101,97,107]then Jz (yR a b)else
 if w=[112,97,116,104]then ZX (Pd a) (BA a)else
 if w=[109,111,118,101,115]then ZX (Jm a) (nZ a)else
 [119,104,97,116]
def PI(w t:List UInt8)(a:List Int)(L:List (List Int)):List UInt8:=
 if w=[110,101,97,114]then(if DF t=true then cP (Jo a (Ia t) (Ib t))else[110,111])else
 if w=[99,111,117,110,116]then(if lq t=true then cP (if ac a&&ac (cq t)then((eO 1 a (cq t) (cq t).length []).length:Int)else -1)else[119,104,97,116])else
 if rn 12 t=true/\w=[99,111,117,110,116,115]then jE (uW L (qA 12 t))else
 if rn 12 t=true/\w=[108,97,98,101,108]then jE (MV L (qA 12 t))else[119,104,97,116]
def anT(X:List (List UInt8))(a b:List Int)(L:List (List Int)):List UInt8:=
 if X.length=1 then ZR (X.getD 0 []) a b L else if X.length=2 then PI (X.getD 0 []) (X.getD 1 []) a L else[119,104,97,116]
theorem Gs:∀(cs l:List Int),(lG cs l).length=cs.length
 |[],_=>rfl
 |_::cs,_=>by rw[lG,zC1,Gs cs,zC1]
theorem Xl:(Ru p).length<=8:=by
 unfold Ru;split
 .unfold LV;split
  .rename_i h;simp[kN]at h;rw[Gs,py];omega
  .simp
 .simp
theorem T0(ha:a.length<=1048576):(AW w a b).1.length<=1048576:=by
 have h1:=j5 (p:=a);have h2:=gM (p:=a);have h3:=Xl (p:=a);have h4:(if ac a=true then sE a else[]).length<=8:=by
  split
  .rename_i h;have:=al h;rw[(DU this.2).2.1];exact this.1
  .simp
 have h5:(if ac a=true then rN a else[]).length<=8:=by
  split
  .rename_i h;have:=al h;rw[(El this.2).2.1];exact this.1
  .simp
 have h6:(buF a).length=a.length:=uX;have h7:∀k,(if fR a b=true then mQ a b k else[]).length<=8:=λk=>by
  split
  .rename_i h
   simp only[fR,zB9,zC2]at h;rw[Bd];exact h.2
  .simp
 have h8:=h7 true;have h9:=h7 false;unfold AW;exact se (itL (by omega)) (se (itL (by rw[zC4];exact ha)) (se (itL (by omega)) (se (by dsimp only;omega) (se (by dsimp only;omega) (se (by dsimp only;omega) (se (itL (by omega)) (se (by dsimp only;omega) (se (by dsimp only;omega) (by simp)))))))))
theorem aaM(ha:a.length<=1048576):(xM w n a).1.length<=1048576:=by
 have h1:∀k,(jN a k).length=a.length:=λk=>Bc;unfold xM
 repeat' (refine se ?_ ?_)
 .simp only;split
  .rw[h1];exact ha
  .simp
 .simp only;split
  .rename_i h;rw[FF (by omega)];omega
  .simp
 .simp only;split
  .rename_i h;rw[uV];have:=h.2.1;omega
  .simp
 .simp
theorem UC(ha:a.length<=1048576)(hX:∀x∈X,x.length<=1048576):(Ez X a b).1.length<=1048576:=by
 have h1:(cq (X.getD 1 [])).length<=1048576:=by
  have:=jD (s:=X.getD 1 []);have q:(X.getD 1 []).length<=1048576:=by
   by_cases h:1<X.length
   .exact hX _ (am (d:=[]) h)
   .rw[zA0,zG9 (by omega)];simp
  omega
 unfold Ez;exact se (T0 ha) (se (by simp) (se h1 (se (aaM ha) (by simp))))
abbrev Se:=List Int×List Int×List (List Int)
def Dz(s:Se):Prop:=s.1.length<=1048576/\s.2.1.length<=1048576/\s.2.2.length<=1048576/\∀l∈s.2.2,l.length<=1048576
def KS(l:List UInt8)(s:Se):Se×List UInt8:=
 if l=[107,101,101,112]then((s.1,s.1,s.2.2),[111,107])else
 if l=[115,119,97,112]then((s.2.1,s.1,s.2.2),[111,107])else
 if((Ez (ar 32 l) s.1 s.2.1).2.2&& !(Ez (ar 32 l) s.1 s.2.1).2.1||(qI (ar 32 l)).2.2&& !(qI (ar 32 l)).2.1)=true then(s,[110,111])else
 if(Ez (ar 32 l) s.1 s.2.1).2.2=true then(((Ez (ar 32 l) s.1 s.2.1).1,s.2.1,s.2.2),cO (Ez (ar 32 l) s.1 s.2.1).1)else
 if(qI (ar 32 l)).2.2=true then((s.1,s.2.1,(qI (ar 32 l)).1),Fs (Pq (qI (ar 32 l)).1))else
 (s,anT (ar 32 l) s.1 s.2.1 s.2.2)
def T6(s:Se)(p:List Int)(b:Bool):Se:=if b=true then(p,s.2.1,s.2.2)else s
def ZS(p:List Int)(b:Bool):List UInt8:=if b=true then cO p else[110,111]
def PK(s:Se)(L:List (List Int))(b:Bool):Se:=if b=true then(s.1,s.2.1,L)else s
def VP(L:List (List Int))(b:Bool):List UInt8:=if b=true then Fs (Pq L)else[110,111]
def Up(w:List UInt8)(s:Se):Se×List UInt8:=
 if(AW w s.1 s.2.1).2.2=true then(T6 s (AW w s.1 s.2.1).1 (AW w s.1 s.2.1).2.1,ZS (AW w s.1 s.2.1).1 (AW w s.1 s.2.1).2.1)else
 if w=[107,101,101,112]then((s.1,s.1,s.2.2),[111,107])else
 if w=[115,119,97,112]then((s.2.1,s.1,s.2.2),[111,107])else(s,ZR w s.1 s.2.1 s.2.2)
def Uq(w:List UInt8)(n:Int)(s:Se):Se×List UInt8:=
 if(xM w n s.1).2.2=true then(T6 s (xM w n s.1).1 (xM w n s.1).2.1,ZS (xM w n s.1).1 (xM w n s.1).2.1)else
 if w=[101,120,97,109,112,108,101]then(PK s (Fe n) (CX n),VP (Fe n) (CX n))else
 if w=[99,111,117,110,116,115]then(s,jE (uW s.2.2 n))else if w=[108,97,98,101,108]then(s,jE (MV s.2.2 n))else(s,[119,104,97,116])
def Pe(w t:List UInt8)(s:Se):Se×List UInt8:=
 if w=[110,101,97,114]then(s,PI w t s.1 s.2.2)else
 if w=[112,101,114,109]then(if lq t=true then((cq t,s.2.1,s.2.2),cO (cq t))else(s,[119,104,97,116]))else
 if w=[99,111,117,110,116]then(s,PI w t s.1 s.2.2)else
 if rn 12 t=true then Uq w (qA 12 t) s else(s,[119,104,97,116])
def Eg(l:List UInt8)(s:Se):Se×List UInt8:=
 if(ar 32 l).getD 0 []=[98,97,115,105,115]then(PK s (uJ (Lib.join ((ar 32 l).drop 1) [32])) (oq (Lib.join ((ar 32 l).drop 1) [32])),VP (uJ (Lib.join ((ar 32 l).drop 1) [32])) (oq (Lib.join ((ar 32 l).drop 1) [32])))else
 if(ar 32 l).length=1 then Up ((ar 32 l).getD 0 []) s else
 if(ar 32 l).length=2 then Pe ((ar 32 l).getD 0 []) ((ar 32 l).getD 1 []) s else(s,[119,104,97,116])
theorem spB_1{c:UInt8}:∀{s cur:List UInt8},1<=(tJ c s cur).length/\((tJ c s cur).length=1->(tJ c s cur).getD 0 []=cur++s)
 |[],cur=>by simp[tJ]
 |x::s,cur=>by
  rw[tJ];split
  .have:=(spB_1 (c:=c) (s:=s) (cur:=[])).1
   refine⟨by simp,λh=>by rw[zC1]at h;omega⟩
  .have:=spB_1 (c:=c) (s:=s) (cur:=cur++[x])
   simpa using this
theorem Qz{s:Se}:Eg l s=KS l s:=by
 obtain⟨a,b,L⟩:=s;have k0:=spB_1 (c:=32) (s:=l) (cur:=[]);rw[zE1]at k0;have k1:l=[107,101,101,112]->ar 32 l=[[107,101,101,112]]:=by rintro rfl;decide
 have k2:l=[115,119,97,112]->ar 32 l=[[115,119,97,112]]:=by rintro rfl;decide
 unfold Eg KS Ez qI anT;change 1<=(ar 32 l).length/\((ar 32 l).length=1->(ar 32 l).getD 0 []=l)at k0;generalize ar 32 l=X at*
 by_cases h1:X.length=1
 .have h0:=k0.2 h1
  rw[h0,h1];clear k0 h0 k1 k2;by_cases g:l=[98,97,115,105,115]
  .subst g
   cases q:oq (Lib.join (X.drop 1) [32])<;>simp[AW,PK,VP]<;>simp_all
  .simp only[zA8 g]
   by_cases g2:(AW l a b).2.2=true
   .have g3:l≠[107,101,101,112]:=by rintro rfl;simp[AW]at g2
    have g4:l≠[115,119,97,112]:=by rintro rfl;simp[AW]at g2
    simp[g2,g3,g4,Up,T6,ZS];split<;>simp_all
   .simp[g2,Up]
 .have g3:l≠[107,101,101,112]:=λe=>h1 (by rw[k1 e];rfl)
  have g4:l≠[115,119,97,112]:=λe=>h1 (by rw[k2 e];rfl);simp only[zA8 g3,zA8 g4,zA8 h1];generalize X.getD 0 []=w at*
  generalize X.getD 1 []=t at*
  clear k0 k1 k2;by_cases h2:X.length=2
  .simp only[h2]
   by_cases g:w=[98,97,115,105,115]
   .subst g
    simp only[xM,PK,VP];cases q:oq (Lib.join (X.drop 1) [32])<;>simp_all
   .by_cases c1:w=[112,101,114,109]
    .subst c1
     cases q:lq t<;>simp[Pe,PI,q]
    .by_cases c2:w=[110,101,97,114]
     .subst c2
      simp[Pe,xM]
     .by_cases c3:w=[99,111,117,110,116]
      .subst c3
       simp[Pe,xM]
      .simp only[Pe,zA8 g,zA8 c1,zA8 c2,zA8 c3]
       by_cases r:rn 12 t=true
       .by_cases e:w=[101,120,97,109,112,108,101]
        .have e2:(xM w (qA 12 t) a).2.2=false:=by rw[e];simp[xM]
         rw[e]at e2;cases q:CX (qA 12 t)<;>simp[r,Uq,PK,VP,e2,q,e]
        .cases q:(xM w (qA 12 t) a).2.2<;>cases q2:(xM w (qA 12 t) a).2.1<;>simp[r,Uq,T6,ZS,PI,c2,c3,e,q,q2]<;>(repeat' split)<;>rfl
       .by_cases e:w=[101,120,97,109,112,108,101]<;>simp[r,PI,c2,c3,e]
  .simp only[zA8 h2]
   by_cases g:w=[98,97,115,105,115]
   .cases q:oq (Lib.join (X.drop 1) [32])<;>simp_all [PK,VP]
   .simp[h2,g]
theorem Ya(h:X.getD 0 []=[98,97,115,105,115])(hj:(Lib.join X [32]).length<=1048576):(Lib.join (X.drop 1) [32]).length<=1048570:=by
 match X with
 |[]=>simp[Lib.join_nil]
 |[x]=>simp[Lib.join_nil]
 |x::y::r=>
  have h:x=[98,97,115,105,115]:=h;rw[List.drop_succ_cons,zI3,Lib.join_cons];rw[Lib.join_cons,h]at hj;simp[Lib.joinTail]at hj |-;omega
theorem UD(hj:(Lib.join X [32]).length<=1048576):(qI X).1.length<=1048576/\∀l∈(qI X).1,l.length<=1048576:=by
 unfold qI;split
 .rename_i h
  have h1:=Ya h hj;have h2:=zS (s:=Lib.join (X.drop 1) [32]);exact⟨by simp only;omega,λl hl=>by have:=h2.2 l hl;omega⟩
 .split
  .simp
  .have h2:=uS (k:=qA 12 (X.getD 1 []))
   exact⟨by simp only;omega,λl hl=>by have:=h2.2 l hl;omega⟩
theorem og{c:UInt8}:∀{s cur:List UInt8},Lib.join (tJ c s cur) [c]=cur++s
 |[],cur=>by rw[tJ,Lib.join_one];simp
 |x::s,cur=>by
  rw[tJ];split
  .rename_i h
   subst h;have h1:=(spB_1 (c:=x) (s:=s) (cur:=[])).1;have h2:=og (c:=x) (s:=s) (cur:=[])
   match e:tJ x s [],h1 with
   |y::r,_=>
    rw[e,Lib.join_cons]at h2;rw[Lib.join_cons];simp[Lib.joinTail]at h2 |-
    rw[h2]
  .rw[og];simp
theorem VT{s:Se}(h:Dz s)(hl:l.length<=1048576):Dz (KS l s).1:=by
 have hX:∀x∈ar 32 l,x.length<=1048576:=λx hx=>by have:=iN x hx;simp at this;omega
 have hj:(Lib.join (ar 32 l) [32]).length<=1048576:=by rw[ar,og];simpa using hl
 obtain⟨h1,h2,h3,h4⟩:=id h;have q1:=UC (b:=s.2.1) h1 hX;obtain⟨q2,q3⟩:=UD hj;unfold KS
 repeat' split
 .exact⟨h1,h1,h3,h4⟩
 .exact⟨h2,h1,h3,h4⟩
 .exact h
 .exact⟨q1,h2,h3,h4⟩
 .exact⟨h1,h2,q2,q3⟩
 .exact h
theorem aaW: -9223372036854775808<=(if ac p=true then cY (aX p)else -1)/\(if ac p=true then cY (aX p)else -1)<=9223372036854775807:=by
 split
 .rename_i h;have:=zI h;omega
 .omega
theorem Ve: -9223372036854775808<=Jv p/\Jv p<=9223372036854775807:=by
 unfold Jv;split
 .rename_i h;have:=Gc (al h.1).2 h.2.2;omega
 .omega
theorem Vk:(Pr L p).length<=1048576/\∀x∈Pr L p, -9223372036854775808<=x/\x<=9223372036854775807:=by
 unfold Pr;split
 .rename_i h
  refine⟨by have:=sC (L:=L) (p:=p);omega,λx hx=> ?_⟩;simp only[FD,OS,zD0,List.mem_filter,zD5]at hx;obtain⟨k,⟨hk,_⟩,rfl⟩:=hx;omega
 .simp
theorem Vf{q:List Int}: -9223372036854775808<=(if(ac p&&ac q)=true then((eO 1 p q q.length []).length:Int)else -1)/\(if(ac p&&ac q)=true then((eO 1 p q q.length []).length:Int)else -1)<=9223372036854775807:=by
 split
 .rename_i h
  rw[zB9]at h;have:=rU h.1 h.2;omega
 .omega
theorem Un{P J:List Int}: -9223372036854775808<=Jo p P J/\Jo p P J<=9223372036854775807:=by
 unfold Jo;split
 .rename_i h
  rw[xg,zB9,zB9]at h;have:=rU h.1 h.2.1;have:=zG8 (GA J) (eO 1 p P P.length []);omega
 .omega
theorem Vi:(uW L n).length<=1048576:=by
 unfold uW;split
 .rw[zB2,List.length_range];omega
 .simp
theorem UM:(MV L n).length<=1048576/\∀x∈MV L n, -9223372036854775808<=x/\x<=9223372036854775807:=by
 unfold MV;split
 .rename_i h
  refine⟨by rw[me,Ad];have:=tF (L:=L) (n:=n.toNat) (by omega);omega,λx hx=> ?_⟩;have hx:=srtI_perm.mem_iff.1 hx;obtain⟨q,hq,rfl⟩:=zD0.1 hx;have h1:=sC (L:=L) (p:=q);have h2:=(ii (n:=n.toNat) (by omega) hq).2;omega
 .simp
theorem acq(hj:(Lib.join X [32]).length<=1048576):(X.drop 1).length<=1048577:=by
 cases X with
 |nil=>simp
 |cons x r=>
  rw[Lib.join_cons,zA3,Lib.joinTail_length]at hj;simp at hj |-;omega
variable [TabA]
set_option maxHeartbeats 16000000
theorem gD(w:List UInt8)(a b:List Int)(L:List (List Int))(ha:a.length<=1048576)(hb:b.length<=1048576):Fun Tryz.prog 34 [.agg [lI false a,lI false b,lE false false L],.str w] [.agg [lI false ((AW w a b).1),.bool ((AW w a b).2.1),.bool ((AW w a b).2.2)]]:=by
 refine Fun.ofR (sg:=au) (rs:=[.cell 4 42]) mo Tryz.func34 rfl rfl rfl rfl (by kernel_rfl) (by simp only[go_sem]) rfl ?_;have cE1:=@qt;have cE2:=@qs;have cE3:=@nO;have cE4:=@ue;have cE5:=@sN;have cE6:=@vp;have cE7:=@rD;have cE8:=@zd;have cE9:=@sO;refine dE ai trivial ?_;all_goals try(apply nn;repeat' first|exact jb|apply aa|(apply nq;intro zb hc;repeat (have zc:=zb.1;replace zb:=zb.2))|(apply np;intro zb)|intro j')<;>try apply nu
 all_goals simp_all [AW]
theorem ep(w:List UInt8)(n:Int)(a b:List Int)(L:List (List Int))(ha:a.length<=1048576):Fun Tryz.prog 37 [.agg [lI false a,lI false b,lE false false L],.str w,.int .i64 n] [.agg [lI false ((xM w n a).1),.bool ((xM w n a).2.1),.bool ((xM w n a).2.2)]]:=by
 refine Fun.ofR (sg:=au) (rs:=[.cell 6 42]) mo Tryz.func37 rfl rfl rfl rfl (by kernel_rfl) (by simp only[go_sem]) rfl ?_;have cE1:=@rB;have cE2:=@pE;have cE3:=@vq;refine dE ai trivial (aeO ?_ ?_ ?_ ?_ ?_ ?_ ?_ ?_ ?_ ?_ ?_ ?_)<;>(intro zb hc;repeat (have zc:=zb.1;replace zb:=zb.2));all_goals simp_all [xM]
theorem iG(X:List (List UInt8))(a b:List Int)(L:List (List Int))(ha:a.length<=1048576)(hb:b.length<=1048576)(h0:1<=X.length)(hX:∀x∈X,x.length<=1048576):Fun Tryz.prog 18 [.agg [lI false a,lI false b,lE false false L],.sl (.lent m1) (List.map PV.str X)] [.agg [lI false ((Ez X a b).1),.bool ((Ez X a b).2.1),.bool ((Ez X a b).2.2)]]:=by
 by_cases g1:X.length=1
 .have f1:((X.length:Int)=1)=True:=zF5 (by omega)
  rw[Ez,zB0 g1];refine Fun.ofR (sg:=au) (rs:=[.cell 4 42]) mo Tryz.func18 rfl rfl rfl rfl (by kernel_rfl) (by simp only[go_sem]) rfl ?_;have cE1:=@gD;have cE2:=@aP;have cE3:=@bB;have cE4:=@ep;have cD1:=d7 (d8 6 [4,5]) [];have cD2:=d7 (d8 7 [5,6]) [];exact dE ai @f1 aj
 .have f1:((X.length:Int)=1)=False:=zC6 (by omega)
  by_cases g2:X.length=2
  .have f2:((X.length:Int)=2)=True:=zF5 (by omega)
   have b1:=hX _ (am (d:=[]) (show 1<X.length by omega));rw[Ez,zA8 g1,zA8 (by omega)];by_cases g3:X.getD 0 []=[112,101,114,109]
   .rw[zB0 g3]
    have f3:=zF5 g3;refine Fun.ofR (sg:=au) (rs:=[.cell 4 42]) mo Tryz.func18 rfl rfl rfl rfl (by kernel_rfl) (by simp only[go_sem]) rfl ?_;have cE1:=@gD;have cE2:=@aP;have cE3:=@bB;have cE4:=@ep;have cD1:=d7 (d8 6 [4,5]) [];have cD2:=d7 (d8 7 [5,6]) [];exact dE ai (aa @f1 (aa @f2 @f3)) aj
   .have f3:(X.getD 0 []=[112,101,114,109])=False:=zC6 g3
    rw[zA8 g3];cases g4:rn 12 (X.getD 1 [])with
    |true=>
     rw[zB0 rfl];refine Fun.ofR (sg:=au) (rs:=[.cell 4 42]) mo Tryz.func18 rfl rfl rfl rfl (by kernel_rfl) (by simp only[go_sem]) rfl ?_;have cE1:=@gD;have cE2:=@aP;have cE3:=@bB;have cE4:=@ep;have cD1:=d7 (d8 6 [4,5]) [];have cD2:=d7 (d8 7 [5,6]) [];exact dE ai (aa @f1 (aa @f2 (aa @f3 @g4))) aj
    |false=>
     rw[zA8 (by simp)];refine Fun.ofR (sg:=au) (rs:=[.cell 4 42]) mo Tryz.func18 rfl rfl rfl rfl (by kernel_rfl) (by simp only[go_sem]) rfl ?_;have cE1:=@gD;have cE2:=@aP;have cE3:=@bB;have cE4:=@ep;have cD1:=d7 (d8 6 [4,5]) [];have cD2:=d7 (d8 7 [5,6]) [];exact dE ai (aa @f1 (aa @f2 (aa @f3 @g4))) aj
  .have f2:((X.length:Int)=2)=False:=zC6 (by omega)
   rw[Ez,zA8 g1,zB0 g2];refine Fun.ofR (sg:=au) (rs:=[.cell 4 42]) mo Tryz.func18 rfl rfl rfl rfl (by kernel_rfl) (by simp only[go_sem]) rfl ?_;have cE1:=@gD;have cE2:=@aP;have cE3:=@bB;have cE4:=@ep;have cD1:=d7 (d8 6 [4,5]) [];have cD2:=d7 (d8 7 [5,6]) [];exact dE ai (aa @f1 @f2) aj
theorem gP(X:List (List UInt8))(h0:1<=X.length)(hX:∀x∈X,x.length<=1048576)(hj:(Lib.join X [32]).length<=1048576):Fun Tryz.prog 19 [.sl (.lent m0) (List.map PV.str X)] [.sl .own (List.map (cK false) ((qI X).1)),.bool ((qI X).2.1),.bool ((qI X).2.2)]:=by
 by_cases g1:X.getD 0 []=[98,97,115,105,115]
 .have b1:=Ya g1 hj
  have b2:=acq hj;have e0:List.take (X.length-1) (X.drop 1)=X.drop 1:=zA2 (by simp);rw[qI,zB0 g1];refine fO au [2,3,4] Tryz.func19 ?_;have cE1:=@cD;have cE2:=@bj;have cE3:=@cQ;have cE4:=@bm;have cE5:=@bB;have f1:=zF5 g1;have cE2:=@bm;have cE3:=@bj;have cE4:=@bB;have cE5:=trivial;exact dE ai (aa @f1 @e0) aj
 .have f1:(X.getD 0 []=[98,97,115,105,115])=False:=zC6 g1
  rw[qI,zA8 g1];by_cases g2:X.getD 0 []=[101,120,97,109,112,108,101]/\X.length=2
  .have f2:((X.length:Int)=2)=True:=zF5 (by omega)
   have b1:=hX _ (am (d:=[]) (show 1<X.length by omega));rw[zA8 (by rintro(q|q);exact q g2.1;exact q g2.2)];have f3:=zF5 g2.1;refine fO au [2,3,4] Tryz.func19 ?_;have cE1:=@cD;have cE2:=@bj;have cE3:=@cQ;have cE4:=@bm;have cE5:=@bB;exact dE ai (aa @f1 (aa @f2 @f3)) aj
  .rw[zB0 (by by_cases h:X.getD 0 []=[101,120,97,109,112,108,101];exact .inr λq=>g2 ⟨h,q⟩;exact .inl h)]
   by_cases h:X.getD 0 []=[101,120,97,109,112,108,101]
   .have f2:((X.length:Int)=2)=False:=zC6 λq=>g2 ⟨h,by omega⟩
    refine fO au [2,3,4] Tryz.func19 ?_;have cE1:=@cD;have cE2:=@bj;have cE3:=@cQ;have cE4:=@bm;have cE5:=@bB;have f3:=zF5 h;exact dE ai (aa @f1 (aa @f2 @f3)) aj
   .have f2:(X.getD 0 []=[101,120,97,109,112,108,101])=False:=zC6 h
    refine fO au [2,3,4] Tryz.func19 ?_;have cE1:=@cD;have cE2:=@bj;have cE3:=@cQ;have cE4:=@bm;have cE5:=@bB;exact dE ai (aa @f1 @f2) aj
end Go.Gl
namespace Go.Gl
open Go Go.Proofs
variable [Amb][NoQ]
variable [TabA]
set_option maxHeartbeats 16000000
theorem xn(w:List UInt8)(a b:List Int)(L:List (List Int))(ha:a.length<=1048576):Fun Tryz.prog 102 [.agg [lI false a,lI false b,lE false false L],.str w] [.str ((if w=[112,97,116,104]then ZX (Pd a) (BA a)else if w=[109,111,118,101,115]then ZX (Jm a) (nZ a)else[119,104,97,116]))]:=by
 refine fO au [4] Tryz.func102 ?_;have cE1:=@xr;have cE2:=@pF;refine dE ai trivial (Vp ?_ ?_ ?_ ?_ ?_)<;>(intro zb hc;repeat (have zc:=zb.1;replace zb:=zb.2));all_goals simp_all [ZX]
theorem kw(w:List UInt8)(a b:List Int)(L:List (List Int))(ha:a.length<=1048576)(hb:b.length<=1048576)(hL:L.length<=1048576)(hl:∀l∈L,l.length<=1048576):Fun Tryz.prog 42 [.agg [lI false a,lI false b,lE false false L],.str w] [.str (ZR w a b L)]:=by
 refine fO au [4] Tryz.func42 ?_;have cE1:=@dx;have cE2:=@xm;have cE3:=@aH;have cE4:=@pG;have cE5:=@gT;have cE6:=@ed;have cE7:=@od;have cE8:=@oe;have cE9:=@rC;have cE10:=@gE;have cE11:=@aL;have cE12:=@pH;have cE13:=@ew;have cE14:=@qw;have cE15:=@cG;have cE16:=@qr;have cE17:=@sM;have cE18:=@xn;have t1:=aaW (p:=a);have t2:=Ve (p:=a);obtain⟨t3,t4⟩:=Vk (L:=L) (p:=a);refine dE ai trivial (yP ?_ ?_ ?_ ?_ ?_ ?_ ?_ ?_ ?_ ?_ ?_ ?_ ?_ ?_)<;>(intro zb hc;repeat (have zc:=zb.1;replace zb:=zb.2));all_goals first|(simp_all [ZR,Dk,Fs];done)|trace_state
theorem lT(w t:List UInt8)(a b:List Int)(L:List (List Int))(ha:a.length<=1048576)(hb:b.length<=1048576)(hL:L.length<=1048576)(hl:∀l∈L,l.length<=1048576)(ht:t.length<=1048576):Fun Tryz.prog 43 [.agg [lI false a,lI false b,lE false false L],.str w,.str t] [.str (PI w t a L)]:=by
 refine fO au [6] Tryz.func43 ?_;have cE1:=@sQ;have cE2:=@sS;have cE3:=@aL;have cE4:=@aP;have cE5:=@pI;have cE6:=@bB;have cE7:=@dy;have cE8:=@cG;have cE9:=@ug;have t1:=Uu (s:=t);have t2:=Uv (s:=t);have t3:=jD (s:=t);have t4:=Un (p:=a) (P:=Ia t) (J:=Ib t);have t5:=Vf (p:=a) (q:=cq t);have t6:=Dq (L:=L) (n:=qA 12 t);obtain⟨t9,t7⟩:=UM (L:=L) (n:=qA 12 t);have t8:=Vi (L:=L) (n:=qA 12 t);refine dE ai trivial (TX ?_ ?_ ?_ ?_ ?_ ?_ ?_ ?_)<;>(intro zb hc;repeat (have zc:=zb.1;replace zb:=zb.2));all_goals first|(simp_all [PI];done)|trace_state
theorem dt(X:List (List UInt8))(a b:List Int)(L:List (List Int))(ha:a.length<=1048576)(hb:b.length<=1048576)(hL:L.length<=1048576)(hl:∀l∈L,l.length<=1048576)(h0:1<=X.length)(hX:∀x∈X,x.length<=1048576):Fun Tryz.prog 23 [.agg [lI false a,lI false b,lE false false L],.sl (.lent m1) (List.map PV.str X)] [.str (anT X a b L)]:=by
 by_cases g1:X.length=1
 .have f1:((X.length:Int)=1)=True:=zF5 (by omega)
  rw[anT,zB0 g1];refine fO au [4] Tryz.func23 ?_;have cE1:=@kw;have cE2:=@lT;have cD1:=d7 (d8 6 [4]) [];have cD2:=d7 (d8 9 [7]) [];exact dE ai @f1 aj
 .have f1:((X.length:Int)=1)=False:=zC6 (by omega)
  by_cases g2:X.length=2
  .have f2:((X.length:Int)=2)=True:=zF5 (by omega)
   have b1:=hX _ (am (d:=[]) (show 1<X.length by omega));rw[anT,zA8 g1,zB0 g2];refine fO au [4] Tryz.func23 ?_;have cE1:=@kw;have cE2:=@lT;have cD1:=d7 (d8 6 [4]) [];have cD2:=d7 (d8 9 [7]) [];exact dE ai (aa @f1 @f2) aj
  .have f2:((X.length:Int)=2)=False:=zC6 (by omega)
   rw[anT,zA8 g1,zA8 g2];refine fO au [4] Tryz.func23 ?_;have cE1:=@kw;have cE2:=@lT;have cD1:=d7 (d8 6 [4]) [];have cD2:=d7 (d8 9 [7]) [];exact dE ai (aa @f1 @f2) aj
theorem eq(a b:List Int)(L:List (List Int))(ha:a.length<=1048576)(hb:b.length<=1048576)(hL:L.length<=1048576)(hl:∀l∈L,l.length<=1048576):Fun Tryz.prog 17 [.agg [lI false a,lI false b,lE false false L]] [.agg [lI false a,lI false b,lE false false L]]:=by
 refine Fun.ofR (sg:=au) (rs:=[.cell 2 32]) mo Tryz.func17 rfl rfl rfl rfl (by kernel_rfl) (by simp only[go_sem]) rfl ?_;have cE1:=@xp;have cD1:=d7 (d8 13 [0,3,4,7,10,12]) [(0,1),(0,2),(0,4),(1,4),(2,4),(3,4),(0,5),(3,5),(4,5),(0,6),(3,6),(4,6),(0,8),(3,8),(4,8),(7,8),(0,9),(3,9),(4,9),(7,9)];have e1:List.take a.length a=a:=zE6;have e2:List.take b.length b=b:=zE6;exact dE ai (aa @e1 @e2) aj
end Go.Gl
namespace Go.Gl
open Go Go.Proofs
variable [Amb][NoQ]
variable [TabA][SplA][AtoA]
theorem OH:(AF p).length<=176:=by
 unfold AF;split
 .rename_i h
  have pf:=al h;have:=uB pf.2 pf.1 (zB1 _);omega
 .simp
theorem Ht(h:L.length<=1048576):(Pq L).length<=1099511627776:=by
 unfold Pq;split
 .exact AD h
 .simp
def ml:FuncId->List Bool:=λf=>if f=53 then[true]else if f=26 then[true]else if f=29 then[true]else if f=64 then[true]else if f=70 then[true]else if f=30 then[true]else if f=14 then[true]else if f=8589934645 then[false,true]else if f=8589934618 then[false,true]else[]
theorem Qh:ml f=if f=53 then[true]else if f=26 then[true]else if f=29 then[true]else if f=64 then[true]else if f=70 then[true]else if f=30 then[true]else if f=14 then[true]else if f=8589934645 then[false,true]else if f=8589934618 then[false,true]else[]:=_root_.id rfl
theorem JI:ga ml=false/\gu ml=false/\gs ml=false/\gr ml=false/\gB ml=false:=⟨rfl,rfl,rfl,rfl,rfl⟩
attribute [go_sem] Qh JI
set_option maxHeartbeats 16000000
theorem gy(s:Se)(p:List Int)(b:Bool)(hp:p.length<=1048576):CallT Tryz.prog false 53 [.mu true [lI false s.1,lI false s.2.1,lE false false s.2.2],.pv (lI false p),.pv (.bool b)] [some [lI false ((T6 s p b).1),lI false ((T6 s p b).2.1),lE false false ((T6 s p b).2.2)],none,none] [.str (ZS p b)]:=by
 cases b with
 |true=>
  refine fX ml [6] Tryz.func53 ?_;have cE1:=@be;refine dE ai trivial (bu ?_ ?_)<;>intro zb;all_goals rfl
 |false=>
  refine fX ml [6] Tryz.func53 ?_;have cE1:=@be;refine dE ai trivial (bu ?_ ?_)<;>intro zb;all_goals rfl
theorem bS(s:Se)(L:List (List Int))(b:Bool)(hL:L.length<=1048576)(hl:∀l∈L,l.length<=1048576):CallT Tryz.prog false 26 [.mu true [lI false s.1,lI false s.2.1,lE false false s.2.2],.pv (lE false false L),.pv (.bool b)] [some [lI false ((PK s L b).1),lI false ((PK s L b).2.1),lE false false ((PK s L b).2.2)],none,none] [.str (VP L b)]:=by
 cases b with
 |true=>
  have b1:=Ht (L:=L) hL;refine fX ml [6] Tryz.func26 ?_;have cE1:=@mF;have cE2:=@fy;refine dE ai trivial (bu ?_ ?_)<;>intro zb;all_goals rfl
 |false=>
  have b1:=Ht (L:=L) hL;refine fX ml [6] Tryz.func26 ?_;have cE1:=@mF;have cE2:=@fy;refine dE ai trivial (bu ?_ ?_)<;>intro zb;all_goals rfl
theorem pM(w:List UInt8)(s:Se)(h:Dz s):CallT Tryz.prog false 64 [.mu true [lI false s.1,lI false s.2.1,lE false false s.2.2],.pv (.str w)] [some [lI false s.1,lI false s.2.1,lE false false s.2.2],none] [.str (ZR w s.1 s.2.1 s.2.2)]:=by
 obtain⟨h1,h2,h3,h4⟩:=h;have t1:=aaW (p:=s.1);have t2:=Ve (p:=s.1);obtain⟨t3,t4⟩:=Vk (L:=s.2.2) (p:=s.1);have t5:=uC (p:=s.1);have t6:=OH (p:=s.1);refine fX ml [4] Tryz.func64 ?_;have cE1:=@Cv;have cE2:=@EM;have cE3:=@be;have cE4:=@pO;have cE5:=@gY;have cE6:=@fy;have cE7:=@eg;have cE8:=@oG;have cE9:=@oH;have cE10:=@xC;have cE11:=@pL;have cE12:=@sj;have cE13:=@gL;have cE14:=@aQ;have cE15:=@pQ;have cE16:=@ld;have cE17:=@qS;have cE18:=@ba;have cE19:=@qN;have cE20:=@aak;have cD1:=d7 (d8 11 [8,9]) [];have cD2:=d7 (d8 11 [8,9]) [];have cD3:=d7 (d8 11 [8,9]) [];have cD4:=d7 (d8 11 [8,9]) [];refine dE ai trivial (aap ?_ ?_ ?_ ?_ ?_ ?_ ?_ ?_ ?_ ?_ ?_ ?_ ?_ ?_ ?_ ?_)<;>(intro zb hc;repeat (have zc:=zb.1;replace zb:=zb.2));all_goals first|(simp_all [ZR];done)|trace_state
end Go.Gl
