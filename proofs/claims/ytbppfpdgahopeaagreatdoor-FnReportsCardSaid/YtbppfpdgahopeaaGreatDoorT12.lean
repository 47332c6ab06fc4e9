/-
  What the functions compute, and what the law asks of it: texts joined. Conditions: those that each lemma names.
-/
import Derived.Test.YtbppfpdgahopeaaGreatDoorT4
import Derived.Test.YtbppfpdgahopeaaGreatDoorT5
import Derived.Test.YtbppfpdgahopeaaGreatDoorT2
import Derived.Test.YtbppfpdgahopeaaGreatDoorT1
import Derived.Test.YtbppfpdgahopeaaGreatDoorT6
set_option linter.unusedSimpArgs false
set_option linter.unusedVariables false
set_option maxRecDepth 20000
set_option linter.unusedSectionVars false
set_option maxHeartbeats 16000000
namespace Go.Gl
open Go Go.Proofs
variable [Amb] [NoQ]
def dB (p:List Int) (a:Nat):Nat→Nat
 |0=>a+1
 |k+1=>if a+2≤k+1∧k+1 - a<p.length∧jF p a (k+1:Nat)=true then k+1 else dB p a k
theorem nP {p:List Int} {a:Nat}:∀{k:Nat},a+1≤dB p a k∧(dB p a k≤k∨dB p a k=a+1)
 |0=>by simp[dB]
 |k+1=>by
  have:=nP (p:=p) (a:=a) (k:=k)
  rw[dB];split<;>omega
theorem qH {p:List Int} {a:Nat}:∀{k:Nat},k≤a+1→dB p a k=a+1
 |0,_=>rfl
 |k+1,h=>by rw[dB,if_neg (by omega)];exact qH (by omega)
def aL (p:List Int):Nat→Nat×List Int×List (List Int)
 |0=>(0,[],[])
 |j+1=>if(aL p j).1<p.length then(dB p (aL p j).1 p.length,(aL p j).2.1++[p.getD (aL p j).1 0],(aL p j).2.2++[lC (dA p (aL p j).1 (dB p (aL p j).1 p.length))])else aL p j
theorem qT {p:List Int}:∀{j:Nat},(aL p j).1≤p.length∧(j≤(aL p j).1∨(aL p j).1=p.length)∧(aL p j).2.1.length≤(aL p j).1∧(aL p j).2.2.length=(aL p j).2.1.length
 |0=>by simp[aL]
 |j+1=>by
  have:=qT (p:=p) (j:=j)
  rw[aL]
  split
  ·have h2:=nP (p:=p) (a:=(aL p j).1) (k:=p.length)
   simp only[List.length_append,List.length_cons,List.length_nil]
   omega
  ·omega
theorem qS {p:List Int} {j:Nat} (h:(aL p j).1=p.length):∀i,aL p (j+i)=aL p j
 |0=>rfl
 |i+1=>by
  rw[←Nat.add_assoc,aL,qS h i,if_neg (by omega)]
theorem vO {p:List Int} {j:Nat} (h:(aL p j).1=p.length):aL p j=aL p p.length:=by
 have h1:=qT (p:=p) (j:=p.length)
 have h2:(aL p p.length).1=p.length:=by omega
 rcases Nat.le_total j p.length with hj|hj
 ·have:=qS h (p.length - j);rw[←this];congr 1;omega
 ·have:=qS h2 (j - p.length);rw[←this];congr 1;omega
theorem z6 {p:List Int} {a:Nat} (h:a<p.length):jF p a ((a+1:Nat):Int)=true:=by
 have e:dA p a (a+1)=[p.getD a 0]:=by
  apply List.ext_getElem?;intro i
  simp only[dA,List.getElem?_drop,List.getElem?_take]
  cases i with
  |zero=>simp[List.getD_eq_getElem?_getD,List.getElem?_eq_getElem h]
  |succ i=>rw[if_neg (by omega)];simp
 have e2:((a:Int)).toNat=a:=by omega
 have e3:(((a+1:Nat):Int)).toNat=a+1:=by omega
 rw[jF,e2,e3,e]
 simp[wF,wD,nu,nq]
 omega
def aO (p:List Int):List Int×List (List Int):=
 if p.length=1 then([1],[[1]])else
 if 1<(aN p).length then([1,2],[(aN p).getD 0 [],dK ((aN p).drop 1) false])else
 if 1<(c3 p).length then([2,1],[(c3 p).getD 0 [],dK ((c3 p).drop 1) true])else
 (lC (aL p p.length).2.1,(aL p p.length).2.2)
theorem pD {p:List Int} (hp:ae p=true):(∀l∈c3 p,aU l=true)∧cn (c3 p)≤8∧(c3 p).length≤8∧(∀l∈c3 p,ae l=true∧l.length≤8∧∀x∈l,0≤x∧x≤8):=by
 have h:=iJ (cX hp)
 have e:cn (c3 p)=cn (aN (ct p)):=by
  simp only[cn,c3,List.map_map]
  congr 1
  exact List.map_congr_left fun l _=>fD
 refine⟨fun l hl=> ?_,by omega,by simp[c3];omega,fun l hl=> ?_⟩
 ·obtain⟨q,hq,rfl⟩:=List.mem_map.1 hl
  exact sC (h.1 q hq)
 ·obtain⟨q,hq,rfl⟩:=List.mem_map.1 hl
  have:=cX (h.2.2.2 q hq).1
  exact⟨this,(aw this).1,fv this⟩
theorem pV {L:List (List Int)} (h1:∀l∈L,aU l=true) (h2:cn L≤8) (h3:L.length≤8) (h4:∀l∈L,ae l=true∧l.length≤8∧∀x∈l,0≤x∧x≤8):
  (L.drop 1).length≤8∧(∀l∈L.drop 1,l.length≤8)∧(∀l∈L.drop 1,∀x∈l,0≤x∧x≤8):=
 ⟨by simp;omega,fun l hl=>(h4 l (List.mem_of_mem_drop hl)).2.1,fun l hl=>(h4 l (List.mem_of_mem_drop hl)).2.2⟩
def un:FuncId→List Bool:=fun f=>if f=4294967297 then[false,true,false,false]else[]
theorem EX {f:FuncId}:un f=if f=4294967297 then[false,true,false,false]else[]:=_root_.id rfl
theorem AS:fJ un=false∧ga un=false∧f9 un=true∧f8 un=false∧gb un=false:=⟨rfl,rfl,rfl,rfl,rfl⟩
attribute [go_sem] EX AS
theorem bT {m0:Bool} (p:List Int) (hp:ae p=true) (h0:1≤p.length):Fun Tryz.prog 129 [(.sl (.lent m0) (List.map (PV.int .i64) (p)))] [(.agg [(.sl (.lent false) (List.map (PV.int .i64) ((aO p).1))),(.sl (.lent false) (List.map (bt false) ((aO p).2)))])]:=by
 refine Fun.ofR (sg:=un) (rs:=[.cell 2 48]) mo Tryz.func129 rfl rfl rfl rfl (by kernel_rfl) (by simp only[go_sem]) rfl ?_
 have cE1:= @di;have cE2:= @nH;have cE3:= @nG;have cE4:= @iO;have cE5:= @qp;have cD1:=gY [true,false,false,false,false,false,true,true,false,true] [(0,1),(0,2),(0,3),(0,4),(0,5),(0,6),(1,6),(2,6),(3,6),(0,7)]
 have cD2:=gY [true,false,false,false,false,false,true,true,false,true] [(0,1),(0,2),(0,3),(0,4),(0,5),(0,6),(1,6),(2,6),(3,6),(0,7)];have cD3:=gY [false,false,false,false,false,false,true,true,true,false,true] [(0,6),(1,6),(0,7),(1,7)]
 have hl:=(aw hp).1
 have hb:=fv hp
 have q1:(dg lu p p.length).1=aN p:=rfl
 have q2:=iJ hp
 have q3:=pD hp
 obtain⟨q4,q5,q6⟩:=pV q2.1 q2.2.1 q2.2.2.1 q2.2.2.2
 obtain⟨q7,q8,q9⟩:=pV q3.1 q3.2.1 q3.2.2.1 q3.2.2.2
 have hbb:∀x∈p,0≤x∧x≤1048576:=fun x hx=>by have:=hb x hx;omega
 have qa:List.take ((aN p).length - 1) (List.drop 1 (aN p))=List.drop 1 (aN p):=by rw[List.take_of_length_le (by simp)]
 have qb:List.take ((c3 p).length - 1) (List.drop 1 (c3 p))=List.drop 1 (c3 p):=by rw[List.take_of_length_le (by simp)]
 refine ax (aa @q1 (aa @qa @qb)) ?_
 all_goals try(apply ai;repeat' first|exact ah|apply aa|(apply ak;intro zb hc)|(apply aj;intro zb)|intro j')<;>try apply al
 all_goals try (rw[aO,if_pos (by omega)];rfl)
 all_goals try (rw[aO,if_neg (by omega),if_pos (by omega)];rfl)
 all_goals try (rw[aO,if_neg (by omega),if_neg (by omega),if_pos (by omega)];rfl)
 refine an (fun ms1 S1=>∃(j:Nat),S1.e 0=.p (.sl (.lent m0) (List.map (PV.int .i64) (p)))∧PtrL (S1.e 2) S1.h S1.n (.deep false [.v (.sl .own []),.v (.sl .own [])] [])∧Dst2 (S1.e 5) S1.h S1.n (List.map (PV.int .i64) ([])) (List.map (bt false) ((aL p j).2.2))∧OwnL (S1.e 6) S1.h S1.n (PV.int .i64) (((aL p j).2.1).length) ((aL p j).2.1)∧S1.e 7=.p (.int .i64 ((aL p j).1))∧((aL p j).1≤p.length)∧NId (mZ (S1.e 5)) (mZ (S1.e 2))∧NId (S1.e 6) (mZ (S1.e 2))∧NId (S1.e 6) (mZ (S1.e 5))∧ms1=p.length - (aL p j).1) ((fun(j:Nat)=>p.length - (aL p j).1) (0)) ?_ ⟨0,jK trivial ?_⟩
 all_goals try(apply ai;repeat' first|exact ah|apply aa|(apply ak;intro zb hc)|(apply aj;intro zb)|intro j')<;>try apply al
 rintro ms1 S1 ⟨j,h1_0,o1_2,o1_5,o1_6,h1_7,c1_0,u1_0,u1_1,u1_2,hm1⟩
 obtain⟨i1_5,ra1_5,rb1_5,rs1_5,h1_5,b1_5,l1_5,w01_5,w11_5,w21_5,w31_5,w41_5,w51_5,w61_5,w71_5,w81_5,w91_5⟩:=o1_5.out
 obtain⟨i1_2,h1_2,b1_2,l1_2⟩:=o1_2.out
 obtain⟨i1_6,h1_6,b1_6,l1_6⟩:=o1_6.out
 have k1_0:=(u1_0).out (cO h1_5) (cO h1_2)
 have k1_1:=(u1_1).out h1_6 (cO h1_2)
 have k1_2:=(u1_2).out h1_6 (cO h1_5)
 have ni1_2:=aG (x:=i1_2) (n:=S1.n)
 have ni1_5:=aG (x:=i1_5) (n:=S1.n)
 have ni1_6:=aG (x:=i1_6) (n:=S1.n)
 have di1_2i1_5:=cQ (x:=i1_2) (y:=i1_5)
 have di1_2i1_6:=cQ (x:=i1_2) (y:=i1_6)
 have di1_5i1_6:=cQ (x:=i1_5) (y:=i1_6)
 have fL1:=(aa h1_0 (aa h1_7 (aa h1_2 (aa b1_2 (aa h1_5 (aa b1_5 (aa h1_6 (aa b1_6 (aa w01_5 (aa w11_5 (aa w21_5 (aa w31_5 (aa w41_5 (aa w51_5 (aa w61_5 (aa w71_5 (aa w81_5 (aa w91_5 (aa ni1_2 (aa ni1_5 (aa ni1_6 (aa di1_2i1_5 (aa di1_2i1_6 di1_5i1_6)))))))))))))))))))))))
 have z1:=qT (p:=p) (j:=j)
 have z2:¬(aL p j).1<p.length→aO p=(lC (aL p j).2.1,(aL p j).2.2):=fun h=>by
  rw[aO,if_neg (by omega),if_neg (by omega),if_neg (by omega),vO (j:=j) (by omega)]
 refine ax fL1 ?_
 all_goals try(apply ai;repeat' first|exact ah|apply aa|(apply ak;intro zb hc)|(apply aj;intro zb)|intro j')<;>try apply al
 ·refine an (fun ms2 S2=>∃(i:Nat),S2.e 0=.p (.sl (.lent m0) (List.map (PV.int .i64) (p)))∧PtrL (S2.e 2) S2.h S2.n (.deep false [.v (.sl .own []),.v (.sl .own [])] [])∧Dst2 (S2.e 5) S2.h S2.n (List.map (PV.int .i64) ([])) (List.map (bt false) ((aL p j).2.2))∧OwnL (S2.e 6) S2.h S2.n (PV.int .i64) (((aL p j).2.1).length) ((aL p j).2.1)∧S2.e 7=.p (.int .i64 ((aL p j).1))∧S2.e 8=.p (.int .i64 (dB p (aL p j).1 i))∧S2.e 9=.p (.int .i64 (i+1))∧((aL p j).1+1≤i)∧(i≤p.length)∧((aL p j).1<p.length)∧NId (mZ (S2.e 5)) (mZ (S2.e 2))∧NId (S2.e 6) (mZ (S2.e 2))∧NId (S2.e 6) (mZ (S2.e 5))∧S1.n≤S2.n∧ms2=p.length - i) ((fun(i:Nat)=>p.length - i) ((aL p j).1+1)) ?_ ⟨(aL p j).1+1,jK fL1 ?_⟩
  all_goals try(apply ai;repeat' first|exact ah|apply aa|(apply ak;intro zb hc)|(apply aj;intro zb)|intro j')<;>try apply al
  rintro ms2 S2 ⟨i,h2_0,o2_2,o2_5,o2_6,h2_7,h2_8,h2_9,c2_0,c2_1,c2_2,u2_0,u2_1,u2_2,u2_3,hm2⟩
  obtain⟨i2_5,ra2_5,rb2_5,rs2_5,h2_5,b2_5,l2_5,w02_5,w12_5,w22_5,w32_5,w42_5,w52_5,w62_5,w72_5,w82_5,w92_5⟩:=o2_5.out
  obtain⟨i2_2,h2_2,b2_2,l2_2⟩:=o2_2.out
  obtain⟨i2_6,h2_6,b2_6,l2_6⟩:=o2_6.out
  have k2_0:=(u2_0).out (cO h2_5) (cO h2_2)
  have k2_1:=(u2_1).out h2_6 (cO h2_2)
  have k2_2:=(u2_2).out h2_6 (cO h2_5)
  have ni2_2:=aG (x:=i2_2) (n:=S2.n)
  have ni2_5:=aG (x:=i2_5) (n:=S2.n)
  have ni2_6:=aG (x:=i2_6) (n:=S2.n)
  have di2_2i2_5:=cQ (x:=i2_2) (y:=i2_5)
  have di2_2i2_6:=cQ (x:=i2_2) (y:=i2_6)
  have di2_5i2_6:=cQ (x:=i2_5) (y:=i2_6)
  have fL2:=(aa h2_0 (aa h2_7 (aa h2_8 (aa h2_9 (aa h2_2 (aa b2_2 (aa h2_5 (aa b2_5 (aa h2_6 (aa b2_6 (aa w02_5 (aa w12_5 (aa w22_5 (aa w32_5 (aa w42_5 (aa w52_5 (aa w62_5 (aa w72_5 (aa w82_5 (aa w92_5 (aa ni2_2 (aa ni2_5 (aa ni2_6 (aa di2_2i2_5 (aa di2_2i2_6 di2_5i2_6)))))))))))))))))))))))))
  have z3:=nP (p:=p) (a:=(aL p j).1) (k:=i)
  refine ax fL2 ?_
  all_goals try(apply ai;repeat' first|exact ah|apply aa|(apply ak;intro zb hc)|(apply aj;intro zb)|intro j')<;>try apply al
  ·have e2:dB p (aL p j).1 (i+1)=i+1:=by rw[dB,if_pos ⟨by omega,by omega,by push_cast;exact hc⟩]
   focus
    refine am ((fun(i:Nat)=>p.length - i) (i+1)) (dC fL2 ?_) ⟨i+1,dC fL2 ?_⟩
    all_goals try(apply ai;repeat' first|exact ah|apply aa|(apply ak;intro zb hc)|(apply aj;intro zb)|intro j')<;>try apply al
  ·have e2:dB p (aL p j).1 (i+1)=dB p (aL p j).1 i:=by rw[dB,if_neg (fun h=>by have:=h.2.2;push_cast at this;rw[hc]at this;cases this)]
   focus
    refine am ((fun(i:Nat)=>p.length - i) (i+1)) (dC fL2 ?_) ⟨i+1,dC fL2 ?_⟩
    all_goals try(apply ai;repeat' first|exact ah|apply aa|(apply ak;intro zb hc)|(apply aj;intro zb)|intro j')<;>try apply al
  ·have e2:dB p (aL p j).1 (i+1)=dB p (aL p j).1 i:=by rw[dB,if_neg (by omega)]
   focus
    refine am ((fun(i:Nat)=>p.length - i) (i+1)) (dC fL2 ?_) ⟨i+1,dC fL2 ?_⟩
    all_goals try(apply ai;repeat' first|exact ah|apply aa|(apply ak;intro zb hc)|(apply aj;intro zb)|intro j')<;>try apply al
  ·obtain rfl:i=p.length:=by omega
   have e3:aL p (j+1)=(dB p (aL p j).1 p.length,(aL p j).2.1++[p.getD (aL p j).1 0],(aL p j).2.2++[lC (dA p (aL p j).1 (dB p (aL p j).1 p.length))]):=by rw[aL,if_pos c2_2]
   have e4:=congrArg Prod.fst e3
   have e5:=congrArg (fun x=>x.2.1) e3
   have e6:=congrArg (fun x=>x.2.2) e3
   simp only at e4 e5 e6
   focus
    refine am ((fun(j:Nat)=>p.length - (aL p j).1) (j+1)) (dC fL2 ?_) ⟨j+1,dC fL2 ?_⟩
    all_goals try(apply ai;repeat' first|exact ah|apply aa|(apply ak;intro zb hc)|(apply aj;intro zb)|intro j')<;>try apply al
   all_goals(first|(rw[e6];rfl)|(rw[e5];done)|(rw[e5];simp;done)|(rw[e4];done)|(rw[e4];omega))
  ·rw[qH (by omega)];omega
 ·rw[z2 (by omega)]
 ·rw[z2 (by omega)]
 ·simp[aL]
theorem fj {m0:Bool} (p:List Int) (hp:ae p=true) (h0:1≤p.length):Fun Tryz.prog 120 [(.sl (.lent m0) (List.map (PV.int .i64) (p)))] [(.agg [(.sl (.lent false) (List.map (PV.int .i64) ((aO p).1))),(.sl (.lent false) (List.map (bt false) ((aO p).2)))])]:=by
 refine Fun.ofR (sg:=un) (rs:=[.cell 2 48]) mo Tryz.func120 rfl rfl rfl rfl (by kernel_rfl) (by simp only[go_sem]) rfl ?_
 have cE1:= @df;have cE2:= @s6;have cE3:= @na;have cE4:= @mg;have cE5:= @fQ;have cD1:=gY [false,false,false,false,false,false,false,true,true,true,false,true] [(0,7),(1,7),(0,8),(1,8)]
 have hl:=(aw hp).1
 have hb:=fv hp
 have q1:(dg lz p p.length).1=aN p:=jX (aw hp).2
 have q2:=iJ hp
 have q3:=pD hp
 have hbb:∀x∈p,0≤x∧x≤1048576:=fun x hx=>by have:=hb x hx;omega
 obtain⟨f1,f2,f3,_⟩:=q2
 obtain⟨g1,g2,g3,_⟩:=q3
 refine ax (aa @q1 @hp) ?_
 all_goals try(apply ai;repeat' first|exact ah|apply aa|(apply ak;intro zb hc)|(apply aj;intro zb)|intro j')<;>try apply al
 all_goals try (rw[aO,if_pos (by omega)];rfl)
 all_goals try (rw[aO,if_neg (by omega),if_pos (by omega)];rfl)
 all_goals try (rw[aO,if_neg (by omega),if_neg (by omega),if_pos (by omega)];rfl)
 refine an (fun ms1 S1=>∃(j:Nat),S1.e 0=.p (.sl (.lent m0) (List.map (PV.int .i64) (p)))∧PtrL (S1.e 2) S1.h S1.n (.deep false [.v (.sl .own []),.v (.sl .own [])] [])∧Dst2 (S1.e 5) S1.h S1.n (List.map (PV.int .i64) ([])) (List.map (bt false) ((aL p j).2.2))∧OwnL (S1.e 6) S1.h S1.n (PV.int .i64) (((aL p j).2.1).length) ((aL p j).2.1)∧S1.e 7=.p (.int .i64 ((aL p j).1))∧((aL p j).1≤p.length)∧NId (mZ (S1.e 5)) (mZ (S1.e 2))∧NId (S1.e 6) (mZ (S1.e 2))∧NId (S1.e 6) (mZ (S1.e 5))∧ms1=p.length - (aL p j).1) ((fun(j:Nat)=>p.length - (aL p j).1) (0)) ?_ ⟨0,jK trivial ?_⟩
 all_goals try(apply ai;repeat' first|exact ah|apply aa|(apply ak;intro zb hc)|(apply aj;intro zb)|intro j')<;>try apply al
 rintro ms1 S1 ⟨j,h1_0,o1_2,o1_5,o1_6,h1_7,c1_0,u1_0,u1_1,u1_2,hm1⟩
 obtain⟨i1_5,ra1_5,rb1_5,rs1_5,h1_5,b1_5,l1_5,w01_5,w11_5,w21_5,w31_5,w41_5,w51_5,w61_5,w71_5,w81_5,w91_5⟩:=o1_5.out
 obtain⟨i1_2,h1_2,b1_2,l1_2⟩:=o1_2.out
 obtain⟨i1_6,h1_6,b1_6,l1_6⟩:=o1_6.out
 have k1_0:=(u1_0).out (cO h1_5) (cO h1_2)
 have k1_1:=(u1_1).out h1_6 (cO h1_2)
 have k1_2:=(u1_2).out h1_6 (cO h1_5)
 have ni1_2:=aG (x:=i1_2) (n:=S1.n)
 have ni1_5:=aG (x:=i1_5) (n:=S1.n)
 have ni1_6:=aG (x:=i1_6) (n:=S1.n)
 have di1_2i1_5:=cQ (x:=i1_2) (y:=i1_5)
 have di1_2i1_6:=cQ (x:=i1_2) (y:=i1_6)
 have di1_5i1_6:=cQ (x:=i1_5) (y:=i1_6)
 have fL1:=(aa h1_0 (aa h1_7 (aa h1_2 (aa b1_2 (aa h1_5 (aa b1_5 (aa h1_6 (aa b1_6 (aa w01_5 (aa w11_5 (aa w21_5 (aa w31_5 (aa w41_5 (aa w51_5 (aa w61_5 (aa w71_5 (aa w81_5 (aa w91_5 (aa ni1_2 (aa ni1_5 (aa ni1_6 (aa di1_2i1_5 (aa di1_2i1_6 di1_5i1_6)))))))))))))))))))))))
 have z1:=qT (p:=p) (j:=j)
 have z2:¬(aL p j).1<p.length→aO p=(lC (aL p j).2.1,(aL p j).2.2):=fun h=>by
  rw[aO,if_neg (by omega),if_neg (by omega),if_neg (by omega),vO (j:=j) (by omega)]
 refine ax fL1 ?_
 all_goals try(apply ai;repeat' first|exact ah|apply aa|(apply ak;intro zb hc)|(apply aj;intro zb)|intro j')<;>try apply al
 ·refine an (fun ms2 S2=>∃(i:Nat),S2.e 0=.p (.sl (.lent m0) (List.map (PV.int .i64) (p)))∧PtrL (S2.e 2) S2.h S2.n (.deep false [.v (.sl .own []),.v (.sl .own [])] [])∧Dst2 (S2.e 5) S2.h S2.n (List.map (PV.int .i64) ([])) (List.map (bt false) ((aL p j).2.2))∧OwnL (S2.e 6) S2.h S2.n (PV.int .i64) (((aL p j).2.1).length) ((aL p j).2.1)∧S2.e 7=.p (.int .i64 ((aL p j).1))∧S2.e 8=.p (.int .i64 (i - 1))∧((aL p j).1+1≤i)∧(i≤p.length)∧((aL p j).1<p.length)∧(dB p (aL p j).1 p.length=dB p (aL p j).1 i)∧NId (mZ (S2.e 5)) (mZ (S2.e 2))∧NId (S2.e 6) (mZ (S2.e 2))∧NId (S2.e 6) (mZ (S2.e 5))∧S1.n≤S2.n∧ms2=i) ((fun(i:Nat)=>i) (p.length)) ?_ ⟨p.length,jK fL1 ?_⟩
  all_goals try(apply ai;repeat' first|exact ah|apply aa|(apply ak;intro zb hc)|(apply aj;intro zb)|intro j')<;>try apply al
  rintro ms2 S2 ⟨i,h2_0,o2_2,o2_5,o2_6,h2_7,h2_8,c2_0,c2_1,c2_2,c2_3,u2_0,u2_1,u2_2,u2_3,hm2⟩
  obtain⟨i2_5,ra2_5,rb2_5,rs2_5,h2_5,b2_5,l2_5,w02_5,w12_5,w22_5,w32_5,w42_5,w52_5,w62_5,w72_5,w82_5,w92_5⟩:=o2_5.out
  obtain⟨i2_2,h2_2,b2_2,l2_2⟩:=o2_2.out
  obtain⟨i2_6,h2_6,b2_6,l2_6⟩:=o2_6.out
  have k2_0:=(u2_0).out (cO h2_5) (cO h2_2)
  have k2_1:=(u2_1).out h2_6 (cO h2_2)
  have k2_2:=(u2_2).out h2_6 (cO h2_5)
  have ni2_2:=aG (x:=i2_2) (n:=S2.n)
  have ni2_5:=aG (x:=i2_5) (n:=S2.n)
  have ni2_6:=aG (x:=i2_6) (n:=S2.n)
  have di2_2i2_5:=cQ (x:=i2_2) (y:=i2_5)
  have di2_2i2_6:=cQ (x:=i2_2) (y:=i2_6)
  have di2_5i2_6:=cQ (x:=i2_5) (y:=i2_6)
  have fL2:=(aa h2_0 (aa h2_7 (aa h2_8 (aa h2_2 (aa b2_2 (aa h2_5 (aa b2_5 (aa h2_6 (aa b2_6 (aa w02_5 (aa w12_5 (aa w22_5 (aa w32_5 (aa w42_5 (aa w52_5 (aa w62_5 (aa w72_5 (aa w82_5 (aa w92_5 (aa ni2_2 (aa ni2_5 (aa ni2_6 (aa di2_2i2_5 (aa di2_2i2_6 di2_5i2_6))))))))))))))))))))))))
  have z3:=nP (p:=p) (a:=(aL p j).1) (k:=i)
  refine ax fL2 ?_
  all_goals try(apply ai;repeat' first|exact ah|apply aa|(apply ak;intro zb hc)|(apply aj;intro zb)|intro j')<;>try apply al
  ·have e1:i≠(aL p j).1+1:=fun e=>by
    have:=z6 c2_2
    rw[show(((aL p j).1+1:Nat):Int)=(i:Int) - 1+1 by omega,hc]at this;cases this
   have e2:dB p (aL p j).1 i=dB p (aL p j).1 (i - 1):=by
    obtain⟨i',rfl⟩:∃i',i=i'+1:=⟨i - 1,by omega⟩
    rw[dB,if_neg fun h=> ?_];·rfl
    have:=h.2.2
    rw[show((i'+1:Nat):Int)=((i'+1:Nat):Int) - 1+1 by omega,hc]at this;cases this
   focus
    refine am ((fun(i:Nat)=>i) (i-1)) (dC fL2 ?_) ⟨i-1,dC fL2 ?_⟩
    all_goals try(apply ai;repeat' first|exact ah|apply aa|(apply ak;intro zb hc)|(apply aj;intro zb)|intro j')<;>try apply al
  ·have e2:dB p (aL p j).1 p.length=i:=by
    rw[c2_3]
    by_cases h2:i=(aL p j).1+1
    ·rw[qH (by omega)];omega
    ·obtain⟨i',rfl⟩:∃i',i=i'+1:=⟨i - 1,by omega⟩
     rw[dB,if_pos ⟨by omega,by omega,by rw[←hc];congr 1;omega⟩]
   have e3:aL p (j+1)=(i,(aL p j).2.1++[p.getD (aL p j).1 0],(aL p j).2.2++[lC (dA p (aL p j).1 i)]):=by rw[aL,if_pos c2_2,e2]
   have e4:=congrArg Prod.fst e3
   have e5:=congrArg (fun x=>x.2.1) e3
   have e6:=congrArg (fun x=>x.2.2) e3
   simp only at e4 e5 e6
   have e7:((i:Int) - 1+1).toNat=i:=by omega
   focus
    refine am ((fun(j:Nat)=>p.length - (aL p j).1) (j+1)) (dC fL2 ?_) ⟨j+1,dC fL2 ?_⟩
    all_goals try(apply ai;repeat' first|exact ah|apply aa|(apply ak;intro zb hc)|(apply aj;intro zb)|intro j')<;>try apply al
   all_goals(first|(rw[e5];done)|(rw[e5];simp only[List.length_append];done)|(rw[e4];omega)|(rw[e7,e6];rfl)|(rw[e5];simp;done))
  ·have e2:dB p (aL p j).1 i=dB p (aL p j).1 (i - 1):=by
    obtain⟨i',rfl⟩:∃i',i=i'+1:=⟨i - 1,by omega⟩
    rw[dB,if_neg (by omega)];rfl
   focus
    refine am ((fun(i:Nat)=>i) (i-1)) (dC fL2 ?_) ⟨i-1,dC fL2 ?_⟩
    all_goals try(apply ai;repeat' first|exact ah|apply aa|(apply ak;intro zb hc)|(apply aj;intro zb)|intro j')<;>try apply al
 ·rw[z2 (by omega)]
 ·rw[z2 (by omega)]
 ·simp[aL]
theorem yE {p:List Int} {a:Nat} (h:2≤p.length):∀{k:Nat},dB p a k - a<p.length
 |0=>by rw[dB];omega
 |k+1=>by
  have:=yE (a:=a) h (k:=k)
  rw[dB];split<;>omega
theorem tq {p:List Int} (h:aU p=true) (h8:p.length≤8):ae p=true:=by
 simp only[ae,h,Bool.and_true,decide_eq_true_eq];exact h8
theorem Je {p:List Int} (hp:ae p=true) (h2:2≤p.length):∀{j:Nat},∀q∈(aL p j).2.2,ae q=true∧q.length<p.length
 |0=>by simp[aL]
 |j+1=>by
  have ih:=Je hp h2 (j:=j)
  obtain⟨h8,hq⟩:=aw hp
  rw[aL]
  split
  ·rename_i hc
   intro q hm
   rcases List.mem_append.1 hm with g|g
   ·exact ih q g
   ·rw[List.mem_singleton]at g;subst g
    have e1:=nP (p:=p) (a:=(aL p j).1) (k:=p.length)
    have e2:=yE (p:=p) (a:=(aL p j).1) h2 (k:=p.length)
    have e3:(lC (dA p (aL p j).1 (dB p (aL p j).1 p.length))).length=dB p (aL p j).1 p.length - (aL p j).1:=by rw[jl,ft (by omega)]
    exact⟨tq (rV (lF (permB_iff.1 hq).2)) (by omega),by omega⟩
  ·exact ih
theorem BE {p:List Int}:∀{k:Nat},k≤p.length→∀l∈(dg lz p k).1,0<l.length
 |0,_=>by simp[dg]
 |k+1,h=>by
  have ih:=BE (p:=p) (k:=k) (by omega)
  have h3:=(gf (g:=lz) (p:=p) (k:=k)).1
  rw[dg]
  split
  ·intro l hl
   rcases List.mem_append.1 hl with g|g
   ·exact ih l g
   ·rw[List.mem_singleton]at g;subst g
    simp only[lz,jl,ft h];omega
  ·exact ih
theorem sY {p:List Int} (hp:ae p=true):(∀l∈aN p,0<l.length)∧cn (aN p)≤p.length:=by
 obtain⟨h8,hq⟩:=aw hp
 rw[←jX hq]
 refine⟨BE (Nat.le_refl _), ?_⟩
 rw[(nc hq (Nat.le_refl _)).2]
 exact(gf (g:=lz) (p:=p) (k:=p.length)).1
theorem Cg {L:List (List Int)} {n:Nat} (h2:1<L.length) (hne:∀l∈L,0<l.length) (hs:cn L≤n):(L.getD 0 []).length<n∧cn (L.drop 1)<n:=by
 match L,h2 with
 |a::b::t,_=>
  have h1:=hne a (by simp)
  have h3:=hne b (by simp)
  simp only[cn,List.map_cons,List.sum_cons]at hs
  simp only[List.getD_cons_zero,List.drop_succ_cons,List.drop_zero,cn,List.map_cons,List.sum_cons]
  omega
theorem uZ {L:List (List Int)} {k:Bool} {n:Nat} (h2:1<L.length) (hne:∀l∈L,0<l.length) (hs:cn L≤n) (hn:n≤8) (hp:∀l∈L,aU l=true):
  ∀q∈[L.getD 0 [],dK (L.drop 1) k],ae q=true∧q.length<n:=by
 obtain⟨h3,h4⟩:=Cg h2 hne hs
 have h5:∀l∈L.drop 1,aU l=true:=fun l hl=>hp l (List.mem_of_mem_drop hl)
 have h6:=kS (L:=L.drop 1) (k:=k) (Nat.le_refl _)
 have h7:=lJ (k:=k) h5 (Nat.le_refl _)
 rw[List.take_length]at h6 h7
 intro q hq
 simp only[List.mem_cons,List.not_mem_nil,or_false]at hq
 rcases hq with rfl|rfl
 ·exact⟨tq (hp _ (ar (by omega))) (by omega),h3⟩
 ·exact⟨tq h7 (by omega),by omega⟩
theorem me {p:List Int} (hp:ae p=true) (h2:2≤p.length):∀q∈(aO p).2,ae q=true∧q.length<p.length:=by
 obtain⟨h8,hq⟩:=aw hp
 unfold aO
 rw[if_neg (by omega)]
 split
 ·rename_i h
  obtain⟨n1,n2⟩:=sY hp
  exact uZ h n1 n2 h8 (iJ hp).1
 ·split
  ·rename_i _ h
   have hc:=cX hp
   obtain⟨n1,n2⟩:=sY hc
   obtain⟨s1,s2,_,_⟩:=pD hp
   refine uZ h (fun l hl=> ?_) ?_ h8 s1
   ·obtain⟨q,hq',rfl⟩:=List.mem_map.1 hl
    rw[fD];exact n1 q hq'
   ·have e:cn (c3 p)=cn (aN (ct p)):=by
     simp only[cn,c3,List.map_map]
     congr 1
     exact List.map_congr_left fun l _=>fD
    rw[e];rwa [fD]at n2
  ·exact Je hp h2
theorem md {p:List Int} (hp:ae p=true):(aO p).2.length≤8∧(aO p).1.length≤8:=by
 obtain⟨h8,hq⟩:=aw hp
 unfold aO
 split
 ·simp
 ·split
  ·simp
  ·split
   ·simp
   ·have:=qT (p:=p) (j:=p.length)
    refine⟨?_, ?_⟩
    ·show(aL p p.length).2.2.length≤8;omega
    ·show(lC (aL p p.length).2.1).length≤8;rw[jl];omega
def ng:Nat→List Int→List (List Int)
 |0,_=>[]
 |d+1,p=>if p.length<2 then[]else(aO p).1::(aO p).2.flatMap (ng d)
theorem xP {d:Nat} {p:List Int} (h:p.length<2):ng d p=[]:=by
 cases d with
 |zero=>rfl
 |succ d=>rw[ng,if_pos h]
theorem yy {L:List (List Int)} {f:List Int→List (List Int)} {n:Nat} (h:∀q∈L,(f q).length≤n):(L.flatMap f).length≤L.length*n:=by
 induction L with
 |nil=>simp
 |cons a L ih=>
  have h1:=h a (by simp)
  have h2:=ih fun q hq=>h q (List.mem_cons_of_mem _ hq)
  rw[List.flatMap_cons,List.length_append,List.length_cons,Nat.succ_mul];omega
theorem oY:∀{d:Nat} {p:List Int},ae p=true→(ng d p).length≤9^d
 |0,_,_=>by simp[ng]
 |d+1,p,hp=>by
  rw[ng]
  split
  ·simp
  ·rename_i h
   have h1:=yy (L:=(aO p).2) (f:=ng d) (n:=9^d) fun q hq=>oY (me hp (by omega) q hq).1
   have h2:=(md hp).1
   have h3:=Nat.mul_le_mul_right (9^d) h2
   have h4:0<9^d:=Nat.pow_pos (by decide)
   rw[List.length_cons,Nat.pow_succ];omega
theorem th:∀{d:Nat} {p:List Int},ae p=true→∀l∈ng d p,l.length≤8
 |0,_,_,l,h=>by cases h
 |d+1,p,hp,l,h=>by
  rw[ng]at h
  split at h
  ·cases h
  ·rename_i h2
   rcases List.mem_cons.1 h with g|g
   ·rw[g];exact(md hp).2
   ·obtain⟨q,hq,hl⟩:=List.mem_flatMap.1 g
    exact th (me hp (by omega) q hq).1 l hl
def or:Nat→List Int→List (List Int)→List (List Int)
 |0,_,out=>out
 |d+1,p,out=>if p.length<2 then out else(aO p).2.foldl (fun o q=>or d q o) (fL out (aO p).1)
theorem rsL_mem:∀{d:Nat} {p x:List Int} {out:List (List Int)},x∈or d p out↔x∈out∨x∈ng d p
 |0,_,_,_=>by simp[or,ng]
 |d+1,p,x,out=>by
  rw[or,ng]
  split
  ·simp
  ·have key:∀(L:List (List Int)) (o:List (List Int)),x∈L.foldl (fun o q=>or d q o) o↔x∈o∨x∈L.flatMap (ng d):=by
    intro L
    induction L with
    |nil=>intro o;simp
    |cons a L ih=>intro o;rw[List.foldl_cons,ih,rsL_mem,List.flatMap_cons,List.mem_append];exact or_assoc
   rw[key,putP_mem,List.mem_cons]
   constructor
   ·rintro((h|h)|h)
    ·exact .inr (.inl h)
    ·exact .inl h
    ·exact .inr (.inr h)
   ·rintro(h|h|h)
    ·exact .inl (.inr h)
    ·exact .inl (.inl h)
    ·exact .inr h
theorem xW {L:List (List Int)} {p:List Int}:(fL L p).length≤L.length+1:=by
 unfold fL;split
 ·omega
 ·unfold nD;rw[cU];exact Nat.le_refl _
theorem ti:∀{d:Nat} {p:List Int} {out:List (List Int)},ae p=true→(or d p out).length≤out.length+9^d
 |0,_,_,_=>by simp[or]
 |d+1,p,out,hp=>by
  have h5:0<9^(d+1):=Nat.pow_pos (by decide)
  rw[or]
  split
  ·omega
  ·rename_i h
   have key:∀(L:List (List Int)),(∀q∈L,ae q=true)→∀(o:List (List Int)),(L.foldl (fun o q=>or d q o) o).length≤o.length+L.length*9^d:=by
    intro L
    induction L with
    |nil=>intro _ o;simp
    |cons a L ih=>
     intro hL o
     have h1:=ih (fun q hq=>hL q (List.mem_cons_of_mem _ hq)) (or d a o)
     have h2:=ti (d:=d) (out:=o) (hL a (by simp))
     rw[List.foldl_cons,List.length_cons,Nat.succ_mul];omega
   have h1:=key (aO p).2 (fun q hq=>(me hp (by omega) q hq).1) (fL out (aO p).1)
   have h2:=xW (L:=out) (p:=(aO p).1)
   have h3:=Nat.mul_le_mul_right (9^d) (md hp).1
   have h4:0<9^d:=Nat.pow_pos (by decide)
   rw[Nat.pow_succ];omega
theorem xQ {d:Nat} {p:List Int} {out:List (List Int)} (hp:ae p=true) (ho:∀l∈out,l.length≤8):∀l∈or d p out,l.length≤8:=fun l hl=>by
 rcases rsL_mem.1 hl with h|h
 ·exact ho l h
 ·exact th hp l h
def zh (d:Nat) (L:List (List Int)) (o:List (List Int)):List (List Int):=L.foldl (fun o q=>or d q o) o
theorem BZ {d:Nat} {L o:List (List Int)} {q:List Int}:zh d (L++[q]) o=or d q (zh d L o):=by rw[zh,List.foldl_append];rfl
theorem xR {d:Nat}:∀{L o:List (List Int)},(∀q∈L,ae q=true)→(∀l∈o,l.length≤8)→(zh d L o).length≤o.length+L.length*9^d∧∀l∈zh d L o,l.length≤8
 |[],o,_,ho=>by rw[zh,List.foldl_nil];exact⟨by omega,ho⟩
 |a::L,o,h,ho=>by
  have h0:=h a (by simp)
  have h2:=ti (d:=d) (out:=o) h0
  obtain⟨h3,h4⟩:=xR (d:=d) (L:=L) (o:=or d a o) (fun q hq=>h q (List.mem_cons_of_mem _ hq)) (xQ h0 ho)
  have e:zh d (a::L) o=zh d L (or d a o):=rfl
  rw[e,List.length_cons,Nat.succ_mul]
  exact⟨by omega,h4⟩
def s5 (p:List Int):(List Int×List (List Int))×Bool:=if ae p&&decide (p.length≠0)then(aO p,true)else(([],[]),false)
theorem BB {p:List Int} (h:ae p=true) (h0:p.length≠0):s5 p=(aO p,true):=by simp[s5,h,h0]
theorem BC {p:List Int} (h:ae p=false):s5 p=(([],[]),false):=by simp[s5,h]
theorem BA {p:List Int} (h:p.length=0):s5 p=(([],[]),false):=by simp[s5,h]
theorem cf {m0:Bool} (p:List Int) (hl:p.length≤1048576):Fun Tryz.prog 67 [(.sl (.lent m0) (List.map (PV.int .i64) (p)))] [(.agg [(.sl (.lent false) (List.map (PV.int .i64) ((s5 p).1.1))),(.sl (.lent false) (List.map (bt false) ((s5 p).1.2)))]),(.bool ((s5 p).2))]:=by
 refine Fun.ofR (sg:=aR) (rs:=[.cell 2 48,.tmp 3]) mo Tryz.func67 rfl rfl rfl rfl (by kernel_rfl) (by simp only[go_sem]) rfl ?_
 have cE1:= @aq;have cE2:= @fj
 refine ax trivial ?_
 all_goals try(apply ai;repeat' first|exact ah|apply aa|(apply ak;intro zb hc;repeat (have zc:=zb.1;replace zb:=zb.2))|(apply aj;intro zb)|intro j')<;>try apply al
 all_goals(first|assumption|(rw[BC hc]<;>rfl)|(rw[BA (by omega)]<;>rfl)|(rw[BB (by assumption) (by omega)]))
theorem yJ {p:List Int} (h8:p.length≤8):∀{j:Nat},∀q∈(aL p j).2.2,1≤q.length
 |0=>by simp[aL]
 |j+1=>by
  have ih:=yJ h8 (j:=j)
  rw[aL]
  split
  ·rename_i hc
   intro q hm
   rcases List.mem_append.1 hm with g|g
   ·exact ih q g
   ·rw[List.mem_singleton]at g;subst g
    have e1:=nP (p:=p) (a:=(aL p j).1) (k:=p.length)
    rw[jl,ft (by omega)];omega
  ·exact ih
theorem u0 {L:List (List Int)} {k:Bool} (h2:1<L.length) (hne:∀l∈L,0<l.length):∀q∈[L.getD 0 [],dK (L.drop 1) k],1≤q.length:=by
 match L,h2 with
 |a::b::t,_=>
  have h1:=hne a (by simp)
  have h3:=hne b (by simp)
  have h6:=kS (L:=b::t) (k:=k) (Nat.le_refl _)
  rw[List.take_length]at h6
  simp only[cn,List.map_cons,List.sum_cons]at h6
  intro q hq
  simp only[List.getD_cons_zero,List.drop_succ_cons,List.drop_zero,List.mem_cons,List.not_mem_nil,or_false]at hq
  rcases hq with rfl|rfl
  ·exact h1
  ·omega
theorem xL {p:List Int} (hp:ae p=true) (h2:2≤p.length):∀q∈(aO p).2,1≤q.length:=by
 obtain⟨h8,hq⟩:=aw hp
 unfold aO
 rw[if_neg (by omega)]
 split
 ·rename_i h
  exact u0 h (sY hp).1
 ·split
  ·rename_i _ h
   obtain⟨n1,n2⟩:=sY (cX hp)
   refine u0 h fun l hl=> ?_
   obtain⟨q,hq',rfl⟩:=List.mem_map.1 hl
   rw[fD];exact n1 q hq'
  ·exact yJ h8
def nV:Nat→List Int→List UInt8
 |0,_=>[49]
 |d+1,p=>if p.length=1 then[49]else jx (aO p).1++[40]++Lib.join ((aO p).2.map (nV d)) [32]++[41]
theorem sR:∀{d:Nat} {p:List Int},ae p=true→(nV d p).length≤30*9^d
 |0,p,_=>by simp[nV]
 |d+1,p,hp=>by
  have h9:9^(d+1)=9*9^d:=by rw[Nat.pow_succ,Nat.mul_comm]
  have h1:0<9^d:=Nat.pow_pos (by decide)
  rw[nV]
  by_cases h2:p.length=1
  ·rw[if_pos h2];simp;omega
  ·rw[if_neg h2]
   by_cases h0:p.length=0
   ·have e:p=[]:=List.eq_nil_of_length_eq_zero h0
    subst e
    have:(jx (aO []).1++[40]++Lib.join ((aO []).2.map (nV d)) [32]++[41]).length≤30:=by
     have e:aO []=([],[]):=by decide
     rw[e];simp only[List.map_nil,Lib.join_nil];decide
    omega
   ·have hf:=me hp (by omega)
    obtain⟨n1,n2⟩:=md hp
    have hj:=eW (sep:=[32]) (n:=30*9^d) (l:=(aO p).2.map (nV d)) fun x hx=>by
     obtain⟨q,hq,rfl⟩:=List.mem_map.1 hx
     exact sR (hf q hq).1
    rw[List.length_map]at hj
    have h7:=Nat.mul_le_mul_right (30*9^d+([32]:List UInt8).length) n1
    have ht:=lW (aO p).1
    simp only[List.length_append,List.length_singleton]at hj h7 ⊢
    omega
theorem tr9:∀d,d≤8→30*9^d≤1300000000:=by decide
def oT (p:List Int):List UInt8:=if ae p=true∧p.length≠0 then nV 8 p else[]
theorem sS {p:List Int}:(oT p).length≤1300000000:=by
 unfold oT;split
 ·rename_i h;exact Nat.le_trans (sR h.1) (tr9 8 (by decide))
 ·simp
theorem r7 {d:Nat} {L:List (List Int)} {k:Nat} (h:k<L.length):(L.take (k+1)).map (nV d)=(L.take k).map (nV d)++[nV d (L.getD k [])]:=by
 rw[az (d:=[]) h,List.map_append];rfl
theorem trJ {d:Nat} {p:List Int} (hd:d≤8) (hp:ae p=true) (h2:2≤p.length):(Lib.join ((aO p).2.map (nV d)) [32]).length≤100000000000:=by
 have hf:=me hp h2
 obtain⟨n1,n2⟩:=md hp
 have hj:=eW (sep:=[32]) (n:=1300000000) (l:=(aO p).2.map (nV d)) fun x hx=>by
  obtain⟨q,hq,rfl⟩:=List.mem_map.1 hx
  exact Nat.le_trans (sR (hf q hq).1) (tr9 d hd)
 rw[List.length_map]at hj
 have h7:=Nat.mul_le_mul_right (1300000000+([32]:List UInt8).length) n1
 simp only[List.length_singleton]at hj h7;omega
theorem oG:∀(d:Nat) {m0:Bool} (p:List Int),d≤8→ae p=true→1≤p.length→p.length≤d→Fun Tryz.prog 85 [.sl (.lent m0) (List.map (PV.int .i64) p)] [.str (nV d p)]:=by
 intro d
 induction d with
 |zero=>intro m0 p _ _ h1 h2;omega
 |succ d ih=>
  intro m0 p hd hp h1 hl
  by_cases h2:p.length=1
  ·rw[nV,if_pos h2]
   refine fO aR [2] Tryz.func85 ?_
   have cE1:= @bT;have cE2:= @cG;have cE3:= @aQ
   refine ax @h2 ?_
   all_goals try(apply ai;repeat' first|exact ah|apply aa|(apply ak;intro zb hc)|(apply aj;intro zb)|intro j')<;>try apply al
  ·have hf:=me hp (by omega)
   have hq:=xL hp (by omega)
   obtain⟨n1,n2⟩:=md hp
   have j1:=trJ (d:=d) (by omega) hp (by omega)
   have t1:=lW (aO p).1
   have e2:((p.length:Int)=1)=False:=eq_false (by omega)
   rw[nV,if_neg h2]
   refine fO aR [2] Tryz.func85 ?_
   have cE1:= @bT;have cE2:= @cG;have cE3:= @aQ
   have cE1:= @ih;have cE2:= @bT;have cE3:= @cG;have cE4:= @aQ
   refine ax @e2 ?_
   all_goals try(apply ai;repeat' first|exact ah|apply aa|(apply ak;intro zb hc)|(apply aj;intro zb)|intro j')<;>try apply al
   refine an (fun ms1 S1=>∃(k:Nat),PtrL (S1.e 3) S1.h S1.n (.live false [.sl (.lent false) (List.map (PV.int .i64) (aO p).1),.sl (.lent false) (List.map (bt false) (aO p).2)])∧OwnL (S1.e 4) S1.h S1.n PV.str ((((aO p).2.take k).map (nV d)).length) (((aO p).2.take k).map (nV d))∧S1.e 14=.p (.sl (.lent false) (List.map (bt false) ((aO p).2)))∧S1.e 15=.p (.int .i64 ((aO p).2.length))∧S1.e 16=.p (.int .i64 (k))∧(k≤(aO p).2.length)∧NId (S1.e 4) (mZ (S1.e 3))∧ms1=(aO p).2.length - k) ((fun(k:Nat)=>(aO p).2.length - k) (0)) ?_ ⟨0,dC trivial ?_⟩
   all_goals try(apply ai;repeat' first|exact ah|apply aa|(apply ak;intro zb hc)|(apply aj;intro zb)|intro j')<;>try apply al
   rintro ms1 S1 ⟨k,o1_3,o1_4,h1_14,h1_15,h1_16,c1_0,u1_0,hm1⟩
   obtain⟨i1_3,h1_3,b1_3,l1_3⟩:=o1_3.out
   obtain⟨i1_4,h1_4,b1_4,l1_4⟩:=o1_4.out
   have k1_0:=(u1_0).out h1_4 (cO h1_3)
   have ni1_3:=aG (x:=i1_3) (n:=S1.n)
   have ni1_4:=aG (x:=i1_4) (n:=S1.n)
   have di1_3i1_4:=cQ (x:=i1_3) (y:=i1_4)
   have fL1:=(aa h1_14 (aa h1_15 (aa h1_16 (aa h1_3 (aa b1_3 (aa h1_4 (aa b1_4 (aa ni1_3 (aa ni1_4 di1_3i1_4)))))))))
   ·have lk:(((aO p).2.take k).map (nV d)).length=k:=by rw[List.length_map,List.length_take];omega
    by_cases hk:k<(aO p).2.length
    ·obtain⟨q1,q2⟩:=hf _ (ar (d:=[]) hk)
     have q3:=hq _ (ar (d:=[]) hk)
     have e3:=r7 (d:=d) hk
     have cE1:= @ih;have cE2:= @bT;have cE3:= @cG;have cE4:= @aQ
     refine ax fL1 ?_
     all_goals try(apply ai;repeat' first|exact ah|apply aa|(apply ak;intro zb hc)|(apply aj;intro zb)|intro j')<;>try apply al
     focus
      refine am ((fun(k:Nat)=>(aO p).2.length - k) (k+1)) (dC fL1 ?_) ⟨k+1,dC fL1 ?_⟩
      all_goals try(apply ai;repeat' first|exact ah|apply aa|(apply ak;intro zb hc)|(apply aj;intro zb)|intro j')<;>try apply al
     all_goals(first|(rw[e3];done)|(rw[e3,List.length_append];rfl)|skip)
    ·have e4:(aO p).2.take k=(aO p).2:=List.take_of_length_le (by omega)
     have cE1:= @ih;have cE2:= @bT;have cE3:= @cG;have cE4:= @aQ
     refine ax (aa fL1 @e4) ?_
     all_goals try(apply ai;repeat' first|exact ah|apply aa|(apply ak;intro zb hc)|(apply aj;intro zb)|intro j')<;>try apply al
     all_goals(first|(simp only[List.append_assoc];done)|skip)
theorem gr {m0:Bool} (p:List Int) (hl:p.length≤1048576):Fun Tryz.prog 39 [(.sl (.lent m0) (List.map (PV.int .i64) (p)))] [(.str (oT p))]:=by
 by_cases h:ae p=true
 ·have h8:=(aw h).1
  by_cases h0:p.length=0
  ·have e:oT p=[]:=by rw[oT,if_neg (fun g=>g.2 h0)]
   rw[e]
   refine fO aR [2] Tryz.func39 ?_
   have cE1:= @ao
   refine ax (aa @h @h0) ?_
   all_goals try(apply ai;repeat' first|exact ah|apply aa|(apply ak;intro zb hc)|(apply aj;intro zb)|intro j')<;>try apply al
  ·have e:oT p=nV 8 p:=by rw[oT,if_pos ⟨h,h0⟩]
   have e0:((p.length:Int)=0)=False:=eq_false (by omega)
   have c1:=fun m0:Bool=>oG 8 (m0:=m0) p (by decide) h (by omega) h8
   rw[e]
   refine fO aR [2] Tryz.func39 ?_
   have cE1:= @ao
   have cE1:= @c1;have cE2:= @ao
   refine ax (aa @h @e0) ?_
   all_goals try(apply ai;repeat' first|exact ah|apply aa|(apply ak;intro zb hc)|(apply aj;intro zb)|intro j')<;>try apply al
 ·have e:oT p=[]:=by rw[oT,if_neg (fun g=>h g.1)]
  rw[e]
  rw[Bool.not_eq_true]at h
  refine fO aR [2] Tryz.func39 ?_
  have cE1:= @ao
  refine ax @h ?_
  all_goals try(apply ai;repeat' first|exact ah|apply aa|(apply ak;intro zb hc)|(apply aj;intro zb)|intro j')<;>try apply al
theorem mn:∀(d:Nat) {m0:Bool} (p:List Int),d≤8→ae p=true→1≤p.length→p.length≤d→Fun Tryz.prog 25 [.sl (.lent m0) (List.map (PV.int .i64) p)] [.str (nV d p)]:=by
 intro d
 induction d with
 |zero=>intro m0 p _ _ h1 h2;omega
 |succ d ih=>
  intro m0 p hd hp h1 hl
  have e5:=BB hp (show p.length≠0 by omega)
  by_cases h2:p.length=1
  ·rw[nV,if_pos h2]
   refine fO aR [2] Tryz.func25 ?_
   have cE1:= @cf;have cE2:= @bY;have cE3:= @bZ
   refine ax (aa @h2 @e5) ?_
   all_goals try(apply ai;repeat' first|exact ah|apply aa|(apply ak;intro zb hc)|(apply aj;intro zb)|intro j')<;>try apply al
  ·have hf:=me hp (by omega)
   have hq:=xL hp (by omega)
   obtain⟨n1,n2⟩:=md hp
   have j1:=trJ (d:=d) (by omega) hp (by omega)
   have t1:=lW (aO p).1
   have e2:((p.length:Int)=1)=False:=eq_false (by omega)
   rw[nV,if_neg h2]
   refine fO aR [2] Tryz.func25 ?_
   have cE1:= @cf;have cE2:= @bY;have cE3:= @bZ
   have cE1:= @ih;have cE2:= @cf;have cE3:= @bY;have cE4:= @bZ
   refine ax (aa @e2 @e5) ?_
   all_goals try(apply ai;repeat' first|exact ah|apply aa|(apply ak;intro zb hc)|(apply aj;intro zb)|intro j')<;>try apply al
   refine an (fun ms1 S1=>∃(k:Nat),PtrL (S1.e 3) S1.h S1.n (.live false [.sl (.lent false) (List.map (PV.int .i64) (aO p).1),.sl (.lent false) (List.map (bt false) (aO p).2)])∧OwnL (S1.e 5) S1.h S1.n PV.str ((((aO p).2.take k).map (nV d)).length) (((aO p).2.take k).map (nV d))∧S1.e 6=.p (.int .i64 (k))∧(k≤(aO p).2.length)∧NId (S1.e 5) (mZ (S1.e 3))∧ms1=(aO p).2.length - k) ((fun(k:Nat)=>(aO p).2.length - k) (0)) ?_ ⟨0,dC trivial ?_⟩
   all_goals try(apply ai;repeat' first|exact ah|apply aa|(apply ak;intro zb hc)|(apply aj;intro zb)|intro j')<;>try apply al
   rintro ms1 S1 ⟨k,o1_3,o1_5,h1_6,c1_0,u1_0,hm1⟩
   obtain⟨i1_3,h1_3,b1_3,l1_3⟩:=o1_3.out
   obtain⟨i1_5,h1_5,b1_5,l1_5⟩:=o1_5.out
   have k1_0:=(u1_0).out h1_5 (cO h1_3)
   have ni1_3:=aG (x:=i1_3) (n:=S1.n)
   have ni1_5:=aG (x:=i1_5) (n:=S1.n)
   have di1_3i1_5:=cQ (x:=i1_3) (y:=i1_5)
   have fL1:=(aa h1_6 (aa h1_3 (aa b1_3 (aa h1_5 (aa b1_5 (aa ni1_3 (aa ni1_5 di1_3i1_5)))))))
   ·have lk:(((aO p).2.take k).map (nV d)).length=k:=by rw[List.length_map,List.length_take];omega
    by_cases hk:k<(aO p).2.length
    ·obtain⟨q1,q2⟩:=hf _ (ar (d:=[]) hk)
     have q3:=hq _ (ar (d:=[]) hk)
     have e3:=r7 (d:=d) hk
     have cE1:= @ih;have cE2:= @cf;have cE3:= @bY;have cE4:= @bZ
     refine ax fL1 ?_
     all_goals try(apply ai;repeat' first|exact ah|apply aa|(apply ak;intro zb hc)|(apply aj;intro zb)|intro j')<;>try apply al
     focus
      refine am ((fun(k:Nat)=>(aO p).2.length - k) (k+1)) (dC fL1 ?_) ⟨k+1,dC fL1 ?_⟩
      all_goals try(apply ai;repeat' first|exact ah|apply aa|(apply ak;intro zb hc)|(apply aj;intro zb)|intro j')<;>try apply al
     all_goals(first|(rw[e3];done)|(rw[e3,List.length_append];rfl)|skip)
    ·have e4:(aO p).2.take k=(aO p).2:=List.take_of_length_le (by omega)
     have cE1:= @ih;have cE2:= @cf;have cE3:= @bY;have cE4:= @bZ
     refine ax (aa fL1 @e4) ?_
     all_goals try(apply ai;repeat' first|exact ah|apply aa|(apply ak;intro zb hc)|(apply aj;intro zb)|intro j')<;>try apply al
     all_goals(first|(simp only[List.append_assoc];done)|skip)
theorem gm {m0:Bool} (p:List Int) (hl:p.length≤1048576):Fun Tryz.prog 25 [(.sl (.lent m0) (List.map (PV.int .i64) (p)))] [(.str (oT p))]:=by
 by_cases h:ae p=true
 ·have h8:=(aw h).1
  by_cases h0:p.length=0
  ·have e:oT p=[]:=by rw[oT,if_neg (fun g=>g.2 h0)]
   have e5:=BA h0
   rw[e]
   refine fO aR [2] Tryz.func25 ?_
   have cE1:= @cf;have cE2:= @bY;have cE3:= @bZ
   refine ax @e5 ?_
   all_goals try(apply ai;repeat' first|exact ah|apply aa|(apply ak;intro zb hc)|(apply aj;intro zb)|intro j')<;>try apply al
  ·have e:oT p=nV 8 p:=by rw[oT,if_pos ⟨h,h0⟩]
   rw[e]
   exact mn 8 (m0:=m0) p (by decide) h (by omega) h8
 ·have e:oT p=[]:=by rw[oT,if_neg (fun g=>h g.1)]
  rw[e]
  rw[Bool.not_eq_true]at h
  have e5:=BC h
  refine fO aR [2] Tryz.func25 ?_
  have cE1:= @cf;have cE2:= @bY;have cE3:= @bZ
  refine ax @e5 ?_
  all_goals try(apply ai;repeat' first|exact ah|apply aa|(apply ak;intro zb hc)|(apply aj;intro zb)|intro j')<;>try apply al
def tt (s:List UInt8):Bool:=decide (s=[])||((aS 32 s).all rC&&eP ((aS 32 s).map dQ))
def wu (s:List UInt8):List (List Int):=if s=[]then[]else if tt s=true then(aS 32 s).map dQ else[]
theorem oV {c:UInt8}:∀{s cur:List UInt8},∀x∈ze c s cur,x.length≤s.length+cur.length
 |[],cur,x,h=>by simp[ze]at h;subst h;simp
 |b::l,cur,x,h=>by
  rw[ze]at h
  split at h
  ·rcases List.mem_cons.1 h with rfl|h
   ·simp
   ·have:=oV x h;simp at this ⊢;omega
  ·have:=oV x h;simp at this ⊢;omega
theorem B8 {s:List UInt8}:(dQ s).length≤s.length:=by
 unfold dQ;split
 ·simp
 ·split
  ·simp[AM]
  ·simp
theorem IE {α:Type} {l:List α} {p:α→Bool} {k:Nat} {d:α} (h:k<l.length) (hf:p (l.getD k d)=false):l.all p=false:=by
 rw[List.all_eq_false];exact⟨l.getD k d,ar h,by rw[hf];decide⟩
theorem x5 {s:List UInt8} {k:Nat} (hn:¬s=[]) (hk:k<(aS 32 s).length) (h:rC ((aS 32 s).getD k [])=false):tt s=false:=by
 rw[tt,decide_eq_false hn,IE hk h];rfl
theorem Cf {s:List UInt8} (hn:¬s=[]) (h:(aS 32 s).all rC=true):tt s=eP ((aS 32 s).map dQ):=by
 rw[tt,decide_eq_false hn,h];simp
theorem tu {s:List UInt8} (h:tt s=false):wu s=[]:=by
 rw[wu];split
 ·rfl
 ·rw[if_neg (by rw[h];decide)]
theorem x6 {s:List UInt8} (hn:¬s=[]) (h:tt s=true):wu s=(aS 32 s).map dQ:=by rw[wu,if_neg hn,if_pos h]
theorem Ce {s:List UInt8} (b9:∀x∈aS 32 s,x.length≤1000) {k:Nat}:∀l∈((aS 32 s).take k).map dQ,l.length≤1048576:=fun l hl=>by
 obtain⟨x,hx,rfl⟩:=List.mem_map.1 hl
 have:=b9 x (List.mem_of_mem_take hx)
 have:=B8 (s:=x);omega
def wm:FuncId→List Bool:=fun f=>if f=4294967297 then[true,false,false,false]else[]
theorem E2 {f:FuncId}:wm f=if f=4294967297 then[true,false,false,false]else[]:=_root_.id rfl
theorem AX:fJ wm=false∧ga wm=true∧f9 wm=false∧f8 wm=false∧gb wm=false:=⟨rfl,rfl,rfl,rfl,rfl⟩
attribute [go_sem] E2 AX
theorem mq (s:List UInt8) (hl:s.length≤1000):Fun Tryz.prog 165 [(.str (s))] [(.dl (List.map (List.map (PV.int .i64)) (wu s))),(.bool (tt s))]:=by
 refine fO wm [2,3] Tryz.func165 ?_
 have cE1:= @bf;have cE2:= @bg;have cE3:= @bj
 have b0:=oW (c:=32) (s:=s) (cur:=[])
 have b9:∀x∈aS 32 s,x.length≤1000:=fun x hx=>by have:=oV x hx;simp at this;omega
 have b8:(aS 32 s).length≤1001:=by unfold aS;omega
 have hS:=bf s 32 (by omega)
 rw[show(((32:UInt8).toNat:Nat):Int)=32 from rfl]at hS
 have cE1:= @hS;have cE2:= @bf;have cE3:= @bg;have cE4:= @bj
 refine ax trivial ?_
 all_goals try(apply ai;repeat' first|exact ah|apply aa|(apply ak;intro zb hc)|(apply aj;intro zb)|intro j')<;>try apply al
 ·subst hc;rfl
 ·subst hc;rfl
 ·have hn:=hc
  refine an (fun ms1 S1=>∃(k:Nat),S1.e 0=.p (.str (s))∧DwnL (S1.e 4) S1.h S1.n (PV.int .i64) ((((aS 32 s).take k).map dQ).length) (((aS 32 s).take k).map dQ)∧OwnL (S1.e 5) S1.h S1.n PV.str ((aS 32 s).length) (aS 32 s)∧S1.e 6=.p (.int .i64 (k))∧(k≤(aS 32 s).length)∧(((aS 32 s).take k).all rC=true)∧NId (S1.e 5) (S1.e 4)∧ms1=(aS 32 s).length - k) ((fun(k:Nat)=>(aS 32 s).length - k) (0)) ?_ ⟨0,dC trivial ?_⟩
  all_goals try(apply ai;repeat' first|exact ah|apply aa|(apply ak;intro zb hc)|(apply aj;intro zb)|intro j')<;>try apply al
  rintro ms1 S1 ⟨k,h1_0,o1_4,o1_5,h1_6,c1_0,c1_1,u1_0,hm1⟩
  obtain⟨i1_4,h1_4,b1_4,l1_4⟩:=o1_4.out
  obtain⟨i1_5,h1_5,b1_5,l1_5⟩:=o1_5.out
  have k1_0:=(u1_0).out h1_5 h1_4
  have ni1_4:=aG (x:=i1_4) (n:=S1.n)
  have ni1_5:=aG (x:=i1_5) (n:=S1.n)
  have di1_4i1_5:=cQ (x:=i1_4) (y:=i1_5)
  have fL1:=(aa h1_0 (aa h1_6 (aa h1_4 (aa b1_4 (aa h1_5 (aa b1_5 (aa ni1_4 (aa ni1_5 di1_4i1_5))))))))
  have b7:k<(aS 32 s).length→((aS 32 s).getD k []).length≤1048576:=fun h=>by have:=b9 ((aS 32 s).getD k []) (ar h);omega
  have r1:=Ce b9 (k:=k)
  by_cases hk:k<(aS 32 s).length
  ·have cE1:= @bf;have cE2:= @bg;have cE3:= @bj;have cE4:=trivial
   refine ax fL1 ?_
   all_goals try(apply ai;repeat' first|exact ah|apply aa|(apply ak;intro zb hc)|(apply aj;intro zb)|intro j')<;>try apply al
   ·rw[tu (x5 hn hk hc)];rfl
   ·exact(x5 hn hk hc).symm
   ·focus
     refine am ((fun(k:Nat)=>(aS 32 s).length - k) (k+1)) (dC fL1 ?_) ⟨k+1,dC fL1 ?_⟩
     all_goals try(apply ai;repeat' first|exact ah|apply aa|(apply ak;intro zb hc)|(apply aj;intro zb)|intro j')<;>try apply al
    all_goals first|(rw[az (d:=[]) hk];simp;done)|(rw[az (d:=[]) hk,List.all_append,c1_1,List.all_cons,hc];rfl)|skip
  ·rw[List.take_of_length_le (by omega)]at c1_1 r1
   have r2:=Cf hn c1_1
   have e0:(aS 32 s).take k=aS 32 s:=List.take_of_length_le (by omega)
   have cE1:= @bf;have cE2:= @bg;have cE3:= @bj;have cE4:=trivial
   refine dE (aa fL1 @e0) ?_
   all_goals try(apply ai;repeat' first|exact ah|apply aa|(apply ak;intro zb hc)|(apply aj;intro zb)|intro j')<;>try apply al
   all_goals try exact r1
   all_goals try exact gZ
   ·rw[tu (r2.trans hc)];rfl
   ·exact(r2.trans hc).symm
   ·rw[x6 hn (r2.trans hc)]
   ·exact(r2.trans hc).symm
theorem gw (s:List UInt8) (hl:s.length≤1000):Fun Tryz.prog 165 [(.str (s))] [(.sl .own (List.map (bt false) (wu s))),(.bool (tt s))]:=by
 refine fO aR [2,3] Tryz.func165 ?_
 have cE1:= @bf;have cE2:= @bg;have cE3:= @bj
 have b0:=oW (c:=32) (s:=s) (cur:=[])
 have b9:∀x∈aS 32 s,x.length≤1000:=fun x hx=>by have:=oV x hx;simp at this;omega
 have b8:(aS 32 s).length≤1001:=by unfold aS;omega
 have hS:=bf s 32 (by omega)
 rw[show(((32:UInt8).toNat:Nat):Int)=32 from rfl]at hS
 have cE1:= @hS;have cE2:= @bf;have cE3:= @bg;have cE4:= @bj
 refine ax trivial ?_
 all_goals try(apply ai;repeat' first|exact ah|apply aa|(apply ak;intro zb hc)|(apply aj;intro zb)|intro j')<;>try apply al
 ·subst hc;rfl
 ·subst hc;rfl
 ·have hn:=hc
  refine an (fun ms1 S1=>∃(k:Nat),S1.e 0=.p (.str (s))∧OwnL (S1.e 4) S1.h S1.n (bt false) ((((aS 32 s).take k).map dQ).length) (((aS 32 s).take k).map dQ)∧OwnL (S1.e 5) S1.h S1.n PV.str ((aS 32 s).length) (aS 32 s)∧S1.e 6=.p (.int .i64 (k))∧(k≤(aS 32 s).length)∧(((aS 32 s).take k).all rC=true)∧NId (S1.e 5) (S1.e 4)∧ms1=(aS 32 s).length - k) ((fun(k:Nat)=>(aS 32 s).length - k) (0)) ?_ ⟨0,dC trivial ?_⟩
  all_goals try(apply ai;repeat' first|exact ah|apply aa|(apply ak;intro zb hc)|(apply aj;intro zb)|intro j')<;>try apply al
  rintro ms1 S1 ⟨k,h1_0,o1_4,o1_5,h1_6,c1_0,c1_1,u1_0,hm1⟩
  obtain⟨i1_4,h1_4,b1_4,l1_4⟩:=o1_4.out
  obtain⟨i1_5,h1_5,b1_5,l1_5⟩:=o1_5.out
  have k1_0:=(u1_0).out h1_5 h1_4
  have ni1_4:=aG (x:=i1_4) (n:=S1.n)
  have ni1_5:=aG (x:=i1_5) (n:=S1.n)
  have di1_4i1_5:=cQ (x:=i1_4) (y:=i1_5)
  have fL1:=(aa h1_0 (aa h1_6 (aa h1_4 (aa b1_4 (aa h1_5 (aa b1_5 (aa ni1_4 (aa ni1_5 di1_4i1_5))))))))
  have b7:k<(aS 32 s).length→((aS 32 s).getD k []).length≤1048576:=fun h=>by have:=b9 ((aS 32 s).getD k []) (ar h);omega
  have r1:=Ce b9 (k:=k)
  by_cases hk:k<(aS 32 s).length
  ·have cE1:= @bf;have cE2:= @bg;have cE3:= @bj;have cE4:=trivial
   refine ax fL1 ?_
   all_goals try(apply ai;repeat' first|exact ah|apply aa|(apply ak;intro zb hc)|(apply aj;intro zb)|intro j')<;>try apply al
   ·rw[tu (x5 hn hk hc)];rfl
   ·exact(x5 hn hk hc).symm
   ·focus
     refine am ((fun(k:Nat)=>(aS 32 s).length - k) (k+1)) (dC fL1 ?_) ⟨k+1,dC fL1 ?_⟩
     all_goals try(apply ai;repeat' first|exact ah|apply aa|(apply ak;intro zb hc)|(apply aj;intro zb)|intro j')<;>try apply al
    all_goals first|(rw[az (d:=[]) hk];simp;done)|(rw[az (d:=[]) hk,List.all_append,c1_1,List.all_cons,hc];rfl)|skip
  ·rw[List.take_of_length_le (by omega)]at c1_1 r1
   have r2:=Cf hn c1_1
   have e0:(aS 32 s).take k=aS 32 s:=List.take_of_length_le (by omega)
   have cE1:= @bf;have cE2:= @bg;have cE3:= @bj;have cE4:=trivial
   refine dE (aa fL1 @e0) ?_
   all_goals try(apply ai;repeat' first|exact ah|apply aa|(apply ak;intro zb hc)|(apply aj;intro zb)|intro j')<;>try apply al
   all_goals try exact r1
   all_goals try exact gZ
   ·rw[tu (r2.trans hc)];rfl
   ·exact(r2.trans hc).symm
   ·rw[x6 hn (r2.trans hc)]
   ·exact(r2.trans hc).symm
end Go.Gl
