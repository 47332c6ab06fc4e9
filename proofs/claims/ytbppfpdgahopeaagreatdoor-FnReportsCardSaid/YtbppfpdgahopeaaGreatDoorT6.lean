/-
  What the functions compute, and what the law asks of it: texts joined. Conditions: those that each lemma names.
-/
import Derived.Test.YtbppfpdgahopeaaGreatDoorT2
import Derived.Test.YtbppfpdgahopeaaGreatDoorT1
import Derived.Test.YtbppfpdgahopeaaGreatDoorT3
import Derived.Test.YtbppfpdgahopeaaGreatDoorT4
import Derived.Test.YtbppfpdgahopeaaGreatDoorT5
set_option linter.unusedSimpArgs false
set_option linter.unusedVariables false
set_option maxRecDepth 20000
set_option linter.unusedSectionVars false
set_option maxHeartbeats 16000000
namespace Go.Gl
open Go Go.Proofs
variable [Amb] [NoQ]
def d9 (p:List Int) (a:Nat):Nat→Nat
 |0=>a+1
 |k+1=>if a+2≤k+1∧k+1 - a<p.length∧kb p a (k+1:Nat)=true then k+1 else d9 p a k
theorem oA {p:List Int} {a:Nat}:∀{k:Nat},a+1≤d9 p a k∧(d9 p a k≤k∨d9 p a k=a+1)
 |0=>by simp[d9]
 |k+1=>by
  have:=oA (p:=p) (a:=a) (k:=k)
  rw[d9];split<;>omega
theorem rk {p:List Int} {a:Nat}:∀{k:Nat},k≤a+1→d9 p a k=a+1
 |0,_=>rfl
 |k+1,h=>by rw[d9,if_neg (by omega)];exact rk (by omega)
def br (p:List Int):Nat→Nat×List Int×List (List Int)
 |0=>(0,[],[])
 |j+1=>if(br p j).1<p.length then(d9 p (br p j).1 p.length,(br p j).2.1++[p.getD (br p j).1 0],(br p j).2.2++[md (d8 p (br p j).1 (d9 p (br p j).1 p.length))])else br p j
theorem rz {p:List Int}:∀{j:Nat},(br p j).1≤p.length∧(j≤(br p j).1∨(br p j).1=p.length)∧(br p j).2.1.length≤(br p j).1∧(br p j).2.2.length=(br p j).2.1.length
 |0=>by simp[br]
 |j+1=>by
  have:=rz (p:=p) (j:=j)
  rw[br]
  split
  ·have h2:=oA (p:=p) (a:=(br p j).1) (k:=p.length)
   simp only[ak,aC,List.length_nil]
   omega
  ·omega
theorem ry {p:List Int} {j:Nat} (h:(br p j).1=p.length):∀i,br p (j+i)=br p j
 |0=>rfl
 |i+1=>by
  rw[←Nat.add_assoc,br,ry h i,if_neg (by omega)]
theorem wq {p:List Int} {j:Nat} (h:(br p j).1=p.length):br p j=br p p.length:=by
 have h1:=rz (p:=p) (j:=p.length)
 have h2:(br p p.length).1=p.length:=by omega
 rcases Nat.le_total j p.length with hj|hj
 ·have:=ry h (p.length - j);rw[←this];congr 1;omega
 ·have:=ry h2 (j - p.length);rw[←this];congr 1;omega
theorem Az {p:List Int} {a:Nat} (h:a<p.length):kb p a ((a+1:Nat):Int)=true:=by
 have e:d8 p a (a+1)=[p.getD a 0]:=by
  apply List.ext_getElem?;intro i
  simp only[d8,aW,be]
  cases i with
  |zero=>simp[ac,ae h]
  |succ i=>rw[if_neg (by omega)];simp
 have e2:((a:Int)).toNat=a:=by omega
 have e3:(((a+1:Nat):Int)).toNat=a+1:=by omega
 rw[kb,e2,e3,e]
 simp[xg,xe,nZ,nY]
 omega
def bv (p:List Int):List Int×List (List Int):=
 if p.length=1 then([1],[[1]])else
 if 1<(bu p).length then([1,2],[(bu p).getD 0 [],ew ((bu p).drop 1) false])else
 if 1<(dD p).length then([2,1],[(dD p).getD 0 [],ew ((dD p).drop 1) true])else
 (md (br p p.length).2.1,(br p p.length).2.2)
theorem qd {p:List Int} (hp:al p=true):(∀l∈dD p,bD l=true)∧cQ (dD p)≤8∧(dD p).length≤8∧(∀l∈dD p,al l=true∧l.length≤8∧∀x∈l,0≤x∧x≤8):=by
 have h:=ji (dz hp)
 have e:cQ (dD p)=cQ (bu (cU p)):=by
  simp only[cQ,dD,List.map_map]
  congr 1
  exact List.map_congr_left fun l _=>gc
 refine⟨fun l hl=> ?_,by omega,by simp[dD];omega,fun l hl=> ?_⟩
 ·obtain⟨q,hq,rfl⟩:=List.mem_map.1 hl
  exact s8 (h.1 q hq)
 ·obtain⟨q,hq,rfl⟩:=List.mem_map.1 hl
  have:=dz (h.2.2.2 q hq).1
  exact⟨this,(aK this).1,fZ this⟩
theorem qx {L:List (List Int)} (h1:∀l∈L,bD l=true) (h2:cQ L≤8) (h3:L.length≤8) (h4:∀l∈L,al l=true∧l.length≤8∧∀x∈l,0≤x∧x≤8):
  (L.drop 1).length≤8∧(∀l∈L.drop 1,l.length≤8)∧(∀l∈L.drop 1,∀x∈l,0≤x∧x≤8):=
 ⟨by simp;omega,fun l hl=>(h4 l (List.mem_of_mem_drop hl)).2.1,fun l hl=>(h4 l (List.mem_of_mem_drop hl)).2.2⟩
def uQ:FuncId→List Bool:=fun f=>if f=4294967297 then[false,true,false,false]else[]
theorem Fr {f:FuncId}:uQ f=if f=4294967297 then[false,true,false,false]else[]:=_root_.id rfl
theorem Bk:gk uQ=false∧gG uQ=false∧gF uQ=true∧gE uQ=false∧gH uQ=false:=⟨rfl,rfl,rfl,rfl,rfl⟩
attribute [go_sem] Fr Bk
theorem cB {m0:Bool} (p:List Int) (hp:al p=true) (h0:1≤p.length):Fun Tryz.prog 129 [(.sl (.lent m0) (List.map (PV.int .i64) (p)))] [(.agg [(.sl (.lent false) (List.map (PV.int .i64) ((bv p).1))),(.sl (.lent false) (List.map (bW false) ((bv p).2)))])]:=by
 refine Fun.ofR (sg:=uQ) (rs:=[.cell 2 48]) mo Tryz.func129 rfl rfl rfl rfl (by kernel_rfl) (by simp only[go_sem]) rfl ?_
 have cE1:= @dR;have cE2:= @oo;have cE3:= @om;have cE4:= @jo;have cE5:= @qR;have cD1:=iE [true,false,false,false,false,false,true,true,false,true] [(0,1),(0,2),(0,3),(0,4),(0,5),(0,6),(1,6),(2,6),(3,6),(0,7)]
 have cD2:=iE [true,false,false,false,false,false,true,true,false,true] [(0,1),(0,2),(0,3),(0,4),(0,5),(0,6),(1,6),(2,6),(3,6),(0,7)];have cD3:=iE [false,false,false,false,false,false,true,true,true,false,true] [(0,6),(1,6),(0,7),(1,7)]
 have hl:=(aK hp).1
 have hb:=fZ hp
 have q1:(dP lX p p.length).1=bu p:=rfl
 have q2:=ji hp
 have q3:=qd hp
 obtain⟨q4,q5,q6⟩:=qx q2.1 q2.2.1 q2.2.2.1 q2.2.2.2
 obtain⟨q7,q8,q9⟩:=qx q3.1 q3.2.1 q3.2.2.1 q3.2.2.2
 have hbb:∀x∈p,0≤x∧x≤1048576:=fun x hx=>by have:=hb x hx;omega
 have qa:List.take ((bu p).length - 1) (List.drop 1 (bu p))=List.drop 1 (bu p):=by rw[ah (by simp)]
 have qb:List.take ((dD p).length - 1) (List.drop 1 (dD p))=List.drop 1 (dD p):=by rw[ah (by simp)]
 refine aQ (aa @q1 (aa @qa @qb)) ?_
 all_goals try(apply aq;repeat' first|exact ao|apply aa|(apply au;intro zb hc)|(apply ar;intro zb)|intro j')<;>try apply aw
 all_goals try (rw[bv,if_pos (by omega)];rfl)
 all_goals try (rw[bv,if_neg (by omega),if_pos (by omega)];rfl)
 all_goals try (rw[bv,if_neg (by omega),if_neg (by omega),if_pos (by omega)];rfl)
 refine az (fun ms1 S1=>∃(j:Nat),S1.e 0=.p (.sl (.lent m0) (List.map (PV.int .i64) (p)))∧PtrL (S1.e 2) S1.h S1.n (.deep false [.v (.sl .own []),.v (.sl .own [])] [])∧Dst2 (S1.e 5) S1.h S1.n (List.map (PV.int .i64) ([])) (List.map (bW false) ((br p j).2.2))∧OwnL (S1.e 6) S1.h S1.n (PV.int .i64) (((br p j).2.1).length) ((br p j).2.1)∧S1.e 7=.p (.int .i64 ((br p j).1))∧((br p j).1≤p.length)∧NId (nJ (S1.e 5)) (nJ (S1.e 2))∧NId (S1.e 6) (nJ (S1.e 2))∧NId (S1.e 6) (nJ (S1.e 5))∧ms1=p.length - (br p j).1) ((fun(j:Nat)=>p.length - (br p j).1) (0)) ?_ ⟨0,kj trivial ?_⟩
 all_goals try(apply aq;repeat' first|exact ao|apply aa|(apply au;intro zb hc)|(apply ar;intro zb)|intro j')<;>try apply aw
 rintro ms1 S1 ⟨j,h1_0,o1_2,o1_5,o1_6,h1_7,c1_0,u1_0,u1_1,u1_2,hm1⟩
 obtain⟨i1_5,ra1_5,rb1_5,rs1_5,h1_5,b1_5,l1_5,w01_5,w11_5,w21_5,w31_5,w41_5,w51_5,w61_5,w71_5,w81_5,w91_5⟩:=o1_5.out
 obtain⟨i1_2,h1_2,b1_2,l1_2⟩:=o1_2.out
 obtain⟨i1_6,h1_6,b1_6,l1_6⟩:=o1_6.out
 have k1_0:=(u1_0).out (dp h1_5) (dp h1_2)
 have k1_1:=(u1_1).out h1_6 (dp h1_2)
 have k1_2:=(u1_2).out h1_6 (dp h1_5)
 have ni1_2:=bi (x:=i1_2) (n:=S1.n)
 have ni1_5:=bi (x:=i1_5) (n:=S1.n)
 have ni1_6:=bi (x:=i1_6) (n:=S1.n)
 have di1_2i1_5:=ds (x:=i1_2) (y:=i1_5)
 have di1_2i1_6:=ds (x:=i1_2) (y:=i1_6)
 have di1_5i1_6:=ds (x:=i1_5) (y:=i1_6)
 have fL1:=(aa h1_0 (aa h1_7 (aa h1_2 (aa b1_2 (aa h1_5 (aa b1_5 (aa h1_6 (aa b1_6 (aa w01_5 (aa w11_5 (aa w21_5 (aa w31_5 (aa w41_5 (aa w51_5 (aa w61_5 (aa w71_5 (aa w81_5 (aa w91_5 (aa ni1_2 (aa ni1_5 (aa ni1_6 (aa di1_2i1_5 (aa di1_2i1_6 di1_5i1_6)))))))))))))))))))))))
 have z1:=rz (p:=p) (j:=j)
 have z2:¬(br p j).1<p.length→bv p=(md (br p j).2.1,(br p j).2.2):=fun h=>by
  rw[bv,if_neg (by omega),if_neg (by omega),if_neg (by omega),wq (j:=j) (by omega)]
 refine aQ fL1 ?_
 all_goals try(apply aq;repeat' first|exact ao|apply aa|(apply au;intro zb hc)|(apply ar;intro zb)|intro j')<;>try apply aw
 ·refine az (fun ms2 S2=>∃(i:Nat),S2.e 0=.p (.sl (.lent m0) (List.map (PV.int .i64) (p)))∧PtrL (S2.e 2) S2.h S2.n (.deep false [.v (.sl .own []),.v (.sl .own [])] [])∧Dst2 (S2.e 5) S2.h S2.n (List.map (PV.int .i64) ([])) (List.map (bW false) ((br p j).2.2))∧OwnL (S2.e 6) S2.h S2.n (PV.int .i64) (((br p j).2.1).length) ((br p j).2.1)∧S2.e 7=.p (.int .i64 ((br p j).1))∧S2.e 8=.p (.int .i64 (d9 p (br p j).1 i))∧S2.e 9=.p (.int .i64 (i+1))∧((br p j).1+1≤i)∧(i≤p.length)∧((br p j).1<p.length)∧NId (nJ (S2.e 5)) (nJ (S2.e 2))∧NId (S2.e 6) (nJ (S2.e 2))∧NId (S2.e 6) (nJ (S2.e 5))∧S1.n≤S2.n∧ms2=p.length - i) ((fun(i:Nat)=>p.length - i) ((br p j).1+1)) ?_ ⟨(br p j).1+1,kj fL1 ?_⟩
  all_goals try(apply aq;repeat' first|exact ao|apply aa|(apply au;intro zb hc)|(apply ar;intro zb)|intro j')<;>try apply aw
  rintro ms2 S2 ⟨i,h2_0,o2_2,o2_5,o2_6,h2_7,h2_8,h2_9,c2_0,c2_1,c2_2,u2_0,u2_1,u2_2,u2_3,hm2⟩
  obtain⟨i2_5,ra2_5,rb2_5,rs2_5,h2_5,b2_5,l2_5,w02_5,w12_5,w22_5,w32_5,w42_5,w52_5,w62_5,w72_5,w82_5,w92_5⟩:=o2_5.out
  obtain⟨i2_2,h2_2,b2_2,l2_2⟩:=o2_2.out
  obtain⟨i2_6,h2_6,b2_6,l2_6⟩:=o2_6.out
  have k2_0:=(u2_0).out (dp h2_5) (dp h2_2)
  have k2_1:=(u2_1).out h2_6 (dp h2_2)
  have k2_2:=(u2_2).out h2_6 (dp h2_5)
  have ni2_2:=bi (x:=i2_2) (n:=S2.n)
  have ni2_5:=bi (x:=i2_5) (n:=S2.n)
  have ni2_6:=bi (x:=i2_6) (n:=S2.n)
  have di2_2i2_5:=ds (x:=i2_2) (y:=i2_5)
  have di2_2i2_6:=ds (x:=i2_2) (y:=i2_6)
  have di2_5i2_6:=ds (x:=i2_5) (y:=i2_6)
  have fL2:=(aa h2_0 (aa h2_7 (aa h2_8 (aa h2_9 (aa h2_2 (aa b2_2 (aa h2_5 (aa b2_5 (aa h2_6 (aa b2_6 (aa w02_5 (aa w12_5 (aa w22_5 (aa w32_5 (aa w42_5 (aa w52_5 (aa w62_5 (aa w72_5 (aa w82_5 (aa w92_5 (aa ni2_2 (aa ni2_5 (aa ni2_6 (aa di2_2i2_5 (aa di2_2i2_6 di2_5i2_6)))))))))))))))))))))))))
  have z3:=oA (p:=p) (a:=(br p j).1) (k:=i)
  refine aQ fL2 ?_
  all_goals try(apply aq;repeat' first|exact ao|apply aa|(apply au;intro zb hc)|(apply ar;intro zb)|intro j')<;>try apply aw
  ·have e2:d9 p (br p j).1 (i+1)=i+1:=by rw[d9,if_pos ⟨by omega,by omega,by push_cast;exact hc⟩]
   focus
    refine ay ((fun(i:Nat)=>p.length - i) (i+1)) (dC fL2 ?_) ⟨i+1,dC fL2 ?_⟩
    all_goals try(apply aq;repeat' first|exact ao|apply aa|(apply au;intro zb hc)|(apply ar;intro zb)|intro j')<;>try apply aw
  ·have e2:d9 p (br p j).1 (i+1)=d9 p (br p j).1 i:=by rw[d9,if_neg (fun h=>by have:=h.2.2;push_cast at this;rw[hc]at this;cases this)]
   focus
    refine ay ((fun(i:Nat)=>p.length - i) (i+1)) (dC fL2 ?_) ⟨i+1,dC fL2 ?_⟩
    all_goals try(apply aq;repeat' first|exact ao|apply aa|(apply au;intro zb hc)|(apply ar;intro zb)|intro j')<;>try apply aw
  ·have e2:d9 p (br p j).1 (i+1)=d9 p (br p j).1 i:=by rw[d9,if_neg (by omega)]
   focus
    refine ay ((fun(i:Nat)=>p.length - i) (i+1)) (dC fL2 ?_) ⟨i+1,dC fL2 ?_⟩
    all_goals try(apply aq;repeat' first|exact ao|apply aa|(apply au;intro zb hc)|(apply ar;intro zb)|intro j')<;>try apply aw
  ·obtain rfl:i=p.length:=by omega
   have e3:br p (j+1)=(d9 p (br p j).1 p.length,(br p j).2.1++[p.getD (br p j).1 0],(br p j).2.2++[md (d8 p (br p j).1 (d9 p (br p j).1 p.length))]):=by rw[br,if_pos c2_2]
   have e4:=congrArg Prod.fst e3
   have e5:=congrArg (fun x=>x.2.1) e3
   have e6:=congrArg (fun x=>x.2.2) e3
   simp only at e4 e5 e6
   focus
    refine ay ((fun(j:Nat)=>p.length - (br p j).1) (j+1)) (dC fL2 ?_) ⟨j+1,dC fL2 ?_⟩
    all_goals try(apply aq;repeat' first|exact ao|apply aa|(apply au;intro zb hc)|(apply ar;intro zb)|intro j')<;>try apply aw
   all_goals(first|(rw[e6];rfl)|(rw[e5];done)|(rw[e5];simp;done)|(rw[e4];done)|(rw[e4];omega))
  ·rw[rk (by omega)];omega
 ·rw[z2 (by omega)]
 ·rw[z2 (by omega)]
 ·simp[br]
theorem fQ {m0:Bool} (p:List Int) (hp:al p=true) (h0:1≤p.length):Fun Tryz.prog 120 [(.sl (.lent m0) (List.map (PV.int .i64) (p)))] [(.agg [(.sl (.lent false) (List.map (PV.int .i64) ((bv p).1))),(.sl (.lent false) (List.map (bW false) ((bv p).2)))])]:=by
 refine Fun.ofR (sg:=uQ) (rs:=[.cell 2 48]) mo Tryz.func120 rfl rfl rfl rfl (by kernel_rfl) (by simp only[go_sem]) rfl ?_
 have cE1:= @dO;have cE2:= @tC;have cE3:= @nP;have cE4:= @mU;have cE5:= @gr;have cD1:=iE [false,false,false,false,false,false,false,true,true,true,false,true] [(0,7),(1,7),(0,8),(1,8)]
 have hl:=(aK hp).1
 have hb:=fZ hp
 have q1:(dP mb p p.length).1=bu p:=kB (aK hp).2
 have q2:=ji hp
 have q3:=qd hp
 have hbb:∀x∈p,0≤x∧x≤1048576:=fun x hx=>by have:=hb x hx;omega
 obtain⟨f1,f2,f3,_⟩:=q2
 obtain⟨g1,g2,g3,_⟩:=q3
 refine aQ (aa @q1 @hp) ?_
 all_goals try(apply aq;repeat' first|exact ao|apply aa|(apply au;intro zb hc)|(apply ar;intro zb)|intro j')<;>try apply aw
 all_goals try (rw[bv,if_pos (by omega)];rfl)
 all_goals try (rw[bv,if_neg (by omega),if_pos (by omega)];rfl)
 all_goals try (rw[bv,if_neg (by omega),if_neg (by omega),if_pos (by omega)];rfl)
 refine az (fun ms1 S1=>∃(j:Nat),S1.e 0=.p (.sl (.lent m0) (List.map (PV.int .i64) (p)))∧PtrL (S1.e 2) S1.h S1.n (.deep false [.v (.sl .own []),.v (.sl .own [])] [])∧Dst2 (S1.e 5) S1.h S1.n (List.map (PV.int .i64) ([])) (List.map (bW false) ((br p j).2.2))∧OwnL (S1.e 6) S1.h S1.n (PV.int .i64) (((br p j).2.1).length) ((br p j).2.1)∧S1.e 7=.p (.int .i64 ((br p j).1))∧((br p j).1≤p.length)∧NId (nJ (S1.e 5)) (nJ (S1.e 2))∧NId (S1.e 6) (nJ (S1.e 2))∧NId (S1.e 6) (nJ (S1.e 5))∧ms1=p.length - (br p j).1) ((fun(j:Nat)=>p.length - (br p j).1) (0)) ?_ ⟨0,kj trivial ?_⟩
 all_goals try(apply aq;repeat' first|exact ao|apply aa|(apply au;intro zb hc)|(apply ar;intro zb)|intro j')<;>try apply aw
 rintro ms1 S1 ⟨j,h1_0,o1_2,o1_5,o1_6,h1_7,c1_0,u1_0,u1_1,u1_2,hm1⟩
 obtain⟨i1_5,ra1_5,rb1_5,rs1_5,h1_5,b1_5,l1_5,w01_5,w11_5,w21_5,w31_5,w41_5,w51_5,w61_5,w71_5,w81_5,w91_5⟩:=o1_5.out
 obtain⟨i1_2,h1_2,b1_2,l1_2⟩:=o1_2.out
 obtain⟨i1_6,h1_6,b1_6,l1_6⟩:=o1_6.out
 have k1_0:=(u1_0).out (dp h1_5) (dp h1_2)
 have k1_1:=(u1_1).out h1_6 (dp h1_2)
 have k1_2:=(u1_2).out h1_6 (dp h1_5)
 have ni1_2:=bi (x:=i1_2) (n:=S1.n)
 have ni1_5:=bi (x:=i1_5) (n:=S1.n)
 have ni1_6:=bi (x:=i1_6) (n:=S1.n)
 have di1_2i1_5:=ds (x:=i1_2) (y:=i1_5)
 have di1_2i1_6:=ds (x:=i1_2) (y:=i1_6)
 have di1_5i1_6:=ds (x:=i1_5) (y:=i1_6)
 have fL1:=(aa h1_0 (aa h1_7 (aa h1_2 (aa b1_2 (aa h1_5 (aa b1_5 (aa h1_6 (aa b1_6 (aa w01_5 (aa w11_5 (aa w21_5 (aa w31_5 (aa w41_5 (aa w51_5 (aa w61_5 (aa w71_5 (aa w81_5 (aa w91_5 (aa ni1_2 (aa ni1_5 (aa ni1_6 (aa di1_2i1_5 (aa di1_2i1_6 di1_5i1_6)))))))))))))))))))))))
 have z1:=rz (p:=p) (j:=j)
 have z2:¬(br p j).1<p.length→bv p=(md (br p j).2.1,(br p j).2.2):=fun h=>by
  rw[bv,if_neg (by omega),if_neg (by omega),if_neg (by omega),wq (j:=j) (by omega)]
 refine aQ fL1 ?_
 all_goals try(apply aq;repeat' first|exact ao|apply aa|(apply au;intro zb hc)|(apply ar;intro zb)|intro j')<;>try apply aw
 ·refine az (fun ms2 S2=>∃(i:Nat),S2.e 0=.p (.sl (.lent m0) (List.map (PV.int .i64) (p)))∧PtrL (S2.e 2) S2.h S2.n (.deep false [.v (.sl .own []),.v (.sl .own [])] [])∧Dst2 (S2.e 5) S2.h S2.n (List.map (PV.int .i64) ([])) (List.map (bW false) ((br p j).2.2))∧OwnL (S2.e 6) S2.h S2.n (PV.int .i64) (((br p j).2.1).length) ((br p j).2.1)∧S2.e 7=.p (.int .i64 ((br p j).1))∧S2.e 8=.p (.int .i64 (i - 1))∧((br p j).1+1≤i)∧(i≤p.length)∧((br p j).1<p.length)∧(d9 p (br p j).1 p.length=d9 p (br p j).1 i)∧NId (nJ (S2.e 5)) (nJ (S2.e 2))∧NId (S2.e 6) (nJ (S2.e 2))∧NId (S2.e 6) (nJ (S2.e 5))∧S1.n≤S2.n∧ms2=i) ((fun(i:Nat)=>i) (p.length)) ?_ ⟨p.length,kj fL1 ?_⟩
  all_goals try(apply aq;repeat' first|exact ao|apply aa|(apply au;intro zb hc)|(apply ar;intro zb)|intro j')<;>try apply aw
  rintro ms2 S2 ⟨i,h2_0,o2_2,o2_5,o2_6,h2_7,h2_8,c2_0,c2_1,c2_2,c2_3,u2_0,u2_1,u2_2,u2_3,hm2⟩
  obtain⟨i2_5,ra2_5,rb2_5,rs2_5,h2_5,b2_5,l2_5,w02_5,w12_5,w22_5,w32_5,w42_5,w52_5,w62_5,w72_5,w82_5,w92_5⟩:=o2_5.out
  obtain⟨i2_2,h2_2,b2_2,l2_2⟩:=o2_2.out
  obtain⟨i2_6,h2_6,b2_6,l2_6⟩:=o2_6.out
  have k2_0:=(u2_0).out (dp h2_5) (dp h2_2)
  have k2_1:=(u2_1).out h2_6 (dp h2_2)
  have k2_2:=(u2_2).out h2_6 (dp h2_5)
  have ni2_2:=bi (x:=i2_2) (n:=S2.n)
  have ni2_5:=bi (x:=i2_5) (n:=S2.n)
  have ni2_6:=bi (x:=i2_6) (n:=S2.n)
  have di2_2i2_5:=ds (x:=i2_2) (y:=i2_5)
  have di2_2i2_6:=ds (x:=i2_2) (y:=i2_6)
  have di2_5i2_6:=ds (x:=i2_5) (y:=i2_6)
  have fL2:=(aa h2_0 (aa h2_7 (aa h2_8 (aa h2_2 (aa b2_2 (aa h2_5 (aa b2_5 (aa h2_6 (aa b2_6 (aa w02_5 (aa w12_5 (aa w22_5 (aa w32_5 (aa w42_5 (aa w52_5 (aa w62_5 (aa w72_5 (aa w82_5 (aa w92_5 (aa ni2_2 (aa ni2_5 (aa ni2_6 (aa di2_2i2_5 (aa di2_2i2_6 di2_5i2_6))))))))))))))))))))))))
  have z3:=oA (p:=p) (a:=(br p j).1) (k:=i)
  refine aQ fL2 ?_
  all_goals try(apply aq;repeat' first|exact ao|apply aa|(apply au;intro zb hc)|(apply ar;intro zb)|intro j')<;>try apply aw
  ·have e1:i≠(br p j).1+1:=fun e=>by
    have:=Az c2_2
    rw[show(((br p j).1+1:Nat):Int)=(i:Int) - 1+1 by omega,hc]at this;cases this
   have e2:d9 p (br p j).1 i=d9 p (br p j).1 (i - 1):=by
    obtain⟨i',rfl⟩:∃i',i=i'+1:=⟨i - 1,by omega⟩
    rw[d9,if_neg fun h=> ?_];·rfl
    have:=h.2.2
    rw[show((i'+1:Nat):Int)=((i'+1:Nat):Int) - 1+1 by omega,hc]at this;cases this
   focus
    refine ay ((fun(i:Nat)=>i) (i-1)) (dC fL2 ?_) ⟨i-1,dC fL2 ?_⟩
    all_goals try(apply aq;repeat' first|exact ao|apply aa|(apply au;intro zb hc)|(apply ar;intro zb)|intro j')<;>try apply aw
  ·have e2:d9 p (br p j).1 p.length=i:=by
    rw[c2_3]
    by_cases h2:i=(br p j).1+1
    ·rw[rk (by omega)];omega
    ·obtain⟨i',rfl⟩:∃i',i=i'+1:=⟨i - 1,by omega⟩
     rw[d9,if_pos ⟨by omega,by omega,by rw[←hc];congr 1;omega⟩]
   have e3:br p (j+1)=(i,(br p j).2.1++[p.getD (br p j).1 0],(br p j).2.2++[md (d8 p (br p j).1 i)]):=by rw[br,if_pos c2_2,e2]
   have e4:=congrArg Prod.fst e3
   have e5:=congrArg (fun x=>x.2.1) e3
   have e6:=congrArg (fun x=>x.2.2) e3
   simp only at e4 e5 e6
   have e7:((i:Int) - 1+1).toNat=i:=by omega
   focus
    refine ay ((fun(j:Nat)=>p.length - (br p j).1) (j+1)) (dC fL2 ?_) ⟨j+1,dC fL2 ?_⟩
    all_goals try(apply aq;repeat' first|exact ao|apply aa|(apply au;intro zb hc)|(apply ar;intro zb)|intro j')<;>try apply aw
   all_goals(first|(rw[e5];done)|(rw[e5];simp only[ak];done)|(rw[e4];omega)|(rw[e7,e6];rfl)|(rw[e5];simp;done))
  ·have e2:d9 p (br p j).1 i=d9 p (br p j).1 (i - 1):=by
    obtain⟨i',rfl⟩:∃i',i=i'+1:=⟨i - 1,by omega⟩
    rw[d9,if_neg (by omega)];rfl
   focus
    refine ay ((fun(i:Nat)=>i) (i-1)) (dC fL2 ?_) ⟨i-1,dC fL2 ?_⟩
    all_goals try(apply aq;repeat' first|exact ao|apply aa|(apply au;intro zb hc)|(apply ar;intro zb)|intro j')<;>try apply aw
 ·rw[z2 (by omega)]
 ·rw[z2 (by omega)]
 ·simp[br]
theorem y9 {p:List Int} {a:Nat} (h:2≤p.length):∀{k:Nat},d9 p a k - a<p.length
 |0=>by rw[d9];omega
 |k+1=>by
  have:=y9 (a:=a) h (k:=k)
  rw[d9];split<;>omega
theorem tU {p:List Int} (h:bD p=true) (h8:p.length≤8):al p=true:=by
 simp only[al,h,Bool.and_true,decide_eq_true_eq];exact h8
theorem JF {p:List Int} (hp:al p=true) (h2:2≤p.length):∀{j:Nat},∀q∈(br p j).2.2,al q=true∧q.length<p.length
 |0=>by simp[br]
 |j+1=>by
  have ih:=JF hp h2 (j:=j)
  obtain⟨h8,hq⟩:=aK hp
  rw[br]
  split
  ·rename_i hc
   intro q hm
   rcases List.mem_append.1 hm with g|g
   ·exact ih q g
   ·rw[aP]at g;subst g
    have e1:=oA (p:=p) (a:=(br p j).1) (k:=p.length)
    have e2:=y9 (p:=p) (a:=(br p j).1) h2 (k:=p.length)
    have e3:(md (d8 p (br p j).1 (d9 p (br p j).1 p.length))).length=d9 p (br p j).1 p.length - (br p j).1:=by rw[jM,fW (by omega)]
    exact⟨tU (sz (mg (permB_iff.1 hq).2)) (by omega),by omega⟩
  ·exact ih
theorem Ca {p:List Int}:∀{k:Nat},k≤p.length→∀l∈(dP mb p k).1,0<l.length
 |0,_=>by simp[dP]
 |k+1,h=>by
  have ih:=Ca (p:=p) (k:=k) (by omega)
  have h3:=(gM (g:=mb) (p:=p) (k:=k)).1
  rw[dP]
  split
  ·intro l hl
   rcases List.mem_append.1 hl with g|g
   ·exact ih l g
   ·rw[aP]at g;subst g
    simp only[mb,jM,fW h];omega
  ·exact ih
theorem tz {p:List Int} (hp:al p=true):(∀l∈bu p,0<l.length)∧cQ (bu p)≤p.length:=by
 obtain⟨h8,hq⟩:=aK hp
 rw[←kB hq]
 refine⟨Ca (am _), ?_⟩
 rw[(nR hq (am _)).2]
 exact(gM (g:=mb) (p:=p) (k:=p.length)).1
theorem CI {L:List (List Int)} {n:Nat} (h2:1<L.length) (hne:∀l∈L,0<l.length) (hs:cQ L≤n):(L.getD 0 []).length<n∧cQ (L.drop 1)<n:=by
 match L,h2 with
 |a::b::t,_=>
  have h1:=hne a (by simp)
  have h3:=hne b (by simp)
  simp only[cQ,List.map_cons,List.sum_cons]at hs
  simp only[List.getD_cons_zero,List.drop_succ_cons,List.drop_zero,cQ,List.map_cons,List.sum_cons]
  omega
theorem vx {L:List (List Int)} {k:Bool} {n:Nat} (h2:1<L.length) (hne:∀l∈L,0<l.length) (hs:cQ L≤n) (hn:n≤8) (hp:∀l∈L,bD l=true):
  ∀q∈[L.getD 0 [],ew (L.drop 1) k],al q=true∧q.length<n:=by
 obtain⟨h3,h4⟩:=CI h2 hne hs
 have h5:∀l∈L.drop 1,bD l=true:=fun l hl=>hp l (List.mem_of_mem_drop hl)
 have h6:=ly (L:=L.drop 1) (k:=k) (am _)
 have h7:=mn (k:=k) h5 (am _)
 rw[List.take_length]at h6 h7
 intro q hq
 simp only[List.mem_cons,List.not_mem_nil,or_false]at hq
 rcases hq with rfl|rfl
 ·exact⟨tU (hp _ (aF (by omega))) (by omega),h3⟩
 ·exact⟨tU h7 (by omega),by omega⟩
theorem mQ {p:List Int} (hp:al p=true) (h2:2≤p.length):∀q∈(bv p).2,al q=true∧q.length<p.length:=by
 obtain⟨h8,hq⟩:=aK hp
 unfold bv
 rw[if_neg (by omega)]
 split
 ·rename_i h
  obtain⟨n1,n2⟩:=tz hp
  exact vx h n1 n2 h8 (ji hp).1
 ·split
  ·rename_i _ h
   have hc:=dz hp
   obtain⟨n1,n2⟩:=tz hc
   obtain⟨s1,s2,_,_⟩:=qd hp
   refine vx h (fun l hl=> ?_) ?_ h8 s1
   ·obtain⟨q,hq',rfl⟩:=List.mem_map.1 hl
    rw[gc];exact n1 q hq'
   ·have e:cQ (dD p)=cQ (bu (cU p)):=by
     simp only[cQ,dD,List.map_map]
     congr 1
     exact List.map_congr_left fun l _=>gc
    rw[e];rwa [gc]at n2
  ·exact JF hp h2
theorem mP {p:List Int} (hp:al p=true):(bv p).2.length≤8∧(bv p).1.length≤8:=by
 obtain⟨h8,hq⟩:=aK hp
 unfold bv
 split
 ·simp
 ·split
  ·simp
  ·split
   ·simp
   ·have:=rz (p:=p) (j:=p.length)
    refine⟨?_, ?_⟩
    ·show(br p p.length).2.2.length≤8;omega
    ·show(md (br p p.length).2.1).length≤8;rw[jM];omega
def nS:Nat→List Int→List (List Int)
 |0,_=>[]
 |d+1,p=>if p.length<2 then[]else(bv p).1::(bv p).2.flatMap (nS d)
theorem yl {d:Nat} {p:List Int} (h:p.length<2):nS d p=[]:=by
 cases d with
 |zero=>rfl
 |succ d=>rw[nS,if_pos h]
theorem yZ {L:List (List Int)} {f:List Int→List (List Int)} {n:Nat} (h:∀q∈L,(f q).length≤n):(L.flatMap f).length≤L.length*n:=by
 induction L with
 |nil=>simp
 |cons a L ih=>
  have h1:=h a (by simp)
  have h2:=ih fun q hq=>h q (aY _ hq)
  rw[List.flatMap_cons,ak,aC,Nat.succ_mul];omega
theorem pA:∀{d:Nat} {p:List Int},al p=true→(nS d p).length≤9^d
 |0,_,_=>by simp[nS]
 |d+1,p,hp=>by
  rw[nS]
  split
  ·simp
  ·rename_i h
   have h1:=yZ (L:=(bv p).2) (f:=nS d) (n:=9^d) fun q hq=>pA (mQ hp (by omega) q hq).1
   have h2:=(mP hp).1
   have h3:=Nat.mul_le_mul_right (9^d) h2
   have h4:0<9^d:=Nat.pow_pos (by decide)
   rw[aC,Nat.pow_succ];omega
theorem tM:∀{d:Nat} {p:List Int},al p=true→∀l∈nS d p,l.length≤8
 |0,_,_,l,h=>by cases h
 |d+1,p,hp,l,h=>by
  rw[nS]at h
  split at h
  ·cases h
  ·rename_i h2
   rcases List.mem_cons.1 h with g|g
   ·rw[g];exact(mP hp).2
   ·obtain⟨q,hq,hl⟩:=List.mem_flatMap.1 g
    exact tM (mQ hp (by omega) q hq).1 l hl
def oV:Nat→List Int→List (List Int)→List (List Int)
 |0,_,out=>out
 |d+1,p,out=>if p.length<2 then out else(bv p).2.foldl (fun o q=>oV d q o) (gm out (bv p).1)
theorem rsL_mem:∀{d:Nat} {p x:List Int} {out:List (List Int)},x∈oV d p out↔x∈out∨x∈nS d p
 |0,_,_,_=>by simp[oV,nS]
 |d+1,p,x,out=>by
  rw[oV,nS]
  split
  ·simp
  ·have key:∀(L:List (List Int)) (o:List (List Int)),x∈L.foldl (fun o q=>oV d q o) o↔x∈o∨x∈L.flatMap (nS d):=by
    intro L
    induction L with
    |nil=>intro o;simp
    |cons a L ih=>intro o;rw[List.foldl_cons,ih,rsL_mem,List.flatMap_cons,List.mem_append];exact or_assoc
   rw[key,putP_mem,List.mem_cons]
   constructor
   ·rintro((h|h)|h)
    ·exact .inr (.inl h)
    ·exact .inl h
    ·exact .inr (.inr h)
   ·rintro(h|h|h)
    ·exact .inl (.inr h)
    ·exact .inl (.inl h)
    ·exact .inr h
theorem yt {L:List (List Int)} {p:List Int}:(gm L p).length≤L.length+1:=by
 unfold gm;split
 ·omega
 ·unfold og;rw[dw];exact am _
theorem tN:∀{d:Nat} {p:List Int} {out:List (List Int)},al p=true→(oV d p out).length≤out.length+9^d
 |0,_,_,_=>by simp[oV]
 |d+1,p,out,hp=>by
  have h5:0<9^(d+1):=Nat.pow_pos (by decide)
  rw[oV]
  split
  ·omega
  ·rename_i h
   have key:∀(L:List (List Int)),(∀q∈L,al q=true)→∀(o:List (List Int)),(L.foldl (fun o q=>oV d q o) o).length≤o.length+L.length*9^d:=by
    intro L
    induction L with
    |nil=>intro _ o;simp
    |cons a L ih=>
     intro hL o
     have h1:=ih (fun q hq=>hL q (aY _ hq)) (oV d a o)
     have h2:=tN (d:=d) (out:=o) (hL a (by simp))
     rw[List.foldl_cons,aC,Nat.succ_mul];omega
   have h1:=key (bv p).2 (fun q hq=>(mQ hp (by omega) q hq).1) (gm out (bv p).1)
   have h2:=yt (L:=out) (p:=(bv p).1)
   have h3:=Nat.mul_le_mul_right (9^d) (mP hp).1
   have h4:0<9^d:=Nat.pow_pos (by decide)
   rw[Nat.pow_succ];omega
theorem ym {d:Nat} {p:List Int} {out:List (List Int)} (hp:al p=true) (ho:∀l∈out,l.length≤8):∀l∈oV d p out,l.length≤8:=fun l hl=>by
 rcases rsL_mem.1 hl with h|h
 ·exact ho l h
 ·exact tM hp l h
def zU (d:Nat) (L:List (List Int)) (o:List (List Int)):List (List Int):=L.foldl (fun o q=>oV d q o) o
theorem Cr {d:Nat} {L o:List (List Int)} {q:List Int}:zU d (L++[q]) o=oV d q (zU d L o):=by rw[zU,List.foldl_append];rfl
theorem yn {d:Nat}:∀{L o:List (List Int)},(∀q∈L,al q=true)→(∀l∈o,l.length≤8)→(zU d L o).length≤o.length+L.length*9^d∧∀l∈zU d L o,l.length≤8
 |[],o,_,ho=>by rw[zU,List.foldl_nil];exact⟨by omega,ho⟩
 |a::L,o,h,ho=>by
  have h0:=h a (by simp)
  have h2:=tN (d:=d) (out:=o) h0
  obtain⟨h3,h4⟩:=yn (d:=d) (L:=L) (o:=oV d a o) (fun q hq=>h q (aY _ hq)) (ym h0 ho)
  have e:zU d (a::L) o=zU d L (oV d a o):=rfl
  rw[e,aC,Nat.succ_mul]
  exact⟨by omega,h4⟩
def tB (p:List Int):(List Int×List (List Int))×Bool:=if al p&&decide (p.length≠0)then(bv p,true)else(([],[]),false)
theorem B7 {p:List Int} (h:al p=true) (h0:p.length≠0):tB p=(bv p,true):=by simp[tB,h,h0]
theorem B8 {p:List Int} (h:al p=false):tB p=(([],[]),false):=by simp[tB,h]
theorem B6 {p:List Int} (h:p.length=0):tB p=(([],[]),false):=by simp[tB,h]
theorem cM {m0:Bool} (p:List Int) (hl:p.length≤1048576):Fun Tryz.prog 67 [(.sl (.lent m0) (List.map (PV.int .i64) (p)))] [(.agg [(.sl (.lent false) (List.map (PV.int .i64) ((tB p).1.1))),(.sl (.lent false) (List.map (bW false) ((tB p).1.2)))]),(.bool ((tB p).2))]:=by
 refine Fun.ofR (sg:=bA) (rs:=[.cell 2 48,.tmp 3]) mo Tryz.func67 rfl rfl rfl rfl (by kernel_rfl) (by simp only[go_sem]) rfl ?_
 have cE1:= @aD;have cE2:= @fQ
 refine aQ trivial ?_
 all_goals try(apply aq;repeat' first|exact ao|apply aa|(apply au;intro zb hc;repeat (have zc:=zb.1;replace zb:=zb.2))|(apply ar;intro zb)|intro j')<;>try apply aw
 all_goals(first|assumption|(rw[B8 hc]<;>rfl)|(rw[B6 (by omega)]<;>rfl)|(rw[B7 (by assumption) (by omega)]))
theorem zh {p:List Int} (h8:p.length≤8):∀{j:Nat},∀q∈(br p j).2.2,1≤q.length
 |0=>by simp[br]
 |j+1=>by
  have ih:=zh h8 (j:=j)
  rw[br]
  split
  ·rename_i hc
   intro q hm
   rcases List.mem_append.1 hm with g|g
   ·exact ih q g
   ·rw[aP]at g;subst g
    have e1:=oA (p:=p) (a:=(br p j).1) (k:=p.length)
    rw[jM,fW (by omega)];omega
  ·exact ih
theorem vy {L:List (List Int)} {k:Bool} (h2:1<L.length) (hne:∀l∈L,0<l.length):∀q∈[L.getD 0 [],ew (L.drop 1) k],1≤q.length:=by
 match L,h2 with
 |a::b::t,_=>
  have h1:=hne a (by simp)
  have h3:=hne b (by simp)
  have h6:=ly (L:=b::t) (k:=k) (am _)
  rw[List.take_length]at h6
  simp only[cQ,List.map_cons,List.sum_cons]at h6
  intro q hq
  simp only[List.getD_cons_zero,List.drop_succ_cons,List.drop_zero,List.mem_cons,List.not_mem_nil,or_false]at hq
  rcases hq with rfl|rfl
  ·exact h1
  ·omega
theorem yh {p:List Int} (hp:al p=true) (h2:2≤p.length):∀q∈(bv p).2,1≤q.length:=by
 obtain⟨h8,hq⟩:=aK hp
 unfold bv
 rw[if_neg (by omega)]
 split
 ·rename_i h
  exact vy h (tz hp).1
 ·split
  ·rename_i _ h
   obtain⟨n1,n2⟩:=tz (dz hp)
   refine vy h fun l hl=> ?_
   obtain⟨q,hq',rfl⟩:=List.mem_map.1 hl
   rw[gc];exact n1 q hq'
  ·exact zh h8
def oG:Nat→List Int→List UInt8
 |0,_=>[49]
 |d+1,p=>if p.length=1 then[49]else jZ (bv p).1++[40]++Lib.join ((bv p).2.map (oG d)) [32]++[41]
theorem tp:∀{d:Nat} {p:List Int},al p=true→(oG d p).length≤30*9^d
 |0,p,_=>by simp[oG]
 |d+1,p,hp=>by
  have h9:9^(d+1)=9*9^d:=by rw[Nat.pow_succ,Nat.mul_comm]
  have h1:0<9^d:=Nat.pow_pos (by decide)
  rw[oG]
  by_cases h2:p.length=1
  ·rw[if_pos h2];simp;omega
  ·rw[if_neg h2]
   by_cases h0:p.length=0
   ·have e:p=[]:=ai h0
    subst e
    have:(jZ (bv []).1++[40]++Lib.join ((bv []).2.map (oG d)) [32]++[41]).length≤30:=by
     have e:bv []=([],[]):=by decide
     rw[e];simp only[List.map_nil,Lib.join_nil];decide
    omega
   ·have hf:=mQ hp (by omega)
    obtain⟨n1,n2⟩:=mP hp
    have hj:=fE (sep:=[32]) (n:=30*9^d) (l:=(bv p).2.map (oG d)) fun x hx=>by
     obtain⟨q,hq,rfl⟩:=List.mem_map.1 hx
     exact tp (hf q hq).1
    rw[an]at hj
    have h7:=Nat.mul_le_mul_right (30*9^d+([32]:List UInt8).length) n1
    have ht:=mI (bv p).1
    simp only[ak,List.length_singleton]at hj h7 ⊢
    omega
theorem tr9:∀d,d≤8→30*9^d≤1300000000:=by decide
def pt (p:List Int):List UInt8:=if al p=true∧p.length≠0 then oG 8 p else[]
theorem tq {p:List Int}:(pt p).length≤1300000000:=by
 unfold pt;split
 ·rename_i h;exact Nat.le_trans (tp h.1) (tr9 8 (by decide))
 ·simp
theorem sE {d:Nat} {L:List (List Int)} {k:Nat} (h:k<L.length):(L.take (k+1)).map (oG d)=(L.take k).map (oG d)++[oG d (L.getD k [])]:=by
 rw[aX (d:=[]) h,aT];rfl
theorem trJ {d:Nat} {p:List Int} (hd:d≤8) (hp:al p=true) (h2:2≤p.length):(Lib.join ((bv p).2.map (oG d)) [32]).length≤100000000000:=by
 have hf:=mQ hp h2
 obtain⟨n1,n2⟩:=mP hp
 have hj:=fE (sep:=[32]) (n:=1300000000) (l:=(bv p).2.map (oG d)) fun x hx=>by
  obtain⟨q,hq,rfl⟩:=List.mem_map.1 hx
  exact Nat.le_trans (tp (hf q hq).1) (tr9 d hd)
 rw[an]at hj
 have h7:=Nat.mul_le_mul_right (1300000000+([32]:List UInt8).length) n1
 simp only[List.length_singleton]at hj h7;omega
theorem pd:∀(d:Nat) {m0:Bool} (p:List Int),d≤8→al p=true→1≤p.length→p.length≤d→Fun Tryz.prog 85 [.sl (.lent m0) (List.map (PV.int .i64) p)] [.str (oG d p)]:=by
 intro d
 induction d with
 |zero=>intro m0 p _ _ h1 h2;omega
 |succ d ih=>
  intro m0 p hd hp h1 hl
  by_cases h2:p.length=1
  ·rw[oG,if_pos h2]
   refine fO bA [2] Tryz.func85 ?_
   have cE1:= @cB;have cE2:= @db;have cE3:= @bz
   refine aQ @h2 ?_
   all_goals try(apply aq;repeat' first|exact ao|apply aa|(apply au;intro zb hc)|(apply ar;intro zb)|intro j')<;>try apply aw
  ·have hf:=mQ hp (by omega)
   have hq:=yh hp (by omega)
   obtain⟨n1,n2⟩:=mP hp
   have j1:=trJ (d:=d) (by omega) hp (by omega)
   have t1:=mI (bv p).1
   have e2:((p.length:Int)=1)=False:=eq_false (by omega)
   rw[oG,if_neg h2]
   refine fO bA [2] Tryz.func85 ?_
   have cE1:= @cB;have cE2:= @db;have cE3:= @bz
   have cE1:= @ih;have cE2:= @cB;have cE3:= @db;have cE4:= @bz
   refine aQ @e2 ?_
   all_goals try(apply aq;repeat' first|exact ao|apply aa|(apply au;intro zb hc)|(apply ar;intro zb)|intro j')<;>try apply aw
   refine az (fun ms1 S1=>∃(k:Nat),PtrL (S1.e 3) S1.h S1.n (.live false [.sl (.lent false) (List.map (PV.int .i64) (bv p).1),.sl (.lent false) (List.map (bW false) (bv p).2)])∧OwnL (S1.e 4) S1.h S1.n PV.str ((((bv p).2.take k).map (oG d)).length) (((bv p).2.take k).map (oG d))∧S1.e 14=.p (.sl (.lent false) (List.map (bW false) ((bv p).2)))∧S1.e 15=.p (.int .i64 ((bv p).2.length))∧S1.e 16=.p (.int .i64 (k))∧(k≤(bv p).2.length)∧NId (S1.e 4) (nJ (S1.e 3))∧ms1=(bv p).2.length - k) ((fun(k:Nat)=>(bv p).2.length - k) (0)) ?_ ⟨0,dC trivial ?_⟩
   all_goals try(apply aq;repeat' first|exact ao|apply aa|(apply au;intro zb hc)|(apply ar;intro zb)|intro j')<;>try apply aw
   rintro ms1 S1 ⟨k,o1_3,o1_4,h1_14,h1_15,h1_16,c1_0,u1_0,hm1⟩
   obtain⟨i1_3,h1_3,b1_3,l1_3⟩:=o1_3.out
   obtain⟨i1_4,h1_4,b1_4,l1_4⟩:=o1_4.out
   have k1_0:=(u1_0).out h1_4 (dp h1_3)
   have ni1_3:=bi (x:=i1_3) (n:=S1.n)
   have ni1_4:=bi (x:=i1_4) (n:=S1.n)
   have di1_3i1_4:=ds (x:=i1_3) (y:=i1_4)
   have fL1:=(aa h1_14 (aa h1_15 (aa h1_16 (aa h1_3 (aa b1_3 (aa h1_4 (aa b1_4 (aa ni1_3 (aa ni1_4 di1_3i1_4)))))))))
   ·have lk:(((bv p).2.take k).map (oG d)).length=k:=by rw[an,aV];omega
    by_cases hk:k<(bv p).2.length
    ·obtain⟨q1,q2⟩:=hf _ (aF (d:=[]) hk)
     have q3:=hq _ (aF (d:=[]) hk)
     have e3:=sE (d:=d) hk
     have cE1:= @ih;have cE2:= @cB;have cE3:= @db;have cE4:= @bz
     refine aQ fL1 ?_
     all_goals try(apply aq;repeat' first|exact ao|apply aa|(apply au;intro zb hc)|(apply ar;intro zb)|intro j')<;>try apply aw
     focus
      refine ay ((fun(k:Nat)=>(bv p).2.length - k) (k+1)) (dC fL1 ?_) ⟨k+1,dC fL1 ?_⟩
      all_goals try(apply aq;repeat' first|exact ao|apply aa|(apply au;intro zb hc)|(apply ar;intro zb)|intro j')<;>try apply aw
     all_goals(first|(rw[e3];done)|(rw[e3,ak];rfl)|skip)
    ·have e4:(bv p).2.take k=(bv p).2:=ah (by omega)
     have cE1:= @ih;have cE2:= @cB;have cE3:= @db;have cE4:= @bz
     refine aQ (aa fL1 @e4) ?_
     all_goals try(apply aq;repeat' first|exact ao|apply aa|(apply au;intro zb hc)|(apply ar;intro zb)|intro j')<;>try apply aw
     all_goals(first|(simp only[aB];done)|skip)
theorem gW {m0:Bool} (p:List Int) (hl:p.length≤1048576):Fun Tryz.prog 39 [(.sl (.lent m0) (List.map (PV.int .i64) (p)))] [(.str (pt p))]:=by
 by_cases h:al p=true
 ·have h8:=(aK h).1
  by_cases h0:p.length=0
  ·have e:pt p=[]:=by rw[pt,if_neg (fun g=>g.2 h0)]
   rw[e]
   refine fO bA [2] Tryz.func39 ?_
   have cE1:= @aA
   refine aQ (aa @h @h0) ?_
   all_goals try(apply aq;repeat' first|exact ao|apply aa|(apply au;intro zb hc)|(apply ar;intro zb)|intro j')<;>try apply aw
  ·have e:pt p=oG 8 p:=by rw[pt,if_pos ⟨h,h0⟩]
   have e0:((p.length:Int)=0)=False:=eq_false (by omega)
   have c1:=fun m0:Bool=>pd 8 (m0:=m0) p (by decide) h (by omega) h8
   rw[e]
   refine fO bA [2] Tryz.func39 ?_
   have cE1:= @aA
   have cE1:= @c1;have cE2:= @aA
   refine aQ (aa @h @e0) ?_
   all_goals try(apply aq;repeat' first|exact ao|apply aa|(apply au;intro zb hc)|(apply ar;intro zb)|intro j')<;>try apply aw
 ·have e:pt p=[]:=by rw[pt,if_neg (fun g=>h g.1)]
  rw[e]
  rw[aI]at h
  refine fO bA [2] Tryz.func39 ?_
  have cE1:= @aA
  refine aQ @h ?_
  all_goals try(apply aq;repeat' first|exact ao|apply aa|(apply au;intro zb hc)|(apply ar;intro zb)|intro j')<;>try apply aw
theorem mY:∀(d:Nat) {m0:Bool} (p:List Int),d≤8→al p=true→1≤p.length→p.length≤d→Fun Tryz.prog 25 [.sl (.lent m0) (List.map (PV.int .i64) p)] [.str (oG d p)]:=by
 intro d
 induction d with
 |zero=>intro m0 p _ _ h1 h2;omega
 |succ d ih=>
  intro m0 p hd hp h1 hl
  have e5:=B7 hp (show p.length≠0 by omega)
  by_cases h2:p.length=1
  ·rw[oG,if_pos h2]
   refine fO bA [2] Tryz.func25 ?_
   have cE1:= @cM;have cE2:= @cG;have cE3:= @cH
   refine aQ (aa @h2 @e5) ?_
   all_goals try(apply aq;repeat' first|exact ao|apply aa|(apply au;intro zb hc)|(apply ar;intro zb)|intro j')<;>try apply aw
  ·have hf:=mQ hp (by omega)
   have hq:=yh hp (by omega)
   obtain⟨n1,n2⟩:=mP hp
   have j1:=trJ (d:=d) (by omega) hp (by omega)
   have t1:=mI (bv p).1
   have e2:((p.length:Int)=1)=False:=eq_false (by omega)
   rw[oG,if_neg h2]
   refine fO bA [2] Tryz.func25 ?_
   have cE1:= @cM;have cE2:= @cG;have cE3:= @cH
   have cE1:= @ih;have cE2:= @cM;have cE3:= @cG;have cE4:= @cH
   refine aQ (aa @e2 @e5) ?_
   all_goals try(apply aq;repeat' first|exact ao|apply aa|(apply au;intro zb hc)|(apply ar;intro zb)|intro j')<;>try apply aw
   refine az (fun ms1 S1=>∃(k:Nat),PtrL (S1.e 3) S1.h S1.n (.live false [.sl (.lent false) (List.map (PV.int .i64) (bv p).1),.sl (.lent false) (List.map (bW false) (bv p).2)])∧OwnL (S1.e 5) S1.h S1.n PV.str ((((bv p).2.take k).map (oG d)).length) (((bv p).2.take k).map (oG d))∧S1.e 6=.p (.int .i64 (k))∧(k≤(bv p).2.length)∧NId (S1.e 5) (nJ (S1.e 3))∧ms1=(bv p).2.length - k) ((fun(k:Nat)=>(bv p).2.length - k) (0)) ?_ ⟨0,dC trivial ?_⟩
   all_goals try(apply aq;repeat' first|exact ao|apply aa|(apply au;intro zb hc)|(apply ar;intro zb)|intro j')<;>try apply aw
   rintro ms1 S1 ⟨k,o1_3,o1_5,h1_6,c1_0,u1_0,hm1⟩
   obtain⟨i1_3,h1_3,b1_3,l1_3⟩:=o1_3.out
   obtain⟨i1_5,h1_5,b1_5,l1_5⟩:=o1_5.out
   have k1_0:=(u1_0).out h1_5 (dp h1_3)
   have ni1_3:=bi (x:=i1_3) (n:=S1.n)
   have ni1_5:=bi (x:=i1_5) (n:=S1.n)
   have di1_3i1_5:=ds (x:=i1_3) (y:=i1_5)
   have fL1:=(aa h1_6 (aa h1_3 (aa b1_3 (aa h1_5 (aa b1_5 (aa ni1_3 (aa ni1_5 di1_3i1_5)))))))
   ·have lk:(((bv p).2.take k).map (oG d)).length=k:=by rw[an,aV];omega
    by_cases hk:k<(bv p).2.length
    ·obtain⟨q1,q2⟩:=hf _ (aF (d:=[]) hk)
     have q3:=hq _ (aF (d:=[]) hk)
     have e3:=sE (d:=d) hk
     have cE1:= @ih;have cE2:= @cM;have cE3:= @cG;have cE4:= @cH
     refine aQ fL1 ?_
     all_goals try(apply aq;repeat' first|exact ao|apply aa|(apply au;intro zb hc)|(apply ar;intro zb)|intro j')<;>try apply aw
     focus
      refine ay ((fun(k:Nat)=>(bv p).2.length - k) (k+1)) (dC fL1 ?_) ⟨k+1,dC fL1 ?_⟩
      all_goals try(apply aq;repeat' first|exact ao|apply aa|(apply au;intro zb hc)|(apply ar;intro zb)|intro j')<;>try apply aw
     all_goals(first|(rw[e3];done)|(rw[e3,ak];rfl)|skip)
    ·have e4:(bv p).2.take k=(bv p).2:=ah (by omega)
     have cE1:= @ih;have cE2:= @cM;have cE3:= @cG;have cE4:= @cH
     refine aQ (aa fL1 @e4) ?_
     all_goals try(apply aq;repeat' first|exact ao|apply aa|(apply au;intro zb hc)|(apply ar;intro zb)|intro j')<;>try apply aw
     all_goals(first|(simp only[aB];done)|skip)
theorem gS {m0:Bool} (p:List Int) (hl:p.length≤1048576):Fun Tryz.prog 25 [(.sl (.lent m0) (List.map (PV.int .i64) (p)))] [(.str (pt p))]:=by
 by_cases h:al p=true
 ·have h8:=(aK h).1
  by_cases h0:p.length=0
  ·have e:pt p=[]:=by rw[pt,if_neg (fun g=>g.2 h0)]
   have e5:=B6 h0
   rw[e]
   refine fO bA [2] Tryz.func25 ?_
   have cE1:= @cM;have cE2:= @cG;have cE3:= @cH
   refine aQ @e5 ?_
   all_goals try(apply aq;repeat' first|exact ao|apply aa|(apply au;intro zb hc)|(apply ar;intro zb)|intro j')<;>try apply aw
  ·have e:pt p=oG 8 p:=by rw[pt,if_pos ⟨h,h0⟩]
   rw[e]
   exact mY 8 (m0:=m0) p (by decide) h (by omega) h8
 ·have e:pt p=[]:=by rw[pt,if_neg (fun g=>h g.1)]
  rw[e]
  rw[aI]at h
  have e5:=B8 h
  refine fO bA [2] Tryz.func25 ?_
  have cE1:= @cM;have cE2:= @cG;have cE3:= @cH
  refine aQ @e5 ?_
  all_goals try(apply aq;repeat' first|exact ao|apply aa|(apply au;intro zb hc)|(apply ar;intro zb)|intro j')<;>try apply aw
def tV (s:List UInt8):Bool:=decide (s=[])||((bB 32 s).all sa&&fA ((bB 32 s).map eF))
def wW (s:List UInt8):List (List Int):=if s=[]then[]else if tV s=true then(bB 32 s).map eF else[]
theorem px {c:UInt8}:∀{s cur:List UInt8},∀x∈zS c s cur,x.length≤s.length+cur.length
 |[],cur,x,h=>by simp[zS]at h;subst h;simp
 |b::l,cur,x,h=>by
  rw[zS]at h
  split at h
  ·rcases List.mem_cons.1 h with rfl|h
   ·simp
   ·have:=px x h;simp at this ⊢;omega
  ·have:=px x h;simp at this ⊢;omega
theorem CA {s:List UInt8}:(eF s).length≤s.length:=by
 unfold eF;split
 ·simp
 ·split
  ·simp[Bf]
  ·simp
theorem I6 {α:Type} {l:List α} {p:α→Bool} {k:Nat} {d:α} (h:k<l.length) (hf:p (l.getD k d)=false):l.all p=false:=by
 rw[List.all_eq_false];exact⟨l.getD k d,aF h,by rw[hf];decide⟩
theorem yy {s:List UInt8} {k:Nat} (hn:¬s=[]) (hk:k<(bB 32 s).length) (h:sa ((bB 32 s).getD k [])=false):tV s=false:=by
 rw[tV,decide_eq_false hn,I6 hk h];rfl
theorem CH {s:List UInt8} (hn:¬s=[]) (h:(bB 32 s).all sa=true):tV s=fA ((bB 32 s).map eF):=by
 rw[tV,decide_eq_false hn,h];simp
theorem tW {s:List UInt8} (h:tV s=false):wW s=[]:=by
 rw[wW];split
 ·rfl
 ·rw[if_neg (by rw[h];decide)]
theorem yz {s:List UInt8} (hn:¬s=[]) (h:tV s=true):wW s=(bB 32 s).map eF:=by rw[wW,if_neg hn,if_pos h]
theorem CG {s:List UInt8} (b9:∀x∈bB 32 s,x.length≤1000) {k:Nat}:∀l∈((bB 32 s).take k).map eF,l.length≤1048576:=fun l hl=>by
 obtain⟨x,hx,rfl⟩:=List.mem_map.1 hl
 have:=b9 x (List.mem_of_mem_take hx)
 have:=CA (s:=x);omega
def wP:FuncId→List Bool:=fun f=>if f=4294967297 then[true,false,false,false]else[]
theorem Fv {f:FuncId}:wP f=if f=4294967297 then[true,false,false,false]else[]:=_root_.id rfl
theorem Bo:gk wP=false∧gG wP=true∧gF wP=false∧gE wP=false∧gH wP=false:=⟨rfl,rfl,rfl,rfl,rfl⟩
attribute [go_sem] Fv Bo
theorem mZ (s:List UInt8) (hl:s.length≤1000):Fun Tryz.prog 165 [(.str (s))] [(.dl (List.map (List.map (PV.int .i64)) (wW s))),(.bool (tV s))]:=by
 refine fO wP [2,3] Tryz.func165 ?_
 have cE1:= @bN;have cE2:= @bO;have cE3:= @bR
 have b0:=py (c:=32) (s:=s) (cur:=[])
 have b9:∀x∈bB 32 s,x.length≤1000:=fun x hx=>by have:=px x hx;simp at this;omega
 have b8:(bB 32 s).length≤1001:=by unfold bB;omega
 have hS:=bN s 32 (by omega)
 rw[show(((32:UInt8).toNat:Nat):Int)=32 from rfl]at hS
 have cE1:= @hS;have cE2:= @bN;have cE3:= @bO;have cE4:= @bR
 refine aQ trivial ?_
 all_goals try(apply aq;repeat' first|exact ao|apply aa|(apply au;intro zb hc)|(apply ar;intro zb)|intro j')<;>try apply aw
 ·subst hc;rfl
 ·subst hc;rfl
 ·have hn:=hc
  refine az (fun ms1 S1=>∃(k:Nat),S1.e 0=.p (.str (s))∧DwnL (S1.e 4) S1.h S1.n (PV.int .i64) ((((bB 32 s).take k).map eF).length) (((bB 32 s).take k).map eF)∧OwnL (S1.e 5) S1.h S1.n PV.str ((bB 32 s).length) (bB 32 s)∧S1.e 6=.p (.int .i64 (k))∧(k≤(bB 32 s).length)∧(((bB 32 s).take k).all sa=true)∧NId (S1.e 5) (S1.e 4)∧ms1=(bB 32 s).length - k) ((fun(k:Nat)=>(bB 32 s).length - k) (0)) ?_ ⟨0,dC trivial ?_⟩
  all_goals try(apply aq;repeat' first|exact ao|apply aa|(apply au;intro zb hc)|(apply ar;intro zb)|intro j')<;>try apply aw
  rintro ms1 S1 ⟨k,h1_0,o1_4,o1_5,h1_6,c1_0,c1_1,u1_0,hm1⟩
  obtain⟨i1_4,h1_4,b1_4,l1_4⟩:=o1_4.out
  obtain⟨i1_5,h1_5,b1_5,l1_5⟩:=o1_5.out
  have k1_0:=(u1_0).out h1_5 h1_4
  have ni1_4:=bi (x:=i1_4) (n:=S1.n)
  have ni1_5:=bi (x:=i1_5) (n:=S1.n)
  have di1_4i1_5:=ds (x:=i1_4) (y:=i1_5)
  have fL1:=(aa h1_0 (aa h1_6 (aa h1_4 (aa b1_4 (aa h1_5 (aa b1_5 (aa ni1_4 (aa ni1_5 di1_4i1_5))))))))
  have b7:k<(bB 32 s).length→((bB 32 s).getD k []).length≤1048576:=fun h=>by have:=b9 ((bB 32 s).getD k []) (aF h);omega
  have r1:=CG b9 (k:=k)
  by_cases hk:k<(bB 32 s).length
  ·have cE1:= @bN;have cE2:= @bO;have cE3:= @bR;have cE4:=trivial
   refine aQ fL1 ?_
   all_goals try(apply aq;repeat' first|exact ao|apply aa|(apply au;intro zb hc)|(apply ar;intro zb)|intro j')<;>try apply aw
   ·rw[tW (yy hn hk hc)];rfl
   ·exact(yy hn hk hc).symm
   ·focus
     refine ay ((fun(k:Nat)=>(bB 32 s).length - k) (k+1)) (dC fL1 ?_) ⟨k+1,dC fL1 ?_⟩
     all_goals try(apply aq;repeat' first|exact ao|apply aa|(apply au;intro zb hc)|(apply ar;intro zb)|intro j')<;>try apply aw
    all_goals first|(rw[aX (d:=[]) hk];simp;done)|(rw[aX (d:=[]) hk,List.all_append,c1_1,List.all_cons,hc];rfl)|skip
  ·rw[ah (by omega)]at c1_1 r1
   have r2:=CH hn c1_1
   have e0:(bB 32 s).take k=bB 32 s:=ah (by omega)
   have cE1:= @bN;have cE2:= @bO;have cE3:= @bR;have cE4:=trivial
   refine dE (aa fL1 @e0) ?_
   all_goals try(apply aq;repeat' first|exact ao|apply aa|(apply au;intro zb hc)|(apply ar;intro zb)|intro j')<;>try apply aw
   all_goals try exact r1
   all_goals try exact iF
   ·rw[tW (r2.trans hc)];rfl
   ·exact(r2.trans hc).symm
   ·rw[yz hn (r2.trans hc)]
   ·exact(r2.trans hc).symm
theorem hR (s:List UInt8) (hl:s.length≤1000):Fun Tryz.prog 165 [(.str (s))] [(.sl .own (List.map (bW false) (wW s))),(.bool (tV s))]:=by
 refine fO bA [2,3] Tryz.func165 ?_
 have cE1:= @bN;have cE2:= @bO;have cE3:= @bR
 have b0:=py (c:=32) (s:=s) (cur:=[])
 have b9:∀x∈bB 32 s,x.length≤1000:=fun x hx=>by have:=px x hx;simp at this;omega
 have b8:(bB 32 s).length≤1001:=by unfold bB;omega
 have hS:=bN s 32 (by omega)
 rw[show(((32:UInt8).toNat:Nat):Int)=32 from rfl]at hS
 have cE1:= @hS;have cE2:= @bN;have cE3:= @bO;have cE4:= @bR
 refine aQ trivial ?_
 all_goals try(apply aq;repeat' first|exact ao|apply aa|(apply au;intro zb hc)|(apply ar;intro zb)|intro j')<;>try apply aw
 ·subst hc;rfl
 ·subst hc;rfl
 ·have hn:=hc
  refine az (fun ms1 S1=>∃(k:Nat),S1.e 0=.p (.str (s))∧OwnL (S1.e 4) S1.h S1.n (bW false) ((((bB 32 s).take k).map eF).length) (((bB 32 s).take k).map eF)∧OwnL (S1.e 5) S1.h S1.n PV.str ((bB 32 s).length) (bB 32 s)∧S1.e 6=.p (.int .i64 (k))∧(k≤(bB 32 s).length)∧(((bB 32 s).take k).all sa=true)∧NId (S1.e 5) (S1.e 4)∧ms1=(bB 32 s).length - k) ((fun(k:Nat)=>(bB 32 s).length - k) (0)) ?_ ⟨0,dC trivial ?_⟩
  all_goals try(apply aq;repeat' first|exact ao|apply aa|(apply au;intro zb hc)|(apply ar;intro zb)|intro j')<;>try apply aw
  rintro ms1 S1 ⟨k,h1_0,o1_4,o1_5,h1_6,c1_0,c1_1,u1_0,hm1⟩
  obtain⟨i1_4,h1_4,b1_4,l1_4⟩:=o1_4.out
  obtain⟨i1_5,h1_5,b1_5,l1_5⟩:=o1_5.out
  have k1_0:=(u1_0).out h1_5 h1_4
  have ni1_4:=bi (x:=i1_4) (n:=S1.n)
  have ni1_5:=bi (x:=i1_5) (n:=S1.n)
  have di1_4i1_5:=ds (x:=i1_4) (y:=i1_5)
  have fL1:=(aa h1_0 (aa h1_6 (aa h1_4 (aa b1_4 (aa h1_5 (aa b1_5 (aa ni1_4 (aa ni1_5 di1_4i1_5))))))))
  have b7:k<(bB 32 s).length→((bB 32 s).getD k []).length≤1048576:=fun h=>by have:=b9 ((bB 32 s).getD k []) (aF h);omega
  have r1:=CG b9 (k:=k)
  by_cases hk:k<(bB 32 s).length
  ·have cE1:= @bN;have cE2:= @bO;have cE3:= @bR;have cE4:=trivial
   refine aQ fL1 ?_
   all_goals try(apply aq;repeat' first|exact ao|apply aa|(apply au;intro zb hc)|(apply ar;intro zb)|intro j')<;>try apply aw
   ·rw[tW (yy hn hk hc)];rfl
   ·exact(yy hn hk hc).symm
   ·focus
     refine ay ((fun(k:Nat)=>(bB 32 s).length - k) (k+1)) (dC fL1 ?_) ⟨k+1,dC fL1 ?_⟩
     all_goals try(apply aq;repeat' first|exact ao|apply aa|(apply au;intro zb hc)|(apply ar;intro zb)|intro j')<;>try apply aw
    all_goals first|(rw[aX (d:=[]) hk];simp;done)|(rw[aX (d:=[]) hk,List.all_append,c1_1,List.all_cons,hc];rfl)|skip
  ·rw[ah (by omega)]at c1_1 r1
   have r2:=CH hn c1_1
   have e0:(bB 32 s).take k=bB 32 s:=ah (by omega)
   have cE1:= @bN;have cE2:= @bO;have cE3:= @bR;have cE4:=trivial
   refine dE (aa fL1 @e0) ?_
   all_goals try(apply aq;repeat' first|exact ao|apply aa|(apply au;intro zb hc)|(apply ar;intro zb)|intro j')<;>try apply aw
   all_goals try exact r1
   all_goals try exact iF
   ·rw[tW (r2.trans hc)];rfl
   ·exact(r2.trans hc).symm
   ·rw[yz hn (r2.trans hc)]
   ·exact(r2.trans hc).symm
def dY (p:List Int) (T:List (List Int)):Bool:=al p&&Bg T p
theorem D9 {p:List Int} {T:List (List Int)} (h:al p=false):dY p T=false:=by rw[dY,h];rfl
theorem D8 {p:List Int} {T:List (List Int)} (h:al p=true):dY p T=Bg T p:=by rw[dY,h];rfl
theorem I2 {p:List Int} {W:List (List UInt8)} {k:Nat} (hk:k<W.length) (h:jb p (eF (W.getD k []))=true):Bg (W.map eF) p=false:=by
 have h1:((W.map eF).any fun q=>jb p q)=true:=List.any_eq_true.2 ⟨_,List.mem_map.2 ⟨_,aF hk,rfl⟩,h⟩
 rw[Bg,h1];rfl
theorem EI {p:List Int} {W:List (List UInt8)} (h:∀t∈W,jb p (eF t)=false):Bg (W.map eF) p=true:=by
 rw[Bg,Bool.not_eq_true',←aI,List.any_eq_true]
 rintro⟨q,hq,h1⟩
 obtain⟨t,ht,rfl⟩:=List.mem_map.1 hq
 rw[h t ht]at h1;cases h1
theorem cI {m0 m1:Bool} (p:List Int) (W:List (List UInt8)) (hp:p.length≤1048576) (hW:W.length≤8) (hw:∀t∈W,t.length≤100∧(eF t).length≤8):Fun Tryz.prog 143 [(.sl (.lent m0) (List.map (PV.int .i64) (p))),(.sl (.lent m1) (List.map PV.str (W)))] [(.bool (dY p (W.map eF)))]:=by
 by_cases h:al p=true
 ·have h8:=(aK h).1
  rw[D8 h]
  refine fO bA [4] Tryz.func143 ?_
  have cE1:= @aA;have cE2:= @c3
  have cE1:= @k7;have cE2:= @aA;have cE3:= @c3
  refine aQ @h ?_
  all_goals try(apply aq;repeat' first|exact ao|apply aa|(apply au;intro zb hc)|(apply ar;intro zb)|intro j')<;>try apply aw
  refine az (fun ms1 S1=>∃(k:Nat),S1.e 0=.p (.sl (.lent m0) (List.map (PV.int .i64) (p)))∧S1.e 12=.p (.sl (.lent m1) (List.map PV.str (W)))∧S1.e 13=.p (.int .i64 (W.length))∧S1.e 14=.p (.int .i64 (k))∧(k≤W.length)∧(∀t∈W.take k,jb p (eF t)=false)∧ms1=W.length - k) ((fun(k:Nat)=>W.length - k) (0)) ?_ ⟨0,dC trivial ?_⟩
  all_goals try(apply aq;repeat' first|exact ao|apply aa|(apply au;intro zb hc)|(apply ar;intro zb)|intro j')<;>try apply aw
  rintro ms1 S1 ⟨k,h1_0,h1_12,h1_13,h1_14,c1_0,c1_1,hm1⟩
  have fL1:=(aa h1_0 (aa h1_12 (aa h1_13 h1_14)))
  by_cases hk:k<W.length
  ·obtain⟨w1,w2⟩:=hw _ (aF (d:=[]) hk)
   cases hc0:jb p (eF (W.getD k []))with
   |true=>
    rw[I2 hk hc0]
    have cE1:= @k7;have cE2:= @aA;have cE3:= @c3
    refine aQ (aa fL1 @hc0) ?_
    all_goals try(apply aq;repeat' first|exact ao|apply aa|(apply au;intro zb hc)|(apply ar;intro zb)|intro j')<;>try apply aw
   |false=>
    have cE1:= @k7;have cE2:= @aA;have cE3:= @c3
    refine aQ (aa fL1 @hc0) ?_
    all_goals try(apply aq;repeat' first|exact ao|apply aa|(apply au;intro zb hc)|(apply ar;intro zb)|intro j')<;>try apply aw
    focus
     refine ay ((fun(k:Nat)=>W.length - k) (k+1)) (dC fL1 ?_) ⟨k+1,dC fL1 ?_⟩
     all_goals try(apply aq;repeat' first|exact ao|apply aa|(apply au;intro zb hc)|(apply ar;intro zb)|intro j')<;>try apply aw
    all_goals(first|(intro t ht;rw[aX (d:=[]) hk]at ht;rcases List.mem_append.1 ht with g|g;exact c1_1 t g;rw[aP]at g;subst g;exact hc0)|skip)
  ·rw[ah (by omega)]at c1_1
   rw[EI c1_1]
   have cE1:= @aA;have cE2:= @c3;have cE3:=trivial
   refine aQ fL1 ?_
   all_goals try(apply aq;repeat' first|exact ao|apply aa|(apply au;intro zb hc)|(apply ar;intro zb)|intro j')<;>try apply aw
 ·rw[aI]at h
  rw[D9 h]
  refine fO bA [4] Tryz.func143 ?_
  have cE1:= @aA;have cE2:= @c3
  refine aQ @h ?_
  all_goals try(apply aq;repeat' first|exact ao|apply aa|(apply au;intro zb hc)|(apply ar;intro zb)|intro j')<;>try apply aw
theorem VM {L:List (List Int)} (h:fA L=true):∀q∈L,q.length≤8:=by
 simp only[fA,Bool.and_eq_true]at h
 intro q hq
 obtain⟨i,hi,rfl⟩:=bh hq
 have:=oE h.2 hi
 rw[ac,ae hi]at this
 exact(aK this).1
theorem kG {e0 m0 m1:Bool} (L:List (List Int)) (p:List Int) (hL:L.length≤1048576) (hl:∀l∈L,l.length≤1048576) (hp:p.length≤1048576):Fun Tryz.prog 166 [(.sl (.lent m0) (List.map (bW e0) (L))),(.sl (.lent m1) (List.map (PV.int .i64) (p)))] [(.bool ((fA L&&dY p L)))]:=by
 by_cases h1:fA L=true
 ·have h2:=VM h1
  by_cases h:al p=true
  ·have h8:=(aK h).1
   rw[D8 h,h1]
   refine fO bA [4] Tryz.func166 ?_
   have cE1:= @bR;have cE2:= @aD;have cE3:= @gu
   refine aQ (aa @h @h1) ?_
   all_goals try(apply aq;repeat' first|exact ao|apply aa|(apply au;intro zb hc)|(apply ar;intro zb)|intro j')<;>try apply aw
  ·rw[aI]at h
   rw[D9 h,h1]
   refine fO bA [4] Tryz.func166 ?_
   have cE1:= @bR;have cE2:= @aD;have cE3:= @gu
   refine aQ (aa @h @h1) ?_
   all_goals try(apply aq;repeat' first|exact ao|apply aa|(apply au;intro zb hc)|(apply ar;intro zb)|intro j')<;>try apply aw
 ·rw[aI]at h1
  rw[h1]
  refine fO bA [4] Tryz.func166 ?_
  have cE1:= @bR;have cE2:= @aD;have cE3:= @gu
  refine aQ @h1 ?_
  all_goals try(apply aq;repeat' first|exact ao|apply aa|(apply au;intro zb hc)|(apply ar;intro zb)|intro j')<;>try apply aw
theorem cu {m0:Bool} (p:List Int) (t:List UInt8) (hp:p.length≤1048576) (ht:t.length≤100) (h1:(wW t).length≤8) (h2:∀l∈wW t,l.length≤8):Fun Tryz.prog 127 [(.sl (.lent m0) (List.map (PV.int .i64) (p))),(.str (t))] [(.bool ((fA (wW t)&&dY p (wW t))))]:=by
 refine fO bA [4] Tryz.func127 ?_
 have cE1:= @mZ;have cE2:= @hR;have cE3:= @kG
 have cp:=hR t (by omega)
 have h3:∀l∈wW t,l.length≤1048576:=fun l hl=>by have:=h2 l hl;omega
 have cE1:= @cp;have cE2:= @kG;have cE3:=trivial
 refine aQ trivial ?_
 all_goals try(apply aq;repeat' first|exact ao|apply aa|(apply au;intro zb hc)|(apply ar;intro zb)|intro j')<;>try apply aw
def tm:List (List Int):=[[2,1,4,3]]
def tI:List (List Int):=[[2,1,4,3],[3,4,1,2]]
def uy:List (List Int):=[[3,2,1]]
def tH:List (List Int):=[[3,4,1,2],[4,2,3,1]]
theorem I1 {a b p:List Int}:Bg [a,b] p=Bg [b,a] p:=by
 unfold Bg;simp only[List.any_cons,List.any_nil,Bool.or_false];rw[Bool.or_comm]
theorem cN {m0:Bool} (p:List Int) (hp:p.length≤1048576):Fun Tryz.prog 100 [(.sl (.lent m0) (List.map (PV.int .i64) (p)))] [(.bool (dY p tm))]:=by
 refine fO bA [2] Tryz.func100 ?_
 have cE1:= @cI
 have c1:=cI (m0:=m0) (m1:=true) p [[50,49,52,51]] hp (by decide) (by decide+kernel)
 have e:dY p (([[50,49,52,51]]:List (List UInt8)).map eF)=dY p tm:=by
  rw[show([[50,49,52,51]]:List (List UInt8)).map eF=tm from by decide+kernel]
 rw[e]at c1
 simp only[List.map_cons,List.map_nil]at c1
 have cE1:= @c1
 refine aQ trivial ?_
 all_goals try(apply aq;repeat' first|exact ao|apply aa|(apply au;intro zb hc)|(apply ar;intro zb)|intro j')<;>try apply aw
theorem iH {m0:Bool} (p:List Int) (hp:p.length≤1048576):Fun Tryz.prog 79 [(.sl (.lent m0) (List.map (PV.int .i64) (p)))] [(.bool (dY p tm))]:=by
 refine fO bA [2] Tryz.func79 ?_
 have cE1:= @cu
 have c1:=cu (m0:=m0) p [50,49,52,51] hp (by decide) (by decide+kernel) (by decide+kernel)
 have e1:wW [50,49,52,51]=tm:=by decide+kernel
 have e2:fA tm=true:=by decide+kernel
 rw[e1,e2,Bool.true_and]at c1
 have cE1:= @c1
 refine aQ trivial ?_
 all_goals try(apply aq;repeat' first|exact ao|apply aa|(apply au;intro zb hc)|(apply ar;intro zb)|intro j')<;>try apply aw
theorem cD {m0:Bool} (p:List Int) (hp:p.length≤1048576):Fun Tryz.prog 102 [(.sl (.lent m0) (List.map (PV.int .i64) (p)))] [(.bool (dY p tI))]:=by
 refine fO bA [2] Tryz.func102 ?_
 have cE1:= @cI
 have c1:=cI (m0:=m0) (m1:=true) p [[51,52,49,50],[50,49,52,51]] hp (by decide) (by decide+kernel)
 have e:dY p (([[51,52,49,50],[50,49,52,51]]:List (List UInt8)).map eF)=dY p tI:=by
  rw[show([[51,52,49,50],[50,49,52,51]]:List (List UInt8)).map eF=[[3,4,1,2],[2,1,4,3]]from by decide+kernel,dY,dY,tI,I1]
 rw[e]at c1
 simp only[List.map_cons,List.map_nil]at c1
 have cE1:= @c1
 refine aQ trivial ?_
 all_goals try(apply aq;repeat' first|exact ao|apply aa|(apply au;intro zb hc)|(apply ar;intro zb)|intro j')<;>try apply aw
theorem hU {m0:Bool} (p:List Int) (hp:p.length≤1048576):Fun Tryz.prog 81 [(.sl (.lent m0) (List.map (PV.int .i64) (p)))] [(.bool (dY p tI))]:=by
 refine fO bA [2] Tryz.func81 ?_
 have cE1:= @cu
 have c1:=cu (m0:=m0) p [50,49,52,51,32,51,52,49,50] hp (by decide) (by decide+kernel) (by decide+kernel)
 have e1:wW [50,49,52,51,32,51,52,49,50]=tI:=by decide+kernel
 have e2:fA tI=true:=by decide+kernel
 rw[e1,e2,Bool.true_and]at c1
 have cE1:= @c1
 refine aQ trivial ?_
 all_goals try(apply aq;repeat' first|exact ao|apply aa|(apply au;intro zb hc)|(apply ar;intro zb)|intro j')<;>try apply aw
theorem cv {m0:Bool} (p:List Int) (hp:p.length≤1048576):Fun Tryz.prog 101 [(.sl (.lent m0) (List.map (PV.int .i64) (p)))] [(.bool (dY p uy))]:=by
 refine fO bA [2] Tryz.func101 ?_
 have cE1:= @cI
 have c1:=cI (m0:=m0) (m1:=true) p [[51,50,49]] hp (by decide) (by decide+kernel)
 have e:dY p (([[51,50,49]]:List (List UInt8)).map eF)=dY p uy:=by
  rw[show([[51,50,49]]:List (List UInt8)).map eF=uy from by decide+kernel]
 rw[e]at c1
 simp only[List.map_cons,List.map_nil]at c1
 have cE1:= @c1
 refine aQ trivial ?_
 all_goals try(apply aq;repeat' first|exact ao|apply aa|(apply au;intro zb hc)|(apply ar;intro zb)|intro j')<;>try apply aw
theorem gK {m0:Bool} (p:List Int) (hp:p.length≤1048576):Fun Tryz.prog 80 [(.sl (.lent m0) (List.map (PV.int .i64) (p)))] [(.bool (dY p uy))]:=by
 refine fO bA [2] Tryz.func80 ?_
 have cE1:= @cu
 have c1:=cu (m0:=m0) p [51,50,49] hp (by decide) (by decide+kernel) (by decide+kernel)
 have e1:wW [51,50,49]=uy:=by decide+kernel
 have e2:fA uy=true:=by decide+kernel
 rw[e1,e2,Bool.true_and]at c1
 have cE1:= @c1
 refine aQ trivial ?_
 all_goals try(apply aq;repeat' first|exact ao|apply aa|(apply au;intro zb hc)|(apply ar;intro zb)|intro j')<;>try apply aw
theorem de {m0:Bool} (p:List Int) (hp:p.length≤1048576):Fun Tryz.prog 99 [(.sl (.lent m0) (List.map (PV.int .i64) (p)))] [(.bool (dY p tH))]:=by
 refine fO bA [2] Tryz.func99 ?_
 have cE1:= @cI
 have c1:=cI (m0:=m0) (m1:=true) p [[51,52,49,50],[52,50,51,49]] hp (by decide) (by decide+kernel)
 have e:dY p (([[51,52,49,50],[52,50,51,49]]:List (List UInt8)).map eF)=dY p tH:=by
  rw[show([[51,52,49,50],[52,50,51,49]]:List (List UInt8)).map eF=tH from by decide+kernel]
 rw[e]at c1
 simp only[List.map_cons,List.map_nil]at c1
 have cE1:= @c1
 refine aQ trivial ?_
 all_goals try(apply aq;repeat' first|exact ao|apply aa|(apply au;intro zb hc)|(apply ar;intro zb)|intro j')<;>try apply aw
theorem kp {m0:Bool} (p:List Int) (hp:p.length≤1048576):Fun Tryz.prog 78 [(.sl (.lent m0) (List.map (PV.int .i64) (p)))] [(.bool (dY p tH))]:=by
 refine fO bA [2] Tryz.func78 ?_
 have cE1:= @cu
 have c1:=cu (m0:=m0) p [51,52,49,50,32,52,50,51,49] hp (by decide) (by decide+kernel) (by decide+kernel)
 have e1:wW [51,52,49,50,32,52,50,51,49]=tH:=by decide+kernel
 have e2:fA tH=true:=by decide+kernel
 rw[e1,e2,Bool.true_and]at c1
 have cE1:= @c1
 refine aQ trivial ?_
 all_goals try(apply aq;repeat' first|exact ao|apply aa|(apply au;intro zb hc)|(apply ar;intro zb)|intro j')<;>try apply aw
def mi (p:List Int):Bool:=al p&&(bu p).all EY
theorem ye {p:List Int} (hp:al p=true):(bu p).length≤8∧∀q∈bu p,al q=true:=⟨(ji hp).2.2.1,fun q hq=>((ji hp).2.2.2 q hq).1⟩
theorem dJ {m0:Bool} (q:List Int) (hq:al q=true):Fun Tryz.prog 141 [(.sl (.lent m0) (List.map (PV.int .i64) (q)))] [(.bool (!(EY q)))]:=by
 refine fO bA [2] Tryz.func141 ?_
 have cE1:= @oq
 refine aQ trivial ?_
 all_goals try(apply aq;repeat' first|exact ao|apply aa|(apply au;intro zb hc)|(apply ar;intro zb)|intro j')<;>try apply aw
theorem c4 {m0:Bool} (p:List Int) (hp:p.length≤1048576):Fun Tryz.prog 98 [(.sl (.lent m0) (List.map (PV.int .i64) (p)))] [(.bool (mi p))]:=by
 by_cases h:al p=true
 ·obtain⟨h8,_⟩:=aK h
  have hb:=fZ h
  obtain⟨s1,s2⟩:=ye h
  have e1:(dP lX p p.length).1=bu p:=rfl
  have e2:mi p= !((bu p).any fun q=> !(EY q)):=by
   rw[mi,h,Bool.true_and,List.not_any_eq_all_not];simp
  have c1:=fun(e0 m0:Bool)=>bq (e0:=e0) (m0:=m0) (bu p) 141 [] (fun q=> !(EY q)) (by omega) (fun q hq=>dJ (m0:=e0) q (s2 q hq))
  rw[e2]
  refine fO bA [2] Tryz.func98 ?_
  have cE1:= @aA;have cE2:= @dR;have cE3:= @bq;have cE4:= @dJ
  have cE1:= @c1;have cE2:= @aA;have cE3:= @dR;have cE4:= @bq;have cE5:= @dJ
  refine aQ (aa @h @e1) ?_
  all_goals try(apply aq;repeat' first|exact ao|apply aa|(apply au;intro zb hc)|(apply ar;intro zb)|intro j')<;>try apply aw
 ·rw[aI]at h
  have e:mi p=false:=by rw[mi,h];rfl
  rw[e]
  refine fO bA [2] Tryz.func98 ?_
  have cE1:= @aA;have cE2:= @dR;have cE3:= @bq;have cE4:= @dJ
  refine aQ @h ?_
  all_goals try(apply aq;repeat' first|exact ao|apply aa|(apply au;intro zb hc)|(apply ar;intro zb)|intro j')<;>try apply aw
theorem jG {m0:Bool} (p:List Int) (hp:p.length≤1048576):Fun Tryz.prog 77 [(.sl (.lent m0) (List.map (PV.int .i64) (p)))] [(.bool (mi p))]:=by
 by_cases h:al p=true
 ·obtain⟨h8,hq⟩:=aK h
  obtain⟨s1,s2⟩:=ye h
  have e1:(dP mb p p.length).1=bu p:=kB hq
  refine fO bA [2] Tryz.func77 ?_
  have cE1:= @jk;have cE2:= @dO;have cE3:= @bC;have cE4:= @bJ;have cE5:= @bT;have cE6:= @aD
  have cD1:=iE [false,false,false,false,true,false,false,false,false,false,true,true,false] [(4,5),(4,6),(4,7),(4,8),(4,9)]
  have cE1:= @dO;have cE2:= @bC;have cE3:= @bJ;have cE4:= @bT;have cE5:= @aD;have cE6:=trivial
  refine aQ (aa @h @e1) ?_
  all_goals try(apply aq;repeat' first|exact ao|apply aa|(apply au;intro zb hc)|(apply ar;intro zb)|intro j')<;>try apply aw
  refine az (fun ms1 S1=>∃(k:Nat),S1.e 0=.p (.sl (.lent m0) (List.map (PV.int .i64) (p)))∧OwnL (S1.e 3) S1.h S1.n (bW false) ((bu p).length) (bu p)∧S1.e 4=.p (.int .i64 (k))∧(k≤(bu p).length)∧(∀q∈(bu p).take k,EY q=true)∧ms1=(bu p).length - k) ((fun(k:Nat)=>(bu p).length - k) (0)) ?_ ⟨0,dC trivial ?_⟩
  all_goals try(apply aq;repeat' first|exact ao|apply aa|(apply au;intro zb hc)|(apply ar;intro zb)|intro j')<;>try apply aw
  rintro ms1 S1 ⟨k,h1_0,o1_3,h1_4,c1_0,c1_1,hm1⟩
  obtain⟨i1_3,h1_3,b1_3,l1_3⟩:=o1_3.out
  have ni1_3:=bi (x:=i1_3) (n:=S1.n)
  have fL1:=(aa h1_0 (aa h1_4 (aa h1_3 (aa b1_3 ni1_3))))
  by_cases hk:k<(bu p).length
  ·have r1:=s2 _ (aF (d:=[]) hk)
   obtain⟨r2,r3⟩:=aK r1
   have r4:((bu p).getD k []).reverse.length=((bu p).getD k []).length:=aG
   have r5:(ou ((bu p).getD k []).length).length=((bu p).getD k []).length:=gD
   have r6:decide (((bu p).getD k []).reverse=ou ((bu p).getD k []).length)=EY ((bu p).getD k []):=rfl
   cases hd:EY ((bu p).getD k [])with
   |true=>
    have cE1:= @bC;have cE2:= @bJ;have cE3:= @bT;have cE4:= @aD;have cE5:=trivial;have cE6:=trivial
    refine aQ (aa fL1 (aa @r6 @hd)) ?_
    all_goals try(apply aq;repeat' first|exact ao|apply aa|(apply au;intro zb hc)|(apply ar;intro zb)|intro j')<;>try apply aw
    focus
     refine ay ((fun(k:Nat)=>(bu p).length - k) (k+1)) (dC fL1 ?_) ⟨k+1,dC fL1 ?_⟩
     all_goals try(apply aq;repeat' first|exact ao|apply aa|(apply au;intro zb hc)|(apply ar;intro zb)|intro j')<;>try apply aw
    all_goals(first|(intro q hq;rw[aX (d:=[]) hk]at hq;rcases List.mem_append.1 hq with g|g;exact c1_1 q g;rw[aP]at g;subst g;exact hd)|skip)
   |false=>
    have e:mi p=false:=by
     rw[mi,Bool.and_eq_false_iff]
     exact .inr (List.all_eq_false.2 ⟨_,aF (d:=[]) hk,by rw[hd];decide⟩)
    rw[e]
    have cE1:= @bC;have cE2:= @bJ;have cE3:= @bT;have cE4:= @aD;have cE5:=trivial;have cE6:=trivial
    refine aQ (aa fL1 (aa @r6 @hd)) ?_
    all_goals try(apply aq;repeat' first|exact ao|apply aa|(apply au;intro zb hc)|(apply ar;intro zb)|intro j')<;>try apply aw
  ·rw[ah (by omega)]at c1_1
   have e:mi p=true:=by rw[mi,h,Bool.true_and];exact List.all_eq_true.2 c1_1
   rw[e]
   have cE1:= @bC;have cE2:= @bJ;have cE3:= @bT;have cE4:= @aD;have cE5:=trivial;have cE6:=trivial
   refine aQ (aa fL1 @h) ?_
   all_goals try(apply aq;repeat' first|exact ao|apply aa|(apply au;intro zb hc)|(apply ar;intro zb)|intro j')<;>try apply aw
 ·rw[aI]at h
  have e:mi p=false:=by rw[mi,h];rfl
  rw[e]
  refine fO bA [2] Tryz.func77 ?_
  have cE1:= @jk;have cE2:= @dO;have cE3:= @bC;have cE4:= @bJ;have cE5:= @bT;have cE6:= @aD
  have cD1:=iE [false,false,false,false,true,false,false,false,false,false,true,true,false] [(4,5),(4,6),(4,7),(4,8),(4,9)]
  have cE2:= @bC;have cE3:= @bJ;have cE4:= @bT;have cE5:= @aD;have cE6:=trivial
  refine aQ @h ?_
  all_goals try(apply aq;repeat' first|exact ao|apply aa|(apply au;intro zb hc)|(apply ar;intro zb)|intro j')<;>try apply aw
  refine az (fun ms1 S1=>∃(k:Nat),S1.e 0=.p (.sl (.lent m0) (List.map (PV.int .i64) (p)))∧OwnL (S1.e 3) S1.h S1.n (bW false) ((([]:List (List Int))).length) (([]:List (List Int)))∧S1.e 4=.p (.int .i64 (k))∧(k=0)∧ms1=0) ((fun(k:Nat)=>0) (0)) ?_ ⟨0,kj trivial ?_⟩
  all_goals try(apply aq;repeat' first|exact ao|apply aa|(apply au;intro zb hc)|(apply ar;intro zb)|intro j')<;>try apply aw
  rintro ms1 S1 ⟨k,h1_0,o1_3,h1_4,c1_0,hm1⟩
  obtain⟨i1_3,h1_3,b1_3,l1_3⟩:=o1_3.out
  have ni1_3:=bi (x:=i1_3) (n:=S1.n)
  have fL1:=(aa h1_0 (aa h1_4 (aa h1_3 (aa b1_3 ni1_3))))
  subst c1_0
  have cE1:= @bC;have cE2:= @bJ;have cE3:= @bT;have cE4:= @aD;have cE5:=trivial;have cE6:=trivial
  refine aQ (aa fL1 @h) ?_
  all_goals try(apply aq;repeat' first|exact ao|apply aa|(apply au;intro zb hc)|(apply ar;intro zb)|intro j')<;>try apply aw
theorem Sq:∀d,d≤8→9^d≤43046721:=by decide
theorem uh:∀(d:Nat) {m0:Bool} (p:List Int),d≤8→al p=true→p.length≤d→Fun Tryz.prog 138 [.sl (.lent m0) (List.map (PV.int .i64) p)] [.sl .own (List.map (bW false) (nS d p))]:=by
 intro d
 induction d with
 |zero=>
  intro m0 p hd hp hl
  rw[yl (by omega)]
  refine fO bA [2] Tryz.func138 ?_
  have cE1:= @cB
  refine aQ trivial ?_
  all_goals try(apply aq;repeat' first|exact ao|apply aa|(apply au;intro zb hc)|(apply ar;intro zb)|intro j')<;>try apply aw
 |succ d ih=>
  intro m0 p hd hp hl
  by_cases h2:p.length<2
  ·rw[yl h2]
   refine fO bA [2] Tryz.func138 ?_
   have cE1:= @cB
   refine aQ trivial ?_
   all_goals try(apply aq;repeat' first|exact ao|apply aa|(apply au;intro zb hc)|(apply ar;intro zb)|intro j')<;>try apply aw
  ·have hf:=mQ hp (by omega)
   obtain⟨n1,n2⟩:=mP hp
   have e:nS (d+1) p=(bv p).1::(bv p).2.flatMap (nS d):=by rw[nS,if_neg h2]
   have h9:=Sq d (by omega)
   rw[e]
   refine fO bA [2] Tryz.func138 ?_
   have cE1:= @cB
   have cE1:= @ih;have cE2:= @cB
   refine aQ @hp ?_
   all_goals try(apply aq;repeat' first|exact ao|apply aa|(apply au;intro zb hc)|(apply ar;intro zb)|intro j')<;>try apply aw
   refine az (fun ms1 S1=>∃(k:Nat),OwnL (S1.e 4) S1.h S1.n (bW false) (((bv p).1::((bv p).2.take k).flatMap (nS d)).length) ((bv p).1::((bv p).2.take k).flatMap (nS d))∧S1.e 16=.p (.sl (.lent false) (List.map (bW false) ((bv p).2)))∧S1.e 17=.p (.int .i64 ((bv p).2.length))∧S1.e 18=.p (.int .i64 (k))∧(k≤(bv p).2.length)∧ms1=(bv p).2.length - k) ((fun(k:Nat)=>(bv p).2.length - k) (0)) ?_ ⟨0,dC trivial ?_⟩
   all_goals try(apply aq;repeat' first|exact ao|apply aa|(apply au;intro zb hc)|(apply ar;intro zb)|intro j')<;>try apply aw
   rintro ms1 S1 ⟨k,o1_4,h1_16,h1_17,h1_18,c1_0,hm1⟩
   obtain⟨i1_4,h1_4,b1_4,l1_4⟩:=o1_4.out
   have ni1_4:=bi (x:=i1_4) (n:=S1.n)
   have fL1:=(aa h1_16 (aa h1_17 (aa h1_18 (aa h1_4 (aa b1_4 ni1_4)))))
   ·have g1:=yZ (L:=(bv p).2.take k) (f:=nS d) (n:=9^d) fun q hq=>pA (hf q (List.mem_of_mem_take hq)).1
    have g2:=Nat.mul_le_mul_right (9^d) (show((bv p).2.take k).length≤8 by rw[aV];omega)
    by_cases hk:k<(bv p).2.length
    ·obtain⟨q1,q2⟩:=hf _ (aF (d:=[]) hk)
     have q3:=pA (d:=d) q1
     have q4:((bv p).2.take (k+1)).flatMap (nS d)=((bv p).2.take k).flatMap (nS d)++nS d ((bv p).2.getD k []):=by
      rw[aX (d:=[]) hk,List.flatMap_append];simp
     have cE1:= @ih;have cE2:= @cB
     refine aQ (aa fL1 @q1) ?_
     all_goals try(apply aq;repeat' first|exact ao|apply aa|(apply au;intro zb hc)|(apply ar;intro zb)|intro j')<;>try apply aw
     focus
      refine ay ((fun(k:Nat)=>(bv p).2.length - k) (k+1)) (dC fL1 ?_) ⟨k+1,dC fL1 ?_⟩
      all_goals try(apply aq;repeat' first|exact ao|apply aa|(apply au;intro zb hc)|(apply ar;intro zb)|intro j')<;>try apply aw
     all_goals(first|(rw[q4,ak];omega)|(rw[q4];done)|skip)
    ·have cE1:= @cB;have cE2:=trivial
     refine aQ fL1 ?_
     all_goals try(apply aq;repeat' first|exact ao|apply aa|(apply au;intro zb hc)|(apply ar;intro zb)|intro j')<;>try apply aw
     rw[ah (by omega)]
def oT (p:List Int):Bool:=al p&& !((nS 8 p).any fun q=>decide ((2:Int)<(q.length:Int)))
theorem dh {m0:Bool} (q:List Int) (hq:q.length≤1048576):Fun Tryz.prog 139 [(.sl (.lent m0) (List.map (PV.int .i64) (q)))] [(.bool (decide ((2:Int)<(q.length:Int))))]:=by
 refine fO bA [2] Tryz.func139 ?_
 refine aQ trivial ?_
 all_goals try(apply aq;repeat' first|exact ao|apply aa|(apply au;intro zb hc)|(apply ar;intro zb)|intro j')<;>try apply aw
theorem cO {m0:Bool} (p:List Int) (hp:p.length≤1048576):Fun Tryz.prog 97 [(.sl (.lent m0) (List.map (PV.int .i64) (p)))] [(.bool (oT p))]:=by
 by_cases h:al p=true
 ·obtain⟨h8,_⟩:=aK h
  have b1:=pA (d:=8) h
  have b2:=tM (d:=8) h
  have c1:=fun(e0 m0:Bool)=>bq (e0:=e0) (m0:=m0) (nS 8 p) 139 [] (fun q=>decide ((2:Int)<(q.length:Int))) (by omega) (fun q hq=>dh (m0:=e0) q (by have:=b2 q hq;omega))
  have c2:=fun(m0:Bool)=>uh 8 (m0:=m0) p (by decide) h h8
  rw[oT,h,Bool.true_and]
  refine fO bA [2] Tryz.func97 ?_
  have cE1:= @aA;have cE2:= @bq;have cE3:= @dh
  have cE1:= @c1;have cE2:= @c2;have cE3:= @aA;have cE4:= @bq;have cE5:= @dh
  refine aQ @h ?_
  all_goals try(apply aq;repeat' first|exact ao|apply aa|(apply au;intro zb hc)|(apply ar;intro zb)|intro j')<;>try apply aw
 ·rw[aI]at h
  rw[oT,h,Bool.false_and]
  refine fO bA [2] Tryz.func97 ?_
  have cE1:= @aA;have cE2:= @bq;have cE3:= @dh
  refine aQ @h ?_
  all_goals try(apply aq;repeat' first|exact ao|apply aa|(apply au;intro zb hc)|(apply ar;intro zb)|intro j')<;>try apply aw
def qg:FuncId→List Bool:=fun f=>if f=164 then[false,true]else if f=118 then[true]else[]
theorem Fu {f:FuncId}:qg f=if f=164 then[false,true]else if f=118 then[true]else[]:=_root_.id rfl
theorem Bn:gk qg=false∧gG qg=false∧gF qg=false∧gE qg=false∧gH qg=false:=⟨rfl,rfl,rfl,rfl,rfl⟩
attribute [go_sem] Fu Bn
theorem p6:∀(d:Nat) {m0:Bool} (p:List Int) (out:List (List Int)),d≤8→al p=true→p.length≤d→(∀l∈out,l.length≤8)→out.length+9^d≤1000000000→
  CallT Tryz.prog true 164 [.pv (.sl (.lent m0) (List.map (PV.int .i64) p)),.mu false (List.map (bW false) out)] [none,none] [.sl .own (List.map (bW false) (oV d p out))]:=by
 intro d
 induction d with
 |zero=>
  intro m0 p out hd hp hl hr ho
  rw[show oV 0 p out=out from rfl]
  refine CallT.of (sg:=qg) (ts:=[4]) mo Tryz.func164 rfl rfl rfl rfl (by kernel_rfl) (by simp only[go_sem]) rfl rfl ?_
  have cE1:= @fQ;have cM1:= @ic
  refine lT trivial ?_
  all_goals try(apply aq;repeat' first|exact ao|apply aa|(apply au;intro zb hc)|(apply ar;intro zb)|intro j')<;>try apply aw
 |succ d ih=>
  intro m0 p out hd hp hl hr ho
  by_cases h2:p.length<2
  ·have e:oV (d+1) p out=out:=by rw[oV,if_pos h2]
   rw[e]
   refine CallT.of (sg:=qg) (ts:=[4]) mo Tryz.func164 rfl rfl rfl rfl (by kernel_rfl) (by simp only[go_sem]) rfl rfl ?_
   have cE1:= @fQ;have cM1:= @ic
   refine lT trivial ?_
   all_goals try(apply aq;repeat' first|exact ao|apply aa|(apply au;intro zb hc)|(apply ar;intro zb)|intro j')<;>try apply aw
  ·have hf:=mQ hp (by omega)
   obtain⟨n1,n2⟩:=mP hp
   have e:oV (d+1) p out=zU d (bv p).2 (gm out (bv p).1):=by rw[oV,if_neg h2];rfl
   have h9:=Sq d (by omega)
   have h10:9^(d+1)=9*9^d:=by rw[Nat.pow_succ,Nat.mul_comm]
   have h11:0<9^d:=Nat.pow_pos (by decide)
   have p1:=yt (L:=out) (p:=(bv p).1)
   have p2:∀l∈gm out (bv p).1,l.length≤8:=fun l hl=>by
    rcases putP_mem.1 hl with g|g
    ·rw[g];exact n2
    ·exact hr l g
   have hr':∀l∈out,l.length≤1048576:=fun l hl=>by have:=hr l hl;omega
   rw[e]
   refine CallT.of (sg:=qg) (ts:=[4]) mo Tryz.func164 rfl rfl rfl rfl (by kernel_rfl) (by simp only[go_sem]) rfl rfl ?_
   have cE1:= @fQ;have cM1:= @ic
   refine lT @hp ?_
   all_goals try(apply aq;repeat' first|exact ao|apply aa|(apply au;intro zb hc)|(apply ar;intro zb)|intro j')<;>try apply aw
   refine az (fun ms1 S1=>∃(k:Nat),S1.e 0=.p (.sl (.lent m0) (List.map (PV.int .i64) (p)))∧OwnM (S1.e 1) S1.h S1.n (bW false) ((zU d ((bv p).2.take k) (gm out (bv p).1)).length) (zU d ((bv p).2.take k) (gm out (bv p).1))∧PtrL (S1.e 5) S1.h S1.n (.live false [.sl (.lent false) (List.map (PV.int .i64) (bv p).1),.sl (.lent false) (List.map (bW false) (bv p).2)])∧S1.e 6=.p (.int .i64 (k))∧(k≤(bv p).2.length)∧NId (nJ (S1.e 5)) (S1.e 1)∧ms1=(bv p).2.length - k) ((fun(k:Nat)=>(bv p).2.length - k) (0)) ?_ ⟨0,dC trivial ?_⟩
   all_goals try(apply aq;repeat' first|exact ao|apply aa|(apply au;intro zb hc)|(apply ar;intro zb)|intro j')<;>try apply aw
   rintro ms1 S1 ⟨k,h1_0,o1_1,o1_5,h1_6,c1_0,u1_0,hm1⟩
   obtain⟨i1_1,mm1_1,h1_1,b1_1,l1_1⟩:=o1_1.out
   obtain⟨i1_5,h1_5,b1_5,l1_5⟩:=o1_5.out
   have k1_0:=(u1_0).out (dp h1_5) h1_1
   have ni1_1:=bi (x:=i1_1) (n:=S1.n)
   have ni1_5:=bi (x:=i1_5) (n:=S1.n)
   have di1_1i1_5:=ds (x:=i1_1) (y:=i1_5)
   have fL1:=(aa h1_0 (aa h1_6 (aa h1_1 (aa b1_1 (aa h1_5 (aa b1_5 (aa ni1_1 (aa ni1_5 di1_1i1_5))))))))
   ·obtain⟨g1,g2⟩:=yn (d:=d) (L:=(bv p).2.take k) (o:=gm out (bv p).1) (fun q hq=>(hf q (List.mem_of_mem_take hq)).1) p2
    have g3:=Nat.mul_le_mul_right (9^d) (show((bv p).2.take k).length≤8 by rw[aV];omega)
    by_cases hk:k<(bv p).2.length
    ·obtain⟨q1,q2⟩:=hf _ (aF (d:=[]) hk)
     have q4:zU d ((bv p).2.take (k+1)) (gm out (bv p).1)=oV d ((bv p).2.getD k []) (zU d ((bv p).2.take k) (gm out (bv p).1)):=by
      rw[aX (d:=[]) hk,Cr]
     have g5:=Nat.mul_le_mul_right (9^d) (show((bv p).2.take k).length≤7 by rw[aV];omega)
     have cM2:= @ih
     refine lT (aa fL1 (aa @q1 @Pe)) ?_
     all_goals try(apply aq;repeat' first|exact ao|apply aa|(apply au;intro zb hc)|(apply ar;intro zb)|intro j')<;>try apply aw
     focus
      refine ay ((fun(k:Nat)=>(bv p).2.length - k) (k+1)) (dC fL1 ?_) ⟨k+1,dC fL1 ?_⟩
      all_goals try(apply aq;repeat' first|exact ao|apply aa|(apply au;intro zb hc)|(apply ar;intro zb)|intro j')<;>try apply aw
     all_goals(first|(rw[q4];done)|skip)
    ·have cM2:=trivial
     refine lT fL1 ?_
     all_goals try(apply aq;repeat' first|exact ao|apply aa|(apply au;intro zb hc)|(apply ar;intro zb)|intro j')<;>try apply aw
     rw[ah (by omega)]
theorem qc {m0:Bool} (p:List Int) (hp:p.length≤1048576):Fun Tryz.prog 125 [(.sl (.lent m0) (List.map (PV.int .i64) (p)))] [(.sl .own (List.map (bW false) ((if al p=true then oV 8 p []else[]))))]:=by
 by_cases h:al p=true
 ·obtain⟨h8,_⟩:=aK h
  have c1:=fun(m0:Bool)=>p6 8 (m0:=m0) p [] (by decide) h h8 (fun l hl=>by cases hl) (by decide)
  simp only[List.map_nil]at c1
  rw[if_pos h]
  refine fO qg [2] Tryz.func125 ?_
  have cE1:= @aD
  have cM1:= @c1
  refine aQ @h ?_
  all_goals try(apply aq;repeat' first|exact ao|apply aa|(apply au;intro zb hc)|(apply ar;intro zb)|intro j')<;>try apply aw
 ·rw[if_neg h]
  rw[aI]at h
  refine fO qg [2] Tryz.func125 ?_
  have cE1:= @aD
  refine aQ @h ?_
  all_goals try(apply aq;repeat' first|exact ao|apply aa|(apply au;intro zb hc)|(apply ar;intro zb)|intro j')<;>try apply aw
theorem RE {p:List Int}:∃X,(if al p=true then oV 8 p []else[])=X∧X.length≤43046721∧(∀q∈X,q.length≤8)∧(∀q∈X,2<q.length→oT p=false)∧((∀q∈X,¬2<q.length)→oT p=al p):=by
 refine⟨_,rfl, ?_⟩
 by_cases h:al p=true
 ·rw[if_pos h]
  have hm:∀x,x∈oV 8 p []↔x∈nS 8 p:=fun x=>by rw[rsL_mem];simp
  refine⟨by have:=tN (d:=8) (out:=[]) h;simpa using this,ym h (fun l hl=>by cases hl),fun q hq h2=> ?_,fun h2=> ?_⟩
  ·rw[oT,Bool.and_eq_false_iff]
   refine .inr ?_
   rw[Bool.not_eq_false',List.any_eq_true]
   exact⟨q,(hm q).1 hq,decide_eq_true (by omega)⟩
  ·rw[oT]
   have:((nS 8 p).any fun q=>decide ((2:Int)<(q.length:Int)))=false:=by
    rw[←aI,List.any_eq_true]
    rintro⟨q,hq,g⟩
    have:=h2 q ((hm q).2 hq)
    have:=of_decide_eq_true g
    omega
   rw[this];simp
 ·rw[if_neg h]
  rw[aI]at h
  refine⟨by simp,fun q hq=>(by cases hq),fun q hq=>(by cases hq),fun _=> ?_⟩
  rw[oT,h];rfl
theorem iI {m0:Bool} (p:List Int) (hp:p.length≤1048576):Fun Tryz.prog 76 [(.sl (.lent m0) (List.map (PV.int .i64) (p)))] [(.bool (oT p))]:=by
 refine fO bA [2] Tryz.func76 ?_
 have cE1:= @qc;have cE2:= @aD
 obtain⟨X,x0,x1,x2,x3,x4⟩:=RE (p:=p)
 refine aQ @x0 ?_
 all_goals try(apply aq;repeat' first|exact ao|apply aa|(apply au;intro zb hc)|(apply ar;intro zb)|intro j')<;>try apply aw
 refine az (fun ms1 S1=>∃(k:Nat),S1.e 0=.p (.sl (.lent m0) (List.map (PV.int .i64) (p)))∧OwnL (S1.e 3) S1.h S1.n (bW false) ((X).length) (X)∧S1.e 4=.p (.int .i64 (k))∧(k≤X.length)∧(∀q∈X.take k,¬2<q.length)∧ms1=X.length - k) ((fun(k:Nat)=>X.length - k) (0)) ?_ ⟨0,dC trivial ?_⟩
 all_goals try(apply aq;repeat' first|exact ao|apply aa|(apply au;intro zb hc)|(apply ar;intro zb)|intro j')<;>try apply aw
 rintro ms1 S1 ⟨k,h1_0,o1_3,h1_4,c1_0,c1_1,hm1⟩
 obtain⟨i1_3,h1_3,b1_3,l1_3⟩:=o1_3.out
 have ni1_3:=bi (x:=i1_3) (n:=S1.n)
 have fL1:=(aa h1_0 (aa h1_4 (aa h1_3 (aa b1_3 ni1_3))))
 by_cases hk:k<X.length
 ·by_cases hd:2<(X.getD k []).length
  ·rw[x3 _ (aF hk) hd]
   refine aQ fL1 ?_
   all_goals try(apply aq;repeat' first|exact ao|apply aa|(apply au;intro zb hc)|(apply ar;intro zb)|intro j')<;>try apply aw
  ·refine aQ fL1 ?_
   all_goals try(apply aq;repeat' first|exact ao|apply aa|(apply au;intro zb hc)|(apply ar;intro zb)|intro j')<;>try apply aw
   focus
    refine ay ((fun(k:Nat)=>X.length - k) (k+1)) (dC fL1 ?_) ⟨k+1,dC fL1 ?_⟩
    all_goals try(apply aq;repeat' first|exact ao|apply aa|(apply au;intro zb hc)|(apply ar;intro zb)|intro j')<;>try apply aw
   all_goals(first|(intro q hq;rw[aX (d:=[]) hk]at hq;rcases List.mem_append.1 hq with g|g;exact c1_1 q g;rw[aP]at g;subst g;exact hd)|skip)
 ·rw[ah (by omega)]at c1_1
  rw[x4 c1_1]
  refine aQ fL1 ?_
  all_goals try(apply aq;repeat' first|exact ao|apply aa|(apply au;intro zb hc)|(apply ar;intro zb)|intro j')<;>try apply aw
def AF:Nat→List UInt8
 |0=>[115,105,109,112,108,101]
 |1=>[115,101,112,97,114,97,98,108,101]
 |2=>[108,97,121,101,114,101,100]
 |3=>[115,109,111,111,116,104]
 |4=>[118,101,120,105,108,108,97,114,121]
 |5=>[99,111,109,109,117,116,97,116,105,118,101]
 |6=>[109,101,114,103,101,100]
 |7=>[105,110,118,111,108,117,116,105,111,110]
 |_=>[97,108,116,101,114,110,97,116,105,110,103]
def fmP (p:List Int):Nat→Bool
 |0=>al p&&jx p
 |1=>oT p
 |2=>mi p
 |3=>dY p tH
 |4=>dY p tm
 |5=>dY p uy
 |6=>dY p tI
 |7=>ue p
 |_=>rM p
def wI (L:List (List UInt8)) (b:Bool) (w:List UInt8):List (List UInt8):=if b=true then L++[w]else L
def je (p:List Int):Nat→List (List UInt8)
 |0=>[]
 |k+1=>wI (je p k) (fmP p k) (AF k)
def AG (p:List Int):List UInt8:=if al p=true then(if je p 9=[]then[45]else Lib.join (je p 9) [32])else[]
theorem I9 {L:List (List UInt8)} {b:Bool} {w:List UInt8}:(wI L b w).length≤L.length+1:=by unfold wI;split<;>simp
theorem fq {p:List Int}:∀{k:Nat},(je p k).length≤k∧∀w∈je p k,w.length≤11
 |0=>by simp[je]
 |k+1=>by
  obtain⟨h1,h2⟩:=fq (p:=p) (k:=k)
  have h3:(AF k).length≤11:=by
   match k with
   |0|1|2|3|4|5|6|7=>decide
   |n+8=>exact Nat.le_of_ble_eq_true rfl
  rw[je]
  refine⟨Nat.le_trans I9 (by omega),fun w hw=> ?_⟩
  unfold wI at hw;split at hw
  ·rcases List.mem_append.1 hw with q|q
   ·exact h2 w q
   ·rw[List.mem_singleton.1 q];exact h3
  ·exact h2 w hw
theorem ul {p:List Int}:(Lib.join (je p 9) [32]).length≤108:=by
 obtain⟨h1,h2⟩:=fq (p:=p) (k:=9)
 have:=fE (sep:=[32]) h2
 have h3:=Nat.mul_le_mul_right (11+([32]:List UInt8).length) h1
 exact Nat.le_trans this h3
def tK:FuncId→List Bool:=fun f=>if f=74 then[true]else[]
theorem FA {f:FuncId}:tK f=if f=74 then[true]else[]:=_root_.id rfl
theorem Bt:gk tK=false∧gG tK=false∧gF tK=false∧gE tK=false∧gH tK=false:=⟨rfl,rfl,rfl,rfl,rfl⟩
attribute [go_sem] FA Bt
theorem cd (L:List (List UInt8)) (b:Bool) (w:List UInt8) (hL:L.length≤1000):CallT Tryz.prog true 74 [.mu false (List.map PV.str (L)),.pv (.bool (b)),.pv (.str (w))] [none,none,none] [(.sl .own (List.map PV.str (wI L b w)))]:=by
 refine fX tK [6] Tryz.func74 ?_
 cases b with
 |true=>
  have e:wI L true w=L++[w]:=rfl
  rw[e]
  refine lT trivial ?_
  all_goals try(apply aq;repeat' first|exact ao|apply aa|(apply au;intro zb hc)|(apply ar;intro zb)|intro j')<;>try apply aw
 |false=>
  have e:wI L false w=L:=rfl
  rw[e]
  refine lT trivial ?_
  all_goals try(apply aq;repeat' first|exact ao|apply aa|(apply au;intro zb hc)|(apply ar;intro zb)|intro j')<;>try apply aw
theorem eW {m0:Bool} (p:List Int) (hp:p.length≤1048576):Fun Tryz.prog 36 [(.sl (.lent m0) (List.map (PV.int .i64) (p)))] [(.str (AG p))]:=by
 by_cases h:al p=true
 ·have n1:=fq (p:=p) (k:=1)
  have n2:=fq (p:=p) (k:=2)
  have n3:=fq (p:=p) (k:=3)
  have n4:=fq (p:=p) (k:=4)
  have n5:=fq (p:=p) (k:=5)
  have n6:=fq (p:=p) (k:=6)
  have n7:=fq (p:=p) (k:=7)
  have n8:=fq (p:=p) (k:=8)
  have n9:=fq (p:=p) (k:=9)
  have nj:=ul (p:=p)
  have a0:=cd [] (al p&&jx p) [115,105,109,112,108,101] (by decide)
  have a1:=cd (je p 1) (oT p) [115,101,112,97,114,97,98,108,101] (by omega)
  have a2:=cd (je p 2) (mi p) [108,97,121,101,114,101,100] (by omega)
  have a3:=cd (je p 3) (dY p tH) [115,109,111,111,116,104] (by omega)
  have a4:=cd (je p 4) (dY p tm) [118,101,120,105,108,108,97,114,121] (by omega)
  have a5:=cd (je p 5) (dY p uy) [99,111,109,109,117,116,97,116,105,118,101] (by omega)
  have a6:=cd (je p 6) (dY p tI) [109,101,114,103,101,100] (by omega)
  have a7:=cd (je p 7) (ue p) [105,110,118,111,108,117,116,105,111,110] (by omega)
  have a8:=cd (je p 8) (rM p) [97,108,116,101,114,110,97,116,105,110,103] (by omega)
  rw[show wI [] (al p&&jx p) [115,105,109,112,108,101]=je p 1 from rfl]at a0
  rw[show wI (je p 1) (oT p) [115,101,112,97,114,97,98,108,101]=je p 2 from rfl]at a1
  rw[show wI (je p 2) (mi p) [108,97,121,101,114,101,100]=je p 3 from rfl]at a2
  rw[show wI (je p 3) (dY p tH) [115,109,111,111,116,104]=je p 4 from rfl]at a3
  rw[show wI (je p 4) (dY p tm) [118,101,120,105,108,108,97,114,121]=je p 5 from rfl]at a4
  rw[show wI (je p 5) (dY p uy) [99,111,109,109,117,116,97,116,105,118,101]=je p 6 from rfl]at a5
  rw[show wI (je p 6) (dY p tI) [109,101,114,103,101,100]=je p 7 from rfl]at a6
  rw[show wI (je p 7) (ue p) [105,110,118,111,108,117,116,105,111,110]=je p 8 from rfl]at a7
  rw[show wI (je p 8) (rM p) [97,108,116,101,114,110,97,116,105,110,103]=je p 9 from rfl]at a8
  have e:AG p=if je p 9=[]then[45]else Lib.join (je p 9) [32]:=by rw[AG,if_pos h]
  rw[e]
  have cp:=fun m0:Bool=>aD (m0:=m0) p hp
  rw[h]at cp
  simp only[List.map_nil]at a0
  refine fO tK [2] Tryz.func36 ?_
  have cE1:= @aD;have cE2:= @kr;have cE3:= @iI;have cE4:= @jG;have cE5:= @kp;have cE6:= @iH
  have cE7:= @gK;have cE8:= @hU;have cE9:= @hY;have cE10:= @gL;have cE11:= @cH;have cM1:= @cd
  have cE1:= @cp;have cM1:= @a0;have cM2:= @a1;have cM3:= @a2;have cM4:= @a3;have cM5:= @a4
  have cM6:= @a5;have cM7:= @a6;have cM8:= @a7;have cM9:= @a8
  refine aQ trivial ?_
  all_goals try(apply aq;repeat' first|exact ao|apply aa|(apply au;intro zb hc)|(apply ar;intro zb)|intro j')<;>try apply aw
  ·rw[if_pos (ai (by omega))]
  ·rw[if_neg (fun e=>hc (by rw[e];rfl))]
 ·have e:AG p=[]:=by rw[AG,if_neg h]
  rw[e]
  rw[aI]at h
  refine fO tK [2] Tryz.func36 ?_
  have cE1:= @aD;have cE2:= @kr;have cE3:= @iI;have cE4:= @jG;have cE5:= @kp;have cE6:= @iH
  have cE7:= @gK;have cE8:= @hU;have cE9:= @hY;have cE10:= @gL;have cE11:= @cH;have cM1:= @cd
  refine aQ @h ?_
  all_goals try(apply aq;repeat' first|exact ao|apply aa|(apply au;intro zb hc)|(apply ar;intro zb)|intro j')<;>try apply aw
def DT:Nat→FuncId
 |0=>96
 |1=>97
 |2=>98
 |3=>99
 |4=>100
 |5=>101
 |6=>102
 |7=>103
 |_=>104
def fmCs:List PV:=[.str (AF 0),.fn (DT 0) [] [],.str (AF 1),.fn (DT 1) [] [],.str (AF 2),.fn (DT 2) [] [],.str (AF 3),.fn (DT 3) [] [],.str (AF 4),.fn (DT 4) [] [],.str (AF 5),.fn (DT 5) [] [],.str (AF 6),.fn (DT 6) [] [],.str (AF 7),.fn (DT 7) [] [],.str (AF 8),.fn (DT 8) [] []]
theorem vV:fmCs.length=18:=rfl
theorem UE {k:Nat} (hk:k<9):List.take 2 (List.drop (k*2) fmCs)=[.str (AF k),.fn (DT k) [] []]:=by
 obtain rfl|rfl|rfl|rfl|rfl|rfl|rfl|rfl|rfl:k=0∨k=1∨k=2∨k=3∨k=4∨k=5∨k=6∨k=7∨k=8:=by omega
 all_goals rfl
theorem R3:kR Tryz.prog 58=true:=by kernel_rfl
theorem II:PV.cellOk .nilf=true:=_root_.id rfl
theorem IN:PV.cell .nilf=.nilf:=_root_.id rfl
theorem VB {f:FuncId} {a b:List PV}:PV.cell (.fn f a b)=.fn f a b:=_root_.id rfl
attribute [local go_sem] R3 II IN VB
theorem Hz {m0:Bool} {k:Nat} (hk:k<9) (p:List Int) (hp:p.length≤1048576):Fun Tryz.prog (DT k) [.sl (.lent m0) (List.map (PV.int .i64) p)] [.bool (fmP p k)]:=by
 obtain rfl|rfl|rfl|rfl|rfl|rfl|rfl|rfl|rfl:k=0∨k=1∨k=2∨k=3∨k=4∨k=5∨k=6∨k=7∨k=8:=by omega
 ·exact df p hp
 ·exact cO p hp
 ·exact c4 p hp
 ·exact de p hp
 ·exact cN p hp
 ·exact cv p hp
 ·exact cD p hp
 ·exact cE p hp
 ·exact cw p hp
theorem ff {m0:Bool} (p:List Int) (hp:p.length≤1048576):Fun Tryz.prog 50 [(.sl (.lent m0) (List.map (PV.int .i64) (p)))] [(.str (AG p))]:=by
 by_cases h:al p=true
 ·have e:AG p=if je p 9=[]then[45]else Lib.join (je p 9) [32]:=by rw[AG,if_pos h]
  have nj:=ul (p:=p)
  rw[e]
  refine fO bA [2] Tryz.func50 ?_
  have cE1:= @aA;have cE2:= @df;have cE3:= @cO;have cE4:= @c4;have cE5:= @de;have cE6:= @cN
  have cE7:= @cv;have cE8:= @cD;have cE9:= @cE;have cE10:= @cw;have cE11:= @bz
  refine aQ @h ?_
  all_goals try(apply aq;repeat' first|exact ao|apply aa|(apply au;intro zb hc)|(apply ar;intro zb)|intro j')<;>try apply aw
  refine az (fun ms1 S1=>∃(k:Nat),S1.e 0=.p (.sl (.lent m0) (List.map (PV.int .i64) (p)))∧OwnL (S1.e 4) S1.h S1.n PV.str ((je p k).length) (je p k)∧PrsL (S1.e 21) S1.h S1.n (9) (fmCs)∧S1.e 22=.p (.int .i64 (9))∧S1.e 23=.p (.int .i64 (k))∧(k≤9)∧NId (nJ (S1.e 21)) (S1.e 4)∧ms1=9 - k) ((fun(k:Nat)=>9 - k) (0)) ?_ ⟨0,dC trivial ?_⟩
  all_goals try(apply aq;repeat' first|exact ao|apply aa|(apply au;intro zb hc)|(apply ar;intro zb)|intro j')<;>try apply aw
  rintro ms1 S1 ⟨k,h1_0,o1_4,o1_21,h1_22,h1_23,c1_0,u1_0,hm1⟩
  obtain⟨i1_4,h1_4,b1_4,l1_4⟩:=o1_4.out
  obtain⟨i1_21,h1_21,b1_21,l1_21⟩:=o1_21.out
  have k1_0:=(u1_0).out (O0 h1_21) h1_4
  have ni1_4:=bi (x:=i1_4) (n:=S1.n)
  have ni1_21:=bi (x:=i1_21) (n:=S1.n)
  have di1_4i1_21:=ds (x:=i1_4) (y:=i1_21)
  have fL1:=(aa h1_0 (aa h1_22 (aa h1_23 (aa h1_4 (aa b1_4 (aa h1_21 (aa b1_21 (aa ni1_4 (aa ni1_21 di1_4i1_21)))))))))
  ·obtain⟨n1,_⟩:=fq (p:=p) (k:=k)
   by_cases hk:k<9
   ·have e1:=UE hk
    have c9:=fun m0:Bool=>Hz (m0:=m0) hk p hp
    cases hb:fmP p k with
    |true=>
     have e2:je p (k+1)=je p k++[AF k]:=by rw[je,hb];rfl
     have cE1:= @c9;have cE2:= @aA;have cE3:= @df;have cE4:= @cO;have cE5:= @c4;have cE6:= @de
     have cE7:= @cN;have cE8:= @cv;have cE9:= @cD;have cE10:= @cE;have cE11:= @cw;have cE12:= @bz
     refine aQ (aa fL1 (aa @e1 (aa @vV @hb))) ?_
     all_goals try(apply aq;repeat' first|exact ao|apply aa|(apply au;intro zb hc)|(apply ar;intro zb)|intro j')<;>try apply aw
     focus
      refine ay ((fun(k:Nat)=>9 - k) (k+1)) (dC fL1 ?_) ⟨k+1,dC fL1 ?_⟩
      all_goals try(apply aq;repeat' first|exact ao|apply aa|(apply au;intro zb hc)|(apply ar;intro zb)|intro j')<;>try apply aw
     all_goals(first|(rw[e2];done)|(rw[e2,ak];rfl)|skip)
    |false=>
     have e2:je p (k+1)=je p k:=by rw[je,hb];rfl
     have cE1:= @c9;have cE2:= @aA;have cE3:= @df;have cE4:= @cO;have cE5:= @c4;have cE6:= @de
     have cE7:= @cN;have cE8:= @cv;have cE9:= @cD;have cE10:= @cE;have cE11:= @cw;have cE12:= @bz
     refine aQ (aa fL1 (aa @e1 (aa @vV @hb))) ?_
     all_goals try(apply aq;repeat' first|exact ao|apply aa|(apply au;intro zb hc)|(apply ar;intro zb)|intro j')<;>try apply aw
     focus
      refine ay ((fun(k:Nat)=>9 - k) (k+1)) (dC fL1 ?_) ⟨k+1,dC fL1 ?_⟩
      all_goals try(apply aq;repeat' first|exact ao|apply aa|(apply au;intro zb hc)|(apply ar;intro zb)|intro j')<;>try apply aw
     all_goals(first|(rw[e2];done)|skip)
   ·obtain rfl:k=9:=by omega
    have cE1:= @aA;have cE2:= @df;have cE3:= @cO;have cE4:= @c4;have cE5:= @de;have cE6:= @cN
    have cE7:= @cv;have cE8:= @cD;have cE9:= @cE;have cE10:= @cw;have cE11:= @bz;have cE12:=trivial
    refine aQ fL1 ?_
    all_goals try(apply aq;repeat' first|exact ao|apply aa|(apply au;intro zb hc)|(apply ar;intro zb)|intro j')<;>try apply aw
    ·rw[if_pos (ai (by omega))]
    ·rw[if_neg (fun e=>hc (by rw[e];rfl))]
 ·have e:AG p=[]:=by rw[AG,if_neg h]
  rw[e]
  rw[aI]at h
  refine fO bA [2] Tryz.func50 ?_
  have cE1:= @aA;have cE2:= @df;have cE3:= @cO;have cE4:= @c4;have cE5:= @de;have cE6:= @cN
  have cE7:= @cv;have cE8:= @cD;have cE9:= @cE;have cE10:= @cw;have cE11:= @bz
  refine aQ @h ?_
  all_goals try(apply aq;repeat' first|exact ao|apply aa|(apply au;intro zb hc)|(apply ar;intro zb)|intro j')<;>try apply aw
end Go.Gl
namespace Go.Gl
open Go Go.Proofs
variable [Amb] [NoQ]
variable [TabA]
def Iz (t:List UInt8):List UInt8:=if t=[]then[45]else t
theorem Iy {t:List UInt8}:(Iz t).length≤t.length+1:=by unfold Iz;split<;>simp
theorem jA (t:List UInt8) (ht:t.length≤1099511627776):Fun Tryz.prog 38 [(.str (t))] [(.str (Iz t))]:=by
 refine fO bA [2] Tryz.func38 ?_
 by_cases h:t=[]
 ·have e:Iz t=[45]:=if_pos h
  rw[e]
  subst h
  refine aQ trivial ?_
  all_goals try(apply aq;repeat' first|exact ao|apply aa|(apply au;intro zb hc)|(apply ar;intro zb)|intro j')<;>try apply aw
 ·have e:Iz t=t:=if_neg h
  rw[e]
  refine aQ trivial ?_
  all_goals try(apply aq;repeat' first|exact ao|apply aa|(apply au;intro zb hc)|(apply ar;intro zb)|intro j')<;>try apply aw
  all_goals(first|(exact absurd hc h)|skip)
def AT (p:List Int):List (List UInt8):=[[116,114,101,101],Iz (pt p),[100,101,115,99,101,110,116,115],kU (xI p),[105,110,118,101,114,115,105,111,110,115],gb (fv p p.length),[109,97,106,111,114],gb (C6 p),[99,121,99,108,101,115],gb (El p),[117,112],gb (pV p),[100,111,119,110],gb (rv p),[115,116,97,99,107],gb (tt oH p),[112,111,112],gb (tt nW p),[99,111,100,101],kU (bS p),AG p]
def JE (p:List Int):List UInt8:=if al p=true then Lib.join (AT p) [32]else[]
omit [TabA]in
theorem Of {p:List Int} (h:al p=true):(0≤fv p p.length∧fv p p.length≤64)∧(-1≤pV p∧pV p≤8)∧(-1≤rv p∧rv p≤8)∧(∀x∈xI p, -9223372036854775808≤x∧x≤9223372036854775807)∧(bS p).length≤8∧∀x∈bS p, -9223372036854775808≤x∧x≤9223372036854775807:=by
 obtain⟨h8,hq⟩:=aK h
 refine⟨?_, ?_, ?_,fun x hx=>by have:=dsL_f.2 x hx;omega,by rw[jC];exact h8,fun x hx=> ?_⟩
 ·have h1:=DE (p:=p) (k:=p.length) (am _)
  have i2:p.length*p.length≤64:=Nat.mul_le_mul h8 h8
  omega
 ·have:=Jo h8
  rw[pV,if_pos h];omega
 ·have:=Jo (p:=p.reverse) (by rw[aG];exact h8)
  rw[rv,if_pos h];omega
 ·obtain⟨i,hi,rfl⟩:=bh hx
  have:=oC p i
  rw[ac,ae hi]at this
  simp only[Option.getD_some]at this;omega
theorem Vj {p:List Int} (h:al p=true):(kU (xI p)).length≤177∧(kU (bS p)).length≤177∧(gb (fv p p.length)).length≤21∧(gb (C6 p)).length≤21∧(gb (El p)).length≤21∧(gb (pV p)).length≤21∧(gb (rv p)).length≤21∧(gb (tt oH p)).length≤21∧(gb (tt nW p)).length≤21∧(AG p).length≤108∧(Iz (pt p)).length≤1300000001:=by
 obtain⟨i1,i2,i3,i4,i5,i6⟩:=Of h
 have m1:=C5 (p:=p)
 have m2:=Ek (p:=p)
 have m3:=sn (f:=oH) (p:=p)
 have m4:=sn (f:=nW) (p:=p)
 have n1:=nh i4
 have n2:=nh i6
 have n3:=(dsL_f (p:=p)).1
 have t1:=tq (p:=p)
 have t2:=Iy (t:=pt p)
 refine⟨by omega,by omega,gQ (by omega) (by omega),gQ (by omega) (by omega),gQ (by omega) (by omega),gQ (by omega) (by omega),gQ (by omega) (by omega),gQ (by omega) (by omega),gQ (by omega) (by omega), ?_,by omega⟩
 rw[AG,if_pos h]
 split
 ·exact(by decide:([45]:List UInt8).length≤108)
 ·exact ul
theorem aaE {p:List Int} (h:al p=true):(Lib.join (AT p) [32]).length≤1099511627776:=by
 obtain⟨l1,l2,l3,l4,l5,l6,l7,l8,l9,l10,l11⟩:=Vj h
 have:=fE (sep:=[32]) (n:=1300000001) (l:=AT p) fun x hx=>by
  simp only[AT,List.mem_cons,List.not_mem_nil,or_false]at hx
  rcases hx with rfl|rfl|rfl|rfl|rfl|rfl|rfl|rfl|rfl|rfl|rfl|rfl|rfl|rfl|rfl|rfl|rfl|rfl|rfl|rfl|rfl<;>first|omega|(simp only[aC,List.length_nil];omega)
 have e:(AT p).length=21:=rfl
 rw[e]at this
 simp only[List.length_singleton]at this;omega
theorem fg {m0:Bool} (p:List Int) (hl:p.length≤1048576):Fun Tryz.prog 7 [(.sl (.lent m0) (List.map (PV.int .i64) (p)))] [(.str (JE p))]:=by
 by_cases h:al p=true
 ·obtain⟨i1,i2,i3,i4,i5,i6⟩:=Of h
  have m1:=C5 (p:=p)
  have m2:=Ek (p:=p)
  have m3:=sn (f:=oH) (p:=p)
  have m4:=sn (f:=nW) (p:=p)
  have n3:=(dsL_f (p:=p)).1
  have t1:=tq (p:=p)
  have j1:=aaE h
  have f1:(if al p=true then fv p p.length else -1)=fv p p.length:=if_pos h
  have f2:WX p=bS p:=if_pos h
  have e:JE p=Lib.join (AT p) [32]:=if_pos h
  have cj:=fun m0:Bool=>bz (m0:=m0) (AT p) [32] (by rw[show(AT p).length=21 from rfl];decide) j1
  simp only[AT,List.map_cons,List.map_nil]at cj
  rw[e,AT]
  refine fO bA [2] Tryz.func7 ?_
  have cE1:= @aA;have cE2:= @gW;have cE3:= @jA;have cE4:= @di;have cE5:= @cq;have cE6:= @dK
  have cE7:= @eK;have cE8:= @iS;have cE9:= @fx;have cE10:= @gC;have cE11:= @fw;have cE12:= @f9
  have cE13:= @gX;have cE14:= @jB;have cE15:= @ff;have cE16:= @bz
  have cE1:= @cj;have cE2:= @aA;have cE3:= @gW;have cE4:= @jA;have cE5:= @di;have cE6:= @cq
  have cE7:= @dK;have cE8:= @eK;have cE9:= @iS;have cE10:= @fx;have cE11:= @gC;have cE12:= @fw
  have cE13:= @f9;have cE14:= @gX;have cE15:= @jB;have cE16:= @ff
  refine aQ (aa @h (aa @f1 @f2)) ?_
  all_goals try(apply aq;repeat' first|exact ao|apply aa|(apply au;intro zb hc)|(apply ar;intro zb)|intro j')<;>try apply aw
 ·have e:JE p=[]:=if_neg h
  rw[e]
  rw[aI]at h
  refine fO bA [2] Tryz.func7 ?_
  have cE1:= @aA;have cE2:= @gW;have cE3:= @jA;have cE4:= @di;have cE5:= @cq;have cE6:= @dK
  have cE7:= @eK;have cE8:= @iS;have cE9:= @fx;have cE10:= @gC;have cE11:= @fw;have cE12:= @f9
  have cE13:= @gX;have cE14:= @jB;have cE15:= @ff;have cE16:= @bz
  refine aQ @h ?_
  all_goals try(apply aq;repeat' first|exact ao|apply aa|(apply au;intro zb hc)|(apply ar;intro zb)|intro j')<;>try apply aw
theorem eX {m0:Bool} (p:List Int) (hl:p.length≤1048576):Fun Tryz.prog 5 [(.sl (.lent m0) (List.map (PV.int .i64) (p)))] [(.str (JE p))]:=by
 by_cases h:al p=true
 ·obtain⟨i1,i2,i3,i4,i5,i6⟩:=Of h
  obtain⟨l1,l2,l3,l4,l5,l6,l7,l8,l9,l10,l11⟩:=Vj h
  have m1:=C5 (p:=p)
  have m2:=Ek (p:=p)
  have m3:=sn (f:=oH) (p:=p)
  have m4:=sn (f:=nW) (p:=p)
  have n3:=(dsL_f (p:=p)).1
  have t1:=tq (p:=p)
  have f1:(if al p=true then fv p p.length else -1)=fv p p.length:=if_pos h
  have f2:(if al p=true then bS p else[])=bS p:=if_pos h
  have e:JE p=Lib.join (AT p) [32]:=if_pos h
  rw[e,AT]
  simp only[Lib.join_cons,Lib.joinTail,List.map_cons,List.map_nil,List.flatten_cons,List.flatten_nil,aN]
  by_cases h0:pt p=[]
  ·have f3:Iz (pt p)=[45]:=if_pos h0
   rw[f3]
   refine fO bA [2] Tryz.func5 ?_
   have cE1:= @aD;have cE2:= @gS;have cE3:= @dg;have cE4:= @ck;have cE5:= @dB;have cE6:= @dt
   have cE7:= @iG;have cE8:= @fu;have cE9:= @gv;have cE10:= @ft;have cE11:= @fR;have cE12:= @gT
   have cE13:= @jw;have cE14:= @eW
   refine aQ (aa @h (aa @f1 (aa @f2 @h0))) ?_
   all_goals try(apply aq;repeat' first|exact ao|apply aa|(apply au;intro zb hc)|(apply ar;intro zb)|intro j')<;>try apply aw
  ·have f3:Iz (pt p)=pt p:=if_neg h0
   have f4:(pt p=[])=False:=eq_false h0
   rw[f3]
   refine fO bA [2] Tryz.func5 ?_
   have cE1:= @aD;have cE2:= @gS;have cE3:= @dg;have cE4:= @ck;have cE5:= @dB;have cE6:= @dt
   have cE7:= @iG;have cE8:= @fu;have cE9:= @gv;have cE10:= @ft;have cE11:= @fR;have cE12:= @gT
   have cE13:= @jw;have cE14:= @eW
   refine aQ (aa @h (aa @f1 (aa @f2 @f4))) ?_
   all_goals try(apply aq;repeat' first|exact ao|apply aa|(apply au;intro zb hc)|(apply ar;intro zb)|intro j')<;>try apply aw
 ·have e:JE p=[]:=if_neg h
  rw[e]
  rw[aI]at h
  refine fO bA [2] Tryz.func5 ?_
  have cE1:= @aD;have cE2:= @gS;have cE3:= @dg;have cE4:= @ck;have cE5:= @dB;have cE6:= @dt
  have cE7:= @iG;have cE8:= @fu;have cE9:= @gv;have cE10:= @ft;have cE11:= @fR;have cE12:= @gT
  have cE13:= @jw;have cE14:= @eW
  refine aQ @h ?_
  all_goals try(apply aq;repeat' first|exact ao|apply aa|(apply au;intro zb hc)|(apply ar;intro zb)|intro j')<;>try apply aw
end Go.Gl
namespace Go.Gl
open Go Go.Proofs
variable [Amb] [NoQ]
variable [TabA]
omit [TabA]in
theorem txE {a:List UInt8}:decide (a=a)=true:=by simp
omit [TabA]in
theorem Vk {p:List Int}:decide (JE p=[])= !al p:=by
 unfold JE
 cases h:al p with
 |true=>rw[if_pos rfl];simp[AT,Lib.join_cons]
 |false=>rw[if_neg (by decide)];rfl
omit [TabA]in
theorem No:∀i:Nat,i<12→(gb ((i:Int) - 1)).length≠0∧((gb ((i:Int) - 1)).getD 0 0≠45∨2≤(gb ((i:Int) - 1)).length):=by decide+kernel
omit [TabA]in
theorem Ly {l:List Int} (hb:∀x∈l, -1≤x∧x≤10):decide (kU l=[45])=decide ((l.length:Int)=0):=by
 unfold kU
 match l,hb with
 |[],_=>simp
 |x::r,hb=>
  have hx:=hb x List.mem_cons_self
  obtain⟨i,rfl⟩:∃i:Nat,x=(i:Int) - 1:=⟨(x+1).toNat,by omega⟩
  obtain⟨h1,h2⟩:=No i (by omega)
  have e1:decide ((((((i:Int) - 1)::r).length:Nat):Int)=0)=false:=decide_eq_false (by simp only[aC];omega)
  rw[e1,if_neg (by simp),decide_eq_false_iff_not,gP,List.map_cons,Lib.join_cons]
  intro e
  cases hf:gb ((i:Int) - 1)with
  |nil=>rw[hf]at h1;exact h1 rfl
  |cons c t=>
   rw[hf]at e h2
   rw[List.cons_append]at e
   injection e with e2 e3
   rcases h2 with g|g
   ·exact g e2
   ·have:=congrArg List.length e3
    simp only[ak,List.length_nil,aC]at this g;omega
theorem Av (b:List UInt8):Fun Tryz.prog 4 [(.sl (.lent false) (List.map kA (b)))] [(.bool (true))]:=by
 by_cases hs:b.length≤1048576
 ·obtain⟨p,d1,hp⟩:=jI b hs
  obtain⟨L,d2,l1,l2⟩:=kH b hs
  obtain⟨n,d3,hn⟩:=j6 b hs
  obtain⟨T,d4,hT⟩:=j5 b hs
  have n1:=hn.len
  have n2:∀x∈n, -9223372036854775808≤x∧x≤9223372036854775807:=fun x hx=>by have:=hn.rg x hx;omega
  have t1:=hT.len
  have t2:∀l∈T,l.length≤1048576:=fun l hl=>by have:=hT.row l hl;omega
  have t3:∀l∈T,∀x∈l, -9223372036854775808≤x∧x≤9223372036854775807:=fun l hl x hx=>by have:=hT.rg l hl x hx;omega
  have t4:mO (T.map List.length)≤1048576:=by
   have:=mN (B:=8) (l:=T.map List.length) fun x hx=>by
    obtain⟨l,hl,rfl⟩:=List.mem_map.1 hx
    exact hT.row l hl
   rw[an]at this;omega
  have l3:∀l∈L,l.length≤1048576:=fun l hl=>by have:=l2 l hl;omega
  have e1:=Vk (p:=p)
  have e2:=Ly hn.rg
  refine fO bA [2] Tryz.func4 ?_
  have cE1:= @ml;have cE2:= @fg;have cE3:= @eX;have cE4:= @eJ;have cE5:= @eD;have cE6:= @cq
  have cE7:= @ck;have cE8:= @co;have cE9:= @ch;have cE10:= @ez;have cE11:= @ee;have cE12:= @fd
  have cE13:= @eR;have cE14:= @aD
  have cE1:= @d1;have cE2:= @d2;have cE3:= @d3;have cE4:= @d4;have cE5:= @ml;have cE6:= @fg
  have cE7:= @eX;have cE8:= @eJ;have cE9:= @eD;have cE10:= @cq;have cE11:= @ck;have cE12:= @co
  have cE13:= @ch;have cE14:= @ez;have cE15:= @ee;have cE16:= @fd;have cE17:= @eR;have cE18:= @aD
  refine aQ (aa @txE (aa @e1 @e2)) ?_
  all_goals try(apply aq;repeat' first|exact ao|apply aa|(apply au;intro zb hc)|(apply ar;intro zb)|intro j')<;>try apply aw
  ·simp
  ·exfalso;revert hc;cases al p<;>decide
 ·refine fO bA [2] Tryz.func4 ?_
  have cE1:= @ml;have cE2:= @fg;have cE3:= @eX;have cE4:= @eJ;have cE5:= @eD;have cE6:= @cq
  have cE7:= @ck;have cE8:= @co;have cE9:= @ch;have cE10:= @ez;have cE11:= @ee;have cE12:= @fd
  have cE13:= @eR;have cE14:= @aD
  have c1:decide ((1048576:Int)<b.length)=true:=decide_eq_true (by omega)
  refine dE @c1 ?_
  all_goals try(apply aq;repeat' first|exact ao|apply aa|(apply au;intro zb hc)|(apply ar;intro zb)|intro j')<;>try apply aw
end Go.Gl
