/-
  What the functions compute, and what the law asks of it: texts joined. Conditions: those that each lemma names.
-/
import Derived.Test.YtbppfpdgahopeaaGreatDoorT2
import Derived.Test.YtbppfpdgahopeaaGreatDoorT1
import Derived.Test.YtbppfpdgahopeaaGreatDoorT5
import Derived.Test.YtbppfpdgahopeaaGreatDoorT3
import Derived.Test.YtbppfpdgahopeaaGreatDoorGlC
set_option linter.unusedSimpArgs false
set_option linter.unusedVariables false
set_option maxRecDepth 20000
set_option linter.unusedSectionVars false
set_option maxHeartbeats 16000000
namespace Go.Gl
open Go Go.Proofs
variable [Amb] [NoQ]
def AM (s:List UInt8):List Int:=s.map fun c=>(c.toNat:Int) - 48
def rC (s:List UInt8):Bool:=decide (s=[45])||(!decide (s=[])&&ae (AM s))
def dQ (s:List UInt8):List Int:=if s=[45]then[]else if rC s=true then AM s else[]
theorem vN {s:List UInt8} {k:Nat} (h:k<s.length):AM (s.take (k+1))=AM (s.take k)++[((s.getD k 0).toNat:Int) - 48]:=by
 rw[az (d:=0) h,AM,List.map_append];rfl
theorem pe {s:List UInt8}:(AM s).length=s.length:=by simp[AM]
theorem bg (s:List UInt8) (hl:s.length≤1048576):Fun Tryz.prog 148 [(.str (s))] [(.sl .own (List.map (PV.int .i64) (dQ s))),(.bool (rC s))]:=by
 refine fO aR [2,3] Tryz.func148 ?_
 have cE1:= @aq
 refine ax trivial ?_
 all_goals try(apply ai;repeat' first|exact ah|apply aa|(apply ak;intro zb hc;repeat (have zc:=zb.1;replace zb:=zb.2))|(apply aj;intro zb)|intro j')<;>try apply al
 ·subst hc;rfl
 ·subst hc;rfl
 ·have hn:=hc
  refine an (fun ms1 S1=>∃(k:Nat),S1.e 0=.p (.str (s))∧OwnL (S1.e 4) S1.h S1.n (PV.int .i64) ((AM (s.take k)).length) (AM (s.take k))∧S1.e 5=.p (.int .i64 (k))∧(k≤s.length)∧ms1=s.length - k) ((fun(k:Nat)=>s.length - k) (0)) ?_ ⟨0,dC trivial ?_⟩
  all_goals try(apply ai;repeat' first|exact ah|apply aa|(apply ak;intro zb hc;repeat (have zc:=zb.1;replace zb:=zb.2))|(apply aj;intro zb)|intro j')<;>try apply al
  rintro ms1 S1 ⟨k,h1_0,o1_4,h1_5,c1_0,hm1⟩
  obtain⟨i1_4,h1_4,b1_4,l1_4⟩:=o1_4.out
  have ni1_4:=aG (x:=i1_4) (n:=S1.n)
  have fL1:=(aa h1_0 (aa h1_5 (aa h1_4 (aa b1_4 ni1_4))))
  have b1:=pe (s:=s.take k)
  rw[List.length_take]at b1
  have b2:=pe (s:=s)
  have b3:(s.getD k 0).toNat<256:=(s.getD k 0).toNat_lt
  have b4:=vN (s:=s) (k:=k)
  by_cases hk:k<s.length
  ·have u5:(Tryz.prog.underlying 5).isSome=true:=by kernel_rfl
   refine dE (aa fL1 @u5) ?_
   all_goals try(apply ai;repeat' first|exact ah|apply aa|(apply ak;intro zb hc;repeat (have zc:=zb.1;replace zb:=zb.2))|(apply aj;intro zb)|intro j')<;>try apply al
   all_goals try (rw[iN];omega)
   all_goals try exact gZ
   focus
    refine am ((fun(k:Nat)=>s.length - k) (k+1)) (dC fL1 ?_) ⟨k+1,dC fL1 ?_⟩
    all_goals try(apply ai;repeat' first|exact ah|apply aa|(apply ak;intro zb hc;repeat (have zc:=zb.1;replace zb:=zb.2))|(apply aj;intro zb)|intro j')<;>try apply al
   all_goals first|(rw[b4 hk];done)|(rw[b4 hk];simp;done)
  ·rw[List.take_of_length_le (by omega)]at*
   refine ax fL1 ?_
   all_goals try(apply ai;repeat' first|exact ah|apply aa|(apply ak;intro zb hc;repeat (have zc:=zb.1;replace zb:=zb.2))|(apply aj;intro zb)|intro j')<;>try apply al
   all_goals(simp_all [dQ,rC];done)
theorem cz (s:List UInt8) (hl:s.length≤1048576):Fun Tryz.prog 177 [(.str (s))] [(.sl .own (List.map (PV.int .i64) (dQ s))),(.bool (rC s))]:=by
 refine fO aR [2,3] Tryz.func177 ?_
 have cE1:= @ao
 refine ax trivial ?_
 all_goals try(apply ai;repeat' first|exact ah|apply aa|(apply ak;intro zb hc;repeat (have zc:=zb.1;replace zb:=zb.2))|(apply aj;intro zb)|intro j')<;>try apply al
 ·subst hc;rfl
 ·subst hc;rfl
 ·have hn:=hc
  refine an (fun ms1 S1=>∃(k:Nat),S1.e 0=.p (.str (s))∧OwnL (S1.e 4) S1.h S1.n (PV.int .i64) ((AM (s.take k)).length) (AM (s.take k))∧S1.e 11=.p (.int .i64 (s.length))∧S1.e 12=.p (.int .i64 (k))∧(k≤s.length)∧ms1=s.length - k) ((fun(k:Nat)=>s.length - k) (0)) ?_ ⟨0,dC trivial ?_⟩
  all_goals try(apply ai;repeat' first|exact ah|apply aa|(apply ak;intro zb hc;repeat (have zc:=zb.1;replace zb:=zb.2))|(apply aj;intro zb)|intro j')<;>try apply al
  rintro ms1 S1 ⟨k,h1_0,o1_4,h1_11,h1_12,c1_0,hm1⟩
  obtain⟨i1_4,h1_4,b1_4,l1_4⟩:=o1_4.out
  have ni1_4:=aG (x:=i1_4) (n:=S1.n)
  have fL1:=(aa h1_0 (aa h1_11 (aa h1_12 (aa h1_4 (aa b1_4 ni1_4)))))
  have b1:=pe (s:=s.take k)
  rw[List.length_take]at b1
  have b2:=pe (s:=s)
  have b3:(s.getD k 0).toNat<256:=(s.getD k 0).toNat_lt
  have b4:=vN (s:=s) (k:=k)
  by_cases hk:k<s.length
  ·have u5:(Tryz.prog.underlying 5).isSome=true:=by kernel_rfl
   refine dE (aa fL1 @u5) ?_
   all_goals try(apply ai;repeat' first|exact ah|apply aa|(apply ak;intro zb hc;repeat (have zc:=zb.1;replace zb:=zb.2))|(apply aj;intro zb)|intro j')<;>try apply al
   all_goals try (rw[iN];omega)
   all_goals try exact gZ
   focus
    refine am ((fun(k:Nat)=>s.length - k) (k+1)) (dC fL1 ?_) ⟨k+1,dC fL1 ?_⟩
    all_goals try(apply ai;repeat' first|exact ah|apply aa|(apply ak;intro zb hc;repeat (have zc:=zb.1;replace zb:=zb.2))|(apply aj;intro zb)|intro j')<;>try apply al
   all_goals first|(rw[b4 hk];done)|(rw[b4 hk];simp;done)
  ·rw[List.take_of_length_le (by omega)]at*
   refine ax fL1 ?_
   all_goals try(apply ai;repeat' first|exact ah|apply aa|(apply ak;intro zb hc;repeat (have zc:=zb.1;replace zb:=zb.2))|(apply aj;intro zb)|intro j')<;>try apply al
   all_goals(simp_all [dQ,rC];done)
def ze (c:UInt8):List UInt8→List UInt8→List (List UInt8)
 |[],cur=>[cur]
 |x::s,cur=>if x=c then cur::ze c s []else ze c s (cur++[x])
def aS (c:UInt8) (s:List UInt8):List (List UInt8):=ze c s []
theorem oW {c:UInt8}:∀{s cur:List UInt8},(ze c s cur).length≤s.length+1
 |[],_=>by simp[ze]
 |x::s,cur=>by
  rw[ze];split
  ·have:=oW (c:=c) (s:=s) (cur:=[]);simp;omega
  ·have:=oW (c:=c) (s:=s) (cur:=cur++[x]);simp;omega
theorem wj {s:List UInt8} {f k:Nat} (h:k<s.length) (hf:f≤k):(s.take (k+1)).drop f=(s.take k).drop f++[s.getD k 0]:=by
 rw[az (d:=0) h,List.drop_append_of_le_length (by simp;omega)]
theorem bf (s:List UInt8) (c:UInt8) (hl:s.length≤1048576):Fun Tryz.prog 189 [(.str (s)),(.int .u8 ((c.toNat:Int)))] [(.sl .own (List.map PV.str (aS c s)))]:=by
 refine fO aR [4] Tryz.func189 ?_
 refine ax trivial ?_
 all_goals try(apply ai;repeat' first|exact ah|apply aa|(apply ak;intro zb hc)|(apply aj;intro zb)|intro j')<;>try apply al
 refine an (fun ms1 S1=>∃(k:Nat) (f:Nat) (out:List (List UInt8)),S1.e 0=.p (.str (s))∧S1.e 1=.p (.int .u8 ((c.toNat:Int)))∧OwnL (S1.e 5) S1.h S1.n PV.str ((out).length) (out)∧S1.e 6=.p (.int .i64 (f))∧S1.e 7=.p (.int .i64 (k))∧(k≤s.length+1)∧(f≤k)∧(out.length≤k)∧(k≤s.length→out++ze c (s.drop k) ((s.take k).drop f)=aS c s)∧(k=s.length+1→out=aS c s)∧ms1=s.length+1 - k) ((fun(k:Nat) (f:Nat) (out:List (List UInt8))=>s.length+1 - k) (0) (0) ([])) ?_ ⟨0,0,[],jK trivial ?_⟩
 all_goals try(apply ai;repeat' first|exact ah|apply aa|(apply ak;intro zb hc)|(apply aj;intro zb)|intro j')<;>try apply al
 rintro ms1 S1 ⟨k,f,out,h1_0,h1_1,o1_5,h1_6,h1_7,c1_0,c1_1,c1_2,c1_3,c1_4,hm1⟩
 obtain⟨i1_5,h1_5,b1_5,l1_5⟩:=o1_5.out
 have ni1_5:=aG (x:=i1_5) (n:=S1.n)
 have fL1:=(aa h1_0 (aa h1_1 (aa h1_6 (aa h1_7 (aa h1_5 (aa b1_5 ni1_5))))))
 have d1:=fun h=>H3 (s:=s) (k:=k) h
 have d2:f≤k→k<s.length→(s.take (k+1)).drop f=(s.take k).drop f++[s.getD k 0]:=fun a b=>wj b a
 refine ax fL1 ?_
 all_goals try(apply ai;repeat' first|exact ah|apply aa|(apply ak;intro zb hc)|(apply aj;intro zb)|intro j')<;>try apply al
 ·have e:s.getD k 0=c:=UInt8.toNat_inj.1 (by omega)
  focus
   refine am ((fun(k:Nat) (f:Nat) (out:List (List UInt8))=>s.length+1 - k) (k+1) (k+1) (out++[(s.take k).drop f])) (dC fL1 ?_) ⟨k+1,k+1,out++[(s.take k).drop f],dC fL1 ?_⟩
   all_goals try(apply ai;repeat' first|exact ah|apply aa|(apply ak;intro zb hc)|(apply aj;intro zb)|intro j')<;>try apply al
  ·intro _
   have:=c1_3 (by omega)
   rw[d1 (by omega),ze,if_pos e]at this
   rw[←this,show(s.take (k+1)).drop (k+1)=[]from List.drop_of_length_le (by simp;omega)]
 ·have e:¬s.getD k 0=c:=fun e=>hc (by rw[e])
  focus
   refine am ((fun(k:Nat) (f:Nat) (out:List (List UInt8))=>s.length+1 - k) (k+1) (f) (out)) (dC fL1 ?_) ⟨k+1,f,out,dC fL1 ?_⟩
   all_goals try(apply ai;repeat' first|exact ah|apply aa|(apply ak;intro zb hc)|(apply aj;intro zb)|intro j')<;>try apply al
  ·intro _
   have:=c1_3 (by omega)
   rw[d1 (by omega),ze,if_neg e]at this
   rw[d2 (by omega) (by omega)];exact this
 ·focus
   refine am ((fun(k:Nat) (f:Nat) (out:List (List UInt8))=>s.length+1 - k) (k+1) (k+1) (out++[(s.take k).drop f])) (dC fL1 ?_) ⟨k+1,k+1,out++[(s.take k).drop f],dC fL1 ?_⟩
   all_goals try(apply ai;repeat' first|exact ah|apply aa|(apply ak;intro zb hc)|(apply aj;intro zb)|intro j')<;>try apply al
  ·intro _
   have:=c1_3 (by omega)
   rw[List.drop_of_length_le (by omega),ze]at this
   exact this
 ·exact c1_4 (by omega)
 ·rfl
def ot (L:List Int) (i:Nat):List Int:=(List.range L.length).map fun q=>if q<i∨L.length≤q+i then L.getD (L.length - 1 - q) 0 else L.getD q 0
theorem revK_len {L:List Int} {i:Nat}:(ot L i).length=L.length:=by simp[ot]
theorem jh {L:List Int} {i q:Nat}:(ot L i)[q]? =if q<L.length then some (if q<i∨L.length≤q+i then L.getD (L.length - 1 - q) 0 else L.getD q 0)else none:=by
 unfold ot
 rw[List.getElem?_map]
 by_cases h:q<L.length
 ·rw[if_pos h,List.getElem?_range h];rfl
 ·rw[if_neg h,List.getElem?_eq_none (by simp;omega)];rfl
theorem si {L:List Int} {i:Nat} (h:i<L.length):L[i]? =some (L.getD i 0):=by
 rw[List.getD_eq_getElem?_getD,List.getElem?_eq_getElem h];rfl
theorem revK_0 {L:List Int}:ot L 0=L:=by
 apply List.ext_getElem?;intro q
 rw[jh]
 by_cases h:q<L.length
 ·rw[if_pos h,if_neg (by omega),si h]
 ·rw[if_neg h,List.getElem?_eq_none (by omega)]
theorem B2 {L:List Int} {i:Nat} (h1:2*i≤L.length) (h2:L.length≤2*i+1):ot L i=L.reverse:=by
 apply List.ext_getElem?;intro q
 rw[jh]
 by_cases h:q<L.length
 ·rw[if_pos h,List.getElem?_reverse h,si (by omega)]
  by_cases e:q<i∨L.length≤q+i
  ·rw[if_pos e]
  ·rw[if_neg e,show L.length - 1 - q=q by omega]
 ·rw[if_neg h,List.getElem?_eq_none (by simp;omega)]
theorem Fc {L:List Int} {i:Nat} (h:2*i+1<L.length):(ot L i).getD i 0=L.getD i 0∧(ot L i).getD (L.length - 1 - i) 0=L.getD (L.length - 1 - i) 0:=by
 constructor
 ·rw[List.getD_eq_getElem?_getD,jh,if_pos (by omega),if_neg (by omega)];rfl
 ·rw[List.getD_eq_getElem?_getD,jh,if_pos (by omega),if_neg (by omega)];rfl
theorem zk {L:List Int} {i:Nat} (h:2*i+1<L.length):((ot L i).set i (L.getD (L.length - 1 - i) 0)).set (L.length - 1 - i) (L.getD i 0)=ot L (i+1):=by
 apply List.ext_getElem?;intro q
 rw[List.getElem?_set,List.getElem?_set,List.length_set,revK_len,jh,jh]
 by_cases e1:L.length - 1 - i=q
 ·rw[if_pos e1,if_pos (by omega),if_pos (by omega),if_pos (by omega),←e1,show L.length - 1 - (L.length - 1 - i)=i by omega]
 ·rw[if_neg e1]
  by_cases e2:i=q
  ·subst e2;rw[if_pos rfl,if_pos (by omega),if_pos (by omega),if_pos (by omega)]
  ·rw[if_neg e2]
   by_cases hq:q<L.length
   ·rw[if_pos hq,if_pos hq]
    by_cases e3:q<i∨L.length≤q+i
    ·rw[if_pos e3,if_pos (by omega)]
    ·rw[if_neg e3,if_neg (by omega)]
   ·rw[if_neg hq,if_neg hq]
theorem cN (L:List Int) (hL:L.length≤1048576):CallT Tryz.prog false 133 [.mu false (List.map (PV.int .i64) (L))] [some (List.map (PV.int .i64) (L.reverse))] []:=by
 refine fX aR [] Tryz.func133 ?_
 have cD1:=gY [false,false,false,false,false,false,false,false,false,false,false,false,false,true,false,true] [(2,13),(3,13)]
 refine ax trivial ?_
 all_goals try(apply ai;repeat' first|exact ah|apply aa|(apply ak;intro zb hc)|(apply aj;intro zb)|intro j')<;>try apply al
 refine an (fun ms1 S1=>∃(i:Nat),S1.e 0=.ref 0 0 (ot L i).length∧S1.h 0=.live true (List.map (PV.int .i64) (ot L i))∧0<S1.n∧S1.e 2=.p (.int .i64 (i))∧S1.e 3=.p (.int .i64 (((L.length:Int) - 1 - i)))∧(2*i≤L.length)∧ms1=L.length - i) ((fun(i:Nat)=>L.length - i) (0)) ?_ ⟨0,dC trivial ?_⟩
 all_goals try(apply ai;repeat' first|exact ah|apply aa|(apply ak;intro zb hc)|(apply aj;intro zb)|intro j')<;>try apply al
 rintro ms1 S1 ⟨i,h1_0,b1_0,l1_0,h1_2,h1_3,c1_0,hm1⟩
 have n0:=aG (x:=0) (n:=S1.n)
 have fL1:=(aa h1_0 (aa b1_0 (aa h1_2 (aa h1_3 n0))))
 ·have e0:=revK_len (L:=L) (i:=i)
  by_cases hi:2*i+1<L.length
  ·have e1:=Fc hi
   have e2:=zk hi
   have e3:((L.length:Int) - 1 - i).toNat=L.length - 1 - i:=by omega
   refine ax (aa fL1 (aa @e0 (aa e1.1 (aa e1.2 (aa @e2 @e3))))) ?_
   all_goals try(apply ai;repeat' first|exact ah|apply aa|(apply ak;intro zb hc)|(apply aj;intro zb)|intro j')<;>try apply al
   focus
    refine am ((fun(i:Nat)=>L.length - i) (i+1)) (dC fL1 ?_) ⟨i+1,dC fL1 ?_⟩
    all_goals try(apply ai;repeat' first|exact ah|apply aa|(apply ak;intro zb hc)|(apply aj;intro zb)|intro j')<;>try apply al
   all_goals first|omega|(rw[e0,revK_len];done)
  ·have e2:=B2 c1_0 (by omega)
   refine ax (aa fL1 (aa @e0 @e2)) ?_
   all_goals try(apply ai;repeat' first|exact ah|apply aa|(apply ak;intro zb hc)|(apply aj;intro zb)|intro j')<;>try apply al
 ·exact revK_len.symm
 ·exact revK_0.symm
def pH:FuncId→List Bool:=fun f=>if f=133 then[true]else[]
theorem BN {f:FuncId}:pH f=if f=133 then[true]else[]:=_root_.id rfl
theorem yW:fJ pH=false∧ga pH=false∧f9 pH=false∧f8 pH=false∧gb pH=false:=⟨rfl,rfl,rfl,rfl,rfl⟩
attribute [go_sem] BN yW
theorem fy {m0:Bool} (p:List Int) (hl:p.length≤1048576):Fun Tryz.prog 91 [(.sl (.lent m0) (List.map (PV.int .i64) (p)))] [(.sl .own (List.map (PV.int .i64) (p.reverse)))]:=by
 refine fO pH [2] Tryz.func91 ?_
 have cE1:= @bS;have cM1:= @cN
 have e1:p.reverse.length=p.length:=List.length_reverse
 have e2:List.take p.length p.reverse=p.reverse:=List.take_of_length_le (by omega)
 refine ax (aa @e1 @e2) ?_
 all_goals try(apply ai;repeat' first|exact ah|apply aa|(apply ak;intro zb hc)|(apply aj;intro zb)|intro j')<;>try apply al
theorem aT {m0:Bool} (p:List Int) (hl:p.length≤1048576):Fun Tryz.prog 70 [(.sl (.lent m0) (List.map (PV.int .i64) (p)))] [(.sl .own (List.map (PV.int .i64) (p.reverse)))]:=by
 refine fO aR [2] Tryz.func70 ?_
 refine ax trivial ?_
 all_goals try(apply ai;repeat' first|exact ah|apply aa|(apply ak;intro zb hc)|(apply aj;intro zb)|intro j')<;>try apply al
 refine an (fun ms1 S1=>∃(k:Nat),S1.e 0=.p (.sl (.lent m0) (List.map (PV.int .i64) (p)))∧OwnL (S1.e 3) S1.h S1.n (PV.int .i64) (((p.drop k).reverse).length) ((p.drop k).reverse)∧S1.e 4=.p (.int .i64 (((k:Int) - 1)))∧(k≤p.length)∧ms1=k) ((fun(k:Nat)=>k) (p.length)) ?_ ⟨p.length,dC trivial ?_⟩
 all_goals try(apply ai;repeat' first|exact ah|apply aa|(apply ak;intro zb hc)|(apply aj;intro zb)|intro j')<;>try apply al
 rintro ms1 S1 ⟨k,h1_0,o1_3,h1_4,c1_0,hm1⟩
 obtain⟨i1_3,h1_3,b1_3,l1_3⟩:=o1_3.out
 have ni1_3:=aG (x:=i1_3) (n:=S1.n)
 have fL1:=(aa h1_0 (aa h1_4 (aa h1_3 (aa b1_3 ni1_3))))
 ·have e1:((k:Int) - 1).toNat=k - 1:=by omega
  have e2:(p.drop k).reverse.length=p.length - k:=by simp
  refine ax (aa fL1 (aa @e1 @e2)) ?_
  all_goals try(apply ai;repeat' first|exact ah|apply aa|(apply ak;intro zb hc)|(apply aj;intro zb)|intro j')<;>try apply al
  ·focus
    refine am ((fun(k:Nat)=>k) (k-1)) (dC fL1 ?_) ⟨k-1,dC fL1 ?_⟩
    all_goals try(apply ai;repeat' first|exact ah|apply aa|(apply ak;intro zb hc)|(apply aj;intro zb)|intro j')<;>try apply al
   ·simp;omega
   ·obtain⟨j,rfl⟩:∃j,k=j+1:=⟨k - 1,by omega⟩
    rw[Nat.add_sub_cancel,aY (k:=j) (by omega),List.reverse_cons]
  ·obtain rfl:k=0:=by omega
   rw[List.drop_zero,List.take_of_length_le (by simp)]
 ·simp
 ·rw[List.drop_length];rfl
def jQ (p:List Int) (k:Nat):List Int:=if k % 2=1 then z7 p else p
def dG (p:List Int) (k:Nat):List Int:=if k/2 % 2=1 then(jQ p k).reverse else jQ p k
def fK (p:List Int) (k:Nat):List Int:=if 4≤k then ct (dG p k)else dG p k
theorem I4 {p:List Int}:∀{k:Nat},k≤p.length→∀x∈nB p k,0≤x∧x≤p.length
 |0,_,x,h=>by have:=List.eq_of_mem_replicate h;subst this;omega
 |k+1,hk,x,h=>by
  rw[nB]at h
  rcases List.mem_or_eq_of_mem_set h with h|rfl
  ·exact I4 (by omega) x h
  ·omega
theorem Rl {p:List Int} {k:Nat} (h8:p.length≤8) (hp:aU p=true):∀x∈dG p k,0≤x∧x≤1048576:=by
 have h1:∀x∈jQ p k,0≤x∧x≤1048576:=fun x hx=>by
  unfold jQ at hx
  split at hx
  ·have:=I4 (Nat.le_refl _) x hx;omega
  ·have:=(permB_iff.1 hp).1 x hx;omega
 intro x hx
 unfold dG at hx
 split at hx
 ·exact h1 x (List.mem_reverse.1 hx)
 ·exact h1 x hx
theorem xN {p:List Int} {k:Nat}:(jQ p k).length=p.length:=by unfold jQ;split;exact mN;rfl
theorem xM {p:List Int} {k:Nat}:(dG p k).length=p.length:=by unfold dG;split;rw[List.length_reverse,xN];exact xN
theorem ma {p:List Int} {k:Nat}:(fK p k).length=p.length:=by unfold fK;split;rw[fD,xM];exact xM
theorem Vi:∀k,k<8→((k&&& 1=0↔¬k % 2=1)∧(k&&& 2=0↔¬k/2 % 2=1)∧(k&&& 4=0↔¬4≤k)):=by decide
theorem d8 {p:List Int} {k:Nat} (h8:p.length≤8) (hp:aU p=true) {q:List Int} (h:q=dG p k):∀x∈q,0≤x∧x≤1048576:=by subst h;exact Rl h8 hp
theorem oH {m0:Bool} (p:List Int) (k:Nat) (hk:k<8) (h8:p.length≤8) (hp:aU p=true):Fun Tryz.prog 116 [(.sl (.lent m0) (List.map (PV.int .i64) (p))),(.int .i64 (k))] [(.sl .own (List.map (PV.int .i64) (fK p k)))]:=by
 refine fO aR [4] Tryz.func116 ?_
 have cE1:= @bS;have cE2:= @io;have cE3:= @fy;have cE4:= @iQ
 obtain⟨k1,k2,k3⟩:=Vi k hk
 have i1:(z7 p).length=p.length:=mN
 have i2:List.take p.length (z7 p)=z7 p:=List.take_of_length_le (by omega)
 by_cases a1:k % 2=1
 ·have f1:(((k&&& 1:Nat):Int)=0)=False:=eq_false (by omega)
  by_cases a2:k/2 % 2=1
  ·have f2:(((k&&& 2:Nat):Int)=0)=False:=eq_false (by omega)
   by_cases a3:4≤k
   ·have f3:(((k&&& 4:Nat):Int)=0)=False:=eq_false (by omega)
    have q2:dG p k=dG p k:=rfl
    conv at q2=>lhs;simp only[dG,jQ,a1,a2,if_true,if_false]
    refine ax (aa @f1 (aa @f2 (aa @f3 (aa @i1 @i2)))) ?_
    all_goals try(apply ai;repeat' first|exact ah|apply aa|(apply ak;intro zb hc)|(apply aj;intro zb)|intro j')<;>try apply al
    all_goals first|exact d8 h8 hp q2|(simp only[List.length_reverse,i1];omega)|(simp only[fK,dG,jQ,a1,a2,a3,if_true,if_false];done)|exact hp|skip
   ·have f3:(((k&&& 4:Nat):Int)=0)=True:=eq_true (by omega)
    have q2:dG p k=dG p k:=rfl
    conv at q2=>lhs;simp only[dG,jQ,a1,a2,if_true,if_false]
    refine ax (aa @f1 (aa @f2 (aa @f3 (aa @i1 @i2)))) ?_
    all_goals try(apply ai;repeat' first|exact ah|apply aa|(apply ak;intro zb hc)|(apply aj;intro zb)|intro j')<;>try apply al
    all_goals first|exact d8 h8 hp q2|(simp only[List.length_reverse,i1];omega)|(simp only[fK,dG,jQ,a1,a2,a3,if_true,if_false];done)|exact hp|skip
  ·have f2:(((k&&& 2:Nat):Int)=0)=True:=eq_true (by omega)
   by_cases a3:4≤k
   ·have f3:(((k&&& 4:Nat):Int)=0)=False:=eq_false (by omega)
    have q2:dG p k=dG p k:=rfl
    conv at q2=>lhs;simp only[dG,jQ,a1,a2,if_true,if_false]
    refine ax (aa @f1 (aa @f2 (aa @f3 (aa @i1 @i2)))) ?_
    all_goals try(apply ai;repeat' first|exact ah|apply aa|(apply ak;intro zb hc)|(apply aj;intro zb)|intro j')<;>try apply al
    all_goals first|exact d8 h8 hp q2|(simp only[List.length_reverse,i1];omega)|(simp only[fK,dG,jQ,a1,a2,a3,if_true,if_false];done)|exact hp|skip
   ·have f3:(((k&&& 4:Nat):Int)=0)=True:=eq_true (by omega)
    have q2:dG p k=dG p k:=rfl
    conv at q2=>lhs;simp only[dG,jQ,a1,a2,if_true,if_false]
    refine ax (aa @f1 (aa @f2 (aa @f3 (aa @i1 @i2)))) ?_
    all_goals try(apply ai;repeat' first|exact ah|apply aa|(apply ak;intro zb hc)|(apply aj;intro zb)|intro j')<;>try apply al
    all_goals first|exact d8 h8 hp q2|(simp only[List.length_reverse,i1];omega)|(simp only[fK,dG,jQ,a1,a2,a3,if_true,if_false];done)|exact hp|skip
 ·have f1:(((k&&& 1:Nat):Int)=0)=True:=eq_true (by omega)
  by_cases a2:k/2 % 2=1
  ·have f2:(((k&&& 2:Nat):Int)=0)=False:=eq_false (by omega)
   by_cases a3:4≤k
   ·have f3:(((k&&& 4:Nat):Int)=0)=False:=eq_false (by omega)
    have q2:dG p k=dG p k:=rfl
    conv at q2=>lhs;simp only[dG,jQ,a1,a2,if_true,if_false]
    refine ax (aa @f1 (aa @f2 (aa @f3 (aa @i1 @i2)))) ?_
    all_goals try(apply ai;repeat' first|exact ah|apply aa|(apply ak;intro zb hc)|(apply aj;intro zb)|intro j')<;>try apply al
    all_goals first|exact d8 h8 hp q2|(simp only[List.length_reverse,i1];omega)|(simp only[fK,dG,jQ,a1,a2,a3,if_true,if_false];done)|exact hp|skip
   ·have f3:(((k&&& 4:Nat):Int)=0)=True:=eq_true (by omega)
    have q2:dG p k=dG p k:=rfl
    conv at q2=>lhs;simp only[dG,jQ,a1,a2,if_true,if_false]
    refine ax (aa @f1 (aa @f2 (aa @f3 (aa @i1 @i2)))) ?_
    all_goals try(apply ai;repeat' first|exact ah|apply aa|(apply ak;intro zb hc)|(apply aj;intro zb)|intro j')<;>try apply al
    all_goals first|exact d8 h8 hp q2|(simp only[List.length_reverse,i1];omega)|(simp only[fK,dG,jQ,a1,a2,a3,if_true,if_false];done)|exact hp|skip
  ·have f2:(((k&&& 2:Nat):Int)=0)=True:=eq_true (by omega)
   by_cases a3:4≤k
   ·have f3:(((k&&& 4:Nat):Int)=0)=False:=eq_false (by omega)
    have q2:dG p k=dG p k:=rfl
    conv at q2=>lhs;simp only[dG,jQ,a1,a2,if_true,if_false]
    refine ax (aa @f1 (aa @f2 (aa @f3 (aa @i1 @i2)))) ?_
    all_goals try(apply ai;repeat' first|exact ah|apply aa|(apply ak;intro zb hc)|(apply aj;intro zb)|intro j')<;>try apply al
    all_goals first|exact d8 h8 hp q2|(simp only[List.length_reverse,i1];omega)|(simp only[fK,dG,jQ,a1,a2,a3,if_true,if_false];done)|exact hp|skip
   ·have f3:(((k&&& 4:Nat):Int)=0)=True:=eq_true (by omega)
    have q2:dG p k=dG p k:=rfl
    conv at q2=>lhs;simp only[dG,jQ,a1,a2,if_true,if_false]
    refine ax (aa @f1 (aa @f2 (aa @f3 (aa @i1 @i2)))) ?_
    all_goals try(apply ai;repeat' first|exact ah|apply aa|(apply ak;intro zb hc)|(apply aj;intro zb)|intro j')<;>try apply al
    all_goals first|exact d8 h8 hp q2|(simp only[List.length_reverse,i1];omega)|(simp only[fK,dG,jQ,a1,a2,a3,if_true,if_false];done)|exact hp|skip
theorem kz {k:Nat} (h:k<8):nE .i64 ((k:Int).tdiv 2):=by
 show(-9223372036854775808:Int)≤_∧_≤(9223372036854775807:Int)
 rw[Int.tdiv_eq_ediv_of_nonneg (by omega)];omega
theorem mi {m0:Bool} (p:List Int) (k:Nat) (hk:k<8) (h8:p.length≤8) (hp:aU p=true):Fun Tryz.prog 119 [(.sl (.lent m0) (List.map (PV.int .i64) (p))),(.int .i64 (k))] [(.sl .own (List.map (PV.int .i64) (fK p k)))]:=by
 refine fO aR [4] Tryz.func119 ?_
 have cE1:= @fR;have cE2:= @aT;have cE3:= @gv
 have i1:(z7 p).length=p.length:=mN
 have i2:List.take p.length (z7 p)=z7 p:=List.take_of_length_le (by omega)
 by_cases a1:k % 2=1
 ·have f1:((k:Int).tmod 2=1)=True:=eq_true (by rw[Int.tmod_eq_emod_of_nonneg (by omega)];omega)
  by_cases a2:k/2 % 2=1
  ·have f2:(((k:Int).tdiv 2).tmod 2=1)=True:=eq_true (by rw[Int.tdiv_eq_ediv_of_nonneg (by omega),Int.tmod_eq_emod_of_nonneg (by omega)];omega)
   by_cases a3:4≤k
   ·have f3:(4≤(k:Int))=True:=eq_true (by omega)
    have q2:dG p k=dG p k:=rfl
    conv at q2=>lhs;simp only[dG,jQ,a1,a2,if_true,if_false]
    refine ax (aa @f1 (aa @f2 (aa @f3 (aa @i1 @i2)))) ?_
    all_goals try(apply ai;repeat' first|exact ah|apply aa|(apply ak;intro zb hc)|(apply aj;intro zb)|intro j')<;>try apply al
    all_goals first|exact d8 h8 hp q2|(simp only[List.length_reverse,i1];omega)|(simp only[fK,dG,jQ,a1,a2,a3,if_true,if_false];done)|exact hp|exact kz hk|skip
   ·have f3:(4≤(k:Int))=False:=eq_false (by omega)
    have q2:dG p k=dG p k:=rfl
    conv at q2=>lhs;simp only[dG,jQ,a1,a2,if_true,if_false]
    refine ax (aa @f1 (aa @f2 (aa @f3 (aa @i1 @i2)))) ?_
    all_goals try(apply ai;repeat' first|exact ah|apply aa|(apply ak;intro zb hc)|(apply aj;intro zb)|intro j')<;>try apply al
    all_goals first|exact d8 h8 hp q2|(simp only[List.length_reverse,i1];omega)|(simp only[fK,dG,jQ,a1,a2,a3,if_true,if_false];done)|exact hp|exact kz hk|skip
  ·have f2:(((k:Int).tdiv 2).tmod 2=1)=False:=eq_false (by rw[Int.tdiv_eq_ediv_of_nonneg (by omega),Int.tmod_eq_emod_of_nonneg (by omega)];omega)
   by_cases a3:4≤k
   ·have f3:(4≤(k:Int))=True:=eq_true (by omega)
    have q2:dG p k=dG p k:=rfl
    conv at q2=>lhs;simp only[dG,jQ,a1,a2,if_true,if_false]
    refine ax (aa @f1 (aa @f2 (aa @f3 (aa @i1 @i2)))) ?_
    all_goals try(apply ai;repeat' first|exact ah|apply aa|(apply ak;intro zb hc)|(apply aj;intro zb)|intro j')<;>try apply al
    all_goals first|exact d8 h8 hp q2|(simp only[List.length_reverse,i1];omega)|(simp only[fK,dG,jQ,a1,a2,a3,if_true,if_false];done)|exact hp|exact kz hk|skip
   ·have f3:(4≤(k:Int))=False:=eq_false (by omega)
    have q2:dG p k=dG p k:=rfl
    conv at q2=>lhs;simp only[dG,jQ,a1,a2,if_true,if_false]
    refine ax (aa @f1 (aa @f2 (aa @f3 (aa @i1 @i2)))) ?_
    all_goals try(apply ai;repeat' first|exact ah|apply aa|(apply ak;intro zb hc)|(apply aj;intro zb)|intro j')<;>try apply al
    all_goals first|exact d8 h8 hp q2|(simp only[List.length_reverse,i1];omega)|(simp only[fK,dG,jQ,a1,a2,a3,if_true,if_false];done)|exact hp|exact kz hk|skip
 ·have f1:((k:Int).tmod 2=1)=False:=eq_false (by rw[Int.tmod_eq_emod_of_nonneg (by omega)];omega)
  by_cases a2:k/2 % 2=1
  ·have f2:(((k:Int).tdiv 2).tmod 2=1)=True:=eq_true (by rw[Int.tdiv_eq_ediv_of_nonneg (by omega),Int.tmod_eq_emod_of_nonneg (by omega)];omega)
   by_cases a3:4≤k
   ·have f3:(4≤(k:Int))=True:=eq_true (by omega)
    have q2:dG p k=dG p k:=rfl
    conv at q2=>lhs;simp only[dG,jQ,a1,a2,if_true,if_false]
    refine ax (aa @f1 (aa @f2 (aa @f3 (aa @i1 @i2)))) ?_
    all_goals try(apply ai;repeat' first|exact ah|apply aa|(apply ak;intro zb hc)|(apply aj;intro zb)|intro j')<;>try apply al
    all_goals first|exact d8 h8 hp q2|(simp only[List.length_reverse,i1];omega)|(simp only[fK,dG,jQ,a1,a2,a3,if_true,if_false];done)|exact hp|exact kz hk|skip
   ·have f3:(4≤(k:Int))=False:=eq_false (by omega)
    have q2:dG p k=dG p k:=rfl
    conv at q2=>lhs;simp only[dG,jQ,a1,a2,if_true,if_false]
    refine ax (aa @f1 (aa @f2 (aa @f3 (aa @i1 @i2)))) ?_
    all_goals try(apply ai;repeat' first|exact ah|apply aa|(apply ak;intro zb hc)|(apply aj;intro zb)|intro j')<;>try apply al
    all_goals first|exact d8 h8 hp q2|(simp only[List.length_reverse,i1];omega)|(simp only[fK,dG,jQ,a1,a2,a3,if_true,if_false];done)|exact hp|exact kz hk|skip
  ·have f2:(((k:Int).tdiv 2).tmod 2=1)=False:=eq_false (by rw[Int.tdiv_eq_ediv_of_nonneg (by omega),Int.tmod_eq_emod_of_nonneg (by omega)];omega)
   by_cases a3:4≤k
   ·have f3:(4≤(k:Int))=True:=eq_true (by omega)
    have q2:dG p k=dG p k:=rfl
    conv at q2=>lhs;simp only[dG,jQ,a1,a2,if_true,if_false]
    refine ax (aa @f1 (aa @f2 (aa @f3 (aa @i1 @i2)))) ?_
    all_goals try(apply ai;repeat' first|exact ah|apply aa|(apply ak;intro zb hc)|(apply aj;intro zb)|intro j')<;>try apply al
    all_goals first|exact d8 h8 hp q2|(simp only[List.length_reverse,i1];omega)|(simp only[fK,dG,jQ,a1,a2,a3,if_true,if_false];done)|exact hp|exact kz hk|skip
   ·have f3:(4≤(k:Int))=False:=eq_false (by omega)
    have q2:dG p k=dG p k:=rfl
    conv at q2=>lhs;simp only[dG,jQ,a1,a2,if_true,if_false]
    refine ax (aa @f1 (aa @f2 (aa @f3 (aa @i1 @i2)))) ?_
    all_goals try(apply ai;repeat' first|exact ah|apply aa|(apply ak;intro zb hc)|(apply aj;intro zb)|intro j')<;>try apply al
    all_goals first|exact d8 h8 hp q2|(simp only[List.length_reverse,i1];omega)|(simp only[fK,dG,jQ,a1,a2,a3,if_true,if_false];done)|exact hp|exact kz hk|skip
def sX (p:List Int):List (List Int):=if ae p then ov ((List.range 8).map (fK p))else[]
theorem uh {p:List Int}:(sX p).length≤8:=by
 unfold sX;split
 ·have:=uB (L:=(List.range 8).map (fK p));rw[List.length_map,List.length_range]at this;exact this
 ·simp
theorem rR {p:List Int} (hp:p.length≤1048576):∀l∈sX p,l.length≤1048576:=by
 unfold sX;split
 ·refine uz fun l hl=> ?_
  obtain⟨k,_,rfl⟩:=List.mem_map.1 hl
  rw[ma];exact hp
 ·intro l hl;cases hl
theorem kB {m0:Bool} (p:List Int) (hl:p.length≤1048576) (hp:ae p=true):Fun Tryz.prog 63 [(.sl (.lent m0) (List.map (PV.int .i64) (p)))] [(.sl .own (List.map (bt false) (sX p)))]:=by
 refine fO aR [2] Tryz.func63 ?_
 have cE1:= @ao;have cE2:= @oH;have cE3:= @qq
 obtain⟨h8,hq⟩:=ll hp
 refine ax @hp ?_
 all_goals try(apply ai;repeat' first|exact ah|apply aa|(apply ak;intro zb hc)|(apply aj;intro zb)|intro j')<;>try apply al
 refine an (fun ms1 S1=>∃(k:Nat),S1.e 0=.p (.sl (.lent m0) (List.map (PV.int .i64) (p)))∧OwnL (S1.e 3) S1.h S1.n (bt false) (((List.range k).map (fK p)).length) ((List.range k).map (fK p))∧S1.e 9=.p (.int .i64 (k))∧(k≤8)∧ms1=8 - k) ((fun(k:Nat)=>8 - k) (0)) ?_ ⟨0,dC trivial ?_⟩
 all_goals try(apply ai;repeat' first|exact ah|apply aa|(apply ak;intro zb hc)|(apply aj;intro zb)|intro j')<;>try apply al
 rintro ms1 S1 ⟨k,h1_0,o1_3,h1_9,c1_0,hm1⟩
 obtain⟨i1_3,h1_3,b1_3,l1_3⟩:=o1_3.out
 have ni1_3:=aG (x:=i1_3) (n:=S1.n)
 have fL1:=(aa h1_0 (aa h1_9 (aa h1_3 (aa b1_3 ni1_3))))
 ·have b1:((List.range k).map (fK p)).length=k:=by simp
  refine ax (aa fL1 @hp) ?_
  all_goals try(apply ai;repeat' first|exact ah|apply aa|(apply ak;intro zb hc)|(apply aj;intro zb)|intro j')<;>try apply al
  ·focus
    refine am ((fun(k:Nat)=>8 - k) (k+1)) (dC fL1 ?_) ⟨k+1,dC fL1 ?_⟩
    all_goals try(apply ai;repeat' first|exact ah|apply aa|(apply ak;intro zb hc)|(apply aj;intro zb)|intro j')<;>try apply al
   ·simp
   ·rw[List.map_append];rfl
  ·obtain rfl:k=8:=by omega
   intro l h
   obtain⟨k,_,rfl⟩:=List.mem_map.1 h
   rw[ma];exact hl
  ·obtain rfl:k=8:=by omega
   rw[sX,if_pos hp];rfl
def pE:FuncId→List Bool:=fun f=>if f=118 then[true]else[]
theorem BK {f:FuncId}:pE f=if f=118 then[true]else[]:=_root_.id rfl
theorem yU:fJ pE=false∧ga pE=false∧f9 pE=false∧f8 pE=false∧gb pE=false:=⟨rfl,rfl,rfl,rfl,rfl⟩
attribute [go_sem] BK yU
theorem j5 {m0:Bool} (p:List Int) (hl:p.length≤1048576) (hp:ae p=true):Fun Tryz.prog 64 [(.sl (.lent m0) (List.map (PV.int .i64) (p)))] [(.sl .own (List.map (bt false) (sX p)))]:=by
 refine fO pE [2] Tryz.func64 ?_
 have cE1:= @aq;have cE2:= @mi;have cM1:= @gD
 obtain⟨h8,hq⟩:=ll hp
 refine ax @hp ?_
 all_goals try(apply ai;repeat' first|exact ah|apply aa|(apply ak;intro zb hc)|(apply aj;intro zb)|intro j')<;>try apply al
 refine an (fun ms1 S1=>∃(k:Nat),S1.e 0=.p (.sl (.lent m0) (List.map (PV.int .i64) (p)))∧OwnL (S1.e 3) S1.h S1.n (bt false) ((ov ((List.range k).map (fK p))).length) (ov ((List.range k).map (fK p)))∧S1.e 4=.p (.int .i64 (k))∧(k≤8)∧ms1=8 - k) ((fun(k:Nat)=>8 - k) (0)) ?_ ⟨0,dC trivial ?_⟩
 all_goals try(apply ai;repeat' first|exact ah|apply aa|(apply ak;intro zb hc)|(apply aj;intro zb)|intro j')<;>try apply al
 rintro ms1 S1 ⟨k,h1_0,o1_3,h1_4,c1_0,hm1⟩
 obtain⟨i1_3,h1_3,b1_3,l1_3⟩:=o1_3.out
 have ni1_3:=aG (x:=i1_3) (n:=S1.n)
 have fL1:=(aa h1_0 (aa h1_4 (aa h1_3 (aa b1_3 ni1_3))))
 ·have b1:=uB (L:=(List.range k).map (fK p))
  rw[List.length_map,List.length_range]at b1
  refine ax (aa fL1 @hp) ?_
  all_goals try(apply ai;repeat' first|exact ah|apply aa|(apply ak;intro zb hc)|(apply aj;intro zb)|intro j')<;>try apply al
  ·refine uz fun l h=> ?_
   obtain⟨k,_,rfl⟩:=List.mem_map.1 h
   rw[ma];exact hl
  ·rw[ma];exact hl
  ·focus
    refine am ((fun(k:Nat)=>8 - k) (k+1)) (dC fL1 ?_) ⟨k+1,dC fL1 ?_⟩
    all_goals try(apply ai;repeat' first|exact ah|apply aa|(apply ak;intro zb hc)|(apply aj;intro zb)|intro j')<;>try apply al
   all_goals rw[←List.range_succ,zm]
  ·obtain rfl:k=8:=by omega
   rw[sX,if_pos hp]
def EO (p:List Int):List UInt8:=if ae p then wh (sX p)else[]
theorem ee {m0:Bool} (p:List Int) (hl:p.length≤1048576):Fun Tryz.prog 22 [(.sl (.lent m0) (List.map (PV.int .i64) (p)))] [(.str (EO p))]:=by
 refine fO aR [2] Tryz.func22 ?_
 have cE1:= @ao;have cE2:= @kB;have cE3:= @dT
 have b1:=uh (p:=p)
 have b2:=rR hl
 refine ax trivial ?_
 all_goals try(apply ai;repeat' first|exact ah|apply aa|(apply ak;intro zb hc)|(apply aj;intro zb)|intro j')<;>try apply al
 all_goals(rw[EO,hc];rfl)
theorem d0 {m0:Bool} (p:List Int) (hl:p.length≤1048576):Fun Tryz.prog 23 [(.sl (.lent m0) (List.map (PV.int .i64) (p)))] [(.str (EO p))]:=by
 refine fO aR [2] Tryz.func23 ?_
 have cE1:= @aq;have cE2:= @j5;have cE3:= @dO
 have b1:=uh (p:=p)
 have b2:=rR hl
 refine ax trivial ?_
 all_goals try(apply ai;repeat' first|exact ah|apply aa|(apply ak;intro zb hc)|(apply aj;intro zb)|intro j')<;>try apply al
 all_goals(rw[EO,hc];rfl)
theorem cI {m0:Bool} (p:List Int) (hl:p.length≤1048576):Fun Tryz.prog 96 [(.sl (.lent m0) (List.map (PV.int .i64) (p)))] [(.bool ((ae p&&iX p)))]:=by
 refine fO aR [2] Tryz.func96 ?_
 have cE1:= @ao;have cE2:= @oI
 by_cases hp:ae p=true
 ·have h8:=(ll hp).1
  have hb:=xZ hp
  refine ax (aa @hp @Bool.true_and) ?_
  all_goals try(apply ai;repeat' first|exact ah|apply aa|(apply ak;intro zb hc)|(apply aj;intro zb)|intro j')<;>try apply al
 ·rw[Bool.not_eq_true]at hp
  refine ax (aa @hp @Bool.false_and) ?_
  all_goals try(apply ai;repeat' first|exact ah|apply aa|(apply ak;intro zb hc)|(apply aj;intro zb)|intro j')<;>try apply al
theorem drP {b:List UInt8} {s:Cu} {n:Nat} (h:n≤8):ae (jd b s n).1=true:=by
 simp only[ae,vD,kU,Bool.and_true,decide_eq_true_eq];exact h
def OV (b:List UInt8) (s:Cu):Int:=[1,1,1,2,(3:Int)].getD (jL b s 5).toNat 0
theorem Ee {b:List UInt8} {s:Cu}:1≤OV b s∧OV b s≤3:=by
 have q:=it (b:=b) (s:=s) (n:=5)
 have h:OV b s∈[1,1,1,2,(3:Int)]:=ar (by simp;omega)
 simp at h;omega
theorem Jh {m0:Bool} (b:List UInt8) (s:Cu) (hb:b.length≤1048576):CallT Tryz.prog false 150 [.mu true (bX b s),.pv (.sl (.lent m0) [.int .i64 1,.int .i64 1,.int .i64 1,.int .i64 2,.int .i64 3])] [some (bX b (fH b s 5)),none] [.int .i64 (OV b s)]:=
 m9 (m0:=m0) b s [1,1,1,2,3] hb (by decide) (by decide)
def o8 (b:List UInt8) (s:Cu):Nat→List (List Int)×Cu
 |0=>([],s)
 |k+1=>((o8 b s k).1++[(jd b (fH b (o8 b s k).2 5) (OV b (o8 b s k).2).toNat).1],(jd b (fH b (o8 b s k).2 5) (OV b (o8 b s k).2).toNat).2)
theorem ibL_p {b:List UInt8} {s:Cu}:∀{k:Nat},(o8 b s k).1.length=k∧∀l∈(o8 b s k).1,ae l=true
 |0=>by simp[o8]
 |k+1=>by
  obtain⟨h1,h2⟩:=ibL_p (b:=b) (s:=s) (k:=k)
  rw[o8]
  refine⟨by simp[h1],fun x hx=> ?_⟩
  rcases List.mem_append.1 hx with q|q
  ·exact h2 x q
  ·rw[List.mem_singleton]at q;subst q
   have:=Ee (b:=b) (s:=(o8 b s k).2)
   exact drP (by omega)
def ZO:List (List UInt8):=[[50,52,49,51],[51,49,52,50],[50,52,49,53,51],[50,53,51,49,52],[51,49,53,50,52]]
theorem MB:∀t∈ZO,t.length≤100∧ae (dQ t)=true:=by decide+kernel
theorem yq (b:List UInt8) (s:Cu) (p:List Int) (hb:b.length≤1048576) (hp:ae p=true):(o8 b s p.length).1.length=p.length∧(o8 b s p.length).1.all ae=true:=
 ⟨ibL_p.1,List.all_eq_true.2 ibL_p.2⟩
theorem se {p:List Int} {L:List (List Int)} (h:oF L=true) (he:L.length=p.length):(nF p L p.length).length≤8:=by
 rw[tI (by omega)]
 simp only[oF,Bool.and_eq_true,decide_eq_true_eq]at h
 have:=eS (L:=L) (j:=p.length)
 omega
theorem mh (b:List UInt8) (s:Cu) (hb:b.length≤1048576):∃s' p,CallT Tryz.prog false 109 [.mu true (bX b s)] [some (bX b s')] [.sl .own (List.map (PV.int .i64) p)]∧p.length≤1048576:=by
 have q:=it (b:=b) (s:=s) (n:=5)
 obtain⟨N,hN⟩:∃N:Nat,jL b s 5=(N:Int):=Int.eq_ofNat_of_zero_le (by omega)
 rw[hN]at q
 have hN4:N<5:=by omega
 have nn:(1+(N:Int)).toNat=N+1:=by omega
 obtain⟨s2,hs2⟩:∃s2,(jd b (fH b s 5) (N+1)).2=s2:=⟨_,rfl⟩
 obtain⟨x,hx⟩:∃x,jL b s2 2=x:=⟨_,rfl⟩
 by_cases h0:x=0
 ·subst h0
  obtain⟨s3,t,c1,ht⟩:=rx (m0:=true) b (fH b s2 2) ZO hb (by decide) (by decide)
  obtain⟨t1,hp⟩:=MB t ht
  simp only[ZO,List.map_cons,List.map_nil]at c1
  generalize hP:dQ t=P at*
  obtain⟨L,hL⟩:∃L,(o8 b s3 P.length).1=L:=⟨_,rfl⟩
  obtain⟨y1,y2⟩:=yq b s3 P hb hp
  rw[hL]at y1 y2
  have y3:∀l∈L,l.length≤8:=fun l hl=>(ll (List.all_eq_true.1 y2 l hl)).1
  have h8:=(ll hp).1
  refine⟨(o8 b s3 P.length).2,if oF L=true then nF P L P.length else P, ?_,by split;exact Nat.le_trans (se (by assumption) y1) (by decide);omega⟩
  refine fX fq [2] Tryz.func109 ?_
  have cE1:= @bg;have cE2:= @jf;have cM1:= @aE;have cM2:= @dn;have cM3:= @aP
  have cM4:= @c1
  refine ax (aa @hN (aa @nn (aa @hs2 (aa @hx @hP)))) ?_
  all_goals try(apply ai;repeat' first|exact ah|apply aa|(apply ak;intro zb hc;repeat (have zc:=zb.1;replace zb:=zb.2))|(apply aj;intro zb)|intro j')<;>try apply al
  refine an (fun ms1 S1=>∃(k:Nat),S1.e 0=.ptr 0 0∧S1.h 0=.live true (bX b (o8 b s3 k).2)∧0<S1.n∧OwnL (S1.e 3) S1.h S1.n (PV.int .i64) ((P).length) (P)∧OwnL (S1.e 4) S1.h S1.n (bt false) (((o8 b s3 k).1).length) ((o8 b s3 k).1)∧S1.e 5=.p (.int .i64 (k))∧(k≤P.length)∧NId (S1.e 4) (S1.e 3)∧NId (S1.e 3) (.ref 0 0 0)∧NId (S1.e 4) (.ref 0 0 0)∧ms1=P.length - k) ((fun(k:Nat)=>P.length - k) (0)) ?_ ⟨0,dC trivial ?_⟩
  all_goals try(apply ai;repeat' first|exact ah|apply aa|(apply ak;intro zb hc;repeat (have zc:=zb.1;replace zb:=zb.2))|(apply aj;intro zb)|intro j')<;>try apply al
  rintro ms1 S1 ⟨k,h1_0,b1_0,l1_0,o1_3,o1_4,h1_5,c1_0,u1_0,u1_1,u1_2,hm1⟩
  obtain⟨i1_3,h1_3,b1_3,l1_3⟩:=o1_3.out
  obtain⟨i1_4,h1_4,b1_4,l1_4⟩:=o1_4.out
  have k1_0:=(u1_0).out h1_4 h1_3
  have k1_1:=(u1_1).out h1_3 rfl
  have k1_2:=(u1_2).out h1_4 rfl
  have ni1_3:=aG (x:=i1_3) (n:=S1.n)
  have ni1_4:=aG (x:=i1_4) (n:=S1.n)
  have n0:=aG (x:=0) (n:=S1.n)
  have di1_3i1_4:=cQ (x:=i1_3) (y:=i1_4)
  have di1_30:=cQ (x:=i1_3) (y:=0)
  have di1_40:=cQ (x:=i1_4) (y:=0)
  have fL1:=(aa h1_0 (aa b1_0 (aa h1_5 (aa h1_3 (aa b1_3 (aa h1_4 (aa b1_4 (aa ni1_3 (aa ni1_4 (aa n0 (aa di1_3i1_4 (aa di1_30 di1_40))))))))))))
  ·obtain⟨w1,w2⟩:=ibL_p (b:=b) (s:=s3) (k:=k)
   by_cases hk:k<P.length
   ·have g5:=Ee (b:=b) (s:=(o8 b s3 k).2)
    have cM4:= @Jh
    refine ax fL1 ?_
    all_goals try(apply ai;repeat' first|exact ah|apply aa|(apply ak;intro zb hc;repeat (have zc:=zb.1;replace zb:=zb.2))|(apply aj;intro zb)|intro j')<;>try apply al
    focus
     refine am ((fun(k:Nat)=>P.length - k) (k+1)) (dC fL1 ?_) ⟨k+1,dC fL1 ?_⟩
     all_goals try(apply ai;repeat' first|exact ah|apply aa|(apply ak;intro zb hc;repeat (have zc:=zb.1;replace zb:=zb.2))|(apply aj;intro zb)|intro j')<;>try apply al
    all_goals(first|(rw[ibL_p.1,ibL_p.1];done)|skip)
   ·obtain rfl:k=P.length:=by omega
    cases ho:oF L with
    |true=>
     have z1:(if true=true then nF P L P.length else[])=nF P L P.length:=if_pos rfl
     have z2:(if true=true then nF P L P.length else P)=nF P L P.length:=if_pos rfl
     have cM4:=trivial
     refine ax (aa fL1 (aa @hL (aa @ho (aa @z1 (aa @z2 (aa @hp @y2)))))) ?_
     all_goals try(apply ai;repeat' first|exact ah|apply aa|(apply ak;intro zb hc;repeat (have zc:=zb.1;replace zb:=zb.2))|(apply aj;intro zb)|intro j')<;>try apply al
    |false=>
     have z1:(if false=true then nF P L P.length else[])=[]:=if_neg (by decide)
     have z2:(if false=true then nF P L P.length else P)=P:=if_neg (by decide)
     have cM4:=trivial
     refine ax (aa fL1 (aa @hL (aa @ho (aa @z1 (aa @z2 (aa @hp @y2)))))) ?_
     all_goals try(apply ai;repeat' first|exact ah|apply aa|(apply ak;intro zb hc;repeat (have zc:=zb.1;replace zb:=zb.2))|(apply aj;intro zb)|intro j')<;>try apply al
 ·have f0:(x=0)=False:=eq_false h0
  have hp:ae (jd b (fH b s 5) (N+1)).1=true:=drP (by omega)
  generalize hP:(jd b (fH b s 5) (N+1)).1=P at*
  obtain⟨L,hL⟩:∃L,(o8 b (fH b s2 2) P.length).1=L:=⟨_,rfl⟩
  obtain⟨y1,y2⟩:=yq b (fH b s2 2) P hb hp
  rw[hL]at y1 y2
  have y3:∀l∈L,l.length≤8:=fun l hl=>(ll (List.all_eq_true.1 y2 l hl)).1
  have h8:=(ll hp).1
  refine⟨(o8 b (fH b s2 2) P.length).2,if oF L=true then nF P L P.length else P, ?_,by split;exact Nat.le_trans (se (by assumption) y1) (by decide);omega⟩
  refine fX fq [2] Tryz.func109 ?_
  have cE1:= @bg;have cE2:= @jf;have cM1:= @aE;have cM2:= @dn;have cM3:= @aP
  refine ax (aa @hN (aa @nn (aa @hs2 (aa @hx (aa @f0 @hP))))) ?_
  all_goals try(apply ai;repeat' first|exact ah|apply aa|(apply ak;intro zb hc;repeat (have zc:=zb.1;replace zb:=zb.2))|(apply aj;intro zb)|intro j')<;>try apply al
  refine an (fun ms1 S1=>∃(k:Nat),S1.e 0=.ptr 0 0∧S1.h 0=.live true (bX b (o8 b (fH b s2 2) k).2)∧0<S1.n∧OwnL (S1.e 3) S1.h S1.n (PV.int .i64) ((P).length) (P)∧OwnL (S1.e 4) S1.h S1.n (bt false) (((o8 b (fH b s2 2) k).1).length) ((o8 b (fH b s2 2) k).1)∧S1.e 5=.p (.int .i64 (k))∧(k≤P.length)∧NId (S1.e 4) (S1.e 3)∧NId (S1.e 3) (.ref 0 0 0)∧NId (S1.e 4) (.ref 0 0 0)∧ms1=P.length - k) ((fun(k:Nat)=>P.length - k) (0)) ?_ ⟨0,dC trivial ?_⟩
  all_goals try(apply ai;repeat' first|exact ah|apply aa|(apply ak;intro zb hc;repeat (have zc:=zb.1;replace zb:=zb.2))|(apply aj;intro zb)|intro j')<;>try apply al
  rintro ms1 S1 ⟨k,h1_0,b1_0,l1_0,o1_3,o1_4,h1_5,c1_0,u1_0,u1_1,u1_2,hm1⟩
  obtain⟨i1_3,h1_3,b1_3,l1_3⟩:=o1_3.out
  obtain⟨i1_4,h1_4,b1_4,l1_4⟩:=o1_4.out
  have k1_0:=(u1_0).out h1_4 h1_3
  have k1_1:=(u1_1).out h1_3 rfl
  have k1_2:=(u1_2).out h1_4 rfl
  have ni1_3:=aG (x:=i1_3) (n:=S1.n)
  have ni1_4:=aG (x:=i1_4) (n:=S1.n)
  have n0:=aG (x:=0) (n:=S1.n)
  have di1_3i1_4:=cQ (x:=i1_3) (y:=i1_4)
  have di1_30:=cQ (x:=i1_3) (y:=0)
  have di1_40:=cQ (x:=i1_4) (y:=0)
  have fL1:=(aa h1_0 (aa b1_0 (aa h1_5 (aa h1_3 (aa b1_3 (aa h1_4 (aa b1_4 (aa ni1_3 (aa ni1_4 (aa n0 (aa di1_3i1_4 (aa di1_30 di1_40))))))))))))
  ·obtain⟨w1,w2⟩:=ibL_p (b:=b) (s:=(fH b s2 2)) (k:=k)
   by_cases hk:k<P.length
   ·have g5:=Ee (b:=b) (s:=(o8 b (fH b s2 2) k).2)
    have cM4:= @Jh
    refine ax fL1 ?_
    all_goals try(apply ai;repeat' first|exact ah|apply aa|(apply ak;intro zb hc;repeat (have zc:=zb.1;replace zb:=zb.2))|(apply aj;intro zb)|intro j')<;>try apply al
    focus
     refine am ((fun(k:Nat)=>P.length - k) (k+1)) (dC fL1 ?_) ⟨k+1,dC fL1 ?_⟩
     all_goals try(apply ai;repeat' first|exact ah|apply aa|(apply ak;intro zb hc;repeat (have zc:=zb.1;replace zb:=zb.2))|(apply aj;intro zb)|intro j')<;>try apply al
    all_goals(first|(rw[ibL_p.1,ibL_p.1];done)|skip)
   ·obtain rfl:k=P.length:=by omega
    cases ho:oF L with
    |true=>
     have z1:(if true=true then nF P L P.length else[])=nF P L P.length:=if_pos rfl
     have z2:(if true=true then nF P L P.length else P)=nF P L P.length:=if_pos rfl
     have cM4:=trivial
     refine ax (aa fL1 (aa @hL (aa @ho (aa @z1 (aa @z2 (aa @hp @y2)))))) ?_
     all_goals try(apply ai;repeat' first|exact ah|apply aa|(apply ak;intro zb hc;repeat (have zc:=zb.1;replace zb:=zb.2))|(apply aj;intro zb)|intro j')<;>try apply al
    |false=>
     have z1:(if false=true then nF P L P.length else[])=[]:=if_neg (by decide)
     have z2:(if false=true then nF P L P.length else P)=P:=if_neg (by decide)
     have cM4:=trivial
     refine ax (aa fL1 (aa @hL (aa @ho (aa @z1 (aa @z2 (aa @hp @y2)))))) ?_
     all_goals try(apply ai;repeat' first|exact ah|apply aa|(apply ak;intro zb hc;repeat (have zc:=zb.1;replace zb:=zb.2))|(apply aj;intro zb)|intro j')<;>try apply al
theorem rt (b:List UInt8) (s:Cu) (hb:b.length≤1048576):∃s' p,CallT Tryz.prog false 52 [.mu true (bX b s)] [some (bX b s')] [.sl .own (List.map (PV.int .i64) p)]∧p.length≤1048576:=by
 obtain⟨x,hx⟩:∃x,jL b s 3=x:=⟨_,rfl⟩
 by_cases h0:x=0
 ·subst h0
  obtain⟨s1,p,c1,hp⟩:=iU b (fH b s 3) hb
  refine⟨s1,p, ?_,Nat.le_trans hp.len (by decide)⟩
  refine fX fq [2] Tryz.func52 ?_
  have cM1:= @aP
  have cM2:= @c1
  refine ax @hx ?_
  all_goals try(apply ai;repeat' first|exact ah|apply aa|(apply ak;intro zb hc)|(apply aj;intro zb)|intro j')<;>try apply al
 ·have f0:(x=0)=False:=eq_false h0
  obtain⟨s1,p,c1,hp⟩:=mh b (fH b s 3) hb
  refine⟨s1,p, ?_,hp⟩
  refine fX fq [2] Tryz.func52 ?_
  have cM1:= @aP
  have cM2:= @c1
  refine ax (aa @hx @f0) ?_
  all_goals try(apply ai;repeat' first|exact ah|apply aa|(apply ak;intro zb hc)|(apply aj;intro zb)|intro j')<;>try apply al
end Go.Gl
