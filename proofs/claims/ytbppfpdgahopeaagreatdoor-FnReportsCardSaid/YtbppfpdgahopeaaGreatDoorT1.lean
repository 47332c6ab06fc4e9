/-
  What the functions compute, and what the law asks of it: texts joined. Conditions: those that each lemma names.
-/
import Derived.Test.YtbppfpdgahopeaaGreatDoorA0
import Derived.Test.YtbppfpdgahopeaaGreatDoorGlC
import Derived.Shelf.Strings.Builder1
import Derived.Shelf.Strings.Builder2
import Derived.Shelf.Strings.OnBuilder
import Derived.Shelf.Small.Bits
import Derived.Shelf.Strconv.Itoa0
import Derived.Shelf.Strconv.Itoa1
import Derived.Shelf.LaysM
import Derived.Shelf.Strconv.Itoa2
import Derived.Shelf.Strconv.Itoa3
import Derived.Shelf.Slices.Turned
import Derived.Shelf.Slices.Reverse
import Derived.Shelf.Slices.Equal
import Derived.Ground.Names2Prog
import Derived.Shelf.Slices.Clone
import Derived.Shelf.Slices.SearchI
import Derived.Shelf.Slices.Cells
import Derived.Ground.SlgnProg
import Derived.Shelf.SlicesE.Clone
import Derived.Shelf.Spec.SlicesGrow
import Derived.Ground.Names8Prog
import Derived.Test.YtbppfpdgahopeaaGreatDoorProg
import Derived.Lib.Join
set_option linter.unusedSimpArgs false
set_option linter.unusedVariables false
set_option maxRecDepth 20000
set_option linter.unusedSectionVars false
set_option maxHeartbeats 16000000
namespace Go.Gl
open Go Go.Proofs
variable [Amb]
theorem uL (a b c:Int):Fun Tryz.prog 65 [(.int .i64 (a)),(.int .i64 (b)),(.int .i64 (c))] [(.bool ((decide (b≤a)&&decide (a≤c))))]:=by
 refine fO bA [6] Tryz.func65 ?_
 refine dE trivial ?_
 all_goals try(apply aq;repeat' first|exact ao|apply aa|(apply au;intro zb hc)|(apply ar;intro zb)|intro j')<;>try apply aw
def dM (b:Bool):Int:=if b then 1 else 0
theorem rH (b:Bool):0≤dM b∧dM b≤1:=by cases b<;>decide
theorem eC (b:Bool):Fun Tryz.prog 68 [(.bool (b))] [(.int .i64 (dM b))]:=by
 refine fO bA [2] Tryz.func68 ?_
 refine dE trivial ?_
 all_goals try(apply aq;repeat' first|exact ao|apply aa|(apply au;intro zb hc)|(apply ar;intro zb)|intro j')<;>try apply aw
 all_goals simp[dM,hc]
theorem ij (a b:Int):Fun Tryz.prog 121 [(.int .i64 (a)),(.int .i64 (b))] [(.int .i64 (max a b))]:=by
 refine fO bA [4] Tryz.func121 ?_
 refine dE trivial ?_
 all_goals try(apply aq;repeat' first|exact ao|apply aa|(apply au;intro zb hc)|(apply ar;intro zb)|intro j')<;>try apply aw
 all_goals omega
theorem Iu {s:List UInt8} {k:Nat} (h:k<s.length):s.drop k=s.getD k 0::s.drop (k+1):=by
 rw[List.drop_eq_getElem_cons h,ac,ae h];rfl
theorem bH {s:List Int} {k:Nat} (h:k<s.length):s.drop k=s.getD k 0::s.drop (k+1):=by
 rw[List.drop_eq_getElem_cons h,ac,ae h];rfl
end Go.Gl
namespace Go.Gl
open Go Go.Proofs
variable [Amb] [NoQ]
def gz (n:Int):List Int→List Int→Bool
 |_,[]=>true
 |seen,v::p=>decide (1≤v)&&decide (v≤n)&& !(seen.contains v)&&gz n (seen++[v]) p
def bD (p:List Int):Bool:=gz p.length [] p
def al (p:List Int):Bool:=decide (p.length≤8)&&bD p
theorem lU {l:List Int} {k:Nat} {x:Int} (h:k<l.length):(l.take (k+1)).contains x=((l.take k).contains x||decide (x=l.getD k 0)):=by
 rw[List.take_add_one,ac,ae h]
 simp only[Option.toList_some,Option.getD_some,List.contains_append]
 congr 1
 simp[List.contains_cons]
theorem wr {l:List Int} {k:Nat} (h:k<l.length):l.contains (l.getD k 0)=true:=by
 rw[ac,ae h];simp
theorem oK {n:Int} {p:List Int} {k:Nat} (h:k<p.length):gz n (p.take k) (p.drop k)=(decide (1≤p.getD k 0)&&decide (p.getD k 0≤n)&& !((p.take k).contains (p.getD k 0))&&gz n (p.take (k+1)) (p.drop (k+1))):=by
 rw[bH h,gz]
 congr 2
 rw[List.take_add_one,ac,ae h];rfl
theorem tF {m0:Bool} (l:List Int) (x:Int) (hl:l.length≤1099511627776):Fun Tryz.prog 66 [(.sl (.lent m0) (List.map (PV.int .i64) (l))),(.int .i64 (x))] [(.bool (l.contains x))]:=by
 refine fO bA [4] Tryz.func66 ?_
 refine dE trivial ?_
 all_goals try(apply aq;repeat' first|exact ao|apply aa|(apply au;intro zb hc)|(apply ar;intro zb)|intro j')<;>try apply aw
 refine az (fun ms1 S1=>∃(k:Nat),S1.e 0=.p (.sl (.lent m0) (List.map (PV.int .i64) (l)))∧S1.e 1=.p (.int .i64 (x))∧S1.e 5=.p (.int .i64 (k))∧(k≤l.length)∧((l.take k).contains x=false)∧ms1=l.length - k) ((fun(k:Nat)=>l.length - k) (0)) ?_ ⟨0,kj trivial ?_⟩
 all_goals try(apply aq;repeat' first|exact ao|apply aa|(apply au;intro zb hc)|(apply ar;intro zb)|intro j')<;>try apply aw
 rintro ms1 S1 ⟨k,h1_0,h1_1,h1_5,c1_0,c1_1,hm1⟩
 have fL1:=(aa h1_0 (aa h1_1 h1_5))
 refine aQ fL1 ?_
 all_goals try(apply aq;repeat' first|exact ao|apply aa|(apply au;intro zb hc)|(apply ar;intro zb)|intro j')<;>try apply aw
 ·rw[←hc,wr (by omega)]
 ·focus
   refine ay ((fun(k:Nat)=>l.length - k) (k+1)) (dC fL1 ?_) ⟨k+1,dC fL1 ?_⟩
   all_goals try(apply aq;repeat' first|exact ao|apply aa|(apply au;intro zb hc)|(apply ar;intro zb)|intro j')<;>try apply aw
  rw[lU (by omega),c1_1,Bool.false_or];exact decide_eq_false (fun e=>hc e.symm)
 ·rw[←c1_1,ah (by omega)]
theorem aD {m0:Bool} (p:List Int) (hl:p.length≤1048576):Fun Tryz.prog 24 [(.sl (.lent m0) (List.map (PV.int .i64) (p)))] [(.bool (al p))]:=by
 refine fO bA [2] Tryz.func24 ?_
 have cE1:= @uL;have cE2:= @tF;have cD1:=iE [false,false,false,false,false,false,true,false,false,false,false,false,false,false,false,false,true,false] []
 refine dE trivial ?_
 all_goals try(apply aq;repeat' first|exact ao|apply aa|(apply au;intro zb hc)|(apply ar;intro zb)|intro j')<;>try apply aw
 refine az (fun ms1 S1=>∃(k:Nat),S1.e 0=.p (.sl (.lent m0) (List.map (PV.int .i64) (p)))∧S1.e 3=.p (.int .i64 (k))∧(k≤p.length)∧(p.length≤8→bD p=gz p.length (p.take k) (p.drop k))∧ms1=p.length - k) ((fun(k:Nat)=>p.length - k) (0)) ?_ ⟨0,kj trivial ?_⟩
 all_goals try(apply aq;repeat' first|exact ao|apply aa|(apply au;intro zb hc)|(apply ar;intro zb)|intro j')<;>try apply aw
 rintro ms1 S1 ⟨k,h1_0,h1_3,c1_0,c1_1,hm1⟩
 have fL1:=(aa h1_0 h1_3)
 refine aQ fL1 ?_
 all_goals try(apply aq;repeat' first|exact ao|apply aa|(apply au;intro zb hc)|(apply ar;intro zb)|intro j')<;>try apply aw
 all_goals try (have c2:=c1_1 (by omega);rw[oK (by omega)]at c2)
 ·simp only[al,c2,hc];simp
 ·focus
   refine ay ((fun(k:Nat)=>p.length - k) (k+1)) (dC fL1 ?_) ⟨k+1,dC fL1 ?_⟩
   all_goals try(apply aq;repeat' first|exact ao|apply aa|(apply au;intro zb hc)|(apply ar;intro zb)|intro j')<;>try apply aw
  intro h;rw[c2,hc,decide_eq_true (by omega),decide_eq_true (by omega)];rfl
 ·simp only[al,c2]
  rcases hc with hc|hc
  ·rw[decide_eq_false (by omega:¬1≤p.getD k 0)];simp
  ·rw[decide_eq_false (by omega:¬p.getD k 0≤(p.length:Int))];simp
 ·rw[al,decide_eq_false (by omega)];rfl
 ·by_cases h8:p.length≤8
  ·rw[al,c1_1 h8,aL (by omega),gz,Bool.and_true];congr 1;simp only[eq_iff_iff];omega
  ·rw[al,decide_eq_false h8,decide_eq_false (by omega)];rfl
 ·rfl
theorem sd {m0:Bool} (p:List Int) (hl:p.length≤1048576):Fun Tryz.prog 84 [(.sl (.lent m0) (List.map (PV.int .i64) (p)))] [(.bool (bD p))]:=by
 refine fO bA [2] Tryz.func84 ?_
 refine aQ trivial ?_
 all_goals try(apply aq;repeat' first|exact ao|apply aa|(apply au;intro zb hc)|(apply ar;intro zb)|intro j')<;>try apply aw
 refine az (fun ms1 S1=>∃(k:Nat) (seen:List Bool),S1.e 0=.p (.sl (.lent m0) (List.map (PV.int .i64) (p)))∧S1.e 10=.p (.sl (.lent m0) (List.map (PV.int .i64) (p)))∧OwnL (S1.e 3) S1.h S1.n PV.bool ((seen).length) (seen)∧S1.e 11=.p (.int .i64 (p.length))∧S1.e 12=.p (.int .i64 (k))∧(k≤p.length)∧(seen.length=p.length+1)∧(bD p=gz p.length (p.take k) (p.drop k))∧(∀v:Nat,1≤v→v≤p.length→seen.getD v false=(p.take k).contains (v:Int))∧ms1=p.length - k) ((fun(k:Nat) (seen:List Bool)=>p.length - k) (0) (List.replicate (p.length+1) false)) ?_ ⟨0,List.replicate (p.length+1) false,dI trivial ?_⟩
 all_goals try(apply aq;repeat' first|exact ao|apply aa|(apply au;intro zb hc)|(apply ar;intro zb)|intro j')<;>try apply aw
 rintro ms1 S1 ⟨k,seen,h1_0,h1_10,o1_3,h1_11,h1_12,c1_0,c1_1,c1_2,c1_3,hm1⟩
 obtain⟨i1_3,h1_3,b1_3,l1_3⟩:=o1_3.out
 have ni1_3:=bi (x:=i1_3) (n:=S1.n)
 have fL1:=(aa h1_0 (aa h1_10 (aa h1_11 (aa h1_12 (aa h1_3 (aa b1_3 ni1_3))))))
 refine dE fL1 ?_
 all_goals try(apply aq;repeat' first|exact ao|apply aa|(apply au;intro zb hc)|(apply ar;intro zb)|intro j')<;>try apply aw
 all_goals try rw[oK (by omega)]at c1_2
 all_goals try exact iF
 ·rw[c1_2,←show((p.getD k 0).toNat:Int)=p.getD k 0 by omega,←c1_3 _ (by omega) (by omega),hc];simp
 ·focus
   refine ay ((fun(k:Nat) (seen:List Bool)=>p.length - k) (k+1) (seen.set (p.getD k 0).toNat true)) (dC fL1 ?_) ⟨k+1,seen.set (p.getD k 0).toNat true,dC fL1 ?_⟩
   all_goals try(apply aq;repeat' first|exact ao|apply aa|(apply au;intro zb hc)|(apply ar;intro zb)|intro j')<;>try apply aw
  ·rw[c1_2,decide_eq_true (by omega),decide_eq_true (by omega),←show((p.getD k 0).toNat:Int)=p.getD k 0 by omega,←c1_3 _ (by omega) (by omega),hc];rfl
  ·intro v h1 h2
   rw[lU (by omega),←c1_3 v h1 h2,ac,List.getElem?_set]
   by_cases e:(p.getD k 0).toNat=v
   ·rw[if_pos e,if_pos (by omega),decide_eq_true (by omega)];simp
   ·rw[if_neg e,decide_eq_false (by omega),Bool.or_false,ac]
 ·rw[c1_2,decide_eq_false (by omega:¬p.getD k 0≤(p.length:Int))];simp
 ·rw[c1_2,decide_eq_false (by omega:¬1≤p.getD k 0)];simp
 ·rw[c1_2,aL (by omega)];rfl
 ·intro v h1 h2;rw[ac,List.getElem?_replicate];split<;>rfl
theorem aA {m0:Bool} (p:List Int) (hl:p.length≤1048576):Fun Tryz.prog 37 [(.sl (.lent m0) (List.map (PV.int .i64) (p)))] [(.bool (al p))]:=by
 refine fO bA [2] Tryz.func37 ?_
 have cE1:= @sd
 refine aQ trivial ?_
 all_goals try(apply aq;repeat' first|exact ao|apply aa|(apply au;intro zb hc)|(apply ar;intro zb)|intro j')<;>try apply aw
 ·rw[al,decide_eq_true (by omega),Bool.true_and]
 ·rw[al,decide_eq_false (by omega)];rfl
def ot (p:Int→Bool):List Int→Nat→Int
 |[],_=> -1
 |x::l,i=>if p x then i else ot p l (i+1)
theorem ZY {l:List Int} {i:Nat} (h:i<l.length):l.getD i 0∈l:=by
 rw[ac,ae h];exact List.getElem_mem h
theorem bF {m0:Bool} (l:List Int) (g:FuncId) (caps:List PV) (p:Int→Bool) (hl:l.length≤1099511627776) (hp:∀x∈l,Fun Tryz.prog g (.int .i64 x::caps.map PV.cell) [.bool (p x)]):Fun Tryz.prog 114 [(.sl (.lent m0) (List.map (PV.int .i64) (l))),(.fn g [] caps)] [(.int .i64 (ot p l 0))]:=by
 refine fO bA [4] Tryz.func114 ?_
 refine dE trivial ?_
 all_goals try(apply aq;repeat' first|exact ao|apply aa|(apply au;intro zb hc)|(apply ar;intro zb)|intro j')<;>try apply aw
 refine az (fun ms1 S1=>∃(k:Nat),S1.e 0=.p (.sl (.lent m0) (List.map (PV.int .i64) (l)))∧S1.e 1=.p (.fn g [] caps)∧S1.e 7=.p (.int .i64 (l.length))∧S1.e 8=.p (.int .i64 (k))∧(k≤l.length)∧(ot p l 0=ot p (l.drop k) k)∧ms1=l.length - k) ((fun(k:Nat)=>l.length - k) (0)) ?_ ⟨0,kj trivial ?_⟩
 all_goals try(apply aq;repeat' first|exact ao|apply aa|(apply au;intro zb hc)|(apply ar;intro zb)|intro j')<;>try apply aw
 rintro ms1 S1 ⟨k,h1_0,h1_1,h1_7,h1_8,c1_0,c1_1,hm1⟩
 have fL1:=(aa h1_0 (aa h1_1 (aa h1_7 h1_8)))
 have cE1:= @hp
 refine aQ fL1 ?_
 all_goals try(apply aq;repeat' first|exact ao|apply aa|(apply au;intro zb hc)|(apply ar;intro zb)|intro j')<;>try apply aw
 ·exact ZY hc
 ·rw[c1_1,bH (by omega),ot,if_pos hc]
 ·focus
   refine ay ((fun(k:Nat)=>l.length - k) (k+1)) (dC fL1 ?_) ⟨k+1,dC fL1 ?_⟩
   all_goals try(apply aq;repeat' first|exact ao|apply aa|(apply au;intro zb hc)|(apply ar;intro zb)|intro j')<;>try apply aw
  rw[c1_1,bH (by omega),ot,if_neg (by rw[hc];decide)]
 ·rw[c1_1,aL (by omega),ot]
end Go.Gl
namespace Go.Proofs
open Go.Shelf
def Tryz.lays156_ren:Go.Shelf.Ren:=⟨fun|156=>51|165=>105|166=>106|169=>107|240=>146|241=>147|276=>179|277=>180|n=>n,fun|31=>36|9=>9|3=>3|4=>4|0=>0|20=>20|72=>61|76=>65|70=>59|37=>27|75=>64|127=>88|164=>110|5=>5|80=>67|n=>n,fun|n=>n⟩
theorem Tryz.lays156:Go.Proofs.Lays.n156 Tryz.prog Tryz.lays156_ren:={
 mixed:=by kernel_rfl
 f156:=Tryz.func51.trans (congrArg some (by kernel_rfl))
 f165:=Tryz.func105.trans (congrArg some (by kernel_rfl))
 f166:=Tryz.func106.trans (congrArg some (by kernel_rfl))
 f169:=Tryz.func107.trans (congrArg some (by kernel_rfl))
 f240:=Tryz.func146.trans (congrArg some (by kernel_rfl))
 f241:=Tryz.func147.trans (congrArg some (by kernel_rfl))
 f276:=Tryz.func179.trans (congrArg some (by kernel_rfl))
 f277:=Tryz.func180.trans (congrArg some (by kernel_rfl))
 t0:=Tryz.underlying0
 a0:=Tryz.isAgg0
 z0:=Tryz.sizeOf0
 v0:=Tryz.zeroValue0
 t3:=Tryz.underlying3
 a3:=Tryz.isAgg3
 z3:=Tryz.sizeOf3
 v3:=Tryz.zeroValue3
 t4:=Tryz.underlying4
 a4:=Tryz.isAgg4
 z4:=Tryz.sizeOf4
 v4:=Tryz.zeroValue4
 t9:=Tryz.underlying9
 a9:=Tryz.isAgg9
 z9:=Tryz.sizeOf9
 v9:=Tryz.zeroValue9
 t20:=Tryz.underlying20
 a20:=Tryz.isAgg20
 z20:=Tryz.sizeOf20
 v20:=Tryz.zeroValue20
 t31:=Tryz.underlying36
 a31:=Tryz.isAgg36
 z31:=Tryz.sizeOf36
 v31:=Tryz.zeroValue36
 t37:=Tryz.underlying27
 a37:=Tryz.isAgg27
 z37:=Tryz.sizeOf27
 v37:=Tryz.zeroValue27
 t70:=Tryz.underlying59
 a70:=Tryz.isAgg59
 z70:=Tryz.sizeOf59
 v70:=Tryz.zeroValue59
 t72:=Tryz.underlying61
 a72:=Tryz.isAgg61
 z72:=Tryz.sizeOf61
 v72:=Tryz.zeroValue61
 t75:=Tryz.underlying64
 a75:=Tryz.isAgg64
 z75:=Tryz.sizeOf64
 v75:=Tryz.zeroValue64
 t76:=Tryz.underlying65
 a76:=Tryz.isAgg65
 z76:=Tryz.sizeOf65
 v76:=Tryz.zeroValue65
 t127:=Tryz.underlying88
 a127:=Tryz.isAgg88
 z127:=Tryz.sizeOf88
 v127:=Tryz.zeroValue88
 t164:=Tryz.underlying110
 a164:=Tryz.isAgg110
 z164:=Tryz.sizeOf110
 v164:=Tryz.zeroValue110}
theorem Tryz.Builder_Extra_156:Builder.Extra Tryz.prog Tryz.lays156_ren:={
 sizeBuilder:=by kernel_rfl
 liesBuilder:=by kernel_rfl
 t5:=Tryz.underlying5
 a5:=Tryz.isAgg5
 z5:=Tryz.sizeOf5
 v5:=Tryz.zeroValue5
 infoByte:=by kernel_rfl
 cellsByte:=by kernel_rfl
 sizeByte:=by kernel_rfl
 neB5:=by decide}
open Go.RowKit in
theorem Tryz.strings_Join_none (a:Option Addr) (c:Nat) (sep:ByteArray) (w:World):
  Calls Tryz.prog 51 #[.slice a 0 c,.string sep] w fun e w'=>e=.returned (.string ⟨#[]⟩)∧w'=w:=Any.strings_Join_none Tryz.lays156 Tryz.Builder_Extra_156 a c sep w
open Go.RowKit in
theorem Tryz.strings_Join (bk o c:Nat) (xs:List ByteArray) (sep:ByteArray) (w:World) (hcells:∀(j:Nat) x,xs[j]? =some x→w.cell? ⟨bk,o+j,none⟩=some (.string x)) (hbk:bk<w.heap.size) (hN:xs.length≤140737488355328) (hcap:xs.length≤c) (hlen:(Lib.join (xs.map (·.data.toList)) sep.data.toList).length≤140737488355328):
  Calls Tryz.prog 51 #[.slice (some ⟨bk,o,none⟩) xs.length c,.string sep] w fun e w'=>e=.returned (.string ⟨(Lib.join (xs.map (·.data.toList)) sep.data.toList).toArray⟩)∧Below w.heap.size w w':=Any.strings_Join Tryz.lays156 Tryz.Builder_Extra_156 bk o c xs sep w hcells hbk hN hcap hlen
def Tryz.laysM171_ren:Go.Shelf.Ren:=⟨fun|171=>88|243=>130|246=>171|283=>195|284=>196|285=>197|286=>198|129=>209|317=>215|318=>216|319=>217|320=>218|337=>226|338=>227|n=>n,fun|3=>3|9=>9|2=>2|4=>4|171=>121|0=>0|53=>122|37=>27|5=>5|173=>125|212=>140|51=>137|20=>20|213=>141|46=>114|232=>152|233=>153|n=>n,fun|17=>1|18=>2|19=>3|n=>n⟩
theorem Tryz.laysM171:Go.Proofs.LaysM.n171 Tryz.prog Tryz.laysM171_ren:={
 mixed:=by kernel_rfl
 f129:=Tryz.func209.trans (congrArg some (by kernel_rfl))
 f171:=Tryz.func88.trans (congrArg some (by kernel_rfl))
 f243:=Tryz.func130.trans (congrArg some (by kernel_rfl))
 f246:=Tryz.func171.trans (congrArg some (by kernel_rfl))
 f283:=Tryz.func195.trans (congrArg some (by kernel_rfl))
 f284:=Tryz.func196.trans (congrArg some (by kernel_rfl))
 f285:=Tryz.func197.trans (congrArg some (by kernel_rfl))
 f286:=Tryz.func198.trans (congrArg some (by kernel_rfl))
 f317:=Tryz.func215.trans (congrArg some (by kernel_rfl))
 f318:=Tryz.func216.trans (congrArg some (by kernel_rfl))
 f319:=Tryz.func217.trans (congrArg some (by kernel_rfl))
 f320:=Tryz.func218.trans (congrArg some (by kernel_rfl))
 f337:=Tryz.func226.trans (congrArg some (by kernel_rfl))
 f338:=Tryz.func227.trans (congrArg some (by kernel_rfl))
 t0:=Tryz.underlying0
 a0:=Tryz.isAgg0
 z0:=Tryz.sizeOf0
 v0:=Tryz.zeroValue0
 t2:=Tryz.underlying2
 a2:=Tryz.isAgg2
 z2:=Tryz.sizeOf2
 v2:=Tryz.zeroValue2
 t3:=Tryz.underlying3
 a3:=Tryz.isAgg3
 z3:=Tryz.sizeOf3
 v3:=Tryz.zeroValue3
 t4:=Tryz.underlying4
 a4:=Tryz.isAgg4
 z4:=Tryz.sizeOf4
 v4:=Tryz.zeroValue4
 t5:=Tryz.underlying5
 a5:=Tryz.isAgg5
 z5:=Tryz.sizeOf5
 v5:=Tryz.zeroValue5
 t9:=Tryz.underlying9
 a9:=Tryz.isAgg9
 z9:=Tryz.sizeOf9
 v9:=Tryz.zeroValue9
 t20:=Tryz.underlying20
 a20:=Tryz.isAgg20
 z20:=Tryz.sizeOf20
 v20:=Tryz.zeroValue20
 t37:=Tryz.underlying27
 a37:=Tryz.isAgg27
 z37:=Tryz.sizeOf27
 v37:=Tryz.zeroValue27
 t46:=Tryz.underlying114
 a46:=Tryz.isAgg114
 z46:=Tryz.sizeOf114
 v46:=Tryz.zeroValue114
 t51:=Tryz.underlying137
 a51:=Tryz.isAgg137
 z51:=Tryz.sizeOf137
 v51:=Tryz.zeroValue137
 t53:=Tryz.underlying122
 a53:=Tryz.isAgg122
 z53:=Tryz.sizeOf122
 v53:=Tryz.zeroValue122
 t171:=Tryz.underlying121
 a171:=Tryz.isAgg121
 z171:=Tryz.sizeOf121
 v171:=Tryz.zeroValue121
 t173:=Tryz.underlying125
 a173:=Tryz.isAgg125
 z173:=Tryz.sizeOf125
 v173:=Tryz.zeroValue125
 t212:=Tryz.underlying140
 a212:=Tryz.isAgg140
 z212:=Tryz.sizeOf140
 v212:=Tryz.zeroValue140
 t213:=Tryz.underlying141
 a213:=Tryz.isAgg141
 z213:=Tryz.sizeOf141
 t232:=Tryz.underlying152
 a232:=Tryz.isAgg152
 z232:=Tryz.sizeOf152
 v232:=Tryz.zeroValue152
 t233:=Tryz.underlying153
 a233:=Tryz.isAgg153
 z233:=Tryz.sizeOf153
 v233:=Tryz.zeroValue153
 g17:=by kernel_rfl
 g18:=by kernel_rfl
 g19:=by kernel_rfl
 i0:=by kernel_rfl
 i2:=by kernel_rfl
 i3:=by kernel_rfl
 i4:=by kernel_rfl
 i5:=by kernel_rfl
 i9:=by kernel_rfl
 i20:=by kernel_rfl
 i37:=by kernel_rfl
 i46:=by kernel_rfl
 i51:=by kernel_rfl
 i53:=by kernel_rfl
 i171:=by kernel_rfl
 i173:=by kernel_rfl
 i212:=by kernel_rfl
 i232:=by kernel_rfl
 i233:=by kernel_rfl
 m17:=by kernel_rfl
 m18:=by kernel_rfl
 m19:=by kernel_rfl}
open Go.RowKit Go.Sort Go.Lib in
theorem Tryz.strconv_Itoa (n:Int) (h0: -9223372036854775808≤n) (h1:n≤9223372036854775807) (w:World) (htab:Lib.TabIs Tryz.prog w "internal/strconv.uint64pow10" .u64 Lib.pow10Tab):
  Calls Tryz.prog 88 #[.int .i64 n] w fun e w'=>e=.returned (.string ⟨(Lib.itoa n).toArray⟩)∧∃k os,w'=grow (w.drewN k) os:=Any.strconv_Itoa Tryz.laysM171 n h0 h1 w htab
def Tryz.lays171_ren:Go.Shelf.Ren:=⟨fun|171=>88|243=>130|246=>171|283=>195|284=>196|285=>197|286=>198|129=>209|317=>215|318=>216|319=>217|320=>218|337=>226|338=>227|n=>n,fun|3=>3|9=>9|2=>2|4=>4|171=>121|0=>0|53=>122|37=>27|5=>5|173=>125|212=>140|51=>137|20=>20|213=>141|46=>114|232=>152|233=>153|n=>n,fun|17=>1|18=>2|19=>3|n=>n⟩
theorem Tryz.lays171:Go.Proofs.Lays.n171 Tryz.prog Tryz.lays171_ren:={
 mixed:=by kernel_rfl
 f129:=Tryz.func209.trans (congrArg some (by kernel_rfl))
 f171:=Tryz.func88.trans (congrArg some (by kernel_rfl))
 f243:=Tryz.func130.trans (congrArg some (by kernel_rfl))
 f246:=Tryz.func171.trans (congrArg some (by kernel_rfl))
 f283:=Tryz.func195.trans (congrArg some (by kernel_rfl))
 f284:=Tryz.func196.trans (congrArg some (by kernel_rfl))
 f285:=Tryz.func197.trans (congrArg some (by kernel_rfl))
 f286:=Tryz.func198.trans (congrArg some (by kernel_rfl))
 f317:=Tryz.func215.trans (congrArg some (by kernel_rfl))
 f318:=Tryz.func216.trans (congrArg some (by kernel_rfl))
 f319:=Tryz.func217.trans (congrArg some (by kernel_rfl))
 f320:=Tryz.func218.trans (congrArg some (by kernel_rfl))
 f337:=Tryz.func226.trans (congrArg some (by kernel_rfl))
 f338:=Tryz.func227.trans (congrArg some (by kernel_rfl))
 t0:=Tryz.underlying0
 a0:=Tryz.isAgg0
 z0:=Tryz.sizeOf0
 v0:=Tryz.zeroValue0
 t2:=Tryz.underlying2
 a2:=Tryz.isAgg2
 z2:=Tryz.sizeOf2
 v2:=Tryz.zeroValue2
 t3:=Tryz.underlying3
 a3:=Tryz.isAgg3
 z3:=Tryz.sizeOf3
 v3:=Tryz.zeroValue3
 t4:=Tryz.underlying4
 a4:=Tryz.isAgg4
 z4:=Tryz.sizeOf4
 v4:=Tryz.zeroValue4
 t5:=Tryz.underlying5
 a5:=Tryz.isAgg5
 z5:=Tryz.sizeOf5
 v5:=Tryz.zeroValue5
 t9:=Tryz.underlying9
 a9:=Tryz.isAgg9
 z9:=Tryz.sizeOf9
 v9:=Tryz.zeroValue9
 t20:=Tryz.underlying20
 a20:=Tryz.isAgg20
 z20:=Tryz.sizeOf20
 v20:=Tryz.zeroValue20
 t37:=Tryz.underlying27
 a37:=Tryz.isAgg27
 z37:=Tryz.sizeOf27
 v37:=Tryz.zeroValue27
 t46:=Tryz.underlying114
 a46:=Tryz.isAgg114
 z46:=Tryz.sizeOf114
 v46:=Tryz.zeroValue114
 t51:=Tryz.underlying137
 a51:=Tryz.isAgg137
 z51:=Tryz.sizeOf137
 v51:=Tryz.zeroValue137
 t53:=Tryz.underlying122
 a53:=Tryz.isAgg122
 z53:=Tryz.sizeOf122
 v53:=Tryz.zeroValue122
 t171:=Tryz.underlying121
 a171:=Tryz.isAgg121
 z171:=Tryz.sizeOf121
 v171:=Tryz.zeroValue121
 t173:=Tryz.underlying125
 a173:=Tryz.isAgg125
 z173:=Tryz.sizeOf125
 v173:=Tryz.zeroValue125
 t212:=Tryz.underlying140
 a212:=Tryz.isAgg140
 z212:=Tryz.sizeOf140
 v212:=Tryz.zeroValue140
 t213:=Tryz.underlying141
 a213:=Tryz.isAgg141
 z213:=Tryz.sizeOf141
 t232:=Tryz.underlying152
 a232:=Tryz.isAgg152
 z232:=Tryz.sizeOf152
 v232:=Tryz.zeroValue152
 t233:=Tryz.underlying153
 a233:=Tryz.isAgg153
 z233:=Tryz.sizeOf153
 v233:=Tryz.zeroValue153
 g17:=by kernel_rfl
 g18:=by kernel_rfl
 g19:=by kernel_rfl}
open Go.RowKit Go.Sort Go.Lib in
theorem Tryz.strconv_Itoa_small (i:Nat) (hi:i<100) (w:World):
  Calls Tryz.prog 88 #[.int .i64 i] w fun e w'=>e=.returned (.string ⟨(Lib.decDigits i).toArray⟩)∧w'=w:=Any.strconv_Itoa_small Tryz.lays171 i hi w
def Tryz.laysNm215_ren:Go.Shelf.Ren:=⟨fun|15=>132|n=>n,fun|22=>22|3=>3|4=>4|n=>n,fun|n=>n⟩
theorem Tryz.laysNm215:Go.Proofs.Lays2.n15 Tryz.prog Tryz.laysNm215_ren:={
 mixed:=by kernel_rfl
 f15:=Tryz.func132.trans (congrArg some (by kernel_rfl))
 t3:=Tryz.underlying3
 a3:=Tryz.isAgg3
 z3:=Tryz.sizeOf3
 v3:=Tryz.zeroValue3
 t4:=Tryz.underlying4
 a4:=Tryz.isAgg4
 z4:=Tryz.sizeOf4
 v4:=Tryz.zeroValue4
 t22:=Tryz.underlying22
 a22:=Tryz.isAgg22
 z22:=Tryz.sizeOf22
 v22:=Tryz.zeroValue22
 i3:=by kernel_rfl}
open Go.RowKit Go.Lib in
theorem Tryz.slices_Clone_int (b off n c:Nat) (zs:List Int) (w:World) (hz:n≤zs.length) (hbig:n*8≤140737488355328) (hc:∀j,j<zs.length→w.cell? ⟨b,off+j,none⟩=some (.int .i64 (zs.getD j 0))):
  Calls Tryz.prog 132 #[.slice (some ⟨b,off,none⟩) n c] w fun e w'=>∃v',e=.returned v'∧w'.ownsRow w.heap.size 3 1 v' n ((zs.take n).map (Value.int .i64))∧v'≠ .slice none 0 0∧Below w.heap.size w w':=Any.slices_Clone_int Tryz.laysNm215 b off n c zs w hz hbig hc
open Go.RowKit Go.Lib in
theorem Tryz.slices_Clone_int_nil (n c:Nat) (w:World):
  Calls Tryz.prog 132 #[.slice none n c] w fun e w'=>e=.returned (.slice none 0 0)∧w'=w:=Any.slices_Clone_int_nil Tryz.laysNm215 n c w
open Go.RowKit Go.Lib in
theorem Tryz.slices_Clone_int_zero (a:Addr) (c:Nat) (w:World):
  Calls Tryz.prog 132 #[.slice (some a) 0 c] w fun e w'=>∃v',e=.returned v'∧w'.ownsRow w.heap.size 3 1 v' 0 []∧v'≠ .slice none 0 0∧Below w.heap.size w w':=Any.slices_Clone_int_zero Tryz.laysNm215 a c w
def Tryz.laysGrow_ren:Go.Shelf.Ren:=⟨fun|4=>225|n=>n,fun|22=>22|25=>3|3=>3|4=>4|9=>9|20=>20|0=>0|n=>n,fun|n=>n⟩
theorem Tryz.laysGrow:Go.Proofs.Lays8.n4 Tryz.prog Tryz.laysGrow_ren:={
 mixed:=by kernel_rfl
 f4:=⟨Tryz.f225.name,by decide,Tryz.func225.trans (congrArg some (by kernel_rfl))⟩
 t0:=Tryz.underlying0
 a0:=Tryz.isAgg0
 z0:=Tryz.sizeOf0
 v0:=Tryz.zeroValue0
 t3:=Tryz.underlying3
 a3:=Tryz.isAgg3
 z3:=Tryz.sizeOf3
 v3:=Tryz.zeroValue3
 t4:=Tryz.underlying4
 a4:=Tryz.isAgg4
 z4:=Tryz.sizeOf4
 v4:=Tryz.zeroValue4
 t9:=Tryz.underlying9
 a9:=Tryz.isAgg9
 z9:=Tryz.sizeOf9
 v9:=Tryz.zeroValue9
 t20:=Tryz.underlying20
 a20:=Tryz.isAgg20
 z20:=Tryz.sizeOf20
 v20:=Tryz.zeroValue20
 t22:=Tryz.underlying22
 a22:=Tryz.isAgg22
 z22:=Tryz.sizeOf22
 v22:=Tryz.zeroValue22}
open Go.RowKit Go.Lib in
theorem Tryz.slices_Grow_room (base:Option Addr) (l c n:Nat) (w:World) (hlc:l≤c) (hc63:c≤9223372036854775807) (hn63:n≤9223372036854775807) (hroom:l+n≤c):
  Calls Tryz.prog 225 #[.slice base l c,.int .i64 n] w fun e w'=>e=.returned (.slice base l c)∧w'=w:=Any8.slices_Grow_room Tryz.laysGrow base l c n w hlc hc63 hn63 hroom
end Go.Proofs
namespace Go.Gl
open Go Go.Proofs
variable [Amb] [NoQ]
theorem cA {m0:Bool} (l:List Int) (hl:l.length≤1099511627776):
  Fun Tryz.prog 132 [.sl (.lent m0) (List.map (.int .i64) l)] [.sl .own (List.map (.int .i64) l)]:=by
 refine Fun.of_row 3 Tryz.func132 rfl rfl yD (by intro x hx;rw[List.mem_map]at hx;obtain⟨_,_,rfl⟩:=hx;rfl) ?_
 intro w F G vs _ hv
 simp only[RepL]at hv
 obtain⟨a,vs1,rfl,ha,rfl⟩:=hv
 have e1:(l.map (PV.int .i64)).map Cy=l.map (Value.int .i64):=by simp[Function.comp_def,Cy,z8]
 simp only[RepP]at ha
 obtain⟨a,cap,rfl,h1,h2,ho,h3⟩:=ha
 rw[e1,an]at*
 by_cases hn:a=none
 ·subst hn
  have hl0:l=[]:=by
   rcases h3 with h3|⟨B,off,h3,_⟩
   ·simpa using h3
   ·cases h3
  subst hl0
  exact(Tryz.slices_Clone_int_nil _ _ w).mono fun e w' h=>⟨_,h.1,⟨by simp,.inl ⟨rfl,rfl⟩⟩,h.2▸Go.RowKit.Below.refl _ _⟩
 ·obtain⟨ad,rfl⟩:∃ad,a=some ad:=by cases a with|none=>exact absurd rfl hn|some ad=>exact⟨ad,rfl⟩
  by_cases hl0:l=[]
  ·subst hl0
   exact(Tryz.slices_Clone_int_zero ad cap w).mono fun e w' ⟨v,hv,hr,_,hw⟩=>⟨v,hv,hr,hw⟩
  ·rcases h3 with h3|⟨B,off,h3,_,_,hc⟩
   ·simp at h3;exact absurd h3 hl0
   ·cases h3
    rw[cf]at hc
    have:=Tryz.slices_Clone_int B off l.length cap l w (am _) (by omega) (fun j hj=>by
     obtain⟨u,hu,_,hr⟩:=hc j (.int .i64 (l.getD j 0)) (by rw[ax,ac,ae hj];rfl)
     rw[wU hr]at hu;exact hu)
    rw[List.take_length]at this
    exact this.mono fun e w' ⟨v,hv,hr,_,hw⟩=>⟨v,hv,hr,hw⟩
def vq (n:Nat) (k:Int):List Int:=(List.range n).map fun i:Nat=>k+(i:Int)
theorem nk {n:Nat} {k:Int}:(vq n k).length=n:=by simp[vq]
theorem lL {a b:List Int} {k:Nat} (ha:k<a.length) (hb:k<b.length):a.take (k+1)=b.take (k+1)↔a.take k=b.take k∧a.getD k 0=b.getD k 0:=by
 rw[List.take_add_one,List.take_add_one,ac,ac,ae ha,ae hb]
 simp only[Option.toList_some,Option.getD_some]
 constructor
 ·intro h
  have:=List.append_inj h (by simp;omega)
  exact⟨this.1,by simpa using this.2⟩
 ·rintro⟨h1,h2⟩;rw[h1,h2]
theorem zT {α:Type} {c:List α} {i:Nat} {x:α} (h:i<c.length):(c.set i x).take (i+1)=c.take i++[x]:=by
 rw[List.take_add_one,List.take_set_of_le (am _),List.getElem?_set_self h];rfl
theorem aX {α:Type} {l:List α} {i:Nat} {d:α} (h:i<l.length):l.take (i+1)=l.take i++[l.getD i d]:=by
 rw[List.take_add_one,ac,ae h];rfl
theorem GI {n:Nat} {k:Int}:List.take n (vq n k)=vq n k:=by
 rw[ah];simp[nk]
attribute [go_sem] GI nk List.not_mem_nil List.mem_cons or_false
theorem rm {α:Type} {l:List (List α)} {i:Nat} (h:i<l.length):l.drop i=l.getD i []::l.drop (i+1):=by
 rw[List.drop_eq_getElem_cons h,ac,ae h];rfl
theorem aF {α:Type} {l:List α} {i:Nat} {d:α} (h:i<l.length):l.getD i d∈l:=by
 rw[ac,ae h];exact List.getElem_mem h
theorem Pe {α:Type} {l:List α} {x:α}:List.take (l.length+1) (l++[x])=l++[x]:=ah (by simp)
def uj {α:Type} (p:α→Bool):List α→Nat→Int
 |[],_=> -1
 |x::l,i=>if p x then i else uj p l (i+1)
theorem vM {α:Type} {p:α→Bool}:∀{l:List α} {i:Nat},decide (0≤uj p l i)=l.any p
 |[],_=>rfl
 |x::l,i=>by
  rw[uj,List.any_cons]
  split
  ·rename_i h;rw[h,Bool.true_or];exact decide_eq_true (by omega)
  ·rename_i h;rw[vM,Bool.eq_false_iff.2 h,Bool.false_or]
theorem cT {e0 m0:Bool} (l:List (List Int)) (g:FuncId) (caps:List PV) (p:List Int→Bool) (hl:l.length≤1099511627776) (hp:∀x∈l,Fun Tryz.prog g (.sl (.lent e0) (List.map (PV.int .i64) x)::caps.map PV.cell) [.bool (p x)]):Fun Tryz.prog 174 [(.sl (.lent m0) (List.map (bW e0) (l))),(.fn g [] caps)] [(.int .i64 (uj p l 0))]:=by
 refine fO bA [4] Tryz.func174 ?_
 refine dE trivial ?_
 all_goals try(apply aq;repeat' first|exact ao|apply aa|(apply au;intro zb hc)|(apply ar;intro zb)|intro j')<;>try apply aw
 refine az (fun ms1 S1=>∃(k:Nat),S1.e 0=.p (.sl (.lent m0) (List.map (bW e0) (l)))∧S1.e 1=.p (.fn g [] caps)∧S1.e 7=.p (.int .i64 (l.length))∧S1.e 8=.p (.int .i64 (k))∧(k≤l.length)∧(uj p l 0=uj p (l.drop k) k)∧ms1=l.length - k) ((fun(k:Nat)=>l.length - k) (0)) ?_ ⟨0,kj trivial ?_⟩
 all_goals try(apply aq;repeat' first|exact ao|apply aa|(apply au;intro zb hc)|(apply ar;intro zb)|intro j')<;>try apply aw
 rintro ms1 S1 ⟨k,h1_0,h1_1,h1_7,h1_8,c1_0,c1_1,hm1⟩
 have fL1:=(aa h1_0 (aa h1_1 (aa h1_7 h1_8)))
 have cE1:= @hp
 refine aQ fL1 ?_
 all_goals try(apply aq;repeat' first|exact ao|apply aa|(apply au;intro zb hc)|(apply ar;intro zb)|intro j')<;>try apply aw
 ·exact aF hc
 ·rw[c1_1,rm (by omega),uj,if_pos hc]
 ·focus
   refine ay ((fun(k:Nat)=>l.length - k) (k+1)) (dC fL1 ?_) ⟨k+1,dC fL1 ?_⟩
   all_goals try(apply aq;repeat' first|exact ao|apply aa|(apply au;intro zb hc)|(apply ar;intro zb)|intro j')<;>try apply aw
  rw[c1_1,rm (by omega),uj,if_neg (by rw[hc];decide)]
 ·rw[c1_1,aL (by omega),uj]
theorem bq {e0 m0:Bool} (l:List (List Int)) (g:FuncId) (caps:List PV) (p:List Int→Bool) (hl:l.length≤1099511627776) (hp:∀x∈l,Fun Tryz.prog g (.sl (.lent e0) (List.map (PV.int .i64) x)::caps.map PV.cell) [.bool (p x)]):Fun Tryz.prog 137 [(.sl (.lent m0) (List.map (bW e0) (l))),(.fn g [] caps)] [(.bool (l.any p))]:=by
 refine fO bA [4] Tryz.func137 ?_
 have cE1:= @cT
 have cE1:=(fun m0=>cT (m0:=m0) l g caps p hl hp);have cE2:= @cT
 refine dE trivial ?_
 all_goals try(apply aq;repeat' first|exact ao|apply aa|(apply au;intro zb hc)|(apply ar;intro zb)|intro j')<;>try apply aw
 rw[vM]
def sh (b:Int) (p q c:List Int) (i:Int) (k:Nat):Bool:=(List.range k).all fun l=>decide (q.getD l 0<q.getD c.length 0)==decide (p.getD (c.getD l 0 - b).toNat 0<p.getD (i - b).toNat 0)
def rb (b:Int) (p q c:List Int) (i:Int):Bool:=sh b p q c i c.length
theorem jS {b:Int} {p q c:List Int} {i:Int} {k:Nat}:sh b p q c i (k+1)=(sh b p q c i k&&(decide (q.getD k 0<q.getD c.length 0)==decide (p.getD (c.getD k 0 - b).toNat 0<p.getD (i - b).toNat 0))):=by
 simp[sh,List.range_succ]
def bE (b:Int) (c:List Int):Int:=if c.length=0 then b else c.getD (c.length - 1) 0+1
def lH (b:Int) (p q:List Int):Nat→List Int→List (List Int)
 |0,c=>[c]
 |d+1,c=>(List.range ((p.length:Int)+b - bE b c).toNat).flatMap fun j:Nat=>if rb b p q c (bE b c+j)=true then lH b p q d (c++[bE b c+j])else[]
def jN (b:Int) (p q:List Int) (d:Nat) (c:List Int) (J:Nat):List (List Int):=
 (List.range J).flatMap fun j:Nat=>if rb b p q c (bE b c+j)=true then lH b p q d (c++[bE b c+j])else[]
theorem CQ {b:Int} {p q:List Int} {d:Nat} {c:List Int}:lH b p q (d+1) c=jN b p q d c ((p.length:Int)+b - bE b c).toNat:=rfl
theorem dU {b:Int} {p q:List Int} {d:Nat} {c:List Int} {J:Nat}:jN b p q d c (J+1)=jN b p q d c J++if rb b p q c (bE b c+J)=true then lH b p q d (c++[bE b c+J])else[]:=by
 simp[jN,List.range_succ]
theorem jR {b i:Int} {c:List Int}:bE b (c++[i])=i+1:=by
 rw[bE,if_neg (by simp)];simp
theorem yA {b:Int} {p q:List Int} (hb:0≤b):∀{d:Nat} {c:List Int},b≤bE b c→(lH b p q d c).length≤p.length^d
 |0,c,_=>by simp[lH]
 |d+1,c,hc=>by
  have key:∀J,(jN b p q d c J).length≤J*p.length^d:=by
   intro J
   induction J with
   |zero=>simp[jN]
   |succ J ih=>
    rw[dU,ak,Nat.succ_mul]
    split
    ·have:=yA (q:=q) (p:=p) hb (d:=d) (c:=c++[bE b c+J]) (by rw[jR];omega)
     omega
    ·simp;omega
  rw[CQ,Nat.pow_succ,Nat.mul_comm]
  exact Nat.le_trans (key _) (Nat.mul_le_mul_right _ (by omega))
theorem tY {b:Int} {p q:List Int}:∀{d:Nat} {c:List Int},1≤d→(p.length:Int)+b<bE b c+d→lH b p q d c=[]
 |d+1,c,_,h=>by
  rw[lH,List.flatMap_eq_nil_iff]
  intro j hj
  rw[List.mem_range]at hj
  split
  ·exact tY (by omega) (by rw[jR];omega)
  ·rfl
def jb (p q:List Int):Bool:= !(lH 0 p q q.length []).isEmpty
theorem xG {p q c:List Int} {i:Int}:rb 1 p q (c.map (·+1)) (i+1)=rb 0 p q c i:=by
 simp only[rb,sh,an]
 rw[Bool.eq_iff_iff,List.all_eq_true,List.all_eq_true]
 refine forall_congr' fun l=>imp_congr_right fun hl=> ?_
 rw[List.mem_range]at hl
 have e1:(c.map (·+1)).getD l 0 - 1=c.getD l 0 - 0:=by
  rw[ac,ax,ac,ae hl];simp
 rw[e1,show i+1 - 1=i - 0 by omega]
theorem xC {c:List Int}:bE 1 (c.map (·+1))=bE 0 c+1:=by
 unfold bE
 rw[an]
 split
 ·rfl
 ·rename_i h
  rw[ac,ax,ac,ae (by omega)];simp
theorem sB {p q:List Int}:∀{d:Nat} {c:List Int},lH 1 p q d (c.map (·+1))=(lH 0 p q d c).map (List.map (·+1))
 |0,c=>rfl
 |d+1,c=>by
  rw[lH,lH,xC,List.map_flatMap]
  rw[show((p.length:Int)+1 - (bE 0 c+1))=p.length+0 - bE 0 c by omega]
  congr 1;funext j
  rw[show bE 0 c+1+(j:Int)=(bE 0 c+j)+1 by omega,xG]
  split
  ·rw[show List.map (·+1) c++[bE 0 c+(j:Int)+1]=List.map (·+1) (c++[bE 0 c+(j:Int)])by simp,sB]
  ·rfl
theorem AQ {b:Int} {p q c:List Int} {i:Int} {k n:Nat} (hk:k≤n) (h:sh b p q c i k=false):sh b p q c i n=false:=by
 induction hk with
 |refl=>exact h
 |step _ ih=>rw[jS,ih];rfl
theorem lM {m0 m1 m2:Bool} (p q c:List Int) (i:Int) (hq:q.length≤8) (hp:p.length≤8) (hc0:c.length<q.length) (hx:∀x∈c,1≤x∧x≤p.length) (hi:1≤i∧i≤p.length):Fun Tryz.prog 229 [(.sl (.lent m0) (List.map (PV.int .i64) (p))),(.sl (.lent m1) (List.map (PV.int .i64) (q))),(.sl (.lent m2) (List.map (PV.int .i64) ((c++[i]))))] [(.bool (rb 1 p q c i))]:=by
 refine fO bA [6] Tryz.func229 ?_
 have e1:(c++[i]).getD c.length 0=i:=by simp
 refine aQ trivial ?_
 all_goals try(apply aq;repeat' first|exact ao|apply aa|(apply au;intro zb hc)|(apply ar;intro zb)|intro j')<;>try apply aw
 refine az (fun ms1 S1=>∃(k:Nat),S1.e 0=.p (.sl (.lent m0) (List.map (PV.int .i64) (p)))∧S1.e 1=.p (.sl (.lent m1) (List.map (PV.int .i64) (q)))∧S1.e 2=.p (.sl (.lent m2) (List.map (PV.int .i64) ((c++[i]))))∧S1.e 7=.p (.int .i64 (c.length))∧S1.e 8=.p (.int .i64 (k))∧(k≤c.length)∧(sh 1 p q c i k=true)∧ms1=c.length - k) ((fun(k:Nat)=>c.length - k) (0)) ?_ ⟨0,dC trivial ?_⟩
 all_goals try(apply aq;repeat' first|exact ao|apply aa|(apply au;intro zb hc)|(apply ar;intro zb)|intro j')<;>try apply aw
 rintro ms1 S1 ⟨k,h1_0,h1_1,h1_2,h1_7,h1_8,c1_0,c1_1,hm1⟩
 have fL1:=(aa h1_0 (aa h1_1 (aa h1_2 (aa h1_7 h1_8))))
 by_cases hk:k<c.length
 ·have e2:(c++[i]).getD k 0=c.getD k 0:=by simp[ac,aE hk]
  have e3:=hx _ (aF (d:=0) hk)
  refine aQ (aa fL1 (aa @e1 @e2)) ?_
  all_goals try(apply aq;repeat' first|exact ao|apply aa|(apply au;intro zb hc)|(apply ar;intro zb)|intro j')<;>try apply aw
  ·exact(AQ (k:=k+1) (by omega) (by rw[jS,c1_1,Bool.true_and];simpa using hc)).symm
  ·focus
    refine ay ((fun(k:Nat)=>c.length - k) (k+1)) (dC fL1 ?_) ⟨k+1,dC fL1 ?_⟩
    all_goals try(apply aq;repeat' first|exact ao|apply aa|(apply au;intro zb hc)|(apply ar;intro zb)|intro j')<;>try apply aw
   rw[jS,c1_1,Bool.true_and,beq_iff_eq];simpa using hc
 ·refine aQ (aa fL1 @e1) ?_
  all_goals try(apply aq;repeat' first|exact ao|apply aa|(apply au;intro zb hc)|(apply ar;intro zb)|intro j')<;>try apply aw
  obtain rfl:k=c.length:=by omega
  exact c1_1.symm
def tJ:FuncId→List Bool:=fun f=>if f=224 then[false,false,false,true]else if f=8589934816 then[false,false,true]else[]
theorem Fw {f:FuncId}:tJ f=if f=224 then[false,false,false,true]else if f=8589934816 then[false,false,true]else[]:=_root_.id rfl
theorem Bp:gk tJ=false∧gG tJ=false∧gF tJ=false∧gE tJ=false∧gH tJ=false:=⟨rfl,rfl,rfl,rfl,rfl⟩
attribute [go_sem] Fw Bp
theorem rU {m0 m1:Bool} (p q:List Int) (hp:p.length≤8) (hq:q.length≤8):∀(d:Nat) (h:List Int) (out:List (List Int)),h.length+d=q.length→(∀x∈h,1≤x∧x≤p.length)→out.length+8^d≤1099511627776→
  CallT Tryz.prog true 224 [.pv (.sl (.lent m0) (List.map (PV.int .i64) p)),.pv (.sl (.lent m1) (List.map (PV.int .i64) q)),.pv (.sl (.lent false) (List.map (PV.int .i64) h)),.mu false (List.map (bW false) out)] [none,none,none,none] [.sl .own (List.map (bW false) (out++lH 1 p q d h))]:=by
 intro d
 induction d with
 |zero=>
  intro h out hd hx ho
  refine CallT.of (sg:=tJ) (ts:=[8]) mo Tryz.func224 rfl rfl rfl rfl (by kernel_rfl) (by simp only[go_sem]) rfl rfl ?_
  have cE1:= @lM
  refine lT trivial ?_
  all_goals try(apply aq;repeat' first|exact ao|apply aa|(apply au;intro zb hc)|(apply ar;intro zb)|intro j')<;>try apply aw
  all_goals(rw[Pe];rfl)
 |succ d ih=>
  intro h out hd hx ho
  have f0:1≤bE 1 h∧bE 1 h≤p.length+1:=by
   unfold bE
   split
   ·omega
   ·have:=hx _ (aF (d:=0) (show h.length - 1<h.length by omega));omega
  refine CallT.of (sg:=tJ) (ts:=[8]) mo Tryz.func224 rfl rfl rfl rfl (by kernel_rfl) (by simp only[go_sem]) rfl rfl ?_
  have cE1:= @lM
  have lenJ:∀J:Nat,(J:Int)≤p.length+1 - bE 1 h→(jN 1 p q d h J).length≤J*8^d:=by
   intro J
   induction J with
   |zero=>intro _;simp[jN]
   |succ J ihJ=>
    intro hJ
    have h1:=ihJ (by omega)
    have h2:(if rb 1 p q h (bE 1 h+J)=true then lH 1 p q d (h++[bE 1 h+J])else[]).length≤8^d:=by
     split
     ·exact Nat.le_trans (yA (by decide) (by rw[jR];omega)) (Nat.pow_le_pow_left hp d)
     ·exact Nat.zero_le _
    rw[dU,ak,Nat.succ_mul]
    exact Nat.add_le_add h1 h2
  by_cases hn:h.length=0
  ·have f1:bE 1 h=1:=if_pos hn
   refine lT @hn ?_
   all_goals try(apply aq;repeat' first|exact ao|apply aa|(apply au;intro zb hc)|(apply ar;intro zb)|intro j')<;>try apply aw
   refine az (fun ms1 S1=>∃(J:Nat),S1.e 0=.p (.sl (.lent m0) (List.map (PV.int .i64) (p)))∧S1.e 1=.p (.sl (.lent m1) (List.map (PV.int .i64) (q)))∧S1.e 2=.p (.sl (.lent false) (List.map (PV.int .i64) (h)))∧OwnM (S1.e 3) S1.h S1.n (bW false) ((out++jN 1 p q d h J).length) (out++jN 1 p q d h J)∧S1.e 10=.p (.int .i64 ((bE 1 h+J)))∧((J:Int)≤p.length+1 - bE 1 h)∧ms1=p.length+1 - J) ((fun(J:Nat)=>p.length+1 - J) (0)) ?_ ⟨0,dC trivial ?_⟩
   all_goals try(apply aq;repeat' first|exact ao|apply aa|(apply au;intro zb hc)|(apply ar;intro zb)|intro j')<;>try apply aw
   rintro ms1 S1 ⟨J,h1_0,h1_1,h1_2,o1_3,h1_10,c1_0,hm1⟩
   obtain⟨i1_3,mm1_3,h1_3,b1_3,l1_3⟩:=o1_3.out
   have ni1_3:=bi (x:=i1_3) (n:=S1.n)
   have fL1:=(aa h1_0 (aa h1_1 (aa h1_2 (aa h1_10 (aa h1_3 (aa b1_3 ni1_3))))))
   have b1:=lenJ J (by omega)
   by_cases hJ:bE 1 h+J≤p.length
   ·have cM1:= @ih
    refine lT (aa fL1 @Pe) ?_
    all_goals try(apply aq;repeat' first|exact ao|apply aa|(apply au;intro zb hc)|(apply ar;intro zb)|intro j')<;>try apply aw
    ·intro x hx'
     rcases List.mem_append.1 hx' with hx'|hx'
     ·exact hx x hx'
     ·simp at hx';subst hx';omega
    ·have h8:J+1≤8:=by omega
     have h9:=Nat.mul_le_mul_right (8^d) h8
     have h10:8^(d+1)=8*8^d:=by rw[Nat.pow_succ,Nat.mul_comm]
     rw[Nat.succ_mul]at h9
     rw[ak];omega
    ·focus
      refine ay ((fun(J:Nat)=>p.length+1 - J) (J+1)) (dC fL1 ?_) ⟨J+1,dC fL1 ?_⟩
      all_goals try(apply aq;repeat' first|exact ao|apply aa|(apply au;intro zb hc)|(apply ar;intro zb)|intro j')<;>try apply aw
     all_goals(rw[dU,if_pos hc];try simp only[ak,aB,Nat.add_assoc])
    ·focus
      refine ay ((fun(J:Nat)=>p.length+1 - J) (J+1)) (dC fL1 ?_) ⟨J+1,dC fL1 ?_⟩
      all_goals try(apply aq;repeat' first|exact ao|apply aa|(apply au;intro zb hc)|(apply ar;intro zb)|intro j')<;>try apply aw
     all_goals(rw[dU,if_neg (by rw[hc];decide),aN])
   ·have cM1:= @ih
    refine lT fL1 ?_
    all_goals try(apply aq;repeat' first|exact ao|apply aa|(apply au;intro zb hc)|(apply ar;intro zb)|intro j')<;>try apply aw
    rw[CQ,show((p.length:Int)+1 - bE 1 h).toNat=J by omega]
   ·simp[jN]
   ·simp[jN]
  ·skip
   have f1:bE 1 h=h.getD (h.length - 1) 0+1:=if_neg hn
   have f2:((h.length:Int) - 1).toNat=h.length - 1:=by omega
   have g1:=hx _ (aF (d:=0) (show h.length - 1<h.length by omega))
   have cM1:=trivial
   refine lT @f2 ?_
   all_goals try(apply aq;repeat' first|exact ao|apply aa|(apply au;intro zb hc)|(apply ar;intro zb)|intro j')<;>try apply aw
   refine az (fun ms2 S2=>∃(J:Nat),S2.e 0=.p (.sl (.lent m0) (List.map (PV.int .i64) (p)))∧S2.e 1=.p (.sl (.lent m1) (List.map (PV.int .i64) (q)))∧S2.e 2=.p (.sl (.lent false) (List.map (PV.int .i64) (h)))∧OwnM (S2.e 3) S2.h S2.n (bW false) ((out++jN 1 p q d h J).length) (out++jN 1 p q d h J)∧S2.e 10=.p (.int .i64 ((bE 1 h+J)))∧((J:Int)≤p.length+1 - bE 1 h)∧ms2=p.length+1 - J) ((fun(J:Nat)=>p.length+1 - J) (0)) ?_ ⟨0,dC trivial ?_⟩
   all_goals try(apply aq;repeat' first|exact ao|apply aa|(apply au;intro zb hc)|(apply ar;intro zb)|intro j')<;>try apply aw
   rintro ms2 S2 ⟨J,h2_0,h2_1,h2_2,o2_3,h2_10,c2_0,hm2⟩
   obtain⟨i2_3,mm2_3,h2_3,b2_3,l2_3⟩:=o2_3.out
   have ni2_3:=bi (x:=i2_3) (n:=S2.n)
   have fL2:=(aa h2_0 (aa h2_1 (aa h2_2 (aa h2_10 (aa h2_3 (aa b2_3 ni2_3))))))
   have b1:=lenJ J (by omega)
   by_cases hJ:bE 1 h+J≤p.length
   ·have cM1:= @ih
    refine lT (aa fL2 @Pe) ?_
    all_goals try(apply aq;repeat' first|exact ao|apply aa|(apply au;intro zb hc)|(apply ar;intro zb)|intro j')<;>try apply aw
    ·intro x hx'
     rcases List.mem_append.1 hx' with hx'|hx'
     ·exact hx x hx'
     ·simp at hx';subst hx';omega
    ·have h8:J+1≤8:=by omega
     have h9:=Nat.mul_le_mul_right (8^d) h8
     have h10:8^(d+1)=8*8^d:=by rw[Nat.pow_succ,Nat.mul_comm]
     rw[Nat.succ_mul]at h9
     rw[ak];omega
    ·focus
      refine ay ((fun(J:Nat)=>p.length+1 - J) (J+1)) (dC fL2 ?_) ⟨J+1,dC fL2 ?_⟩
      all_goals try(apply aq;repeat' first|exact ao|apply aa|(apply au;intro zb hc)|(apply ar;intro zb)|intro j')<;>try apply aw
     all_goals(rw[dU,if_pos hc];try simp only[ak,aB,Nat.add_assoc])
    ·focus
      refine ay ((fun(J:Nat)=>p.length+1 - J) (J+1)) (dC fL2 ?_) ⟨J+1,dC fL2 ?_⟩
      all_goals try(apply aq;repeat' first|exact ao|apply aa|(apply au;intro zb hc)|(apply ar;intro zb)|intro j')<;>try apply aw
     all_goals(rw[dU,if_neg (by rw[hc];decide),aN])
   ·have cM1:= @ih
    refine lT fL2 ?_
    all_goals try(apply aq;repeat' first|exact ao|apply aa|(apply au;intro zb hc)|(apply ar;intro zb)|intro j')<;>try apply aw
    rw[CQ,show((p.length:Int)+1 - bE 1 h).toNat=J by omega]
   ·simp[jN]
   ·simp[jN]
theorem Gh {p q:List Int} {d:Nat} {c:List Int}:(lH 1 p q d (c.map (·+1))).length=(lH 0 p q d c).length:=by rw[sB,an]
theorem Hn {p q:List Int}:decide (0<((lH 1 p q q.length []).length:Int))=jb p q:=by
 have:=Gh (p:=p) (q:=q) (d:=q.length) (c:=[])
 rw[List.map_nil]at this
 rw[this,jb]
 cases lH 0 p q q.length []with
 |nil=>rfl
 |cons x l=>simp
theorem mR {m0 m1:Bool} (p q:List Int) (hp:p.length≤8) (hq:q.length≤8):Fun Tryz.prog 213 [(.sl (.lent m0) (List.map (PV.int .i64) (p))),(.sl (.lent m1) (List.map (PV.int .i64) (q)))] [(.bool (jb p q))]:=by
 refine fO tJ [4] Tryz.func213 ?_
 have h9:=rU (m0:=m0) (m1:=m1) p q hp hq q.length [] [] (Nat.zero_add _) (by simp) (by have h2:8^q.length≤8^8:=Nat.pow_le_pow_right (by omega) (by omega);simp only[List.length_nil,Nat.zero_add];omega)
 simp only[List.map_nil,aR]at h9
 have cM1:= @h9
 refine aQ trivial ?_
 all_goals try(apply aq;repeat' first|exact ao|apply aa|(apply au;intro zb hc)|(apply ar;intro zb)|intro j')<;>try apply aw
 exact Hn
theorem yC {b:Int} {p q:List Int} {d:Nat} {c:List Int} {J:Nat} (h1:jN b p q d c J=[]) (h2:∀j:Nat,J≤j→(j:Int)<p.length+b - bE b c→lH b p q d (c++[bE b c+j])=[]):lH b p q (d+1) c=[]:=by
 rw[lH,List.flatMap_eq_nil_iff]
 intro j hj
 rw[List.mem_range]at hj
 by_cases hJ:j<J
 ·rw[jN,List.flatMap_eq_nil_iff]at h1
  exact h1 j (List.mem_range.2 hJ)
 ·rw[h2 j (by omega) (by omega)];split<;>rfl
theorem yB {b:Int} {p q:List Int} {d:Nat} {c:List Int} {J:Nat} (hj:(J:Int)<p.length+b - bE b c) (h1:rb b p q c (bE b c+J)=true) (h2:lH b p q d (c++[bE b c+J])≠[]):lH b p q (d+1) c≠[]:=by
 intro h
 rw[lH,List.flatMap_eq_nil_iff]at h
 have:=h J (List.mem_range.2 (by omega))
 rw[if_pos h1]at this
 exact h2 this
theorem xq {m0 m1:Bool} (p q:List Int) (hp:p.length≤8) (hq:q.length≤8):∀(d:Nat) {m2:Bool} (c:List Int),c.length+d=q.length→(∀x∈c,0≤x∧x<p.length)→
  Fun Tryz.prog 178 [.sl (.lent m0) (List.map (PV.int .i64) p),.sl (.lent m1) (List.map (PV.int .i64) q),.sl (.lent m2) (List.map (PV.int .i64) c)] [.bool (!(lH 0 p q d c).isEmpty)]:=by
 intro d
 induction d with
 |zero=>
  intro m2 c hd hx
  refine fO bA [6] Tryz.func178 ?_
  have cE1:= @cA
  refine aQ trivial ?_
  all_goals try(apply aq;repeat' first|exact ao|apply aa|(apply au;intro zb hc)|(apply ar;intro zb)|intro j')<;>try apply aw
  rfl
 |succ d ih=>
  intro m2 c hd hx
  have f0:0≤bE 0 c∧bE 0 c≤p.length:=by
   unfold bE
   split
   ·omega
   ·have:=hx _ (aF (d:=0) (show c.length - 1<c.length by omega));omega
  by_cases hn:c.length=0
  ·have f1:bE 0 c=0:=if_pos hn
   refine fO bA [6] Tryz.func178 ?_
   have cE1:= @cA
   refine aQ @hn ?_
   all_goals try(apply aq;repeat' first|exact ao|apply aa|(apply au;intro zb hc)|(apply ar;intro zb)|intro j')<;>try apply aw
   refine az (fun ms1 S1=>∃(J:Nat),S1.e 0=.p (.sl (.lent m0) (List.map (PV.int .i64) (p)))∧S1.e 1=.p (.sl (.lent m1) (List.map (PV.int .i64) (q)))∧S1.e 2=.p (.sl (.lent m2) (List.map (PV.int .i64) (c)))∧S1.e 8=.p (.int .i64 (c.length))∧S1.e 9=.p (.int .i64 ((bE 0 c+J)))∧((J:Int)≤p.length - bE 0 c)∧(jN 0 p q d c J=[])∧ms1=p.length - J) ((fun(J:Nat)=>p.length - J) (0)) ?_ ⟨0,kj trivial ?_⟩
   all_goals try(apply aq;repeat' first|exact ao|apply aa|(apply au;intro zb hc)|(apply ar;intro zb)|intro j')<;>try apply aw
   rintro ms1 S1 ⟨J,h1_0,h1_1,h1_2,h1_8,h1_9,c1_0,c1_1,hm1⟩
   have fL1:=(aa h1_0 (aa h1_1 (aa h1_2 (aa h1_8 h1_9))))
   refine aQ fL1 ?_
   all_goals try(apply aq;repeat' first|exact ao|apply aa|(apply au;intro zb hc)|(apply ar;intro zb)|intro j')<;>try apply aw
   ·refine az (fun ms2 S2=>∃(k:Nat),S2.e 0=.p (.sl (.lent m0) (List.map (PV.int .i64) (p)))∧S2.e 1=.p (.sl (.lent m1) (List.map (PV.int .i64) (q)))∧S2.e 2=.p (.sl (.lent m2) (List.map (PV.int .i64) (c)))∧S2.e 8=.p (.int .i64 (c.length))∧S2.e 9=.p (.int .i64 ((bE 0 c+J)))∧S2.e 10=.p (.bool (sh 0 p q c (bE 0 c+J) k))∧S2.e 42=.p (.sl (.lent m2) (List.map (PV.int .i64) (c)))∧S2.e 43=.p (.int .i64 (c.length))∧S2.e 44=.p (.int .i64 (k))∧(k≤c.length)∧((J:Int)≤p.length - bE 0 c - (d+1))∧S1.n≤S2.n∧ms2=c.length - k) ((fun(k:Nat)=>c.length - k) (0)) ?_ ⟨0,dC fL1 ?_⟩
    all_goals try(apply aq;repeat' first|exact ao|apply aa|(apply au;intro zb hc)|(apply ar;intro zb)|intro j')<;>try apply aw
    rintro ms2 S2 ⟨k,h2_0,h2_1,h2_2,h2_8,h2_9,h2_10,h2_42,h2_43,h2_44,c2_0,c2_1,u2_0,hm2⟩
    have fL2:=(aa h2_0 (aa h2_1 (aa h2_2 (aa h2_8 (aa h2_9 (aa h2_10 (aa h2_42 (aa h2_43 h2_44))))))))
    by_cases hk:k<c.length
    ·omega
    ·have g4:k=c.length:=by omega
     have ih1:=fun(m:Bool)=>ih (m2:=m) (c++[bE 0 c+J]) (by simp;omega) (by
      intro x hx'
      rcases List.mem_append.1 hx' with hx'|hx'
      ·exact hx x hx'
      ·simp at hx';subst hx';omega)
     have cE1:= @ih1;have cE2:= @cA
     refine aQ (aa fL2 @Pe) ?_
     all_goals try(apply aq;repeat' first|exact ao|apply aa|(apply au;intro zb hc)|(apply ar;intro zb)|intro j')<;>try apply aw
     ·subst g4
      have o1:=yB (b:=0) (p:=p) (q:=q) (d:=d) (c:=c) (J:=J) (by omega) zb.1 (fun e=>by rw[e]at hc;cases hc)
      cases ho:lH 0 p q (d+1) c with
      |nil=>exact absurd ho o1
      |cons _ _=>rfl
     ·focus
       refine ay ((fun(J:Nat)=>p.length - J) (J+1)) (dC fL2 ?_) ⟨J+1,dC fL2 ?_⟩
       all_goals try(apply aq;repeat' first|exact ao|apply aa|(apply au;intro zb hc)|(apply ar;intro zb)|intro j')<;>try apply aw
      have o2:lH 0 p q d (c++[bE 0 c+J])=[]:=by simpa using hc
      rw[dU,c1_1,o2];split<;>rfl
     ·focus
       refine ay ((fun(J:Nat)=>p.length - J) (J+1)) (dC fL2 ?_) ⟨J+1,dC fL2 ?_⟩
       all_goals try(apply aq;repeat' first|exact ao|apply aa|(apply au;intro zb hc)|(apply ar;intro zb)|intro j')<;>try apply aw
      subst g4
      rw[dU,c1_1,if_neg (by rw[rb,hc];decide)];rfl
   ·have o3:lH 0 p q (d+1) c=[]:=yC c1_1 fun j hj hj2=>by
     by_cases h0:d=0
     ·omega
     ·exact tY (by omega) (by rw[jR];omega)
    rw[o3];rfl
  ·skip
   have f1:bE 0 c=c.getD (c.length - 1) 0+1:=if_neg hn
   have f2:((c.length:Int) - 1).toNat=c.length - 1:=by omega
   have g1:=hx _ (aF (d:=0) (show c.length - 1<c.length by omega))
   refine fO bA [6] Tryz.func178 ?_
   have cE1:= @cA
   refine aQ @f2 ?_
   all_goals try(apply aq;repeat' first|exact ao|apply aa|(apply au;intro zb hc)|(apply ar;intro zb)|intro j')<;>try apply aw
   refine az (fun ms3 S3=>∃(J:Nat),S3.e 0=.p (.sl (.lent m0) (List.map (PV.int .i64) (p)))∧S3.e 1=.p (.sl (.lent m1) (List.map (PV.int .i64) (q)))∧S3.e 2=.p (.sl (.lent m2) (List.map (PV.int .i64) (c)))∧S3.e 8=.p (.int .i64 (c.length))∧S3.e 9=.p (.int .i64 ((bE 0 c+J)))∧((J:Int)≤p.length - bE 0 c)∧(jN 0 p q d c J=[])∧ms3=p.length - J) ((fun(J:Nat)=>p.length - J) (0)) ?_ ⟨0,kj trivial ?_⟩
   all_goals try(apply aq;repeat' first|exact ao|apply aa|(apply au;intro zb hc)|(apply ar;intro zb)|intro j')<;>try apply aw
   rintro ms3 S3 ⟨J,h3_0,h3_1,h3_2,h3_8,h3_9,c3_0,c3_1,hm3⟩
   have fL3:=(aa h3_0 (aa h3_1 (aa h3_2 (aa h3_8 h3_9))))
   refine aQ fL3 ?_
   all_goals try(apply aq;repeat' first|exact ao|apply aa|(apply au;intro zb hc)|(apply ar;intro zb)|intro j')<;>try apply aw
   ·refine az (fun ms4 S4=>∃(k:Nat),S4.e 0=.p (.sl (.lent m0) (List.map (PV.int .i64) (p)))∧S4.e 1=.p (.sl (.lent m1) (List.map (PV.int .i64) (q)))∧S4.e 2=.p (.sl (.lent m2) (List.map (PV.int .i64) (c)))∧S4.e 8=.p (.int .i64 (c.length))∧S4.e 9=.p (.int .i64 ((bE 0 c+J)))∧S4.e 10=.p (.bool (sh 0 p q c (bE 0 c+J) k))∧S4.e 42=.p (.sl (.lent m2) (List.map (PV.int .i64) (c)))∧S4.e 43=.p (.int .i64 (c.length))∧S4.e 44=.p (.int .i64 (k))∧(k≤c.length)∧((J:Int)≤p.length - bE 0 c - (d+1))∧S3.n≤S4.n∧ms4=c.length - k) ((fun(k:Nat)=>c.length - k) (0)) ?_ ⟨0,dC fL3 ?_⟩
    all_goals try(apply aq;repeat' first|exact ao|apply aa|(apply au;intro zb hc)|(apply ar;intro zb)|intro j')<;>try apply aw
    rintro ms4 S4 ⟨k,h4_0,h4_1,h4_2,h4_8,h4_9,h4_10,h4_42,h4_43,h4_44,c4_0,c4_1,u4_0,hm4⟩
    have fL4:=(aa h4_0 (aa h4_1 (aa h4_2 (aa h4_8 (aa h4_9 (aa h4_10 (aa h4_42 (aa h4_43 h4_44))))))))
    by_cases hk:k<c.length
    ·have g2:=hx _ (aF (d:=0) hk)
     have g3:(decide (p.getD (c.getD k 0).toNat 0<p.getD (bE 0 c+J).toNat 0)==decide (q.getD k 0<q.getD c.length 0))=(decide (q.getD k 0<q.getD c.length 0)==decide (p.getD (c.getD k 0 - 0).toNat 0<p.getD (bE 0 c+J - 0).toNat 0)):=by
      rw[Int.sub_zero,Int.sub_zero,Bool.eq_iff_iff,beq_iff_eq,beq_iff_eq];exact eq_comm
     refine aQ fL4 ?_
     all_goals try(apply aq;repeat' first|exact ao|apply aa|(apply au;intro zb hc)|(apply ar;intro zb)|intro j')<;>try apply aw
     ·focus
       refine ay ((fun(k:Nat)=>c.length - k) (k+1)) (dC fL4 ?_) ⟨k+1,dC fL4 ?_⟩
       all_goals try(apply aq;repeat' first|exact ao|apply aa|(apply au;intro zb hc)|(apply ar;intro zb)|intro j')<;>try apply aw
      rw[jS,hc,Bool.true_and];exact g3
     ·focus
       refine ay ((fun(k:Nat)=>c.length - k) (k+1)) (dC fL4 ?_) ⟨k+1,dC fL4 ?_⟩
       all_goals try(apply aq;repeat' first|exact ao|apply aa|(apply au;intro zb hc)|(apply ar;intro zb)|intro j')<;>try apply aw
      rw[jS,hc];rfl
    ·have g4:k=c.length:=by omega
     have ih1:=fun(m:Bool)=>ih (m2:=m) (c++[bE 0 c+J]) (by simp;omega) (by
      intro x hx'
      rcases List.mem_append.1 hx' with hx'|hx'
      ·exact hx x hx'
      ·simp at hx';subst hx';omega)
     have cE1:= @ih1;have cE2:= @cA
     refine aQ (aa fL4 @Pe) ?_
     all_goals try(apply aq;repeat' first|exact ao|apply aa|(apply au;intro zb hc)|(apply ar;intro zb)|intro j')<;>try apply aw
     ·subst g4
      have o1:=yB (b:=0) (p:=p) (q:=q) (d:=d) (c:=c) (J:=J) (by omega) zb.1 (fun e=>by rw[e]at hc;cases hc)
      cases ho:lH 0 p q (d+1) c with
      |nil=>exact absurd ho o1
      |cons _ _=>rfl
     ·focus
       refine ay ((fun(J:Nat)=>p.length - J) (J+1)) (dC fL4 ?_) ⟨J+1,dC fL4 ?_⟩
       all_goals try(apply aq;repeat' first|exact ao|apply aa|(apply au;intro zb hc)|(apply ar;intro zb)|intro j')<;>try apply aw
      have o2:lH 0 p q d (c++[bE 0 c+J])=[]:=by simpa using hc
      rw[dU,c3_1,o2];split<;>rfl
     ·focus
       refine ay ((fun(J:Nat)=>p.length - J) (J+1)) (dC fL4 ?_) ⟨J+1,dC fL4 ?_⟩
       all_goals try(apply aq;repeat' first|exact ao|apply aa|(apply au;intro zb hc)|(apply ar;intro zb)|intro j')<;>try apply aw
      subst g4
      rw[dU,c3_1,if_neg (by rw[rb,hc];decide)];rfl
   ·have o3:lH 0 p q (d+1) c=[]:=yC c3_1 fun j hj hj2=>by
     by_cases h0:d=0
     ·omega
     ·exact tY (by omega) (by rw[jR];omega)
    rw[o3];rfl
def mO:List Nat→Nat
 |[]=>0
 |n::ns=>n+mO ns
def C4:List Nat→Int→List (List Int)
 |[],_=>[]
 |n::ns,k=>vq n k::C4 ns (k+n)
theorem qD:∀{ns:List Nat} {k:Int},(C4 ns k).length=ns.length
 |[],_=>rfl
 |_::ns,_=>by simp only[C4,aC,qD]
theorem Ai {L:List (List Int)} {k:Int}:List.take L.length (C4 (L.map List.length) k)=C4 (L.map List.length) k:=by
 rw[ah];rw[qD,an];exact am _
attribute [go_sem] Ai qD
theorem qw {n:Int}:∀{p seen:List Int},gz n seen p=true↔(∀v∈p,1≤v∧v≤n)∧p.Nodup∧∀v∈p,v∉seen
 |[],seen=>by simp[gz]
 |v::p,seen=>by
  rw[gz,Bool.and_eq_true,qw]
  simp only[Bool.and_eq_true,decide_eq_true_eq,Bool.not_eq_true',List.nodup_cons,List.mem_append,aP]
  constructor
  ·rintro⟨⟨⟨h1,h2⟩,h3⟩,h4,h5,h6⟩
   have h3':v∉seen:=fun h=>by rw[←List.contains_iff_mem]at h;rw[h]at h3;cases h3
   refine⟨fun x hx=> ?_,⟨fun hv=>h6 v hv (.inr rfl),h5⟩,fun x hx=> ?_⟩
   ·rcases List.mem_cons.1 hx with rfl|hx
    ·exact⟨h1,h2⟩
    ·exact h4 x hx
   ·rcases List.mem_cons.1 hx with rfl|hx
    ·exact h3'
    ·exact fun hs=>h6 x hx (.inl hs)
  ·rintro⟨h1,⟨h2,h3⟩,h4⟩
   have h5:=h1 v (by simp)
   refine⟨⟨⟨h5.1,h5.2⟩, ?_⟩,fun x hx=>h1 x (by simp[hx]),h3,fun x hx=> ?_⟩
   ·rw[←aI,List.contains_iff_mem];exact h4 v (by simp)
   ·rintro(hs|rfl)
    ·exact h4 x (by simp[hx]) hs
    ·exact h2 hx
theorem permB_iff {p:List Int}:bD p=true↔(∀v∈p,1≤v∧v≤p.length)∧p.Nodup:=by
 rw[bD,qw];simp
theorem np {α:Type} (p:α→Bool):∀(l:List α),l.length=(l.filter p).length+(l.filter fun x=> !p x).length
 |[]=>rfl
 |x::l=>by
  have:=np p l
  rw[List.filter_cons,List.filter_cons]
  cases p x<;>simp<;>omega
theorem kW:∀{n:Nat} {l:List Int} {a:Int},l.Nodup→(∀x∈l,a<x∧x≤a+n)→l.length≤n
 |0,l,a,_,hb=>by
  cases l with
  |nil=>simp
  |cons x l=>have:=hb x (by simp);omega
 |n+1,l,a,hn,hb=>by
  have h1:(l.filter fun x=>decide (x≠a+(n+1:Nat))).length≤n:=kW (a:=a) (List.Nodup.sublist List.filter_sublist hn) fun x hx=>by
   simp only[List.mem_filter,decide_eq_true_eq]at hx
   have:=hb x hx.1
   refine⟨this.1, ?_⟩
   have h2:=hx.2
   push_cast at h2 this ⊢
   omega
  have h2:l.length≤(l.filter fun x=>decide (x≠a+(n+1:Nat))).length+1:=by
   have h3:=np (fun x=>decide (x≠a+(n+1:Nat))) l
   have h4:(l.filter fun x=> !decide (x≠a+(n+1:Nat))).length≤1:=by
    have h5:(l.filter fun x=> !decide (x≠a+(n+1:Nat))).Nodup:=List.Nodup.sublist List.filter_sublist hn
    have h6:∀x∈l.filter (fun x=> !decide (x≠a+(n+1:Nat))),x=a+(n+1:Nat):=fun x hx=>by
     simp only[List.mem_filter]at hx;simpa using hx.2
    revert h5 h6
    generalize l.filter (fun x=> !decide (x≠a+(n+1:Nat)))=q
    intro h5 h6
    match q,h5,h6 with
    |[],_,_=>simp
    |[x],_,_=>simp
    |x::y::r,h5,h6=>
     have e1:=h6 x (by simp)
     have e2:=h6 y (by simp)
     simp only[List.nodup_cons,List.mem_cons,not_or]at h5
     exact absurd (e1.trans e2.symm) h5.1.1
   omega
  omega
theorem vd {p:List Int} (h:bD p=true) {v:Int} (h1:1≤v) (h2:v≤p.length):v∈p:=by
 obtain⟨q1,q2⟩:=permB_iff.1 h
 by_cases hm:v∈p
 ·exact hm
 ·exfalso
  have:=kW (n:=p.length) (a:=0) (l:=v::p) (List.nodup_cons.2 ⟨hm,q2⟩) fun x hx=>by
   rcases List.mem_cons.1 hx with rfl|hx
   ·omega
   ·have:=q1 x hx;omega
  simp at this;omega
theorem CF {p:List Int} (h:bD p=true) {i j:Nat} (hi:i<p.length) (hj:j<p.length) (e:p.getD i 0=p.getD j 0):i=j:=by
 obtain⟨q1,q2⟩:=permB_iff.1 h
 rw[ac,ae hi,ac,ae hj]at e
 exact(List.getElem_inj q2).1 e
theorem bz {m0:Bool} (l:List (List UInt8)) (sep:List UInt8) (h1:l.length≤1099511627776) (h2:(Lib.join l sep).length≤1099511627776):
  Fun Tryz.prog 51 [.sl (.lent m0) (List.map .str l),.str sep] [.str (Lib.join l sep)]:=by
 refine Fun.of_plain Tryz.func51 rfl rfl rfl ?_
 intro w F G vs _ hv
 simp only[RepL]at hv
 obtain⟨a,vs1,rfl,ha,b,vs2,rfl,hb,rfl⟩:=hv
 have hb:=uZ hb
 subst hb
 have e1:(l.map fun s=>(⟨s.toArray⟩:ByteArray)).map (·.data.toList)=l:=by simp[Function.comp_def]
 by_cases hl:l=[]
 ·subst hl
  obtain⟨a',cap,rfl⟩:=Cx ha
  exact(Tryz.strings_Join_none a' cap _ w).mono fun e w' h=>⟨h.1.trans (by simp[Lib.join]),h.2▸Go.RowKit.Below.refl _ _⟩
 ·obtain⟨B,off,cap,rfl,hc1,_,hB,hcells⟩:=Cv ha hl
  have:=Tryz.strings_Join B off cap (l.map fun s=>(⟨s.toArray⟩:ByteArray)) ⟨sep.toArray⟩ w hcells hB (by simp;omega) (by simpa using hc1) (by rw[e1];simp only;simpa using(by omega:(Lib.join l sep).length≤140737488355328))
  rw[e1,an]at this
  simpa using this
theorem qu {n:Int}:∀{p seen:List Int},gz n seen p=true→∀v∈p,1≤v∧v≤n
 |[],_,_,v,h=>by simp at h
 |w::p,seen,h,v,hv=>by
  simp only[gz,Bool.and_eq_true,decide_eq_true_eq]at h
  rcases List.mem_cons.1 hv with rfl|hv
  ·exact⟨h.1.1.1,h.1.1.2⟩
  ·exact qu h.2 v hv
theorem nb {p:List Int} (h:bD p=true) {i:Nat} (hi:i<p.length):1≤p.getD i 0∧p.getD i 0≤p.length:=by
 have:=qu h (p.getD i 0) (by rw[ac,ae hi];simp)
 exact this
theorem aK {p:List Int} (h:al p=true):p.length≤8∧bD p=true:=by
 simp only[al,Bool.and_eq_true,decide_eq_true_eq]at h;exact h
def zm (v:Int):UInt8:=UInt8.ofNat (48+v).toNat
def ze:Nat→Nat→List UInt8→List UInt8
 |0,_,acc=>acc
 |f+1,m,acc=>if m=0 then acc else ze f (m/10) (zm ((m % 10:Nat):Int)::acc)
theorem Ej {f m:Nat} {acc:List UInt8} (h:m≠0):ze (f+1) m acc=ze f (m/10) (zm ((m % 10:Nat):Int)::acc):=by rw[ze,if_neg h]
theorem wn:∀{f g m:Nat} {acc:List UInt8},m<2^f→m<2^g→ze f m acc=ze g m acc
 |0,0,m,acc,_,_=>rfl
 |0,g+1,m,acc,h,_=>by
  have:m=0:=by simp at h;omega
  subst this;rw[ze,ze,if_pos rfl]
 |f+1,0,m,acc,_,h=>by
  have:m=0:=by simp at h;omega
  subst this;rw[ze,ze,if_pos rfl]
 |f+1,g+1,m,acc,h,h'=>by
  rw[ze,ze]
  split
  ·rfl
  ·exact wn (by rw[Nat.pow_succ]at h;omega) (by rw[Nat.pow_succ]at h';omega)
def rx (m:Nat) (acc:List UInt8):List UInt8:=ze 64 m acc
theorem uw {acc:List UInt8}:rx 0 acc=acc:=by rw[rx,ze,if_pos rfl]
theorem lC {m:Nat} {acc:List UInt8} (h:m≠0) (hb:m<9223372036854775809):rx m acc=rx (m/10) (zm ((m % 10:Nat):Int)::acc):=by
 rw[rx,Ej h,rx];exact wn (by omega) (by omega)
def gb (n:Int):List UInt8:=if n=0 then[48]else if n<0 then 45::rx n.natAbs []else rx n.natAbs []
theorem qW {n:Int} (h0:1≤n) (h1:n≤9):gb n=[zm n]:=by
 rw[gb,if_neg (by omega),if_neg (by omega),lC (by omega) (by omega),show n.natAbs/10=0 by omega,uw]
 congr 2;omega
theorem E7 {P:Program} {sg:FuncId→List Bool} {h:Nat→Blk} {k:Nat} {ρ:Operand→AV} {C:R→Prop} {t t':TypeId} {x:Operand}:gA P sg ρ h k (.convert t t' x) C=gR P t t' k h (ρ x) C:=_root_.id rfl
attribute [local go_sem ↓] E7
theorem Qq (x:Int):x=10*x.tdiv 10+x.tmod 10∧(0≤x→0≤x.tmod 10∧x.tmod 10≤9)∧(x≤0→ -9≤x.tmod 10∧x.tmod 10≤0):=by
 refine⟨by have:=Int.mul_tdiv_add_tmod x 10;omega,fun h=> ?_,fun h=> ?_⟩
 ·rw[Int.tmod_eq_emod_of_nonneg h];omega
 ·have e:x.tmod 10= -((-x).tmod 10):=by rw[Int.neg_tmod,Int.neg_neg]
  rw[e,Int.tmod_eq_emod_of_nonneg (by omega)];omega
theorem vb {a b l:Nat} (h:10*b≤a) (hb:a*10^l≤9223372036854775808):b*10^(l+1)≤9223372036854775808:=by
 refine Nat.le_trans ?_ hb
 rw[Nat.pow_succ,Nat.mul_comm (10^l) 10,←Nat.mul_assoc,Nat.mul_comm b 10]
 exact Nat.mul_le_mul_right _ h
theorem Qp:(10:Nat)^19=10000000000000000000:=by decide
theorem dt (n:Int) (h0: -9223372036854775808≤n) (h1:n≤9223372036854775807):Fun Tryz.prog 27 [(.int .i64 (n))] [(.str (gb n))]:=by
 refine fO bA [2] Tryz.func27 ?_
 have u3:(Tryz.prog.underlying 3).isSome=true:=by kernel_rfl
 refine dE trivial ?_
 all_goals try(apply aq;repeat' first|exact ao|apply aa|(apply au;intro zb hc)|(apply ar;intro zb)|intro j')<;>try apply aw
 ·rw[hc];rfl
 ·refine az (fun ms1 S1=>∃(x:Int) (s:List UInt8),S1.e 0=.p (.int .i64 (x))∧S1.e 3=.p (.bool (decide (n<0)))∧S1.e 4=.p (.str (s))∧(-9223372036854775808≤x)∧(x≤9223372036854775807)∧(rx x.natAbs s=rx n.natAbs [])∧(x.natAbs*10^s.length≤9223372036854775808)∧(s.length≤19)∧(n<0→x≤0)∧(0<n→0≤x)∧ms1=x.natAbs) ((fun(x:Int) (s:List UInt8)=>x.natAbs) (n) ([])) ?_ ⟨n,[],dI trivial ?_⟩
  all_goals try(apply aq;repeat' first|exact ao|apply aa|(apply au;intro zb hc)|(apply ar;intro zb)|intro j')<;>try apply aw
  rintro ms1 S1 ⟨x,s,h1_0,h1_3,h1_4,c1_0,c1_1,c1_2,c1_3,c1_4,c1_5,c1_6,hm1⟩
  have fL1:=(aa h1_0 (aa h1_3 h1_4))
  have t1:=Qq x
  have t2:x≠0→s.length≤18:=fun hx=>by
   by_cases h:s.length≤18
   ·exact h
   ·have h2:s.length=19:=by omega
    rw[h2,Qp]at c1_3;omega
  refine dE (aa fL1 @u3) ?_
  all_goals try(apply aq;repeat' first|exact ao|apply aa|(apply au;intro zb hc)|(apply ar;intro zb)|intro j')<;>try apply aw
  all_goals try (rw[jn];omega)
  all_goals try (rw[o6];omega)
  all_goals try exact iF
  ·focus
    refine ay ((fun(x:Int) (s:List UInt8)=>x.natAbs) (x.tdiv 10) (zm (0 - x.tmod 10)::s)) (dC fL1 ?_) ⟨x.tdiv 10,zm (0 - x.tmod 10)::s,dC fL1 ?_⟩
    all_goals try(apply aq;repeat' first|exact ao|apply aa|(apply au;intro zb hc)|(apply ar;intro zb)|intro j')<;>try apply aw
   all_goals try omega
   ·rw[←c1_2,lC (m:=x.natAbs) (by omega) (by omega)]
    have e1:x.natAbs/10=(x.tdiv 10).natAbs:=by omega
    have e2:((x.natAbs % 10:Nat):Int)=0 - x.tmod 10:=by omega
    rw[e1,e2]
   ·exact vb (by omega) c1_3
  ·focus
    refine ay ((fun(x:Int) (s:List UInt8)=>x.natAbs) (x.tdiv 10) (zm (x.tmod 10)::s)) (dC fL1 ?_) ⟨x.tdiv 10,zm (x.tmod 10)::s,dC fL1 ?_⟩
    all_goals try(apply aq;repeat' first|exact ao|apply aa|(apply au;intro zb hc)|(apply ar;intro zb)|intro j')<;>try apply aw
   all_goals try omega
   ·rw[←c1_2,lC (m:=x.natAbs) (by omega) (by omega)]
    have e1:x.natAbs/10=(x.tdiv 10).natAbs:=by omega
    have e2:((x.natAbs % 10:Nat):Int)=x.tmod 10:=by omega
    rw[e1,e2]
   ·exact vb (by omega) c1_3
  ·obtain rfl:x=0:=by omega
   rw[gb,if_neg (by omega),if_pos (by omega),←c1_2,Int.natAbs_zero,uw]
  ·obtain rfl:x=0:=by omega
   rw[gb,if_neg (by omega),if_neg (by omega),←c1_2,Int.natAbs_zero,uw]
theorem lx {l:List (List UInt8)} {sep:List UInt8} {k:Nat} (hk:k<l.length):Lib.join (l.take (k+1)) sep=(if k=0 then[]else Lib.join (l.take k) sep++sep)++l.getD k []:=by
 match l,k,hk with
 |x::r,0,_=>simp[Lib.join_one]
 |x::r,k+1,hk=>
  have hk':k<r.length:=by simpa using hk
  rw[List.take_succ_cons,List.take_succ_cons,Lib.join_cons,Lib.join_cons,Lib.joinTail_take_succ sep r k (r.getD k []) (by rw[ac,ae hk'];rfl)]
  simp
theorem f7 {l:List (List UInt8)} {sep:List UInt8} {k:Nat}:(Lib.join (l.take k) sep).length≤(Lib.join l sep).length:=by
 match l,k with
 |[],k=>simp
 |x::r,0=>simp[Lib.join_nil]
 |x::r,k+1=>
  rw[List.take_succ_cons,Lib.join_cons,Lib.join_cons,ak,ak]
  have:=Lib.joinTail_take_le sep r k
  omega
theorem fE {n:Nat} {sep:List UInt8}:∀{l:List (List UInt8)},(∀x∈l,x.length≤n)→(Lib.join l sep).length≤l.length*(n+sep.length):=by
 intro l
 have key:∀{l:List (List UInt8)},(∀x∈l,x.length≤n)→(Lib.joinTail sep l).length≤l.length*(n+sep.length):=by
  intro l
  induction l with
  |nil=>intro _;simp[Lib.joinTail]
  |cons x r ih=>
   intro h
   have h1:=ih fun y hy=>h y (by simp[hy])
   have h2:=h x (by simp)
   have e:(Lib.joinTail sep (x::r))=sep++x++Lib.joinTail sep r:=by simp[Lib.joinTail]
   rw[e,ak,ak,aC,Nat.succ_mul];omega
 cases l with
 |nil=>intro _;simp[Lib.join_nil]
 |cons x r=>
  intro h
  have h1:=key (l:=r) fun y hy=>h y (by simp[hy])
  have h2:=h x (by simp)
  rw[Lib.join_cons,ak,aC,Nat.succ_mul];omega
theorem BE {s:List UInt8}:List.map (fun b:UInt8=>PV.int .u8 (b.toNat:Int)) s=List.map kA s:=_root_.id rfl
attribute [local go_sem] BE
theorem cH {m0:Bool} (l:List (List UInt8)) (sep:List UInt8) (h1:l.length≤1099511627776) (h2:(Lib.join l sep).length≤1099511627776):Fun Tryz.prog 59 [(.sl (.lent m0) (List.map PV.str (l))),(.str (sep))] [(.str (Lib.join l sep))]:=by
 refine fO bA [4] Tryz.func59 ?_
 refine dE trivial ?_
 all_goals try(apply aq;repeat' first|exact ao|apply aa|(apply au;intro zb hc)|(apply ar;intro zb)|intro j')<;>try apply aw
 refine az (fun ms1 S1=>∃(k:Nat),S1.e 0=.p (.sl (.lent m0) (List.map PV.str (l)))∧S1.e 1=.p (.str (sep))∧OwnL (S1.e 5) S1.h S1.n kA ((Lib.join (l.take k) sep).length) (Lib.join (l.take k) sep)∧S1.e 6=.p (.int .i64 (k))∧(k≤l.length)∧ms1=l.length - k) ((fun(k:Nat)=>l.length - k) (0)) ?_ ⟨0,kj trivial ?_⟩
 all_goals try(apply aq;repeat' first|exact ao|apply aa|(apply au;intro zb hc)|(apply ar;intro zb)|intro j')<;>try apply aw
 rintro ms1 S1 ⟨k,h1_0,h1_1,o1_5,h1_6,c1_0,hm1⟩
 obtain⟨i1_5,h1_5,b1_5,l1_5⟩:=o1_5.out
 have ni1_5:=bi (x:=i1_5) (n:=S1.n)
 have fL1:=(aa h1_0 (aa h1_1 (aa h1_6 (aa h1_5 (aa b1_5 ni1_5)))))
 have b2:=f7 (l:=l) (sep:=sep) (k:=k+1)
 have b1:k<l.length→0<k→(Lib.join (l.take k) sep).length+(sep.length+(l.getD k []).length)≤1099511627776:=fun h h0=>by
  rw[lx h,if_neg (by omega)]at b2;simp only[ak]at b2;omega
 have b0:k<l.length→k=0→(Lib.join (l.take k) sep).length+(l.getD k []).length≤1099511627776:=fun h h0=>by
  subst h0;rw[lx h,if_pos rfl]at b2;simp[Lib.join_nil]at b2 ⊢;omega
 refine aQ (aa fL1 (aa @aaQ @Nat.add_assoc)) ?_
 all_goals try(apply aq;repeat' first|exact ao|apply aa|(apply au;intro zb hc)|(apply ar;intro zb)|intro j')<;>try apply aw
 ·focus
   refine ay ((fun(k:Nat)=>l.length - k) (k+1)) (dC fL1 ?_) ⟨k+1,dC fL1 ?_⟩
   all_goals try(apply aq;repeat' first|exact ao|apply aa|(apply au;intro zb hc)|(apply ar;intro zb)|intro j')<;>try apply aw
  all_goals(rw[lx (by omega),if_neg (by omega)];simp only[ak,aB,Nat.add_assoc])
 ·focus
   refine ay ((fun(k:Nat)=>l.length - k) (k+1)) (dC fL1 ?_) ⟨k+1,dC fL1 ?_⟩
   all_goals try(apply aq;repeat' first|exact ao|apply aa|(apply au;intro zb hc)|(apply ar;intro zb)|intro j')<;>try apply aw
  all_goals(obtain rfl:k=0:=by omega)
  all_goals(rw[lx (by omega),if_pos rfl];simp[Lib.join_nil])
 ·rw[ah (by omega)]
def jZ (p:List Int):List UInt8:=if al p=true then(if p=[]then[45]else p.map zm)else[]
theorem mI (p:List Int):(jZ p).length≤8:=by
 unfold jZ;split
 ·rename_i h
  have:=(aK h).1
  split<;>simp;omega
 ·simp
theorem cG {m0:Bool} (p:List Int) (hl:p.length≤1048576):Fun Tryz.prog 58 [(.sl (.lent m0) (List.map (PV.int .i64) (p)))] [(.str (jZ p))]:=by
 refine fO bA [2] Tryz.func58 ?_
 have cE1:= @aD;have cE2:= @dt
 refine aQ trivial ?_
 all_goals try(apply aq;repeat' first|exact ao|apply aa|(apply au;intro zb hc;repeat (have zc:=zb.1;replace zb:=zb.2))|(apply ar;intro zb)|intro j')<;>try apply aw
 ·rw[jZ,if_neg (by rw[hc];decide)]
 ·rw[jZ,if_pos (by assumption),if_pos (ai (by omega))]
 ·have hp:al p=true:=by assumption
  have hn:¬(p.length:Int)=0:=by assumption
  have pf:=aK hp
  refine az (fun ms1 S1=>∃(k:Nat),S1.e 0=.p (.sl (.lent m0) (List.map (PV.int .i64) (p)))∧S1.e 3=.p (.str ((p.take k).map zm))∧S1.e 4=.p (.int .i64 (k))∧(k≤p.length)∧ms1=p.length - k) ((fun(k:Nat)=>p.length - k) (0)) ?_ ⟨0,kj trivial ?_⟩
  all_goals try(apply aq;repeat' first|exact ao|apply aa|(apply au;intro zb hc;repeat (have zc:=zb.1;replace zb:=zb.2))|(apply ar;intro zb)|intro j')<;>try apply aw
  rintro ms1 S1 ⟨k,h1_0,h1_3,h1_4,c1_0,hm1⟩
  have fL1:=(aa h1_0 (aa h1_3 h1_4))
  have q:k<p.length→1≤p.getD k 0∧p.getD k 0≤8:=fun h=>by have:=nb pf.2 h;omega
  refine aQ fL1 ?_
  all_goals try(apply aq;repeat' first|exact ao|apply aa|(apply au;intro zb hc;repeat (have zc:=zb.1;replace zb:=zb.2))|(apply ar;intro zb)|intro j')<;>try apply aw
  ·rw[qW (q (by omega)).1 (by have:=(q (by omega)).2;omega)];simp;omega
  ·focus
    refine ay ((fun(k:Nat)=>p.length - k) (k+1)) (dC fL1 ?_) ⟨k+1,dC fL1 ?_⟩
    all_goals try(apply aq;repeat' first|exact ao|apply aa|(apply au;intro zb hc;repeat (have zc:=zb.1;replace zb:=zb.2))|(apply ar;intro zb)|intro j')<;>try apply aw
   rw[qW (q (by omega)).1 (by have:=(q (by omega)).2;omega),aX (d:=0) (by omega),aT];rfl
  ·rw[jZ,if_pos hp,if_neg (fun e=>hn (by rw[e];rfl)),ah (by omega)]
theorem db {m0:Bool} (p:List Int) (hl:p.length≤1048576):Fun Tryz.prog 57 [(.sl (.lent m0) (List.map (PV.int .i64) (p)))] [(.str (jZ p))]:=by
 refine fO bA [2] Tryz.func57 ?_
 have cE1:= @aA
 refine aQ trivial ?_
 all_goals try(apply aq;repeat' first|exact ao|apply aa|(apply au;intro zb hc;repeat (have zc:=zb.1;replace zb:=zb.2))|(apply ar;intro zb)|intro j')<;>try apply aw
 ·rw[jZ,if_neg (by rw[hc];decide)]
 ·rw[jZ,if_pos (by assumption),if_pos (ai (by omega))]
 ·have hp:al p=true:=by assumption
  have hn:¬(p.length:Int)=0:=by assumption
  have pf:=aK hp
  refine az (fun ms1 S1=>∃(k:Nat),S1.e 13=.p (.sl (.lent m0) (List.map (PV.int .i64) (p)))∧S1.e 14=.p (.int .i64 (p.length))∧OwnL (S1.e 3) S1.h S1.n kA (((p.take k).map zm).length) ((p.take k).map zm)∧S1.e 15=.p (.int .i64 (k))∧(k≤p.length)∧ms1=p.length - k) ((fun(k:Nat)=>p.length - k) (0)) ?_ ⟨0,dI trivial ?_⟩
  all_goals try(apply aq;repeat' first|exact ao|apply aa|(apply au;intro zb hc;repeat (have zc:=zb.1;replace zb:=zb.2))|(apply ar;intro zb)|intro j')<;>try apply aw
  rintro ms1 S1 ⟨k,h1_13,h1_14,o1_3,h1_15,c1_0,hm1⟩
  obtain⟨i1_3,h1_3,b1_3,l1_3⟩:=o1_3.out
  have ni1_3:=bi (x:=i1_3) (n:=S1.n)
  have fL1:=(aa h1_13 (aa h1_14 (aa h1_15 (aa h1_3 (aa b1_3 ni1_3)))))
  have q:k<p.length→1≤p.getD k 0∧p.getD k 0≤8:=fun h=>by have:=nb pf.2 h;omega
  have u3:(Tryz.prog.underlying 3).isSome=true:=by kernel_rfl
  refine dE (aa fL1 @u3) ?_
  all_goals try(apply aq;repeat' first|exact ao|apply aa|(apply au;intro zb hc;repeat (have zc:=zb.1;replace zb:=zb.2))|(apply ar;intro zb)|intro j')<;>try apply aw
  all_goals try have q1:=q (by omega)
  all_goals try (rw[o6];omega)
  all_goals try exact iF
  ·focus
    refine ay ((fun(k:Nat)=>p.length - k) (k+1)) (dC fL1 ?_) ⟨k+1,dC fL1 ?_⟩
    all_goals try(apply aq;repeat' first|exact ao|apply aa|(apply au;intro zb hc;repeat (have zc:=zb.1;replace zb:=zb.2))|(apply ar;intro zb)|intro j')<;>try apply aw
   rw[Ka (by omega) (by omega),aX (d:=0) (by omega)];simp only[aT,List.map_cons,List.map_nil];rfl
  ·rw[jZ,if_pos hp,if_neg (fun e=>hn (by rw[e];rfl)),ah (by omega)]
def wL (L:List (List Int)):List UInt8:=if L=[]then[45]else Lib.join (L.map jZ) [32]
theorem BF {L:List (List Int)}:∀x∈L.map jZ,x.length≤8:=fun x hx=>by
 rw[List.mem_map]at hx;obtain⟨p,_,rfl⟩:=hx;exact mI p
theorem uI {L:List (List Int)}:(Lib.join (L.map jZ) [32]).length≤L.length*9:=by
 have:=fE (sep:=[32]) (BF (L:=L))
 simpa using this
theorem eD {e0 m0:Bool} (L:List (List Int)) (hL:L.length≤1048576) (hl:∀l∈L,l.length≤1048576):Fun Tryz.prog 15 [(.sl (.lent m0) (List.map (bW e0) (L)))] [(.str (wL L))]:=by
 refine fO bA [2] Tryz.func15 ?_
 have cE1:= @cG;have cE2:= @cH
 have b:=uI (L:=L)
 refine dE trivial ?_
 all_goals try(apply aq;repeat' first|exact ao|apply aa|(apply au;intro zb hc)|(apply ar;intro zb)|intro j')<;>try apply aw
 refine az (fun ms1 S1=>∃(k:Nat),S1.e 0=.p (.sl (.lent m0) (List.map (bW e0) (L)))∧OwnL (S1.e 3) S1.h S1.n PV.str (((L.take k).map jZ).length) ((L.take k).map jZ)∧S1.e 4=.p (.int .i64 (k))∧(k≤L.length)∧ms1=L.length - k) ((fun(k:Nat)=>L.length - k) (0)) ?_ ⟨0,kj trivial ?_⟩
 all_goals try(apply aq;repeat' first|exact ao|apply aa|(apply au;intro zb hc)|(apply ar;intro zb)|intro j')<;>try apply aw
 rintro ms1 S1 ⟨k,h1_0,o1_3,h1_4,c1_0,hm1⟩
 obtain⟨i1_3,h1_3,b1_3,l1_3⟩:=o1_3.out
 have ni1_3:=bi (x:=i1_3) (n:=S1.n)
 have fL1:=(aa h1_0 (aa h1_4 (aa h1_3 (aa b1_3 ni1_3))))
 refine aQ fL1 ?_
 all_goals try(apply aq;repeat' first|exact ao|apply aa|(apply au;intro zb hc)|(apply ar;intro zb)|intro j')<;>try apply aw
 ·exact hl _ (aF hc)
 ·focus
   refine ay ((fun(k:Nat)=>L.length - k) (k+1)) (dC fL1 ?_) ⟨k+1,dC fL1 ?_⟩
   all_goals try(apply aq;repeat' first|exact ao|apply aa|(apply au;intro zb hc)|(apply ar;intro zb)|intro j')<;>try apply aw
  rw[aX (d:=[]) (by omega),aT];rfl
 ·rw[ah (by omega)]at hc
  rw[wL,if_pos (ai (by omega))]
 ·rw[ah (by omega)];omega
 ·rw[ah (by omega)]at hc
  rw[wL,if_neg (fun e=>hc (by rw[e];rfl)),ah (by omega)]
theorem eJ {e0 m0:Bool} (L:List (List Int)) (hL:L.length≤1048576) (hl:∀l∈L,l.length≤1048576):Fun Tryz.prog 14 [(.sl (.lent m0) (List.map (bW e0) (L)))] [(.str (wL L))]:=by
 refine fO bA [2] Tryz.func14 ?_
 have cE1:= @db;have cE2:= @bz
 have b:=uI (L:=L)
 refine dE trivial ?_
 all_goals try(apply aq;repeat' first|exact ao|apply aa|(apply au;intro zb hc;repeat (have zc:=zb.1;replace zb:=zb.2))|(apply ar;intro zb)|intro j')<;>try apply aw
 ·rw[wL,if_pos (ai (by omega))]
 have hn:¬(L.length:Int)=0:=by assumption
 refine az (fun ms1 S1=>∃(k:Nat),S1.e 10=.p (.sl (.lent m0) (List.map (bW e0) (L)))∧S1.e 11=.p (.int .i64 (L.length))∧OwnL (S1.e 3) S1.h S1.n PV.str (((L.take k).map jZ).length) ((L.take k).map jZ)∧S1.e 12=.p (.int .i64 (k))∧(k≤L.length)∧ms1=L.length - k) ((fun(k:Nat)=>L.length - k) (0)) ?_ ⟨0,kj trivial ?_⟩
 all_goals try(apply aq;repeat' first|exact ao|apply aa|(apply au;intro zb hc;repeat (have zc:=zb.1;replace zb:=zb.2))|(apply ar;intro zb)|intro j')<;>try apply aw
 rintro ms1 S1 ⟨k,h1_10,h1_11,o1_3,h1_12,c1_0,hm1⟩
 obtain⟨i1_3,h1_3,b1_3,l1_3⟩:=o1_3.out
 have ni1_3:=bi (x:=i1_3) (n:=S1.n)
 have fL1:=(aa h1_10 (aa h1_11 (aa h1_12 (aa h1_3 (aa b1_3 ni1_3)))))
 refine aQ fL1 ?_
 all_goals try(apply aq;repeat' first|exact ao|apply aa|(apply au;intro zb hc;repeat (have zc:=zb.1;replace zb:=zb.2))|(apply ar;intro zb)|intro j')<;>try apply aw
 ·exact hl _ (aF hc)
 ·focus
   refine ay ((fun(k:Nat)=>L.length - k) (k+1)) (dC fL1 ?_) ⟨k+1,dC fL1 ?_⟩
   all_goals try(apply aq;repeat' first|exact ao|apply aa|(apply au;intro zb hc;repeat (have zc:=zb.1;replace zb:=zb.2))|(apply ar;intro zb)|intro j')<;>try apply aw
  rw[aX (d:=[]) (by omega),aT];rfl
 ·rw[ah (by omega)];omega
 ·rw[wL,if_neg (fun e=>hn (by rw[e];rfl)),ah (by omega)]
end Go.Gl
namespace Go.Gl
open Go Go.Proofs
variable [Amb]
def gf (a b:Int):Int:=if a<b then -1 else if b<a then 1 else 0
def ed:List Int→List Int→Int
 |[],[]=>0
 |[],_::_=> -1
 |_::_,[]=>1
 |a::x,b::y=>if gf a b≠0 then gf a b else ed x y
def pj (p q:List Int):Int:=if gf p.length q.length≠0 then gf p.length q.length else ed p q
theorem cmpI_0 {a b:Int}:gf a b=0↔a=b:=by
 unfold gf;split
 ·omega
 ·split<;>omega
def Gb:List Int→Int
 |[]=>0
 |x::l=>if x≠0 then x else Gb l
theorem IF {a b:Int} (h:a<b): -1=gf a b:=by rw[gf,if_pos h]
theorem IG {a b:Int} (h:b<a):1=gf a b:=by rw[gf,if_neg (by omega),if_pos h]
theorem ku (x:Int):Fun Tryz.prog 210 [(.int .i64 (x))] [(.bool (false))]:=by
 refine fO bA [2] Tryz.func210 ?_
 refine aQ trivial ?_
 all_goals try(apply aq;repeat' first|exact ao|apply aa|(apply au;intro zb hc)|(apply ar;intro zb)|intro j')<;>try apply aw
theorem ge (a b:Int):Fun Tryz.prog 185 [(.int .i64 (a)),(.int .i64 (b))] [(.int .i64 (gf a b))]:=by
 refine fO bA [4] Tryz.func185 ?_
 have cE1:= @ku
 refine aQ trivial ?_
 all_goals try(apply aq;repeat' first|exact ao|apply aa|(apply au;intro zb hc)|(apply ar;intro zb)|intro j')<;>try apply aw
 ·exact IF hc
 ·exact IG hc
 ·rw[gf,if_neg (by omega),if_neg (by omega)]
theorem fh {m0 m1:Bool} (a b:List Int) (ha:a.length≤1099511627776) (hb:b.length≤1099511627776):Fun Tryz.prog 186 [(.sl (.lent m0) (List.map (PV.int .i64) (a))),(.sl (.lent m1) (List.map (PV.int .i64) (b)))] [(.int .i64 (ed a b))]:=by
 refine fO bA [4] Tryz.func186 ?_
 have cE1:= @ge
 refine aQ trivial ?_
 all_goals try(apply aq;repeat' first|exact ao|apply aa|(apply au;intro zb hc)|(apply ar;intro zb)|intro j')<;>try apply aw
 refine az (fun ms1 S1=>∃(k:Nat),S1.e 1=.p (.sl (.lent m1) (List.map (PV.int .i64) (b)))∧S1.e 0=.p (.sl (.lent m0) (List.map (PV.int .i64) (a)))∧S1.e 9=.p (.sl (.lent m0) (List.map (PV.int .i64) (a)))∧S1.e 10=.p (.int .i64 (a.length))∧S1.e 11=.p (.int .i64 (k))∧(k≤a.length)∧(k≤b.length)∧(ed a b=ed (a.drop k) (b.drop k))∧ms1=a.length - k) ((fun(k:Nat)=>a.length - k) (0)) ?_ ⟨0,kj trivial ?_⟩
 all_goals try(apply aq;repeat' first|exact ao|apply aa|(apply au;intro zb hc)|(apply ar;intro zb)|intro j')<;>try apply aw
 rintro ms1 S1 ⟨k,h1_1,h1_0,h1_9,h1_10,h1_11,c1_0,c1_1,c1_2,hm1⟩
 have fL1:=(aa h1_1 (aa h1_0 (aa h1_9 (aa h1_10 h1_11))))
 refine aQ fL1 ?_
 all_goals try(apply aq;repeat' first|exact ao|apply aa|(apply au;intro zb hc)|(apply ar;intro zb)|intro j')<;>try apply aw
 ·rw[c1_2,bH (by omega),aL (l:=b) (by omega),ed]
 ·rw[c1_2,bH (by omega),bH (s:=b) (by omega),ed,if_pos hc]
 ·focus
   refine ay ((fun(k:Nat)=>a.length - k) (k+1)) (dC fL1 ?_) ⟨k+1,dC fL1 ?_⟩
   all_goals try(apply aq;repeat' first|exact ao|apply aa|(apply au;intro zb hc)|(apply ar;intro zb)|intro j')<;>try apply aw
  rw[c1_2,bH (by omega),bH (s:=b) (by omega),ed,if_neg (fun h=>h hc)]
 ·rw[c1_2,aL (l:=a) (by omega),bH (s:=b) (by omega),ed]
 ·rw[c1_2,aL (l:=a) (by omega),aL (l:=b) (by omega),ed]
theorem nE {m0:Bool} (l:List Int) (hl:l.length≤1099511627776):Fun Tryz.prog 184 [(.sl (.lent m0) (List.map (PV.int .i64) (l)))] [(.int .i64 (Gb l))]:=by
 refine fO bA [2] Tryz.func184 ?_
 refine aQ trivial ?_
 all_goals try(apply aq;repeat' first|exact ao|apply aa|(apply au;intro zb hc)|(apply ar;intro zb)|intro j')<;>try apply aw
 refine az (fun ms1 S1=>∃(k:Nat),S1.e 3=.p (.int .i64 (0))∧S1.e 6=.p (.sl (.lent m0) (List.map (PV.int .i64) (l)))∧S1.e 7=.p (.int .i64 (l.length))∧S1.e 8=.p (.int .i64 (k))∧(k≤l.length)∧(Gb l=Gb (l.drop k))∧ms1=l.length - k) ((fun(k:Nat)=>l.length - k) (0)) ?_ ⟨0,kj trivial ?_⟩
 all_goals try(apply aq;repeat' first|exact ao|apply aa|(apply au;intro zb hc)|(apply ar;intro zb)|intro j')<;>try apply aw
 rintro ms1 S1 ⟨k,h1_3,h1_6,h1_7,h1_8,c1_0,c1_1,hm1⟩
 have fL1:=(aa h1_3 (aa h1_6 (aa h1_7 h1_8)))
 refine aQ fL1 ?_
 all_goals try(apply aq;repeat' first|exact ao|apply aa|(apply au;intro zb hc)|(apply ar;intro zb)|intro j')<;>try apply aw
 ·rw[c1_1,bH (by omega),Gb,if_pos hc]
 ·focus
   refine ay ((fun(k:Nat)=>l.length - k) (k+1)) (dC fL1 ?_) ⟨k+1,dC fL1 ?_⟩
   all_goals try(apply aq;repeat' first|exact ao|apply aa|(apply au;intro zb hc)|(apply ar;intro zb)|intro j')<;>try apply aw
  rw[c1_1,bH (by omega),Gb,if_neg (fun h=>h hc)]
 ·rw[c1_1,aL (by omega),Gb]
theorem Eo {m0:Bool} (a b:Int):Fun Tryz.prog 184 [.sl (.lent m0) [.int .i64 a,.int .i64 b]] [.int .i64 (if a≠0 then a else b)]:=by
 have h:=nE (m0:=m0) [a,b] (by simp)
 have e:Gb [a,b]=if a≠0 then a else b:=by
  simp only[Gb];split
  ·rfl
  ·split
   ·rfl
   ·omega
 rw[e]at h
 exact h
theorem ia {m0 m1:Bool} (p q:List Int) (hp:p.length≤1048576) (hq:q.length≤1048576):Fun Tryz.prog 156 [(.sl (.lent m0) (List.map (PV.int .i64) (p))),(.sl (.lent m1) (List.map (PV.int .i64) (q)))] [(.int .i64 (pj p q))]:=by
 refine fO bA [4] Tryz.func156 ?_
 have cE1:= @ge;have cE2:= @fh;have cE3:= @nE
 have cE1:= @Eo;have cE2:= @ge;have cE3:= @fh
 refine aQ trivial ?_
 all_goals try(apply aq;repeat' first|exact ao|apply aa|(apply au;intro zb hc)|(apply ar;intro zb)|intro j')<;>try apply aw
 rfl
end Go.Gl
namespace Go.Gl
open Go Go.Proofs
variable [Amb] [NoQ]
def dr (p q:List Int):Bool:=decide (pj p q<0)
theorem OR {a b:List Int} (h:a.length≠b.length):decide (a.length<b.length)=dr a b:=by
 rw[dr,pj,if_pos (fun e=>by rw[cmpI_0]at e;omega)]
 unfold gf
 by_cases h1:a.length<b.length
 ·rw[if_pos (by omega)];simp[h1]
 ·rw[if_neg (by omega),if_pos (by omega)];simp[h1]
theorem OS {a b:List Int} (h:a.length=b.length):dr a b=decide (ed a b<0):=by
 rw[dr,pj,if_neg (fun e=>e (cmpI_0.2 (by omega)))]
theorem Er {a b:Int}:decide (gf a b<0)=decide (a<b):=by
 unfold gf;split
 ·rename_i h;simp[h]
 ·split<;>simp<;>omega
theorem ko {m0 m1:Bool} (a b:List Int) (ha:a.length≤1048576) (hb:b.length≤1048576):Fun Tryz.prog 158 [(.sl (.lent m0) (List.map (PV.int .i64) (a))),(.sl (.lent m1) (List.map (PV.int .i64) (b)))] [(.bool (dr a b))]:=by
 refine fO bA [4] Tryz.func158 ?_
 refine aQ trivial ?_
 all_goals try(apply aq;repeat' first|exact ao|apply aa|(apply au;intro zb hc)|(apply ar;intro zb)|intro j')<;>try apply aw
 ·exact OR (by omega)
 have hl:a.length=b.length:=by omega
 rw[OS hl]
 refine az (fun ms1 S1=>∃(k:Nat),S1.e 0=.p (.sl (.lent m0) (List.map (PV.int .i64) (a)))∧S1.e 1=.p (.sl (.lent m1) (List.map (PV.int .i64) (b)))∧S1.e 5=.p (.int .i64 (k))∧(k≤a.length)∧(ed a b=ed (a.drop k) (b.drop k))∧ms1=a.length - k) ((fun(k:Nat)=>a.length - k) (0)) ?_ ⟨0,kj trivial ?_⟩
 all_goals try(apply aq;repeat' first|exact ao|apply aa|(apply au;intro zb hc)|(apply ar;intro zb)|intro j')<;>try apply aw
 rintro ms1 S1 ⟨k,h1_0,h1_1,h1_5,c1_0,c1_1,hm1⟩
 have fL1:=(aa h1_0 (aa h1_1 h1_5))
 refine aQ fL1 ?_
 all_goals try(apply aq;repeat' first|exact ao|apply aa|(apply au;intro zb hc)|(apply ar;intro zb)|intro j')<;>try apply aw
 ·rw[c1_1,bH (by omega),bH (s:=b) (by omega),ed,if_pos (fun e=>hc (cmpI_0.1 e)),Er]
 ·focus
   refine ay ((fun(k:Nat)=>a.length - k) (k+1)) (dC fL1 ?_) ⟨k+1,dC fL1 ?_⟩
   all_goals try(apply aq;repeat' first|exact ao|apply aa|(apply au;intro zb hc)|(apply ar;intro zb)|intro j')<;>try apply aw
  rw[c1_1,bH (by omega),bH (s:=b) (by omega),ed,if_neg (fun h=>h (cmpI_0.2 hc))]
 ·rw[c1_1,aL (l:=a) (by omega),aL (l:=b) (by omega),ed];rfl
theorem Hm {p q:List Int}:(!(lH 0 p q q.length []).isEmpty)=jb p q:=rfl
theorem k7 {m0 m1:Bool} (p q:List Int) (hp:p.length≤8) (hq:q.length≤8):Fun Tryz.prog 178 [.sl (.lent m0) (List.map (PV.int .i64) p),.sl (.lent m1) (List.map (PV.int .i64) q),.sl (.lent false) []] [.bool (jb p q)]:=by
 have c1:=xq (m0:=m0) (m1:=m1) p q hp hq q.length (m2:=false) [] (by simp) (by simp)
 rw[Hm]at c1
 simpa only[List.map_nil]using c1
def Bg (L:List (List Int)) (p:List Int):Bool:= !(L.any fun q=>jb p q)
theorem gu {e0 m0 m1:Bool} (L:List (List Int)) (p:List Int) (hL:L.length≤1099511627776) (hl:∀q∈L,q.length≤8) (hp:p.length≤8):Fun Tryz.prog 191 [(.sl (.lent m0) (List.map (bW e0) (L))),(.sl (.lent m1) (List.map (PV.int .i64) (p)))] [(.bool (Bg L p))]:=by
 refine fO bA [4] Tryz.func191 ?_
 have cE1:= @mR
 refine aQ trivial ?_
 all_goals try(apply aq;repeat' first|exact ao|apply aa|(apply au;intro zb hc)|(apply ar;intro zb)|intro j')<;>try apply aw
 refine az (fun ms1 S1=>∃(k:Nat),S1.e 0=.p (.sl (.lent m0) (List.map (bW e0) (L)))∧S1.e 1=.p (.sl (.lent m1) (List.map (PV.int .i64) (p)))∧S1.e 5=.p (.int .i64 (k))∧(k≤L.length)∧(∀q∈L.take k,jb p q=false)∧ms1=L.length - k) ((fun(k:Nat)=>L.length - k) (0)) ?_ ⟨0,kj trivial ?_⟩
 all_goals try(apply aq;repeat' first|exact ao|apply aa|(apply au;intro zb hc)|(apply ar;intro zb)|intro j')<;>try apply aw
 rintro ms1 S1 ⟨k,h1_0,h1_1,h1_5,c1_0,c1_1,hm1⟩
 have fL1:=(aa h1_0 (aa h1_1 h1_5))
 refine aQ fL1 ?_
 all_goals try(apply aq;repeat' first|exact ao|apply aa|(apply au;intro zb hc)|(apply ar;intro zb)|intro j')<;>try apply aw
 ·exact hl _ (aF hc)
 ·have h1:(L.any fun q=>jb p q)=true:=List.any_eq_true.2 ⟨_,aF (by omega),hc⟩
  rw[Bg,h1];rfl
 ·focus
   refine ay ((fun(k:Nat)=>L.length - k) (k+1)) (dC fL1 ?_) ⟨k+1,dC fL1 ?_⟩
   all_goals try(apply aq;repeat' first|exact ao|apply aa|(apply au;intro zb hc)|(apply ar;intro zb)|intro j')<;>try apply aw
  intro q hq
  rw[aX (d:=[]) (by omega)]at hq
  rcases List.mem_append.1 hq with hq|hq
  ·exact c1_1 q hq
  ·simp at hq;subst hq;simpa using hc
 ·have h1:(L.any fun q=>jb p q)=false:=by
   rw[Bool.eq_false_iff];intro h
   obtain⟨q,hq,h2⟩:=List.any_eq_true.1 h
   rw[ah (by omega)]at c1_1
   rw[c1_1 q hq]at h2;cases h2
  rw[Bg,h1];rfl
def uB (L:List (List Int)) (k:Nat):Bool:=(List.range k).all fun i=>al (L.getD i [])&& !decide ((L.getD i []).length=0)&&(decide (i=0)||dr (L.getD (i - 1) []) (L.getD i []))&& !((List.range i).any fun j=>jb (L.getD i []) (L.getD j []))
def fA (L:List (List Int)):Bool:=decide (L.length≤8)&&uB L L.length
theorem lF {L:List (List Int)} {k:Nat}:uB L (k+1)=(uB L k&&(al (L.getD k [])&& !decide ((L.getD k []).length=0)&&(decide (k=0)||dr (L.getD (k - 1) []) (L.getD k []))&& !((List.range k).any fun j=>jb (L.getD k []) (L.getD j [])))):=by
 simp[uB,List.range_succ]
theorem oE {L:List (List Int)} {k j:Nat} (h:uB L k=true) (hj:j<k):al (L.getD j [])=true:=by
 rw[uB,List.all_eq_true]at h
 have:=h j (List.mem_range.2 hj)
 simp only[Bool.and_eq_true]at this
 exact this.1.1.1
theorem A7 {L:List (List Int)} {k n:Nat} (hk:k≤n) (h:uB L k=false):uB L n=false:=by
 induction hk with
 |refl=>exact h
 |step _ ih=>rw[lF,ih];rfl
theorem pO {L:List (List Int)} {k:Nat} (hk:k<L.length) (h:(al (L.getD k [])&& !decide ((L.getD k []).length=0)&&(decide (k=0)||dr (L.getD (k - 1) []) (L.getD k []))&& !((List.range k).any fun j=>jb (L.getD k []) (L.getD j [])))=false):false=fA L:=by
 rw[fA,A7 (k:=k+1) (by omega) (by rw[lF,h,Bool.and_false]),Bool.and_false]
theorem bR {e0 m0:Bool} (L:List (List Int)) (hL:L.length≤1048576) (hl:∀l∈L,l.length≤1048576):Fun Tryz.prog 190 [(.sl (.lent m0) (List.map (bW e0) (L)))] [(.bool (fA L))]:=by
 refine fO bA [2] Tryz.func190 ?_
 have cE1:= @aD;have cE2:= @ko;have cE3:= @mR;have cD1:=iE [false,false,false,false,true,false,false,false,false,false,false,false,false,false,false,false,false,false,false,false,false,false,false,false,false,false,false,true,false,false,false] [];have cD2:=iE [false,false,false,false,false,false,false,false,true] []
 refine aQ trivial ?_
 all_goals try(apply aq;repeat' first|exact ao|apply aa|(apply au;intro zb hc;repeat (have zc:=zb.1;replace zb:=zb.2))|(apply ar;intro zb)|intro j')<;>try apply aw
 refine az (fun ms1 S1=>∃(k:Nat),S1.e 0=.p (.sl (.lent m0) (List.map (bW e0) (L)))∧S1.e 3=.p (.int .i64 (k))∧(k≤L.length)∧(uB L k=true)∧ms1=L.length - k) ((fun(k:Nat)=>L.length - k) (0)) ?_ ⟨0,dC trivial ?_⟩
 all_goals try(apply aq;repeat' first|exact ao|apply aa|(apply au;intro zb hc;repeat (have zc:=zb.1;replace zb:=zb.2))|(apply ar;intro zb)|intro j')<;>try apply aw
 rintro ms1 S1 ⟨k,h1_0,h1_3,c1_0,c1_1,hm1⟩
 have fL1:=(aa h1_0 h1_3)
 have u1:((k:Int) - 1).toNat=k - 1:=by omega
 by_cases hk:k<L.length
 ·have g1:=hl _ (aF (d:=[]) hk)
  have g2:0<k→(L.getD (k - 1) []).length≤1048576:=fun h=>hl _ (aF (by omega))
  refine aQ (aa fL1 @u1) ?_
  all_goals try(apply aq;repeat' first|exact ao|apply aa|(apply au;intro zb hc;repeat (have zc:=zb.1;replace zb:=zb.2))|(apply ar;intro zb)|intro j')<;>try apply aw
  ·refine pO hk ?_
   have x1:dr (L.getD (k - 1) []) (L.getD k [])=false:=hc
   have x3:decide (k=0)=false:=decide_eq_false (by omega)
   rw[x1,x3];simp
  ·have w1:al (L.getD k [])=true:=by assumption
   have w2:¬((L.getD k []).length:Int)=0:=by assumption
   have w3:(decide (k=0)||dr (L.getD (k - 1) []) (L.getD k []))=true:=by rw[hc,Bool.or_true]
   have w4:=(aK w1).1
   refine az (fun ms2 S2=>∃(j:Nat),S2.e 0=.p (.sl (.lent m0) (List.map (bW e0) (L)))∧S2.e 3=.p (.int .i64 (k))∧S2.e 4=.p (.int .i64 (j))∧(j≤k)∧(∀i,i<j→jb (L.getD k []) (L.getD i [])=false)∧S1.n≤S2.n∧ms2=k - j) ((fun(j:Nat)=>k - j) (0)) ?_ ⟨0,dC fL1 ?_⟩
   all_goals try(apply aq;repeat' first|exact ao|apply aa|(apply au;intro zb hc;repeat (have zc:=zb.1;replace zb:=zb.2))|(apply ar;intro zb)|intro j')<;>try apply aw
   rintro ms2 S2 ⟨j,h2_0,h2_3,h2_4,c2_0,c2_1,u2_0,hm2⟩
   have fL2:=(aa h2_0 (aa h2_3 h2_4))
   have w5:j<k→(L.getD j []).length≤8:=fun h=>(aK (oE c1_1 h)).1
   have w6:j<k→(L.take k).getD j []=L.getD j []:=fun h=>by simp only[ac,be];rw[if_pos h]
   by_cases hj:j<k
   ·have w7:=w5 hj
    have w8:=w6 hj
    refine aQ fL2 ?_
    all_goals try(apply aq;repeat' first|exact ao|apply aa|(apply au;intro zb hc;repeat (have zc:=zb.1;replace zb:=zb.2))|(apply ar;intro zb)|intro j')<;>try apply aw
    ·have x1:((List.range k).any fun j=>jb (L.getD k []) (L.getD j []))=true:=List.any_eq_true.2 ⟨j,List.mem_range.2 hj,hc⟩
     exact pO hk (by rw[x1];simp)
    ·focus
      refine ay ((fun(j:Nat)=>k - j) (j+1)) (dC fL2 ?_) ⟨j+1,dC fL2 ?_⟩
      all_goals try(apply aq;repeat' first|exact ao|apply aa|(apply au;intro zb hc;repeat (have zc:=zb.1;replace zb:=zb.2))|(apply ar;intro zb)|intro j')<;>try apply aw
     intro i hi
     by_cases e:i=j
     ·subst e;exact hc
     ·exact c2_1 i (by omega)
   ·refine aQ fL2 ?_
    all_goals try(apply aq;repeat' first|exact ao|apply aa|(apply au;intro zb hc;repeat (have zc:=zb.1;replace zb:=zb.2))|(apply ar;intro zb)|intro j')<;>try apply aw
    ·focus
      refine ay ((fun(k:Nat)=>L.length - k) (k+1)) (dC fL2 ?_) ⟨k+1,dC fL2 ?_⟩
      all_goals try(apply aq;repeat' first|exact ao|apply aa|(apply au;intro zb hc;repeat (have zc:=zb.1;replace zb:=zb.2))|(apply ar;intro zb)|intro j')<;>try apply aw
     have x1:((List.range k).any fun j=>jb (L.getD k []) (L.getD j []))=false:=by
      rw[Bool.eq_false_iff];intro h
      obtain⟨i,hi,h2⟩:=List.any_eq_true.1 h
      rw[c2_1 i (by have:=List.mem_range.1 hi;omega)]at h2;cases h2
     rw[lF,c1_1,w1,w3,x1,decide_eq_false (by omega)];rfl
  ·have w1:al (L.getD k [])=true:=by assumption
   have w2:¬((L.getD k []).length:Int)=0:=by assumption
   have w3:(decide (k=0)||dr (L.getD (k - 1) []) (L.getD k []))=true:=by rw[decide_eq_true (by omega),Bool.true_or]
   have w4:=(aK w1).1
   refine az (fun ms3 S3=>∃(j:Nat),S3.e 0=.p (.sl (.lent m0) (List.map (bW e0) (L)))∧S3.e 3=.p (.int .i64 (k))∧S3.e 4=.p (.int .i64 (j))∧(j≤k)∧(∀i,i<j→jb (L.getD k []) (L.getD i [])=false)∧S1.n≤S3.n∧ms3=k - j) ((fun(j:Nat)=>k - j) (0)) ?_ ⟨0,dC fL1 ?_⟩
   all_goals try(apply aq;repeat' first|exact ao|apply aa|(apply au;intro zb hc;repeat (have zc:=zb.1;replace zb:=zb.2))|(apply ar;intro zb)|intro j')<;>try apply aw
   rintro ms3 S3 ⟨j,h3_0,h3_3,h3_4,c3_0,c3_1,u3_0,hm3⟩
   have fL3:=(aa h3_0 (aa h3_3 h3_4))
   have w5:j<k→(L.getD j []).length≤8:=fun h=>(aK (oE c1_1 h)).1
   have w6:j<k→(L.take k).getD j []=L.getD j []:=fun h=>by simp only[ac,be];rw[if_pos h]
   by_cases hj:j<k
   ·omega
   ·refine aQ fL3 ?_
    all_goals try(apply aq;repeat' first|exact ao|apply aa|(apply au;intro zb hc;repeat (have zc:=zb.1;replace zb:=zb.2))|(apply ar;intro zb)|intro j')<;>try apply aw
    ·focus
      refine ay ((fun(k:Nat)=>L.length - k) (k+1)) (dC fL3 ?_) ⟨k+1,dC fL3 ?_⟩
      all_goals try(apply aq;repeat' first|exact ao|apply aa|(apply au;intro zb hc;repeat (have zc:=zb.1;replace zb:=zb.2))|(apply ar;intro zb)|intro j')<;>try apply aw
     have x1:((List.range k).any fun j=>jb (L.getD k []) (L.getD j []))=false:=by
      rw[Bool.eq_false_iff];intro h
      obtain⟨i,hi,h2⟩:=List.any_eq_true.1 h
      rw[c3_1 i (by have:=List.mem_range.1 hi;omega)]at h2;cases h2
     rw[lF,c1_1,w1,w3,x1,decide_eq_false (by omega)];rfl
  ·have x2:(L.getD k []).length=0:=by omega
   exact pO hk (by rw[decide_eq_true x2];simp)
  ·exact pO hk (by rw[hc];rfl)
 ·skip
  refine aQ fL1 ?_
  all_goals try(apply aq;repeat' first|exact ao|apply aa|(apply au;intro zb hc;repeat (have zc:=zb.1;replace zb:=zb.2))|(apply ar;intro zb)|intro j')<;>try apply aw
  obtain rfl:k=L.length:=by omega
  rw[fA,c1_1,Bool.and_true];congr 1;rw[eq_iff_iff];omega
def nY (l:List Int) (k:Nat):Int:=(l.take k).foldl min (l.getD 0 0)
def nZ (l:List Int) (k:Nat):Int:=(l.take k).foldl max (l.getD 0 0)
def xe (l:List Int):Int:=nY l l.length
def xg (l:List Int):Int:=nZ l l.length
theorem lu {l:List Int} {k:Nat} (h:k<l.length):nY l (k+1)=min (nY l k) (l.getD k 0):=by
 rw[nY,aX (d:=0) h,List.foldl_append];rfl
theorem lw {l:List Int} {k:Nat} (h:k<l.length):nZ l (k+1)=max (nZ l k) (l.getD k 0):=by
 rw[nZ,aX (d:=0) h,List.foldl_append];rfl
theorem Mp {l:List Int} (h:0<l.length):nY l 1=l.getD 0 0:=by
 rw[lu h,nY,List.take_zero];simp
theorem Mr {l:List Int} (h:0<l.length):nZ l 1=l.getD 0 0:=by
 rw[lw h,nZ,List.take_zero];simp
theorem t8 {l:List Int} {a b:Int} (hb:∀x∈l,a≤x∧x≤b) (h0:0<l.length):∀{k:Nat},k≤l.length→a≤nY l k∧nY l k≤b
 |0,_=>by rw[nY,List.take_zero];exact hb _ (aF h0)
 |k+1,h=>by
  have h1:=t8 hb h0 (k:=k) (by omega)
  have h2:=hb _ (aF (d:=0) (show k<l.length by omega))
  rw[lu (by omega)];omega
theorem ua {l:List Int} {a b:Int} (hb:∀x∈l,a≤x∧x≤b) (h0:0<l.length):∀{k:Nat},k≤l.length→a≤nZ l k∧nZ l k≤b
 |0,_=>by rw[nZ,List.take_zero];exact hb _ (aF h0)
 |k+1,h=>by
  have h1:=ua hb h0 (k:=k) (by omega)
  have h2:=hb _ (aF (d:=0) (show k<l.length by omega))
  rw[lw (by omega)];omega
def d8 (p:List Int) (a b:Nat):List Int:=(p.take b).drop a
theorem fW {p:List Int} {a b:Nat} (h:b≤p.length):(d8 p a b).length=b - a:=by simp[d8];omega
theorem tL {p:List Int} {a b k:Nat} (h:a+k<b):(d8 p a b).getD k 0=p.getD (a+k) 0:=by
 simp only[d8,ac,aW,be]
 rw[if_pos h]
theorem iL {p:List Int} {a b:Nat} {x:Int} (h:x∈d8 p a b):x∈p:=List.mem_of_mem_take (List.mem_of_mem_drop h)
def kb (p:List Int) (a b:Int):Bool:=decide (xg (d8 p a.toNat b.toNat) - xe (d8 p a.toNat b.toNat)=b - a - 1)
theorem kI {m0:Bool} (l:List Int) (h0:0<l.length) (hl:l.length≤1099511627776):Fun Tryz.prog 194 [(.sl (.lent m0) (List.map (PV.int .i64) (l)))] [(.int .i64 (xe l))]:=by
 refine fO bA [2] Tryz.func194 ?_
 refine aQ trivial ?_
 all_goals try(apply aq;repeat' first|exact ao|apply aa|(apply au;intro zb hc)|(apply ar;intro zb)|intro j')<;>try apply aw
 refine az (fun ms1 S1=>∃(k:Nat),S1.e 0=.p (.sl (.lent m0) (List.map (PV.int .i64) (l)))∧S1.e 3=.p (.int .i64 (nY l k))∧S1.e 4=.p (.int .i64 (k))∧(1≤k)∧(k≤l.length)∧ms1=l.length - k) ((fun(k:Nat)=>l.length - k) (1)) ?_ ⟨1,kj trivial ?_⟩
 all_goals try(apply aq;repeat' first|exact ao|apply aa|(apply au;intro zb hc)|(apply ar;intro zb)|intro j')<;>try apply aw
 rintro ms1 S1 ⟨k,h1_0,h1_3,h1_4,c1_0,c1_1,hm1⟩
 have fL1:=(aa h1_0 (aa h1_3 h1_4))
 refine aQ fL1 ?_
 all_goals try(apply aq;repeat' first|exact ao|apply aa|(apply au;intro zb hc)|(apply ar;intro zb)|intro j')<;>try apply aw
 ·focus
   refine ay ((fun(k:Nat)=>l.length - k) (k+1)) (dC fL1 ?_) ⟨k+1,dC fL1 ?_⟩
   all_goals try(apply aq;repeat' first|exact ao|apply aa|(apply au;intro zb hc)|(apply ar;intro zb)|intro j')<;>try apply aw
  rw[lu (by omega)]
 ·rw[xe];congr 1;omega
 ·rw[Mp h0]
theorem kJ {m0:Bool} (l:List Int) (h0:0<l.length) (hl:l.length≤1099511627776):Fun Tryz.prog 193 [(.sl (.lent m0) (List.map (PV.int .i64) (l)))] [(.int .i64 (xg l))]:=by
 refine fO bA [2] Tryz.func193 ?_
 refine aQ trivial ?_
 all_goals try(apply aq;repeat' first|exact ao|apply aa|(apply au;intro zb hc)|(apply ar;intro zb)|intro j')<;>try apply aw
 refine az (fun ms1 S1=>∃(k:Nat),S1.e 0=.p (.sl (.lent m0) (List.map (PV.int .i64) (l)))∧S1.e 3=.p (.int .i64 (nZ l k))∧S1.e 4=.p (.int .i64 (k))∧(1≤k)∧(k≤l.length)∧ms1=l.length - k) ((fun(k:Nat)=>l.length - k) (1)) ?_ ⟨1,kj trivial ?_⟩
 all_goals try(apply aq;repeat' first|exact ao|apply aa|(apply au;intro zb hc)|(apply ar;intro zb)|intro j')<;>try apply aw
 rintro ms1 S1 ⟨k,h1_0,h1_3,h1_4,c1_0,c1_1,hm1⟩
 have fL1:=(aa h1_0 (aa h1_3 h1_4))
 refine aQ fL1 ?_
 all_goals try(apply aq;repeat' first|exact ao|apply aa|(apply au;intro zb hc)|(apply ar;intro zb)|intro j')<;>try apply aw
 ·focus
   refine ay ((fun(k:Nat)=>l.length - k) (k+1)) (dC fL1 ?_) ⟨k+1,dC fL1 ?_⟩
   all_goals try(apply aq;repeat' first|exact ao|apply aa|(apply au;intro zb hc)|(apply ar;intro zb)|intro j')<;>try apply aw
  rw[lw (by omega)]
 ·rw[xg];congr 1;omega
 ·rw[Mr h0]
theorem jo {m0:Bool} (p:List Int) (a b:Int) (h0:0≤a) (h1:a<b) (h2:b≤p.length) (hl:p.length≤8) (hb:∀x∈p,0≤x∧x≤1048576):Fun Tryz.prog 169 [(.sl (.lent m0) (List.map (PV.int .i64) (p))),(.int .i64 (a)),(.int .i64 (b))] [(.bool (kb p a b))]:=by
 refine fO bA [6] Tryz.func169 ?_
 have cE1:= @kJ;have cE2:= @kI
 have e1:List.drop a.toNat (List.take b.toNat p)=d8 p a.toNat b.toNat:=rfl
 have e2:(d8 p a.toNat b.toNat).length=b.toNat - a.toNat:=fW (by omega)
 have b1:=t8 (fun x hx=>hb x (iL (a:=a.toNat) (b:=b.toNat) hx)) (by omega) (am _)
 have b2:=ua (fun x hx=>hb x (iL (a:=a.toNat) (b:=b.toNat) hx)) (by omega) (am _)
 rw[←xe]at b1
 rw[←xg]at b2
 refine aQ @e1 ?_
 all_goals try(apply aq;repeat' first|exact ao|apply aa|(apply au;intro zb hc)|(apply ar;intro zb)|intro j')<;>try apply aw
 rw[kb,e2];congr 1;rw[eq_iff_iff];omega
theorem tG (a b:Int):Fun Tryz.prog 188 [(.int .i64 (a)),(.int .i64 (b))] [(.int .i64 (min a b))]:=by
 refine fO bA [4] Tryz.func188 ?_
 refine dE trivial ?_
 all_goals try(apply aq;repeat' first|exact ao|apply aa|(apply au;intro zb hc)|(apply ar;intro zb)|intro j')<;>try apply aw
 all_goals omega
theorem mU {m0:Bool} (p:List Int) (a b:Int) (h0:0≤a) (h1:a≤b) (h2:b<p.length) (hl:p.length≤8) (hb:∀x∈p,0≤x∧x≤1048576):Fun Tryz.prog 162 [(.sl (.lent m0) (List.map (PV.int .i64) (p))),(.int .i64 (a)),(.int .i64 (b))] [(.bool (kb p a (b+1)))]:=by
 refine fO bA [6] Tryz.func162 ?_
 have cE1:= @tG;have cE2:= @ij
 have e2:(d8 p a.toNat (b+1).toNat).length=(b+1).toNat - a.toNat:=fW (by omega)
 have b1:=t8 (fun x hx=>hb x (iL (a:=a.toNat) (b:=(b+1).toNat) hx)) (by omega) (am _)
 have b2:=ua (fun x hx=>hb x (iL (a:=a.toNat) (b:=(b+1).toNat) hx)) (by omega) (am _)
 rw[←xe]at b1
 rw[←xg]at b2
 refine aQ trivial ?_
 all_goals try(apply aq;repeat' first|exact ao|apply aa|(apply au;intro zb hc)|(apply ar;intro zb)|intro j')<;>try apply aw
 refine az (fun ms1 S1=>∃(k:Nat),S1.e 0=.p (.sl (.lent m0) (List.map (PV.int .i64) (p)))∧S1.e 1=.p (.int .i64 (a))∧S1.e 2=.p (.int .i64 (b))∧S1.e 7=.p (.int .i64 (nY (d8 p a.toNat (b+1).toNat) k))∧S1.e 8=.p (.int .i64 (nZ (d8 p a.toNat (b+1).toNat) k))∧S1.e 9=.p (.int .i64 ((a+k)))∧((k:Int)≤b+1 - a)∧ms1=(b+1 - a).toNat - k) ((fun(k:Nat)=>(b+1 - a).toNat - k) (0)) ?_ ⟨0,dI trivial ?_⟩
 all_goals try(apply aq;repeat' first|exact ao|apply aa|(apply au;intro zb hc)|(apply ar;intro zb)|intro j')<;>try apply aw
 rintro ms1 S1 ⟨k,h1_0,h1_1,h1_2,h1_7,h1_8,h1_9,c1_0,hm1⟩
 have fL1:=(aa h1_0 (aa h1_1 (aa h1_2 (aa h1_7 (aa h1_8 h1_9)))))
 have e3:a+k<b+1→p.getD (a+k).toNat 0=(d8 p a.toNat (b+1).toNat).getD k 0:=fun h=>by
  rw[tL (by omega)];congr 1;omega
 refine dE fL1 ?_
 all_goals try(apply aq;repeat' first|exact ao|apply aa|(apply au;intro zb hc)|(apply ar;intro zb)|intro j')<;>try apply aw
 all_goals try rw[e3 (by omega)]
 all_goals try exact iF
 ·focus
   refine ay ((fun(k:Nat)=>(b+1 - a).toNat - k) (k+1)) (dC fL1 ?_) ⟨k+1,dC fL1 ?_⟩
   all_goals try(apply aq;repeat' first|exact ao|apply aa|(apply au;intro zb hc)|(apply ar;intro zb)|intro j')<;>try apply aw
  ·rw[lu (by omega)]
  ·rw[lw (by omega)]
 ·have h4:=t8 (fun x hx=>hb x (iL (a:=a.toNat) (b:=(b+1).toNat) hx)) (by omega) (show k≤(d8 p a.toNat (b+1).toNat).length by omega)
  have h5:=ua (fun x hx=>hb x (iL (a:=a.toNat) (b:=(b+1).toNat) hx)) (by omega) (show k≤(d8 p a.toNat (b+1).toNat).length by omega)
  rw[jn];omega
 ·have h3:k=(d8 p a.toNat (b+1).toNat).length:=by omega
  rw[kb,h3,←xe,←xg];congr 1;rw[eq_iff_iff];omega
 ·rw[nY,List.take_zero,tL (by omega)];simp
 ·rw[nZ,List.take_zero,tL (by omega)];simp
def xn (p:List Int) (a k:Nat):List (List Int):=(List.range k).flatMap fun i:Nat=>if(i:Int)+2<p.length∧kb p a (a+2+i)=true then[[(a:Int)+1,a+2+i]]else[]
def xo (p:List Int) (a:Nat):List (List Int):=(List.range a).flatMap fun x=>xn p x (p.length - 1 - x)
def G7 (p:List Int):List (List Int):=xo p p.length
theorem iP {p:List Int} {a k:Nat}:xn p a (k+1)=xn p a k++if(k:Int)+2<p.length∧kb p a (a+2+k)=true then[[(a:Int)+1,a+2+k]]else[]:=by
 simp[xn,List.range_succ]
theorem qM {p:List Int} {a:Nat}:xo p (a+1)=xo p a++xn p a (p.length - 1 - a):=by
 simp[xo,List.range_succ]
theorem pG {p:List Int} {a:Nat}:∀{k:Nat},(xn p a k).length≤k
 |0=>by simp[xn]
 |k+1=>by
  have:=pG (p:=p) (a:=a) (k:=k)
  rw[iP,ak];split<;>simp<;>omega
theorem yK {p:List Int}:∀{a:Nat},(xo p a).length≤a*p.length
 |0=>by simp[xo]
 |a+1=>by
  have h1:=yK (p:=p) (a:=a)
  have h2:=pG (p:=p) (a:=a) (k:=p.length - 1 - a)
  rw[qM,ak,Nat.succ_mul];omega
theorem Ju {p:List Int} (hl:p.length≤8) {a:Nat} (ha:a≤p.length):(xo p a).length≤64:=
 Nat.le_trans yK (Nat.le_trans (Nat.mul_le_mul ha (am _)) (Nat.mul_le_mul hl hl))
theorem or {m0:Bool} (p:List Int) (hl:p.length≤8) (hb:∀x∈p,0≤x∧x≤1048576):Fun Tryz.prog 173 [(.sl (.lent m0) (List.map (PV.int .i64) (p)))] [(.sl .own (List.map (bW false) (G7 p)))]:=by
 refine fO bA [2] Tryz.func173 ?_
 have cE1:= @jo
 refine aQ trivial ?_
 all_goals try(apply aq;repeat' first|exact ao|apply aa|(apply au;intro zb hc)|(apply ar;intro zb)|intro j')<;>try apply aw
 refine az (fun ms1 S1=>∃(a:Nat),S1.e 0=.p (.sl (.lent m0) (List.map (PV.int .i64) (p)))∧OwnL (S1.e 3) S1.h S1.n (bW false) ((xo p a).length) (xo p a)∧S1.e 8=.p (.int .i64 (p.length))∧S1.e 9=.p (.int .i64 (a))∧(a≤p.length)∧ms1=p.length - a) ((fun(a:Nat)=>p.length - a) (0)) ?_ ⟨0,kj trivial ?_⟩
 all_goals try(apply aq;repeat' first|exact ao|apply aa|(apply au;intro zb hc)|(apply ar;intro zb)|intro j')<;>try apply aw
 rintro ms1 S1 ⟨a,h1_0,o1_3,h1_8,h1_9,c1_0,hm1⟩
 obtain⟨i1_3,h1_3,b1_3,l1_3⟩:=o1_3.out
 have ni1_3:=bi (x:=i1_3) (n:=S1.n)
 have fL1:=(aa h1_0 (aa h1_8 (aa h1_9 (aa h1_3 (aa b1_3 ni1_3)))))
 have c1:=Ju hl c1_0
 refine aQ fL1 ?_
 all_goals try(apply aq;repeat' first|exact ao|apply aa|(apply au;intro zb hc)|(apply ar;intro zb)|intro j')<;>try apply aw
 ·refine az (fun ms2 S2=>∃(k:Nat),S2.e 0=.p (.sl (.lent m0) (List.map (PV.int .i64) (p)))∧OwnL (S2.e 3) S2.h S2.n (bW false) ((xo p a++xn p a k).length) (xo p a++xn p a k)∧S2.e 4=.p (.int .i64 (a))∧S2.e 5=.p (.int .i64 ((a+2+k)))∧S2.e 8=.p (.int .i64 (p.length))∧S2.e 9=.p (.int .i64 (a))∧(k≤p.length - 1 - a)∧(a<p.length)∧S1.n≤S2.n∧ms2=p.length - 1 - a - k) ((fun(k:Nat)=>p.length - 1 - a - k) (0)) ?_ ⟨0,kj fL1 ?_⟩
  all_goals try(apply aq;repeat' first|exact ao|apply aa|(apply au;intro zb hc)|(apply ar;intro zb)|intro j')<;>try apply aw
  rintro ms2 S2 ⟨k,h2_0,o2_3,h2_4,h2_5,h2_8,h2_9,c2_0,c2_1,u2_0,hm2⟩
  obtain⟨i2_3,h2_3,b2_3,l2_3⟩:=o2_3.out
  have ni2_3:=bi (x:=i2_3) (n:=S2.n)
  have fL2:=(aa h2_0 (aa h2_4 (aa h2_5 (aa h2_8 (aa h2_9 (aa h2_3 (aa b2_3 ni2_3)))))))
  have c2:=pG (p:=p) (a:=a) (k:=k)
  refine aQ fL2 ?_
  all_goals try(apply aq;repeat' first|exact ao|apply aa|(apply au;intro zb hc)|(apply ar;intro zb)|intro j')<;>try apply aw
  ·focus
    refine ay ((fun(k:Nat)=>p.length - 1 - a - k) (k+1)) (dC fL2 ?_) ⟨k+1,dC fL2 ?_⟩
    all_goals try(apply aq;repeat' first|exact ao|apply aa|(apply au;intro zb hc)|(apply ar;intro zb)|intro j')<;>try apply aw
   all_goals(rw[iP,if_pos ⟨by omega,hc⟩]<;>simp[bW,Nat.add_assoc])
  ·focus
    refine ay ((fun(k:Nat)=>p.length - 1 - a - k) (k+1)) (dC fL2 ?_) ⟨k+1,dC fL2 ?_⟩
    all_goals try(apply aq;repeat' first|exact ao|apply aa|(apply au;intro zb hc)|(apply ar;intro zb)|intro j')<;>try apply aw
   all_goals(rw[iP,if_neg (fun h=>by rw[h.2]at hc;cases hc),aN])
  ·focus
    refine ay ((fun(k:Nat)=>p.length - 1 - a - k) (k+1)) (dC fL2 ?_) ⟨k+1,dC fL2 ?_⟩
    all_goals try(apply aq;repeat' first|exact ao|apply aa|(apply au;intro zb hc)|(apply ar;intro zb)|intro j')<;>try apply aw
   all_goals(rw[iP,if_neg (fun h=>by omega),aN])
  ·focus
    refine ay ((fun(a:Nat)=>p.length - a) (a+1)) (dC fL2 ?_) ⟨a+1,dC fL2 ?_⟩
    all_goals try(apply aq;repeat' first|exact ao|apply aa|(apply au;intro zb hc)|(apply ar;intro zb)|intro j')<;>try apply aw
   all_goals(rw[qM,show k=p.length - 1 - a by omega])
  ·simp[xn]
  ·simp[xn]
 ·obtain rfl:a=p.length:=by omega
  rfl
theorem iJ {m0:Bool} (p:List Int) (hp:al p=true) (hl:p.length≤8) (hb:∀x∈p,0≤x∧x≤1048576):Fun Tryz.prog 124 [(.sl (.lent m0) (List.map (PV.int .i64) (p)))] [(.sl .own (List.map (bW false) (G7 p)))]:=by
 refine fO bA [2] Tryz.func124 ?_
 have cE1:= @aD;have cE2:= @mU
 refine aQ trivial ?_
 all_goals try(apply aq;repeat' first|exact ao|apply aa|(apply au;intro zb hc)|(apply ar;intro zb)|intro j')<;>try apply aw
 refine az (fun ms1 S1=>∃(a:Nat),S1.e 0=.p (.sl (.lent m0) (List.map (PV.int .i64) (p)))∧OwnL (S1.e 3) S1.h S1.n (bW false) ((xo p a).length) (xo p a)∧S1.e 4=.p (.int .i64 (a))∧(a≤p.length)∧ms1=p.length - a) ((fun(a:Nat)=>p.length - a) (0)) ?_ ⟨0,kj trivial ?_⟩
 all_goals try(apply aq;repeat' first|exact ao|apply aa|(apply au;intro zb hc)|(apply ar;intro zb)|intro j')<;>try apply aw
 rintro ms1 S1 ⟨a,h1_0,o1_3,h1_4,c1_0,hm1⟩
 obtain⟨i1_3,h1_3,b1_3,l1_3⟩:=o1_3.out
 have ni1_3:=bi (x:=i1_3) (n:=S1.n)
 have fL1:=(aa h1_0 (aa h1_4 (aa h1_3 (aa b1_3 ni1_3))))
 have c1:=Ju hl c1_0
 refine aQ (aa fL1 @hp) ?_
 all_goals try(apply aq;repeat' first|exact ao|apply aa|(apply au;intro zb hc)|(apply ar;intro zb)|intro j')<;>try apply aw
 ·refine az (fun ms2 S2=>∃(k:Nat),S2.e 0=.p (.sl (.lent m0) (List.map (PV.int .i64) (p)))∧OwnL (S2.e 3) S2.h S2.n (bW false) ((xo p a++xn p a k).length) (xo p a++xn p a k)∧S2.e 4=.p (.int .i64 (a))∧S2.e 5=.p (.int .i64 ((a+1+k)))∧(k≤p.length - 1 - a)∧(a<p.length)∧S1.n≤S2.n∧ms2=p.length - 1 - a - k) ((fun(k:Nat)=>p.length - 1 - a - k) (0)) ?_ ⟨0,kj fL1 ?_⟩
  all_goals try(apply aq;repeat' first|exact ao|apply aa|(apply au;intro zb hc)|(apply ar;intro zb)|intro j')<;>try apply aw
  rintro ms2 S2 ⟨k,h2_0,o2_3,h2_4,h2_5,c2_0,c2_1,u2_0,hm2⟩
  obtain⟨i2_3,h2_3,b2_3,l2_3⟩:=o2_3.out
  have ni2_3:=bi (x:=i2_3) (n:=S2.n)
  have fL2:=(aa h2_0 (aa h2_4 (aa h2_5 (aa h2_3 (aa b2_3 ni2_3)))))
  have c2:=pG (p:=p) (a:=a) (k:=k)
  have e5:(a:Int)+1+k+1=a+2+k:=by omega
  refine aQ (aa fL2 @e5) ?_
  all_goals try(apply aq;repeat' first|exact ao|apply aa|(apply au;intro zb hc)|(apply ar;intro zb)|intro j')<;>try apply aw
  ·focus
    refine ay ((fun(k:Nat)=>p.length - 1 - a - k) (k+1)) (dC fL2 ?_) ⟨k+1,dC fL2 ?_⟩
    all_goals try(apply aq;repeat' first|exact ao|apply aa|(apply au;intro zb hc)|(apply ar;intro zb)|intro j')<;>try apply aw
   all_goals(rw[iP,if_pos ⟨by omega,hc⟩]<;>simp[bW,Nat.add_assoc])
  ·focus
    refine ay ((fun(k:Nat)=>p.length - 1 - a - k) (k+1)) (dC fL2 ?_) ⟨k+1,dC fL2 ?_⟩
    all_goals try(apply aq;repeat' first|exact ao|apply aa|(apply au;intro zb hc)|(apply ar;intro zb)|intro j')<;>try apply aw
   all_goals(rw[iP,if_neg (fun h=>by rw[h.2]at hc;cases hc),aN])
  ·focus
    refine ay ((fun(k:Nat)=>p.length - 1 - a - k) (k+1)) (dC fL2 ?_) ⟨k+1,dC fL2 ?_⟩
    all_goals try(apply aq;repeat' first|exact ao|apply aa|(apply au;intro zb hc)|(apply ar;intro zb)|intro j')<;>try apply aw
   all_goals(rw[iP,if_neg (fun h=>by omega),aN])
  ·focus
    refine ay ((fun(a:Nat)=>p.length - a) (a+1)) (dC fL2 ?_) ⟨a+1,dC fL2 ?_⟩
    all_goals try(apply aq;repeat' first|exact ao|apply aa|(apply au;intro zb hc)|(apply ar;intro zb)|intro j')<;>try apply aw
   all_goals(rw[qM,show k=p.length - 1 - a by omega])
  ·simp[xn]
  ·simp[xn]
 ·obtain rfl:a=p.length:=by omega
  rfl
def jx (p:List Int):Bool:=decide (0<p.length)&&decide ((G7 p).length=0)
theorem yM {p:List Int} (h:0<(p.length:Int)):decide (((G7 p).length:Int)=0)=jx p:=by
 rw[jx,decide_eq_true (by omega:0<p.length),Bool.true_and];congr 1;rw[eq_iff_iff];omega
theorem yN {p:List Int} (h:(p.length:Int)≤0):false=jx p:=by
 rw[jx,decide_eq_false (by omega),Bool.false_and]
theorem yx {p:List Int} (h:al p=true):∀x∈p,0≤x∧x≤1048576:=fun x hx=>by
 simp only[al,Bool.and_eq_true,decide_eq_true_eq]at h
 obtain⟨i,hi,rfl⟩:=bh hx
 have:=nb h.2 hi
 rw[ac,ae hi]at this
 simp only[Option.getD_some]at this;omega
theorem pg {m0:Bool} (p:List Int) (hl:p.length≤8) (hb:∀x∈p,0≤x∧x≤1048576):Fun Tryz.prog 136 [(.sl (.lent m0) (List.map (PV.int .i64) (p)))] [(.bool (jx p))]:=by
 refine fO bA [2] Tryz.func136 ?_
 have cE1:= @or
 refine aQ trivial ?_
 all_goals try(apply aq;repeat' first|exact ao|apply aa|(apply au;intro zb hc)|(apply ar;intro zb)|intro j')<;>try apply aw
 ·exact yM hc
 ·exact yN hc
theorem kr {m0:Bool} (p:List Int) (hl:p.length≤1048576):Fun Tryz.prog 75 [(.sl (.lent m0) (List.map (PV.int .i64) (p)))] [(.bool ((al p&&jx p)))]:=by
 by_cases hp:al p=true
 ·have hl8:=(aK hp).1
  have hb:=yx hp
  have hq:=(aK hp).2
  refine fO bA [2] Tryz.func75 ?_
  have cE1:= @aD;have cE2:= @iJ
  refine aQ (aa @hp @Bool.true_and) ?_
  all_goals try(apply aq;repeat' first|exact ao|apply aa|(apply au;intro zb hc)|(apply ar;intro zb)|intro j')<;>try apply aw
  ·exact yM hc
  ·exact yN hc
 ·rw[aI]at hp
  refine fO bA [2] Tryz.func75 ?_
  have cE1:= @aD;have cE2:= @iJ
  refine aQ (aa @hp @Bool.false_and) ?_
  all_goals try(apply aq;repeat' first|exact ao|apply aa|(apply au;intro zb hc)|(apply ar;intro zb)|intro j')<;>try apply aw
end Go.Gl
