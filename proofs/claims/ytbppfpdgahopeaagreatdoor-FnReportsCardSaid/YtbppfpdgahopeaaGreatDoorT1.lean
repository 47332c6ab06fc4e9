/-
  What the functions compute, and what the law asks of it: texts joined. Conditions: those that each lemma names.
-/
import Derived.Test.YtbppfpdgahopeaaGreatDoorA0
import Derived.Test.YtbppfpdgahopeaaGreatDoorGlC
import Derived.Shelf.Strings.Builder1
import Derived.Shelf.Strings.Builder2
import Derived.Shelf.Strings.OnBuilder
import Derived.Shelf.Small.Bits
import Derived.Shelf.Strconv.Itoa0
import Derived.Shelf.Strconv.Itoa1
import Derived.Shelf.LaysM
import Derived.Shelf.Strconv.Itoa2
import Derived.Shelf.Strconv.Itoa3
import Derived.Shelf.Slices.Turned
import Derived.Shelf.Slices.Reverse
import Derived.Shelf.Slices.Equal
import Derived.Ground.Names2Prog
import Derived.Shelf.Slices.Clone
import Derived.Shelf.Slices.SearchI
import Derived.Shelf.Slices.Cells
import Derived.Ground.SlgnProg
import Derived.Shelf.SlicesE.Clone
import Derived.Shelf.Spec.SlicesGrow
import Derived.Ground.Names8Prog
import Derived.Test.YtbppfpdgahopeaaGreatDoorProg
set_option linter.unusedSimpArgs false
set_option linter.unusedVariables false
set_option maxRecDepth 20000
set_option linter.unusedSectionVars false
set_option maxHeartbeats 16000000
namespace Go.Gl
open Go Go.Proofs
variable [Amb]
theorem ui (a b c:Int):Fun Tryz.prog 65 [(.int .i64 (a)),(.int .i64 (b)),(.int .i64 (c))] [(.bool ((decide (b≤a)&&decide (a≤c))))]:=by
 refine fO aR [6] Tryz.func65 ?_
 refine dE trivial ?_
 all_goals try(apply ai;repeat' first|exact ah|apply aa|(apply ak;intro zb hc)|(apply aj;intro zb)|intro j')<;>try apply al
def db (b:Bool):Int:=if b then 1 else 0
theorem ra (b:Bool):0≤db b∧db b≤1:=by cases b<;>decide
theorem dN (b:Bool):Fun Tryz.prog 68 [(.bool (b))] [(.int .i64 (db b))]:=by
 refine fO aR [2] Tryz.func68 ?_
 refine dE trivial ?_
 all_goals try(apply ai;repeat' first|exact ah|apply aa|(apply ak;intro zb hc)|(apply aj;intro zb)|intro j')<;>try apply al
 all_goals simp[db,hc]
theorem gG (a b:Int):Fun Tryz.prog 121 [(.int .i64 (a)),(.int .i64 (b))] [(.int .i64 (max a b))]:=by
 refine fO aR [4] Tryz.func121 ?_
 refine dE trivial ?_
 all_goals try(apply ai;repeat' first|exact ah|apply aa|(apply ak;intro zb hc)|(apply aj;intro zb)|intro j')<;>try apply al
 all_goals omega
theorem H3 {s:List UInt8} {k:Nat} (h:k<s.length):s.drop k=s.getD k 0::s.drop (k+1):=by
 rw[List.drop_eq_getElem_cons h,List.getD_eq_getElem?_getD,List.getElem?_eq_getElem h];rfl
theorem aY {s:List Int} {k:Nat} (h:k<s.length):s.drop k=s.getD k 0::s.drop (k+1):=by
 rw[List.drop_eq_getElem_cons h,List.getD_eq_getElem?_getD,List.getElem?_eq_getElem h];rfl
end Go.Gl
namespace Go.Gl
open Go Go.Proofs
variable [Amb] [NoQ]
def fW (n:Int):List Int→List Int→Bool
 |_,[]=>true
 |seen,v::p=>decide (1≤v)&&decide (v≤n)&& !(seen.contains v)&&fW n (seen++[v]) p
def aU (p:List Int):Bool:=fW p.length [] p
def ae (p:List Int):Bool:=decide (p.length≤8)&&aU p
theorem lq {l:List Int} {k:Nat} {x:Int} (h:k<l.length):(l.take (k+1)).contains x=((l.take k).contains x||decide (x=l.getD k 0)):=by
 rw[List.take_add_one,List.getD_eq_getElem?_getD,List.getElem?_eq_getElem h]
 simp only[Option.toList_some,Option.getD_some,List.contains_append]
 congr 1
 simp[List.contains_cons]
theorem vP {l:List Int} {k:Nat} (h:k<l.length):l.contains (l.getD k 0)=true:=by
 rw[List.getD_eq_getElem?_getD,List.getElem?_eq_getElem h];simp
theorem nZ {n:Int} {p:List Int} {k:Nat} (h:k<p.length):fW n (p.take k) (p.drop k)=(decide (1≤p.getD k 0)&&decide (p.getD k 0≤n)&& !((p.take k).contains (p.getD k 0))&&fW n (p.take (k+1)) (p.drop (k+1))):=by
 rw[aY h,fW]
 congr 2
 rw[List.take_add_one,List.getD_eq_getElem?_getD,List.getElem?_eq_getElem h];rfl
theorem s9 {m0:Bool} (l:List Int) (x:Int) (hl:l.length≤1099511627776):Fun Tryz.prog 66 [(.sl (.lent m0) (List.map (PV.int .i64) (l))),(.int .i64 (x))] [(.bool (l.contains x))]:=by
 refine fO aR [4] Tryz.func66 ?_
 refine dE trivial ?_
 all_goals try(apply ai;repeat' first|exact ah|apply aa|(apply ak;intro zb hc)|(apply aj;intro zb)|intro j')<;>try apply al
 refine an (fun ms1 S1=>∃(k:Nat),S1.e 0=.p (.sl (.lent m0) (List.map (PV.int .i64) (l)))∧S1.e 1=.p (.int .i64 (x))∧S1.e 5=.p (.int .i64 (k))∧(k≤l.length)∧((l.take k).contains x=false)∧ms1=l.length - k) ((fun(k:Nat)=>l.length - k) (0)) ?_ ⟨0,jK trivial ?_⟩
 all_goals try(apply ai;repeat' first|exact ah|apply aa|(apply ak;intro zb hc)|(apply aj;intro zb)|intro j')<;>try apply al
 rintro ms1 S1 ⟨k,h1_0,h1_1,h1_5,c1_0,c1_1,hm1⟩
 have fL1:=(aa h1_0 (aa h1_1 h1_5))
 refine ax fL1 ?_
 all_goals try(apply ai;repeat' first|exact ah|apply aa|(apply ak;intro zb hc)|(apply aj;intro zb)|intro j')<;>try apply al
 ·rw[←hc,vP (by omega)]
 ·focus
   refine am ((fun(k:Nat)=>l.length - k) (k+1)) (dC fL1 ?_) ⟨k+1,dC fL1 ?_⟩
   all_goals try(apply ai;repeat' first|exact ah|apply aa|(apply ak;intro zb hc)|(apply aj;intro zb)|intro j')<;>try apply al
  rw[lq (by omega),c1_1,Bool.false_or];exact decide_eq_false (fun e=>hc e.symm)
 ·rw[←c1_1,List.take_of_length_le (by omega)]
theorem aq {m0:Bool} (p:List Int) (hl:p.length≤1048576):Fun Tryz.prog 24 [(.sl (.lent m0) (List.map (PV.int .i64) (p)))] [(.bool (ae p))]:=by
 refine fO aR [2] Tryz.func24 ?_
 have cE1:= @ui;have cE2:= @s9;have cD1:=gY [false,false,false,false,false,false,true,false,false,false,false,false,false,false,false,false,true,false] []
 refine dE trivial ?_
 all_goals try(apply ai;repeat' first|exact ah|apply aa|(apply ak;intro zb hc)|(apply aj;intro zb)|intro j')<;>try apply al
 refine an (fun ms1 S1=>∃(k:Nat),S1.e 0=.p (.sl (.lent m0) (List.map (PV.int .i64) (p)))∧S1.e 3=.p (.int .i64 (k))∧(k≤p.length)∧(p.length≤8→aU p=fW p.length (p.take k) (p.drop k))∧ms1=p.length - k) ((fun(k:Nat)=>p.length - k) (0)) ?_ ⟨0,jK trivial ?_⟩
 all_goals try(apply ai;repeat' first|exact ah|apply aa|(apply ak;intro zb hc)|(apply aj;intro zb)|intro j')<;>try apply al
 rintro ms1 S1 ⟨k,h1_0,h1_3,c1_0,c1_1,hm1⟩
 have fL1:=(aa h1_0 h1_3)
 refine ax fL1 ?_
 all_goals try(apply ai;repeat' first|exact ah|apply aa|(apply ak;intro zb hc)|(apply aj;intro zb)|intro j')<;>try apply al
 all_goals try (have c2:=c1_1 (by omega);rw[nZ (by omega)]at c2)
 ·simp only[ae,c2,hc];simp
 ·focus
   refine am ((fun(k:Nat)=>p.length - k) (k+1)) (dC fL1 ?_) ⟨k+1,dC fL1 ?_⟩
   all_goals try(apply ai;repeat' first|exact ah|apply aa|(apply ak;intro zb hc)|(apply aj;intro zb)|intro j')<;>try apply al
  intro h;rw[c2,hc,decide_eq_true (by omega),decide_eq_true (by omega)];rfl
 ·simp only[ae,c2]
  rcases hc with hc|hc
  ·rw[decide_eq_false (by omega:¬1≤p.getD k 0)];simp
  ·rw[decide_eq_false (by omega:¬p.getD k 0≤(p.length:Int))];simp
 ·rw[ae,decide_eq_false (by omega)];rfl
 ·by_cases h8:p.length≤8
  ·rw[ae,c1_1 h8,List.drop_of_length_le (by omega),fW,Bool.and_true];congr 1;simp only[eq_iff_iff];omega
  ·rw[ae,decide_eq_false h8,decide_eq_false (by omega)];rfl
 ·rfl
theorem rF {m0:Bool} (p:List Int) (hl:p.length≤1048576):Fun Tryz.prog 84 [(.sl (.lent m0) (List.map (PV.int .i64) (p)))] [(.bool (aU p))]:=by
 refine fO aR [2] Tryz.func84 ?_
 refine ax trivial ?_
 all_goals try(apply ai;repeat' first|exact ah|apply aa|(apply ak;intro zb hc)|(apply aj;intro zb)|intro j')<;>try apply al
 refine an (fun ms1 S1=>∃(k:Nat) (seen:List Bool),S1.e 0=.p (.sl (.lent m0) (List.map (PV.int .i64) (p)))∧S1.e 10=.p (.sl (.lent m0) (List.map (PV.int .i64) (p)))∧OwnL (S1.e 3) S1.h S1.n PV.bool ((seen).length) (seen)∧S1.e 11=.p (.int .i64 (p.length))∧S1.e 12=.p (.int .i64 (k))∧(k≤p.length)∧(seen.length=p.length+1)∧(aU p=fW p.length (p.take k) (p.drop k))∧(∀v:Nat,1≤v→v≤p.length→seen.getD v false=(p.take k).contains (v:Int))∧ms1=p.length - k) ((fun(k:Nat) (seen:List Bool)=>p.length - k) (0) (List.replicate (p.length+1) false)) ?_ ⟨0,List.replicate (p.length+1) false,dI trivial ?_⟩
 all_goals try(apply ai;repeat' first|exact ah|apply aa|(apply ak;intro zb hc)|(apply aj;intro zb)|intro j')<;>try apply al
 rintro ms1 S1 ⟨k,seen,h1_0,h1_10,o1_3,h1_11,h1_12,c1_0,c1_1,c1_2,c1_3,hm1⟩
 obtain⟨i1_3,h1_3,b1_3,l1_3⟩:=o1_3.out
 have ni1_3:=aG (x:=i1_3) (n:=S1.n)
 have fL1:=(aa h1_0 (aa h1_10 (aa h1_11 (aa h1_12 (aa h1_3 (aa b1_3 ni1_3))))))
 refine dE fL1 ?_
 all_goals try(apply ai;repeat' first|exact ah|apply aa|(apply ak;intro zb hc)|(apply aj;intro zb)|intro j')<;>try apply al
 all_goals try rw[nZ (by omega)]at c1_2
 all_goals try exact gZ
 ·rw[c1_2,←show((p.getD k 0).toNat:Int)=p.getD k 0 by omega,←c1_3 _ (by omega) (by omega),hc];simp
 ·focus
   refine am ((fun(k:Nat) (seen:List Bool)=>p.length - k) (k+1) (seen.set (p.getD k 0).toNat true)) (dC fL1 ?_) ⟨k+1,seen.set (p.getD k 0).toNat true,dC fL1 ?_⟩
   all_goals try(apply ai;repeat' first|exact ah|apply aa|(apply ak;intro zb hc)|(apply aj;intro zb)|intro j')<;>try apply al
  ·rw[c1_2,decide_eq_true (by omega),decide_eq_true (by omega),←show((p.getD k 0).toNat:Int)=p.getD k 0 by omega,←c1_3 _ (by omega) (by omega),hc];rfl
  ·intro v h1 h2
   rw[lq (by omega),←c1_3 v h1 h2,List.getD_eq_getElem?_getD,List.getElem?_set]
   by_cases e:(p.getD k 0).toNat=v
   ·rw[if_pos e,if_pos (by omega),decide_eq_true (by omega)];simp
   ·rw[if_neg e,decide_eq_false (by omega),Bool.or_false,List.getD_eq_getElem?_getD]
 ·rw[c1_2,decide_eq_false (by omega:¬p.getD k 0≤(p.length:Int))];simp
 ·rw[c1_2,decide_eq_false (by omega:¬1≤p.getD k 0)];simp
 ·rw[c1_2,List.drop_of_length_le (by omega)];rfl
 ·intro v h1 h2;rw[List.getD_eq_getElem?_getD,List.getElem?_replicate];split<;>rfl
theorem ao {m0:Bool} (p:List Int) (hl:p.length≤1048576):Fun Tryz.prog 37 [(.sl (.lent m0) (List.map (PV.int .i64) (p)))] [(.bool (ae p))]:=by
 refine fO aR [2] Tryz.func37 ?_
 have cE1:= @rF
 refine ax trivial ?_
 all_goals try(apply ai;repeat' first|exact ah|apply aa|(apply ak;intro zb hc)|(apply aj;intro zb)|intro j')<;>try apply al
 ·rw[ae,decide_eq_true (by omega),Bool.true_and]
 ·rw[ae,decide_eq_false (by omega)];rfl
def nK (p:Int→Bool):List Int→Nat→Int
 |[],_=> -1
 |x::l,i=>if p x then i else nK p l (i+1)
theorem Zx {l:List Int} {i:Nat} (h:i<l.length):l.getD i 0∈l:=by
 rw[List.getD_eq_getElem?_getD,List.getElem?_eq_getElem h];exact List.getElem_mem h
theorem aW {m0:Bool} (l:List Int) (g:FuncId) (caps:List PV) (p:Int→Bool) (hl:l.length≤1099511627776) (hp:∀x∈l,Fun Tryz.prog g (.int .i64 x::caps.map PV.cell) [.bool (p x)]):Fun Tryz.prog 114 [(.sl (.lent m0) (List.map (PV.int .i64) (l))),(.fn g [] caps)] [(.int .i64 (nK p l 0))]:=by
 refine fO aR [4] Tryz.func114 ?_
 refine dE trivial ?_
 all_goals try(apply ai;repeat' first|exact ah|apply aa|(apply ak;intro zb hc)|(apply aj;intro zb)|intro j')<;>try apply al
 refine an (fun ms1 S1=>∃(k:Nat),S1.e 0=.p (.sl (.lent m0) (List.map (PV.int .i64) (l)))∧S1.e 1=.p (.fn g [] caps)∧S1.e 7=.p (.int .i64 (l.length))∧S1.e 8=.p (.int .i64 (k))∧(k≤l.length)∧(nK p l 0=nK p (l.drop k) k)∧ms1=l.length - k) ((fun(k:Nat)=>l.length - k) (0)) ?_ ⟨0,jK trivial ?_⟩
 all_goals try(apply ai;repeat' first|exact ah|apply aa|(apply ak;intro zb hc)|(apply aj;intro zb)|intro j')<;>try apply al
 rintro ms1 S1 ⟨k,h1_0,h1_1,h1_7,h1_8,c1_0,c1_1,hm1⟩
 have fL1:=(aa h1_0 (aa h1_1 (aa h1_7 h1_8)))
 have cE1:= @hp
 refine ax fL1 ?_
 all_goals try(apply ai;repeat' first|exact ah|apply aa|(apply ak;intro zb hc)|(apply aj;intro zb)|intro j')<;>try apply al
 ·exact Zx hc
 ·rw[c1_1,aY (by omega),nK,if_pos hc]
 ·focus
   refine am ((fun(k:Nat)=>l.length - k) (k+1)) (dC fL1 ?_) ⟨k+1,dC fL1 ?_⟩
   all_goals try(apply ai;repeat' first|exact ah|apply aa|(apply ak;intro zb hc)|(apply aj;intro zb)|intro j')<;>try apply al
  rw[c1_1,aY (by omega),nK,if_neg (by rw[hc];decide)]
 ·rw[c1_1,List.drop_of_length_le (by omega),nK]
end Go.Gl
namespace Go.Proofs
open Go.Shelf
def Tryz.lays156_ren:Go.Shelf.Ren:=⟨fun|156=>51|165=>105|166=>106|169=>107|240=>146|241=>147|276=>179|277=>180|n=>n,fun|31=>36|9=>9|3=>3|4=>4|0=>0|20=>20|72=>61|76=>65|70=>59|37=>27|75=>64|127=>88|164=>110|5=>5|80=>67|n=>n,fun|n=>n⟩
theorem Tryz.lays156:Go.Proofs.Lays.n156 Tryz.prog Tryz.lays156_ren:={
 mixed:=by kernel_rfl
 f156:=Tryz.func51.trans (congrArg some (by kernel_rfl))
 f165:=Tryz.func105.trans (congrArg some (by kernel_rfl))
 f166:=Tryz.func106.trans (congrArg some (by kernel_rfl))
 f169:=Tryz.func107.trans (congrArg some (by kernel_rfl))
 f240:=Tryz.func146.trans (congrArg some (by kernel_rfl))
 f241:=Tryz.func147.trans (congrArg some (by kernel_rfl))
 f276:=Tryz.func179.trans (congrArg some (by kernel_rfl))
 f277:=Tryz.func180.trans (congrArg some (by kernel_rfl))
 t0:=Tryz.underlying0
 a0:=Tryz.isAgg0
 z0:=Tryz.sizeOf0
 v0:=Tryz.zeroValue0
 t3:=Tryz.underlying3
 a3:=Tryz.isAgg3
 z3:=Tryz.sizeOf3
 v3:=Tryz.zeroValue3
 t4:=Tryz.underlying4
 a4:=Tryz.isAgg4
 z4:=Tryz.sizeOf4
 v4:=Tryz.zeroValue4
 t9:=Tryz.underlying9
 a9:=Tryz.isAgg9
 z9:=Tryz.sizeOf9
 v9:=Tryz.zeroValue9
 t20:=Tryz.underlying20
 a20:=Tryz.isAgg20
 z20:=Tryz.sizeOf20
 v20:=Tryz.zeroValue20
 t31:=Tryz.underlying36
 a31:=Tryz.isAgg36
 z31:=Tryz.sizeOf36
 v31:=Tryz.zeroValue36
 t37:=Tryz.underlying27
 a37:=Tryz.isAgg27
 z37:=Tryz.sizeOf27
 v37:=Tryz.zeroValue27
 t70:=Tryz.underlying59
 a70:=Tryz.isAgg59
 z70:=Tryz.sizeOf59
 v70:=Tryz.zeroValue59
 t72:=Tryz.underlying61
 a72:=Tryz.isAgg61
 z72:=Tryz.sizeOf61
 v72:=Tryz.zeroValue61
 t75:=Tryz.underlying64
 a75:=Tryz.isAgg64
 z75:=Tryz.sizeOf64
 v75:=Tryz.zeroValue64
 t76:=Tryz.underlying65
 a76:=Tryz.isAgg65
 z76:=Tryz.sizeOf65
 v76:=Tryz.zeroValue65
 t127:=Tryz.underlying88
 a127:=Tryz.isAgg88
 z127:=Tryz.sizeOf88
 v127:=Tryz.zeroValue88
 t164:=Tryz.underlying110
 a164:=Tryz.isAgg110
 z164:=Tryz.sizeOf110
 v164:=Tryz.zeroValue110}
theorem Tryz.Builder_Extra_156:Builder.Extra Tryz.prog Tryz.lays156_ren:={
 sizeBuilder:=by kernel_rfl
 liesBuilder:=by kernel_rfl
 t5:=Tryz.underlying5
 a5:=Tryz.isAgg5
 z5:=Tryz.sizeOf5
 v5:=Tryz.zeroValue5
 infoByte:=by kernel_rfl
 cellsByte:=by kernel_rfl
 sizeByte:=by kernel_rfl
 neB5:=by decide}
open Go.RowKit in
theorem Tryz.strings_Join_none (a:Option Addr) (c:Nat) (sep:ByteArray) (w:World):
  Calls Tryz.prog 51 #[.slice a 0 c,.string sep] w fun e w'=>e=.returned (.string ⟨#[]⟩)∧w'=w:=Any.strings_Join_none Tryz.lays156 Tryz.Builder_Extra_156 a c sep w
open Go.RowKit in
theorem Tryz.strings_Join (bk o c:Nat) (xs:List ByteArray) (sep:ByteArray) (w:World) (hcells:∀(j:Nat) x,xs[j]? =some x→w.cell? ⟨bk,o+j,none⟩=some (.string x)) (hbk:bk<w.heap.size) (hN:xs.length≤140737488355328) (hcap:xs.length≤c) (hlen:(Lib.join (xs.map (·.data.toList)) sep.data.toList).length≤140737488355328):
  Calls Tryz.prog 51 #[.slice (some ⟨bk,o,none⟩) xs.length c,.string sep] w fun e w'=>e=.returned (.string ⟨(Lib.join (xs.map (·.data.toList)) sep.data.toList).toArray⟩)∧Below w.heap.size w w':=Any.strings_Join Tryz.lays156 Tryz.Builder_Extra_156 bk o c xs sep w hcells hbk hN hcap hlen
def Tryz.laysM171_ren:Go.Shelf.Ren:=⟨fun|171=>88|243=>130|246=>171|283=>195|284=>196|285=>197|286=>198|129=>209|317=>215|318=>216|319=>217|320=>218|337=>226|338=>227|n=>n,fun|3=>3|9=>9|2=>2|4=>4|171=>121|0=>0|53=>122|37=>27|5=>5|173=>125|212=>140|51=>137|20=>20|213=>141|46=>114|232=>152|233=>153|n=>n,fun|17=>1|18=>2|19=>3|n=>n⟩
theorem Tryz.laysM171:Go.Proofs.LaysM.n171 Tryz.prog Tryz.laysM171_ren:={
 mixed:=by kernel_rfl
 f129:=Tryz.func209.trans (congrArg some (by kernel_rfl))
 f171:=Tryz.func88.trans (congrArg some (by kernel_rfl))
 f243:=Tryz.func130.trans (congrArg some (by kernel_rfl))
 f246:=Tryz.func171.trans (congrArg some (by kernel_rfl))
 f283:=Tryz.func195.trans (congrArg some (by kernel_rfl))
 f284:=Tryz.func196.trans (congrArg some (by kernel_rfl))
 f285:=Tryz.func197.trans (congrArg some (by kernel_rfl))
 f286:=Tryz.func198.trans (congrArg some (by kernel_rfl))
 f317:=Tryz.func215.trans (congrArg some (by kernel_rfl))
 f318:=Tryz.func216.trans (congrArg some (by kernel_rfl))
 f319:=Tryz.func217.trans (congrArg some (by kernel_rfl))
 f320:=Tryz.func218.trans (congrArg some (by kernel_rfl))
 f337:=Tryz.func226.trans (congrArg some (by kernel_rfl))
 f338:=Tryz.func227.trans (congrArg some (by kernel_rfl))
 t0:=Tryz.underlying0
 a0:=Tryz.isAgg0
 z0:=Tryz.sizeOf0
 v0:=Tryz.zeroValue0
 t2:=Tryz.underlying2
 a2:=Tryz.isAgg2
 z2:=Tryz.sizeOf2
 v2:=Tryz.zeroValue2
 t3:=Tryz.underlying3
 a3:=Tryz.isAgg3
 z3:=Tryz.sizeOf3
 v3:=Tryz.zeroValue3
 t4:=Tryz.underlying4
 a4:=Tryz.isAgg4
 z4:=Tryz.sizeOf4
 v4:=Tryz.zeroValue4
 t5:=Tryz.underlying5
 a5:=Tryz.isAgg5
 z5:=Tryz.sizeOf5
 v5:=Tryz.zeroValue5
 t9:=Tryz.underlying9
 a9:=Tryz.isAgg9
 z9:=Tryz.sizeOf9
 v9:=Tryz.zeroValue9
 t20:=Tryz.underlying20
 a20:=Tryz.isAgg20
 z20:=Tryz.sizeOf20
 v20:=Tryz.zeroValue20
 t37:=Tryz.underlying27
 a37:=Tryz.isAgg27
 z37:=Tryz.sizeOf27
 v37:=Tryz.zeroValue27
 t46:=Tryz.underlying114
 a46:=Tryz.isAgg114
 z46:=Tryz.sizeOf114
 v46:=Tryz.zeroValue114
 t51:=Tryz.underlying137
 a51:=Tryz.isAgg137
 z51:=Tryz.sizeOf137
 v51:=Tryz.zeroValue137
 t53:=Tryz.underlying122
 a53:=Tryz.isAgg122
 z53:=Tryz.sizeOf122
 v53:=Tryz.zeroValue122
 t171:=Tryz.underlying121
 a171:=Tryz.isAgg121
 z171:=Tryz.sizeOf121
 v171:=Tryz.zeroValue121
 t173:=Tryz.underlying125
 a173:=Tryz.isAgg125
 z173:=Tryz.sizeOf125
 v173:=Tryz.zeroValue125
 t212:=Tryz.underlying140
 a212:=Tryz.isAgg140
 z212:=Tryz.sizeOf140
 v212:=Tryz.zeroValue140
 t213:=Tryz.underlying141
 a213:=Tryz.isAgg141
 z213:=Tryz.sizeOf141
 t232:=Tryz.underlying152
 a232:=Tryz.isAgg152
 z232:=Tryz.sizeOf152
 v232:=Tryz.zeroValue152
 t233:=Tryz.underlying153
 a233:=Tryz.isAgg153
 z233:=Tryz.sizeOf153
 v233:=Tryz.zeroValue153
 g17:=by kernel_rfl
 g18:=by kernel_rfl
 g19:=by kernel_rfl
 i0:=by kernel_rfl
 i2:=by kernel_rfl
 i3:=by kernel_rfl
 i4:=by kernel_rfl
 i5:=by kernel_rfl
 i9:=by kernel_rfl
 i20:=by kernel_rfl
 i37:=by kernel_rfl
 i46:=by kernel_rfl
 i51:=by kernel_rfl
 i53:=by kernel_rfl
 i171:=by kernel_rfl
 i173:=by kernel_rfl
 i212:=by kernel_rfl
 i232:=by kernel_rfl
 i233:=by kernel_rfl
 m17:=by kernel_rfl
 m18:=by kernel_rfl
 m19:=by kernel_rfl}
open Go.RowKit Go.Sort Go.Lib in
theorem Tryz.strconv_Itoa (n:Int) (h0: -9223372036854775808≤n) (h1:n≤9223372036854775807) (w:World) (htab:Lib.TabIs Tryz.prog w "internal/strconv.uint64pow10" .u64 Lib.pow10Tab):
  Calls Tryz.prog 88 #[.int .i64 n] w fun e w'=>e=.returned (.string ⟨(Lib.itoa n).toArray⟩)∧∃k os,w'=grow (w.drewN k) os:=Any.strconv_Itoa Tryz.laysM171 n h0 h1 w htab
def Tryz.lays171_ren:Go.Shelf.Ren:=⟨fun|171=>88|243=>130|246=>171|283=>195|284=>196|285=>197|286=>198|129=>209|317=>215|318=>216|319=>217|320=>218|337=>226|338=>227|n=>n,fun|3=>3|9=>9|2=>2|4=>4|171=>121|0=>0|53=>122|37=>27|5=>5|173=>125|212=>140|51=>137|20=>20|213=>141|46=>114|232=>152|233=>153|n=>n,fun|17=>1|18=>2|19=>3|n=>n⟩
theorem Tryz.lays171:Go.Proofs.Lays.n171 Tryz.prog Tryz.lays171_ren:={
 mixed:=by kernel_rfl
 f129:=Tryz.func209.trans (congrArg some (by kernel_rfl))
 f171:=Tryz.func88.trans (congrArg some (by kernel_rfl))
 f243:=Tryz.func130.trans (congrArg some (by kernel_rfl))
 f246:=Tryz.func171.trans (congrArg some (by kernel_rfl))
 f283:=Tryz.func195.trans (congrArg some (by kernel_rfl))
 f284:=Tryz.func196.trans (congrArg some (by kernel_rfl))
 f285:=Tryz.func197.trans (congrArg some (by kernel_rfl))
 f286:=Tryz.func198.trans (congrArg some (by kernel_rfl))
 f317:=Tryz.func215.trans (congrArg some (by kernel_rfl))
 f318:=Tryz.func216.trans (congrArg some (by kernel_rfl))
 f319:=Tryz.func217.trans (congrArg some (by kernel_rfl))
 f320:=Tryz.func218.trans (congrArg some (by kernel_rfl))
 f337:=Tryz.func226.trans (congrArg some (by kernel_rfl))
 f338:=Tryz.func227.trans (congrArg some (by kernel_rfl))
 t0:=Tryz.underlying0
 a0:=Tryz.isAgg0
 z0:=Tryz.sizeOf0
 v0:=Tryz.zeroValue0
 t2:=Tryz.underlying2
 a2:=Tryz.isAgg2
 z2:=Tryz.sizeOf2
 v2:=Tryz.zeroValue2
 t3:=Tryz.underlying3
 a3:=Tryz.isAgg3
 z3:=Tryz.sizeOf3
 v3:=Tryz.zeroValue3
 t4:=Tryz.underlying4
 a4:=Tryz.isAgg4
 z4:=Tryz.sizeOf4
 v4:=Tryz.zeroValue4
 t5:=Tryz.underlying5
 a5:=Tryz.isAgg5
 z5:=Tryz.sizeOf5
 v5:=Tryz.zeroValue5
 t9:=Tryz.underlying9
 a9:=Tryz.isAgg9
 z9:=Tryz.sizeOf9
 v9:=Tryz.zeroValue9
 t20:=Tryz.underlying20
 a20:=Tryz.isAgg20
 z20:=Tryz.sizeOf20
 v20:=Tryz.zeroValue20
 t37:=Tryz.underlying27
 a37:=Tryz.isAgg27
 z37:=Tryz.sizeOf27
 v37:=Tryz.zeroValue27
 t46:=Tryz.underlying114
 a46:=Tryz.isAgg114
 z46:=Tryz.sizeOf114
 v46:=Tryz.zeroValue114
 t51:=Tryz.underlying137
 a51:=Tryz.isAgg137
 z51:=Tryz.sizeOf137
 v51:=Tryz.zeroValue137
 t53:=Tryz.underlying122
 a53:=Tryz.isAgg122
 z53:=Tryz.sizeOf122
 v53:=Tryz.zeroValue122
 t171:=Tryz.underlying121
 a171:=Tryz.isAgg121
 z171:=Tryz.sizeOf121
 v171:=Tryz.zeroValue121
 t173:=Tryz.underlying125
 a173:=Tryz.isAgg125
 z173:=Tryz.sizeOf125
 v173:=Tryz.zeroValue125
 t212:=Tryz.underlying140
 a212:=Tryz.isAgg140
 z212:=Tryz.sizeOf140
 v212:=Tryz.zeroValue140
 t213:=Tryz.underlying141
 a213:=Tryz.isAgg141
 z213:=Tryz.sizeOf141
 t232:=Tryz.underlying152
 a232:=Tryz.isAgg152
 z232:=Tryz.sizeOf152
 v232:=Tryz.zeroValue152
 t233:=Tryz.underlying153
 a233:=Tryz.isAgg153
 z233:=Tryz.sizeOf153
 v233:=Tryz.zeroValue153
 g17:=by kernel_rfl
 g18:=by kernel_rfl
 g19:=by kernel_rfl}
open Go.RowKit Go.Sort Go.Lib in
theorem Tryz.strconv_Itoa_small (i:Nat) (hi:i<100) (w:World):
  Calls Tryz.prog 88 #[.int .i64 i] w fun e w'=>e=.returned (.string ⟨(Lib.decDigits i).toArray⟩)∧w'=w:=Any.strconv_Itoa_small Tryz.lays171 i hi w
def Tryz.laysNm215_ren:Go.Shelf.Ren:=⟨fun|15=>132|n=>n,fun|22=>22|3=>3|4=>4|n=>n,fun|n=>n⟩
theorem Tryz.laysNm215:Go.Proofs.Lays2.n15 Tryz.prog Tryz.laysNm215_ren:={
 mixed:=by kernel_rfl
 f15:=Tryz.func132.trans (congrArg some (by kernel_rfl))
 t3:=Tryz.underlying3
 a3:=Tryz.isAgg3
 z3:=Tryz.sizeOf3
 v3:=Tryz.zeroValue3
 t4:=Tryz.underlying4
 a4:=Tryz.isAgg4
 z4:=Tryz.sizeOf4
 v4:=Tryz.zeroValue4
 t22:=Tryz.underlying22
 a22:=Tryz.isAgg22
 z22:=Tryz.sizeOf22
 v22:=Tryz.zeroValue22
 i3:=by kernel_rfl}
open Go.RowKit Go.Lib in
theorem Tryz.slices_Clone_int (b off n c:Nat) (zs:List Int) (w:World) (hz:n≤zs.length) (hbig:n*8≤140737488355328) (hc:∀j,j<zs.length→w.cell? ⟨b,off+j,none⟩=some (.int .i64 (zs.getD j 0))):
  Calls Tryz.prog 132 #[.slice (some ⟨b,off,none⟩) n c] w fun e w'=>∃v',e=.returned v'∧w'.ownsRow w.heap.size 3 1 v' n ((zs.take n).map (Value.int .i64))∧v'≠ .slice none 0 0∧Below w.heap.size w w':=Any.slices_Clone_int Tryz.laysNm215 b off n c zs w hz hbig hc
open Go.RowKit Go.Lib in
theorem Tryz.slices_Clone_int_nil (n c:Nat) (w:World):
  Calls Tryz.prog 132 #[.slice none n c] w fun e w'=>e=.returned (.slice none 0 0)∧w'=w:=Any.slices_Clone_int_nil Tryz.laysNm215 n c w
open Go.RowKit Go.Lib in
theorem Tryz.slices_Clone_int_zero (a:Addr) (c:Nat) (w:World):
  Calls Tryz.prog 132 #[.slice (some a) 0 c] w fun e w'=>∃v',e=.returned v'∧w'.ownsRow w.heap.size 3 1 v' 0 []∧v'≠ .slice none 0 0∧Below w.heap.size w w':=Any.slices_Clone_int_zero Tryz.laysNm215 a c w
def Tryz.laysGrow_ren:Go.Shelf.Ren:=⟨fun|4=>225|n=>n,fun|22=>22|25=>3|3=>3|4=>4|9=>9|20=>20|0=>0|n=>n,fun|n=>n⟩
theorem Tryz.laysGrow:Go.Proofs.Lays8.n4 Tryz.prog Tryz.laysGrow_ren:={
 mixed:=by kernel_rfl
 f4:=⟨Tryz.f225.name,by decide,Tryz.func225.trans (congrArg some (by kernel_rfl))⟩
 t0:=Tryz.underlying0
 a0:=Tryz.isAgg0
 z0:=Tryz.sizeOf0
 v0:=Tryz.zeroValue0
 t3:=Tryz.underlying3
 a3:=Tryz.isAgg3
 z3:=Tryz.sizeOf3
 v3:=Tryz.zeroValue3
 t4:=Tryz.underlying4
 a4:=Tryz.isAgg4
 z4:=Tryz.sizeOf4
 v4:=Tryz.zeroValue4
 t9:=Tryz.underlying9
 a9:=Tryz.isAgg9
 z9:=Tryz.sizeOf9
 v9:=Tryz.zeroValue9
 t20:=Tryz.underlying20
 a20:=Tryz.isAgg20
 z20:=Tryz.sizeOf20
 v20:=Tryz.zeroValue20
 t22:=Tryz.underlying22
 a22:=Tryz.isAgg22
 z22:=Tryz.sizeOf22
 v22:=Tryz.zeroValue22}
open Go.RowKit Go.Lib in
theorem Tryz.slices_Grow_room (base:Option Addr) (l c n:Nat) (w:World) (hlc:l≤c) (hc63:c≤9223372036854775807) (hn63:n≤9223372036854775807) (hroom:l+n≤c):
  Calls Tryz.prog 225 #[.slice base l c,.int .i64 n] w fun e w'=>e=.returned (.slice base l c)∧w'=w:=Any8.slices_Grow_room Tryz.laysGrow base l c n w hlc hc63 hn63 hroom
end Go.Proofs
namespace Go.Gl
open Go Go.Proofs
variable [Amb] [NoQ]
theorem bS {m0:Bool} (l:List Int) (hl:l.length≤1099511627776):
  Fun Tryz.prog 132 [.sl (.lent m0) (List.map (.int .i64) l)] [.sl .own (List.map (.int .i64) l)]:=by
 refine Fun.of_row 3 Tryz.func132 rfl rfl ya (by intro x hx;rw[List.mem_map]at hx;obtain⟨_,_,rfl⟩:=hx;rfl) ?_
 intro w F G vs _ hv
 simp only[RepL]at hv
 obtain⟨a,vs1,rfl,ha,rfl⟩:=hv
 have e1:(l.map (PV.int .i64)).map B6=l.map (Value.int .i64):=by simp[Function.comp_def,B6,zx]
 simp only[RepP]at ha
 obtain⟨a,cap,rfl,h1,h2,ho,h3⟩:=ha
 rw[e1,List.length_map]at*
 by_cases hn:a=none
 ·subst hn
  have hl0:l=[]:=by
   rcases h3 with h3|⟨B,off,h3,_⟩
   ·simpa using h3
   ·cases h3
  subst hl0
  exact(Tryz.slices_Clone_int_nil _ _ w).mono fun e w' h=>⟨_,h.1,⟨by simp,.inl ⟨rfl,rfl⟩⟩,h.2▸Go.RowKit.Below.refl _ _⟩
 ·obtain⟨ad,rfl⟩:∃ad,a=some ad:=by cases a with|none=>exact absurd rfl hn|some ad=>exact⟨ad,rfl⟩
  by_cases hl0:l=[]
  ·subst hl0
   exact(Tryz.slices_Clone_int_zero ad cap w).mono fun e w' ⟨v,hv,hr,_,hw⟩=>⟨v,hv,hr,hw⟩
  ·rcases h3 with h3|⟨B,off,h3,_,_,hc⟩
   ·simp at h3;exact absurd h3 hl0
   ·cases h3
    rw[bD]at hc
    have:=Tryz.slices_Clone_int B off l.length cap l w (Nat.le_refl _) (by omega) (fun j hj=>by
     obtain⟨u,hu,_,hr⟩:=hc j (.int .i64 (l.getD j 0)) (by rw[List.getElem?_map,List.getD_eq_getElem?_getD,List.getElem?_eq_getElem hj];rfl)
     rw[wr hr]at hu;exact hu)
    rw[List.take_length]at this
    exact this.mono fun e w' ⟨v,hv,hr,_,hw⟩=>⟨v,hv,hr,hw⟩
def uT (n:Nat) (k:Int):List Int:=(List.range n).map fun i:Nat=>k+(i:Int)
theorem mI {n:Nat} {k:Int}:(uT n k).length=n:=by simp[uT]
theorem ld {a b:List Int} {k:Nat} (ha:k<a.length) (hb:k<b.length):a.take (k+1)=b.take (k+1)↔a.take k=b.take k∧a.getD k 0=b.getD k 0:=by
 rw[List.take_add_one,List.take_add_one,List.getD_eq_getElem?_getD,List.getD_eq_getElem?_getD,List.getElem?_eq_getElem ha,List.getElem?_eq_getElem hb]
 simp only[Option.toList_some,Option.getD_some]
 constructor
 ·intro h
  have:=List.append_inj h (by simp;omega)
  exact⟨this.1,by simpa using this.2⟩
 ·rintro⟨h1,h2⟩;rw[h1,h2]
theorem zg {α:Type} {c:List α} {i:Nat} {x:α} (h:i<c.length):(c.set i x).take (i+1)=c.take i++[x]:=by
 rw[List.take_add_one,List.take_set_of_le (Nat.le_refl _),List.getElem?_set_self h];rfl
theorem az {α:Type} {l:List α} {i:Nat} {d:α} (h:i<l.length):l.take (i+1)=l.take i++[l.getD i d]:=by
 rw[List.take_add_one,List.getD_eq_getElem?_getD,List.getElem?_eq_getElem h];rfl
theorem Ge {n:Nat} {k:Int}:List.take n (uT n k)=uT n k:=by
 rw[List.take_of_length_le];simp[mI]
attribute [go_sem] Ge mI List.not_mem_nil List.mem_cons or_false
theorem qJ {α:Type} {l:List (List α)} {i:Nat} (h:i<l.length):l.drop i=l.getD i []::l.drop (i+1):=by
 rw[List.drop_eq_getElem_cons h,List.getD_eq_getElem?_getD,List.getElem?_eq_getElem h];rfl
theorem ar {α:Type} {l:List α} {i:Nat} {d:α} (h:i<l.length):l.getD i d∈l:=by
 rw[List.getD_eq_getElem?_getD,List.getElem?_eq_getElem h];exact List.getElem_mem h
theorem OM {α:Type} {l:List α} {x:α}:List.take (l.length+1) (l++[x])=l++[x]:=List.take_of_length_le (by simp)
def tL {α:Type} (p:α→Bool):List α→Nat→Int
 |[],_=> -1
 |x::l,i=>if p x then i else tL p l (i+1)
theorem vk {α:Type} {p:α→Bool}:∀{l:List α} {i:Nat},decide (0≤tL p l i)=l.any p
 |[],_=>rfl
 |x::l,i=>by
  rw[tL,List.any_cons]
  split
  ·rename_i h;rw[h,Bool.true_or];exact decide_eq_true (by omega)
  ·rename_i h;rw[vk,Bool.eq_false_iff.2 h,Bool.false_or]
theorem cr {e0 m0:Bool} (l:List (List Int)) (g:FuncId) (caps:List PV) (p:List Int→Bool) (hl:l.length≤1099511627776) (hp:∀x∈l,Fun Tryz.prog g (.sl (.lent e0) (List.map (PV.int .i64) x)::caps.map PV.cell) [.bool (p x)]):Fun Tryz.prog 174 [(.sl (.lent m0) (List.map (bt e0) (l))),(.fn g [] caps)] [(.int .i64 (tL p l 0))]:=by
 refine fO aR [4] Tryz.func174 ?_
 refine dE trivial ?_
 all_goals try(apply ai;repeat' first|exact ah|apply aa|(apply ak;intro zb hc)|(apply aj;intro zb)|intro j')<;>try apply al
 refine an (fun ms1 S1=>∃(k:Nat),S1.e 0=.p (.sl (.lent m0) (List.map (bt e0) (l)))∧S1.e 1=.p (.fn g [] caps)∧S1.e 7=.p (.int .i64 (l.length))∧S1.e 8=.p (.int .i64 (k))∧(k≤l.length)∧(tL p l 0=tL p (l.drop k) k)∧ms1=l.length - k) ((fun(k:Nat)=>l.length - k) (0)) ?_ ⟨0,jK trivial ?_⟩
 all_goals try(apply ai;repeat' first|exact ah|apply aa|(apply ak;intro zb hc)|(apply aj;intro zb)|intro j')<;>try apply al
 rintro ms1 S1 ⟨k,h1_0,h1_1,h1_7,h1_8,c1_0,c1_1,hm1⟩
 have fL1:=(aa h1_0 (aa h1_1 (aa h1_7 h1_8)))
 have cE1:= @hp
 refine ax fL1 ?_
 all_goals try(apply ai;repeat' first|exact ah|apply aa|(apply ak;intro zb hc)|(apply aj;intro zb)|intro j')<;>try apply al
 ·exact ar hc
 ·rw[c1_1,qJ (by omega),tL,if_pos hc]
 ·focus
   refine am ((fun(k:Nat)=>l.length - k) (k+1)) (dC fL1 ?_) ⟨k+1,dC fL1 ?_⟩
   all_goals try(apply ai;repeat' first|exact ah|apply aa|(apply ak;intro zb hc)|(apply aj;intro zb)|intro j')<;>try apply al
  rw[c1_1,qJ (by omega),tL,if_neg (by rw[hc];decide)]
 ·rw[c1_1,List.drop_of_length_le (by omega),tL]
theorem aK {e0 m0:Bool} (l:List (List Int)) (g:FuncId) (caps:List PV) (p:List Int→Bool) (hl:l.length≤1099511627776) (hp:∀x∈l,Fun Tryz.prog g (.sl (.lent e0) (List.map (PV.int .i64) x)::caps.map PV.cell) [.bool (p x)]):Fun Tryz.prog 137 [(.sl (.lent m0) (List.map (bt e0) (l))),(.fn g [] caps)] [(.bool (l.any p))]:=by
 refine fO aR [4] Tryz.func137 ?_
 have cE1:= @cr
 have cE1:=(fun m0=>cr (m0:=m0) l g caps p hl hp);have cE2:= @cr
 refine dE trivial ?_
 all_goals try(apply ai;repeat' first|exact ah|apply aa|(apply ak;intro zb hc)|(apply aj;intro zb)|intro j')<;>try apply al
 rw[vk]
def rI (b:Int) (p q c:List Int) (i:Int) (k:Nat):Bool:=(List.range k).all fun l=>decide (q.getD l 0<q.getD c.length 0)==decide (p.getD (c.getD l 0 - b).toNat 0<p.getD (i - b).toNat 0)
def qB (b:Int) (p q c:List Int) (i:Int):Bool:=rI b p q c i c.length
theorem jr {b:Int} {p q c:List Int} {i:Int} {k:Nat}:rI b p q c i (k+1)=(rI b p q c i k&&(decide (q.getD k 0<q.getD c.length 0)==decide (p.getD (c.getD k 0 - b).toNat 0<p.getD (i - b).toNat 0))):=by
 simp[rI,List.range_succ]
def aV (b:Int) (c:List Int):Int:=if c.length=0 then b else c.getD (c.length - 1) 0+1
def k6 (b:Int) (p q:List Int):Nat→List Int→List (List Int)
 |0,c=>[c]
 |d+1,c=>(List.range ((p.length:Int)+b - aV b c).toNat).flatMap fun j:Nat=>if qB b p q c (aV b c+j)=true then k6 b p q d (c++[aV b c+j])else[]
def jm (b:Int) (p q:List Int) (d:Nat) (c:List Int) (J:Nat):List (List Int):=
 (List.range J).flatMap fun j:Nat=>if qB b p q c (aV b c+j)=true then k6 b p q d (c++[aV b c+j])else[]
theorem Co {b:Int} {p q:List Int} {d:Nat} {c:List Int}:k6 b p q (d+1) c=jm b p q d c ((p.length:Int)+b - aV b c).toNat:=rfl
theorem dp {b:Int} {p q:List Int} {d:Nat} {c:List Int} {J:Nat}:jm b p q d c (J+1)=jm b p q d c J++if qB b p q c (aV b c+J)=true then k6 b p q d (c++[aV b c+J])else[]:=by
 simp[jm,List.range_succ]
theorem jq {b i:Int} {c:List Int}:aV b (c++[i])=i+1:=by
 rw[aV,if_neg (by simp)];simp
theorem x7 {b:Int} {p q:List Int} (hb:0≤b):∀{d:Nat} {c:List Int},b≤aV b c→(k6 b p q d c).length≤p.length^d
 |0,c,_=>by simp[k6]
 |d+1,c,hc=>by
  have key:∀J,(jm b p q d c J).length≤J*p.length^d:=by
   intro J
   induction J with
   |zero=>simp[jm]
   |succ J ih=>
    rw[dp,List.length_append,Nat.succ_mul]
    split
    ·have:=x7 (q:=q) (p:=p) hb (d:=d) (c:=c++[aV b c+J]) (by rw[jq];omega)
     omega
    ·simp;omega
  rw[Co,Nat.pow_succ,Nat.mul_comm]
  exact Nat.le_trans (key _) (Nat.mul_le_mul_right _ (by omega))
theorem tw {b:Int} {p q:List Int}:∀{d:Nat} {c:List Int},1≤d→(p.length:Int)+b<aV b c+d→k6 b p q d c=[]
 |d+1,c,_,h=>by
  rw[k6,List.flatMap_eq_nil_iff]
  intro j hj
  rw[List.mem_range]at hj
  split
  ·exact tw (by omega) (by rw[jq];omega)
  ·rfl
def iC (p q:List Int):Bool:= !(k6 0 p q q.length []).isEmpty
theorem xe {p q c:List Int} {i:Int}:qB 1 p q (c.map (·+1)) (i+1)=qB 0 p q c i:=by
 simp only[qB,rI,List.length_map]
 rw[Bool.eq_iff_iff,List.all_eq_true,List.all_eq_true]
 refine forall_congr' fun l=>imp_congr_right fun hl=> ?_
 rw[List.mem_range]at hl
 have e1:(c.map (·+1)).getD l 0 - 1=c.getD l 0 - 0:=by
  rw[List.getD_eq_getElem?_getD,List.getElem?_map,List.getD_eq_getElem?_getD,List.getElem?_eq_getElem hl];simp
 rw[e1,show i+1 - 1=i - 0 by omega]
theorem xa {c:List Int}:aV 1 (c.map (·+1))=aV 0 c+1:=by
 unfold aV
 rw[List.length_map]
 split
 ·rfl
 ·rename_i h
  rw[List.getD_eq_getElem?_getD,List.getElem?_map,List.getD_eq_getElem?_getD,List.getElem?_eq_getElem (by omega)];simp
theorem rX {p q:List Int}:∀{d:Nat} {c:List Int},k6 1 p q d (c.map (·+1))=(k6 0 p q d c).map (List.map (·+1))
 |0,c=>rfl
 |d+1,c=>by
  rw[k6,k6,xa,List.map_flatMap]
  rw[show((p.length:Int)+1 - (aV 0 c+1))=p.length+0 - aV 0 c by omega]
  congr 1;funext j
  rw[show aV 0 c+1+(j:Int)=(aV 0 c+j)+1 by omega,xe]
  split
  ·rw[show List.map (·+1) c++[aV 0 c+(j:Int)+1]=List.map (·+1) (c++[aV 0 c+(j:Int)])by simp,rX]
  ·rfl
theorem An {b:Int} {p q c:List Int} {i:Int} {k n:Nat} (hk:k≤n) (h:rI b p q c i k=false):rI b p q c i n=false:=by
 induction hk with
 |refl=>exact h
 |step _ ih=>rw[jr,ih];rfl
theorem lg {m0 m1 m2:Bool} (p q c:List Int) (i:Int) (hq:q.length≤8) (hp:p.length≤8) (hc0:c.length<q.length) (hx:∀x∈c,1≤x∧x≤p.length) (hi:1≤i∧i≤p.length):Fun Tryz.prog 229 [(.sl (.lent m0) (List.map (PV.int .i64) (p))),(.sl (.lent m1) (List.map (PV.int .i64) (q))),(.sl (.lent m2) (List.map (PV.int .i64) ((c++[i]))))] [(.bool (qB 1 p q c i))]:=by
 refine fO aR [6] Tryz.func229 ?_
 have e1:(c++[i]).getD c.length 0=i:=by simp
 refine ax trivial ?_
 all_goals try(apply ai;repeat' first|exact ah|apply aa|(apply ak;intro zb hc)|(apply aj;intro zb)|intro j')<;>try apply al
 refine an (fun ms1 S1=>∃(k:Nat),S1.e 0=.p (.sl (.lent m0) (List.map (PV.int .i64) (p)))∧S1.e 1=.p (.sl (.lent m1) (List.map (PV.int .i64) (q)))∧S1.e 2=.p (.sl (.lent m2) (List.map (PV.int .i64) ((c++[i]))))∧S1.e 7=.p (.int .i64 (c.length))∧S1.e 8=.p (.int .i64 (k))∧(k≤c.length)∧(rI 1 p q c i k=true)∧ms1=c.length - k) ((fun(k:Nat)=>c.length - k) (0)) ?_ ⟨0,dC trivial ?_⟩
 all_goals try(apply ai;repeat' first|exact ah|apply aa|(apply ak;intro zb hc)|(apply aj;intro zb)|intro j')<;>try apply al
 rintro ms1 S1 ⟨k,h1_0,h1_1,h1_2,h1_7,h1_8,c1_0,c1_1,hm1⟩
 have fL1:=(aa h1_0 (aa h1_1 (aa h1_2 (aa h1_7 h1_8))))
 by_cases hk:k<c.length
 ·have e2:(c++[i]).getD k 0=c.getD k 0:=by simp[List.getD_eq_getElem?_getD,List.getElem?_append_left hk]
  have e3:=hx _ (ar (d:=0) hk)
  refine ax (aa fL1 (aa @e1 @e2)) ?_
  all_goals try(apply ai;repeat' first|exact ah|apply aa|(apply ak;intro zb hc)|(apply aj;intro zb)|intro j')<;>try apply al
  ·exact(An (k:=k+1) (by omega) (by rw[jr,c1_1,Bool.true_and];simpa using hc)).symm
  ·focus
    refine am ((fun(k:Nat)=>c.length - k) (k+1)) (dC fL1 ?_) ⟨k+1,dC fL1 ?_⟩
    all_goals try(apply ai;repeat' first|exact ah|apply aa|(apply ak;intro zb hc)|(apply aj;intro zb)|intro j')<;>try apply al
   rw[jr,c1_1,Bool.true_and,beq_iff_eq];simpa using hc
 ·refine ax (aa fL1 @e1) ?_
  all_goals try(apply ai;repeat' first|exact ah|apply aa|(apply ak;intro zb hc)|(apply aj;intro zb)|intro j')<;>try apply al
  obtain rfl:k=c.length:=by omega
  exact c1_1.symm
def te:FuncId→List Bool:=fun f=>if f=224 then[false,false,false,true]else if f=8589934816 then[false,false,true]else[]
theorem E3 {f:FuncId}:te f=if f=224 then[false,false,false,true]else if f=8589934816 then[false,false,true]else[]:=_root_.id rfl
theorem AY:fJ te=false∧ga te=false∧f9 te=false∧f8 te=false∧gb te=false:=⟨rfl,rfl,rfl,rfl,rfl⟩
attribute [go_sem] E3 AY
theorem rr {m0 m1:Bool} (p q:List Int) (hp:p.length≤8) (hq:q.length≤8):∀(d:Nat) (h:List Int) (out:List (List Int)),h.length+d=q.length→(∀x∈h,1≤x∧x≤p.length)→out.length+8^d≤1099511627776→
  CallT Tryz.prog true 224 [.pv (.sl (.lent m0) (List.map (PV.int .i64) p)),.pv (.sl (.lent m1) (List.map (PV.int .i64) q)),.pv (.sl (.lent false) (List.map (PV.int .i64) h)),.mu false (List.map (bt false) out)] [none,none,none,none] [.sl .own (List.map (bt false) (out++k6 1 p q d h))]:=by
 intro d
 induction d with
 |zero=>
  intro h out hd hx ho
  refine CallT.of (sg:=te) (ts:=[8]) mo Tryz.func224 rfl rfl rfl rfl (by kernel_rfl) (by simp only[go_sem]) rfl rfl ?_
  have cE1:= @lg
  refine lp trivial ?_
  all_goals try(apply ai;repeat' first|exact ah|apply aa|(apply ak;intro zb hc)|(apply aj;intro zb)|intro j')<;>try apply al
  all_goals(rw[OM];rfl)
 |succ d ih=>
  intro h out hd hx ho
  have f0:1≤aV 1 h∧aV 1 h≤p.length+1:=by
   unfold aV
   split
   ·omega
   ·have:=hx _ (ar (d:=0) (show h.length - 1<h.length by omega));omega
  refine CallT.of (sg:=te) (ts:=[8]) mo Tryz.func224 rfl rfl rfl rfl (by kernel_rfl) (by simp only[go_sem]) rfl rfl ?_
  have cE1:= @lg
  have lenJ:∀J:Nat,(J:Int)≤p.length+1 - aV 1 h→(jm 1 p q d h J).length≤J*8^d:=by
   intro J
   induction J with
   |zero=>intro _;simp[jm]
   |succ J ihJ=>
    intro hJ
    have h1:=ihJ (by omega)
    have h2:(if qB 1 p q h (aV 1 h+J)=true then k6 1 p q d (h++[aV 1 h+J])else[]).length≤8^d:=by
     split
     ·exact Nat.le_trans (x7 (by decide) (by rw[jq];omega)) (Nat.pow_le_pow_left hp d)
     ·exact Nat.zero_le _
    rw[dp,List.length_append,Nat.succ_mul]
    exact Nat.add_le_add h1 h2
  by_cases hn:h.length=0
  ·have f1:aV 1 h=1:=if_pos hn
   refine lp @hn ?_
   all_goals try(apply ai;repeat' first|exact ah|apply aa|(apply ak;intro zb hc)|(apply aj;intro zb)|intro j')<;>try apply al
   refine an (fun ms1 S1=>∃(J:Nat),S1.e 0=.p (.sl (.lent m0) (List.map (PV.int .i64) (p)))∧S1.e 1=.p (.sl (.lent m1) (List.map (PV.int .i64) (q)))∧S1.e 2=.p (.sl (.lent false) (List.map (PV.int .i64) (h)))∧OwnM (S1.e 3) S1.h S1.n (bt false) ((out++jm 1 p q d h J).length) (out++jm 1 p q d h J)∧S1.e 10=.p (.int .i64 ((aV 1 h+J)))∧((J:Int)≤p.length+1 - aV 1 h)∧ms1=p.length+1 - J) ((fun(J:Nat)=>p.length+1 - J) (0)) ?_ ⟨0,dC trivial ?_⟩
   all_goals try(apply ai;repeat' first|exact ah|apply aa|(apply ak;intro zb hc)|(apply aj;intro zb)|intro j')<;>try apply al
   rintro ms1 S1 ⟨J,h1_0,h1_1,h1_2,o1_3,h1_10,c1_0,hm1⟩
   obtain⟨i1_3,mm1_3,h1_3,b1_3,l1_3⟩:=o1_3.out
   have ni1_3:=aG (x:=i1_3) (n:=S1.n)
   have fL1:=(aa h1_0 (aa h1_1 (aa h1_2 (aa h1_10 (aa h1_3 (aa b1_3 ni1_3))))))
   have b1:=lenJ J (by omega)
   by_cases hJ:aV 1 h+J≤p.length
   ·have cM1:= @ih
    refine lp (aa fL1 @OM) ?_
    all_goals try(apply ai;repeat' first|exact ah|apply aa|(apply ak;intro zb hc)|(apply aj;intro zb)|intro j')<;>try apply al
    ·intro x hx'
     rcases List.mem_append.1 hx' with hx'|hx'
     ·exact hx x hx'
     ·simp at hx';subst hx';omega
    ·have h8:J+1≤8:=by omega
     have h9:=Nat.mul_le_mul_right (8^d) h8
     have h10:8^(d+1)=8*8^d:=by rw[Nat.pow_succ,Nat.mul_comm]
     rw[Nat.succ_mul]at h9
     rw[List.length_append];omega
    ·focus
      refine am ((fun(J:Nat)=>p.length+1 - J) (J+1)) (dC fL1 ?_) ⟨J+1,dC fL1 ?_⟩
      all_goals try(apply ai;repeat' first|exact ah|apply aa|(apply ak;intro zb hc)|(apply aj;intro zb)|intro j')<;>try apply al
     all_goals(rw[dp,if_pos hc];try simp only[List.length_append,List.append_assoc,Nat.add_assoc])
    ·focus
      refine am ((fun(J:Nat)=>p.length+1 - J) (J+1)) (dC fL1 ?_) ⟨J+1,dC fL1 ?_⟩
      all_goals try(apply ai;repeat' first|exact ah|apply aa|(apply ak;intro zb hc)|(apply aj;intro zb)|intro j')<;>try apply al
     all_goals(rw[dp,if_neg (by rw[hc];decide),List.append_nil])
   ·have cM1:= @ih
    refine lp fL1 ?_
    all_goals try(apply ai;repeat' first|exact ah|apply aa|(apply ak;intro zb hc)|(apply aj;intro zb)|intro j')<;>try apply al
    rw[Co,show((p.length:Int)+1 - aV 1 h).toNat=J by omega]
   ·simp[jm]
   ·simp[jm]
  ·skip
   have f1:aV 1 h=h.getD (h.length - 1) 0+1:=if_neg hn
   have f2:((h.length:Int) - 1).toNat=h.length - 1:=by omega
   have g1:=hx _ (ar (d:=0) (show h.length - 1<h.length by omega))
   have cM1:=trivial
   refine lp @f2 ?_
   all_goals try(apply ai;repeat' first|exact ah|apply aa|(apply ak;intro zb hc)|(apply aj;intro zb)|intro j')<;>try apply al
   refine an (fun ms2 S2=>∃(J:Nat),S2.e 0=.p (.sl (.lent m0) (List.map (PV.int .i64) (p)))∧S2.e 1=.p (.sl (.lent m1) (List.map (PV.int .i64) (q)))∧S2.e 2=.p (.sl (.lent false) (List.map (PV.int .i64) (h)))∧OwnM (S2.e 3) S2.h S2.n (bt false) ((out++jm 1 p q d h J).length) (out++jm 1 p q d h J)∧S2.e 10=.p (.int .i64 ((aV 1 h+J)))∧((J:Int)≤p.length+1 - aV 1 h)∧ms2=p.length+1 - J) ((fun(J:Nat)=>p.length+1 - J) (0)) ?_ ⟨0,dC trivial ?_⟩
   all_goals try(apply ai;repeat' first|exact ah|apply aa|(apply ak;intro zb hc)|(apply aj;intro zb)|intro j')<;>try apply al
   rintro ms2 S2 ⟨J,h2_0,h2_1,h2_2,o2_3,h2_10,c2_0,hm2⟩
   obtain⟨i2_3,mm2_3,h2_3,b2_3,l2_3⟩:=o2_3.out
   have ni2_3:=aG (x:=i2_3) (n:=S2.n)
   have fL2:=(aa h2_0 (aa h2_1 (aa h2_2 (aa h2_10 (aa h2_3 (aa b2_3 ni2_3))))))
   have b1:=lenJ J (by omega)
   by_cases hJ:aV 1 h+J≤p.length
   ·have cM1:= @ih
    refine lp (aa fL2 @OM) ?_
    all_goals try(apply ai;repeat' first|exact ah|apply aa|(apply ak;intro zb hc)|(apply aj;intro zb)|intro j')<;>try apply al
    ·intro x hx'
     rcases List.mem_append.1 hx' with hx'|hx'
     ·exact hx x hx'
     ·simp at hx';subst hx';omega
    ·have h8:J+1≤8:=by omega
     have h9:=Nat.mul_le_mul_right (8^d) h8
     have h10:8^(d+1)=8*8^d:=by rw[Nat.pow_succ,Nat.mul_comm]
     rw[Nat.succ_mul]at h9
     rw[List.length_append];omega
    ·focus
      refine am ((fun(J:Nat)=>p.length+1 - J) (J+1)) (dC fL2 ?_) ⟨J+1,dC fL2 ?_⟩
      all_goals try(apply ai;repeat' first|exact ah|apply aa|(apply ak;intro zb hc)|(apply aj;intro zb)|intro j')<;>try apply al
     all_goals(rw[dp,if_pos hc];try simp only[List.length_append,List.append_assoc,Nat.add_assoc])
    ·focus
      refine am ((fun(J:Nat)=>p.length+1 - J) (J+1)) (dC fL2 ?_) ⟨J+1,dC fL2 ?_⟩
      all_goals try(apply ai;repeat' first|exact ah|apply aa|(apply ak;intro zb hc)|(apply aj;intro zb)|intro j')<;>try apply al
     all_goals(rw[dp,if_neg (by rw[hc];decide),List.append_nil])
   ·have cM1:= @ih
    refine lp fL2 ?_
    all_goals try(apply ai;repeat' first|exact ah|apply aa|(apply ak;intro zb hc)|(apply aj;intro zb)|intro j')<;>try apply al
    rw[Co,show((p.length:Int)+1 - aV 1 h).toNat=J by omega]
   ·simp[jm]
   ·simp[jm]
theorem FH {p q:List Int} {d:Nat} {c:List Int}:(k6 1 p q d (c.map (·+1))).length=(k6 0 p q d c).length:=by rw[rX,List.length_map]
theorem GV {p q:List Int}:decide (0<((k6 1 p q q.length []).length:Int))=iC p q:=by
 have:=FH (p:=p) (q:=q) (d:=q.length) (c:=[])
 rw[List.map_nil]at this
 rw[this,iC]
 cases k6 0 p q q.length []with
 |nil=>rfl
 |cons x l=>simp
theorem mf {m0 m1:Bool} (p q:List Int) (hp:p.length≤8) (hq:q.length≤8):Fun Tryz.prog 213 [(.sl (.lent m0) (List.map (PV.int .i64) (p))),(.sl (.lent m1) (List.map (PV.int .i64) (q)))] [(.bool (iC p q))]:=by
 refine fO te [4] Tryz.func213 ?_
 have h9:=rr (m0:=m0) (m1:=m1) p q hp hq q.length [] [] (Nat.zero_add _) (by simp) (by have h2:8^q.length≤8^8:=Nat.pow_le_pow_right (by omega) (by omega);simp only[List.length_nil,Nat.zero_add];omega)
 simp only[List.map_nil,List.nil_append]at h9
 have cM1:= @h9
 refine ax trivial ?_
 all_goals try(apply ai;repeat' first|exact ah|apply aa|(apply ak;intro zb hc)|(apply aj;intro zb)|intro j')<;>try apply al
 exact GV
theorem x9 {b:Int} {p q:List Int} {d:Nat} {c:List Int} {J:Nat} (h1:jm b p q d c J=[]) (h2:∀j:Nat,J≤j→(j:Int)<p.length+b - aV b c→k6 b p q d (c++[aV b c+j])=[]):k6 b p q (d+1) c=[]:=by
 rw[k6,List.flatMap_eq_nil_iff]
 intro j hj
 rw[List.mem_range]at hj
 by_cases hJ:j<J
 ·rw[jm,List.flatMap_eq_nil_iff]at h1
  exact h1 j (List.mem_range.2 hJ)
 ·rw[h2 j (by omega) (by omega)];split<;>rfl
theorem x8 {b:Int} {p q:List Int} {d:Nat} {c:List Int} {J:Nat} (hj:(J:Int)<p.length+b - aV b c) (h1:qB b p q c (aV b c+J)=true) (h2:k6 b p q d (c++[aV b c+J])≠[]):k6 b p q (d+1) c≠[]:=by
 intro h
 rw[k6,List.flatMap_eq_nil_iff]at h
 have:=h J (List.mem_range.2 (by omega))
 rw[if_pos h1]at this
 exact h2 this
theorem wP {m0 m1:Bool} (p q:List Int) (hp:p.length≤8) (hq:q.length≤8):∀(d:Nat) {m2:Bool} (c:List Int),c.length+d=q.length→(∀x∈c,0≤x∧x<p.length)→
  Fun Tryz.prog 178 [.sl (.lent m0) (List.map (PV.int .i64) p),.sl (.lent m1) (List.map (PV.int .i64) q),.sl (.lent m2) (List.map (PV.int .i64) c)] [.bool (!(k6 0 p q d c).isEmpty)]:=by
 intro d
 induction d with
 |zero=>
  intro m2 c hd hx
  refine fO aR [6] Tryz.func178 ?_
  have cE1:= @bS
  refine ax trivial ?_
  all_goals try(apply ai;repeat' first|exact ah|apply aa|(apply ak;intro zb hc)|(apply aj;intro zb)|intro j')<;>try apply al
  rfl
 |succ d ih=>
  intro m2 c hd hx
  have f0:0≤aV 0 c∧aV 0 c≤p.length:=by
   unfold aV
   split
   ·omega
   ·have:=hx _ (ar (d:=0) (show c.length - 1<c.length by omega));omega
  by_cases hn:c.length=0
  ·have f1:aV 0 c=0:=if_pos hn
   refine fO aR [6] Tryz.func178 ?_
   have cE1:= @bS
   refine ax @hn ?_
   all_goals try(apply ai;repeat' first|exact ah|apply aa|(apply ak;intro zb hc)|(apply aj;intro zb)|intro j')<;>try apply al
   refine an (fun ms1 S1=>∃(J:Nat),S1.e 0=.p (.sl (.lent m0) (List.map (PV.int .i64) (p)))∧S1.e 1=.p (.sl (.lent m1) (List.map (PV.int .i64) (q)))∧S1.e 2=.p (.sl (.lent m2) (List.map (PV.int .i64) (c)))∧S1.e 8=.p (.int .i64 (c.length))∧S1.e 9=.p (.int .i64 ((aV 0 c+J)))∧((J:Int)≤p.length - aV 0 c)∧(jm 0 p q d c J=[])∧ms1=p.length - J) ((fun(J:Nat)=>p.length - J) (0)) ?_ ⟨0,jK trivial ?_⟩
   all_goals try(apply ai;repeat' first|exact ah|apply aa|(apply ak;intro zb hc)|(apply aj;intro zb)|intro j')<;>try apply al
   rintro ms1 S1 ⟨J,h1_0,h1_1,h1_2,h1_8,h1_9,c1_0,c1_1,hm1⟩
   have fL1:=(aa h1_0 (aa h1_1 (aa h1_2 (aa h1_8 h1_9))))
   refine ax fL1 ?_
   all_goals try(apply ai;repeat' first|exact ah|apply aa|(apply ak;intro zb hc)|(apply aj;intro zb)|intro j')<;>try apply al
   ·refine an (fun ms2 S2=>∃(k:Nat),S2.e 0=.p (.sl (.lent m0) (List.map (PV.int .i64) (p)))∧S2.e 1=.p (.sl (.lent m1) (List.map (PV.int .i64) (q)))∧S2.e 2=.p (.sl (.lent m2) (List.map (PV.int .i64) (c)))∧S2.e 8=.p (.int .i64 (c.length))∧S2.e 9=.p (.int .i64 ((aV 0 c+J)))∧S2.e 10=.p (.bool (rI 0 p q c (aV 0 c+J) k))∧S2.e 42=.p (.sl (.lent m2) (List.map (PV.int .i64) (c)))∧S2.e 43=.p (.int .i64 (c.length))∧S2.e 44=.p (.int .i64 (k))∧(k≤c.length)∧((J:Int)≤p.length - aV 0 c - (d+1))∧S1.n≤S2.n∧ms2=c.length - k) ((fun(k:Nat)=>c.length - k) (0)) ?_ ⟨0,dC fL1 ?_⟩
    all_goals try(apply ai;repeat' first|exact ah|apply aa|(apply ak;intro zb hc)|(apply aj;intro zb)|intro j')<;>try apply al
    rintro ms2 S2 ⟨k,h2_0,h2_1,h2_2,h2_8,h2_9,h2_10,h2_42,h2_43,h2_44,c2_0,c2_1,u2_0,hm2⟩
    have fL2:=(aa h2_0 (aa h2_1 (aa h2_2 (aa h2_8 (aa h2_9 (aa h2_10 (aa h2_42 (aa h2_43 h2_44))))))))
    by_cases hk:k<c.length
    ·omega
    ·have g4:k=c.length:=by omega
     have ih1:=fun(m:Bool)=>ih (m2:=m) (c++[aV 0 c+J]) (by simp;omega) (by
      intro x hx'
      rcases List.mem_append.1 hx' with hx'|hx'
      ·exact hx x hx'
      ·simp at hx';subst hx';omega)
     have cE1:= @ih1;have cE2:= @bS
     refine ax (aa fL2 @OM) ?_
     all_goals try(apply ai;repeat' first|exact ah|apply aa|(apply ak;intro zb hc)|(apply aj;intro zb)|intro j')<;>try apply al
     ·subst g4
      have o1:=x8 (b:=0) (p:=p) (q:=q) (d:=d) (c:=c) (J:=J) (by omega) zb.1 (fun e=>by rw[e]at hc;cases hc)
      cases ho:k6 0 p q (d+1) c with
      |nil=>exact absurd ho o1
      |cons _ _=>rfl
     ·focus
       refine am ((fun(J:Nat)=>p.length - J) (J+1)) (dC fL2 ?_) ⟨J+1,dC fL2 ?_⟩
       all_goals try(apply ai;repeat' first|exact ah|apply aa|(apply ak;intro zb hc)|(apply aj;intro zb)|intro j')<;>try apply al
      have o2:k6 0 p q d (c++[aV 0 c+J])=[]:=by simpa using hc
      rw[dp,c1_1,o2];split<;>rfl
     ·focus
       refine am ((fun(J:Nat)=>p.length - J) (J+1)) (dC fL2 ?_) ⟨J+1,dC fL2 ?_⟩
       all_goals try(apply ai;repeat' first|exact ah|apply aa|(apply ak;intro zb hc)|(apply aj;intro zb)|intro j')<;>try apply al
      subst g4
      rw[dp,c1_1,if_neg (by rw[qB,hc];decide)];rfl
   ·have o3:k6 0 p q (d+1) c=[]:=x9 c1_1 fun j hj hj2=>by
     by_cases h0:d=0
     ·omega
     ·exact tw (by omega) (by rw[jq];omega)
    rw[o3];rfl
  ·skip
   have f1:aV 0 c=c.getD (c.length - 1) 0+1:=if_neg hn
   have f2:((c.length:Int) - 1).toNat=c.length - 1:=by omega
   have g1:=hx _ (ar (d:=0) (show c.length - 1<c.length by omega))
   refine fO aR [6] Tryz.func178 ?_
   have cE1:= @bS
   refine ax @f2 ?_
   all_goals try(apply ai;repeat' first|exact ah|apply aa|(apply ak;intro zb hc)|(apply aj;intro zb)|intro j')<;>try apply al
   refine an (fun ms3 S3=>∃(J:Nat),S3.e 0=.p (.sl (.lent m0) (List.map (PV.int .i64) (p)))∧S3.e 1=.p (.sl (.lent m1) (List.map (PV.int .i64) (q)))∧S3.e 2=.p (.sl (.lent m2) (List.map (PV.int .i64) (c)))∧S3.e 8=.p (.int .i64 (c.length))∧S3.e 9=.p (.int .i64 ((aV 0 c+J)))∧((J:Int)≤p.length - aV 0 c)∧(jm 0 p q d c J=[])∧ms3=p.length - J) ((fun(J:Nat)=>p.length - J) (0)) ?_ ⟨0,jK trivial ?_⟩
   all_goals try(apply ai;repeat' first|exact ah|apply aa|(apply ak;intro zb hc)|(apply aj;intro zb)|intro j')<;>try apply al
   rintro ms3 S3 ⟨J,h3_0,h3_1,h3_2,h3_8,h3_9,c3_0,c3_1,hm3⟩
   have fL3:=(aa h3_0 (aa h3_1 (aa h3_2 (aa h3_8 h3_9))))
   refine ax fL3 ?_
   all_goals try(apply ai;repeat' first|exact ah|apply aa|(apply ak;intro zb hc)|(apply aj;intro zb)|intro j')<;>try apply al
   ·refine an (fun ms4 S4=>∃(k:Nat),S4.e 0=.p (.sl (.lent m0) (List.map (PV.int .i64) (p)))∧S4.e 1=.p (.sl (.lent m1) (List.map (PV.int .i64) (q)))∧S4.e 2=.p (.sl (.lent m2) (List.map (PV.int .i64) (c)))∧S4.e 8=.p (.int .i64 (c.length))∧S4.e 9=.p (.int .i64 ((aV 0 c+J)))∧S4.e 10=.p (.bool (rI 0 p q c (aV 0 c+J) k))∧S4.e 42=.p (.sl (.lent m2) (List.map (PV.int .i64) (c)))∧S4.e 43=.p (.int .i64 (c.length))∧S4.e 44=.p (.int .i64 (k))∧(k≤c.length)∧((J:Int)≤p.length - aV 0 c - (d+1))∧S3.n≤S4.n∧ms4=c.length - k) ((fun(k:Nat)=>c.length - k) (0)) ?_ ⟨0,dC fL3 ?_⟩
    all_goals try(apply ai;repeat' first|exact ah|apply aa|(apply ak;intro zb hc)|(apply aj;intro zb)|intro j')<;>try apply al
    rintro ms4 S4 ⟨k,h4_0,h4_1,h4_2,h4_8,h4_9,h4_10,h4_42,h4_43,h4_44,c4_0,c4_1,u4_0,hm4⟩
    have fL4:=(aa h4_0 (aa h4_1 (aa h4_2 (aa h4_8 (aa h4_9 (aa h4_10 (aa h4_42 (aa h4_43 h4_44))))))))
    by_cases hk:k<c.length
    ·have g2:=hx _ (ar (d:=0) hk)
     have g3:(decide (p.getD (c.getD k 0).toNat 0<p.getD (aV 0 c+J).toNat 0)==decide (q.getD k 0<q.getD c.length 0))=(decide (q.getD k 0<q.getD c.length 0)==decide (p.getD (c.getD k 0 - 0).toNat 0<p.getD (aV 0 c+J - 0).toNat 0)):=by
      rw[Int.sub_zero,Int.sub_zero,Bool.eq_iff_iff,beq_iff_eq,beq_iff_eq];exact eq_comm
     refine ax fL4 ?_
     all_goals try(apply ai;repeat' first|exact ah|apply aa|(apply ak;intro zb hc)|(apply aj;intro zb)|intro j')<;>try apply al
     ·focus
       refine am ((fun(k:Nat)=>c.length - k) (k+1)) (dC fL4 ?_) ⟨k+1,dC fL4 ?_⟩
       all_goals try(apply ai;repeat' first|exact ah|apply aa|(apply ak;intro zb hc)|(apply aj;intro zb)|intro j')<;>try apply al
      rw[jr,hc,Bool.true_and];exact g3
     ·focus
       refine am ((fun(k:Nat)=>c.length - k) (k+1)) (dC fL4 ?_) ⟨k+1,dC fL4 ?_⟩
       all_goals try(apply ai;repeat' first|exact ah|apply aa|(apply ak;intro zb hc)|(apply aj;intro zb)|intro j')<;>try apply al
      rw[jr,hc];rfl
    ·have g4:k=c.length:=by omega
     have ih1:=fun(m:Bool)=>ih (m2:=m) (c++[aV 0 c+J]) (by simp;omega) (by
      intro x hx'
      rcases List.mem_append.1 hx' with hx'|hx'
      ·exact hx x hx'
      ·simp at hx';subst hx';omega)
     have cE1:= @ih1;have cE2:= @bS
     refine ax (aa fL4 @OM) ?_
     all_goals try(apply ai;repeat' first|exact ah|apply aa|(apply ak;intro zb hc)|(apply aj;intro zb)|intro j')<;>try apply al
     ·subst g4
      have o1:=x8 (b:=0) (p:=p) (q:=q) (d:=d) (c:=c) (J:=J) (by omega) zb.1 (fun e=>by rw[e]at hc;cases hc)
      cases ho:k6 0 p q (d+1) c with
      |nil=>exact absurd ho o1
      |cons _ _=>rfl
     ·focus
       refine am ((fun(J:Nat)=>p.length - J) (J+1)) (dC fL4 ?_) ⟨J+1,dC fL4 ?_⟩
       all_goals try(apply ai;repeat' first|exact ah|apply aa|(apply ak;intro zb hc)|(apply aj;intro zb)|intro j')<;>try apply al
      have o2:k6 0 p q d (c++[aV 0 c+J])=[]:=by simpa using hc
      rw[dp,c3_1,o2];split<;>rfl
     ·focus
       refine am ((fun(J:Nat)=>p.length - J) (J+1)) (dC fL4 ?_) ⟨J+1,dC fL4 ?_⟩
       all_goals try(apply ai;repeat' first|exact ah|apply aa|(apply ak;intro zb hc)|(apply aj;intro zb)|intro j')<;>try apply al
      subst g4
      rw[dp,c3_1,if_neg (by rw[qB,hc];decide)];rfl
   ·have o3:k6 0 p q (d+1) c=[]:=x9 c3_1 fun j hj hj2=>by
     by_cases h0:d=0
     ·omega
     ·exact tw (by omega) (by rw[jq];omega)
    rw[o3];rfl
def mc:List Nat→Nat
 |[]=>0
 |n::ns=>n+mc ns
def CC:List Nat→Int→List (List Int)
 |[],_=>[]
 |n::ns,k=>uT n k::CC ns (k+n)
theorem p7:∀{ns:List Nat} {k:Int},(CC ns k).length=ns.length
 |[],_=>rfl
 |_::ns,_=>by simp only[CC,List.length_cons,p7]
theorem zJ {L:List (List Int)} {k:Int}:List.take L.length (CC (L.map List.length) k)=CC (L.map List.length) k:=by
 rw[List.take_of_length_le];rw[p7,List.length_map];exact Nat.le_refl _
attribute [go_sem] zJ p7
theorem pU {n:Int}:∀{p seen:List Int},fW n seen p=true↔(∀v∈p,1≤v∧v≤n)∧p.Nodup∧∀v∈p,v∉seen
 |[],seen=>by simp[fW]
 |v::p,seen=>by
  rw[fW,Bool.and_eq_true,pU]
  simp only[Bool.and_eq_true,decide_eq_true_eq,Bool.not_eq_true',List.nodup_cons,List.mem_append,List.mem_singleton]
  constructor
  ·rintro⟨⟨⟨h1,h2⟩,h3⟩,h4,h5,h6⟩
   have h3':v∉seen:=fun h=>by rw[←List.contains_iff_mem]at h;rw[h]at h3;cases h3
   refine⟨fun x hx=> ?_,⟨fun hv=>h6 v hv (.inr rfl),h5⟩,fun x hx=> ?_⟩
   ·rcases List.mem_cons.1 hx with rfl|hx
    ·exact⟨h1,h2⟩
    ·exact h4 x hx
   ·rcases List.mem_cons.1 hx with rfl|hx
    ·exact h3'
    ·exact fun hs=>h6 x hx (.inl hs)
  ·rintro⟨h1,⟨h2,h3⟩,h4⟩
   have h5:=h1 v (by simp)
   refine⟨⟨⟨h5.1,h5.2⟩, ?_⟩,fun x hx=>h1 x (by simp[hx]),h3,fun x hx=> ?_⟩
   ·rw[←Bool.not_eq_true,List.contains_iff_mem];exact h4 v (by simp)
   ·rintro(hs|rfl)
    ·exact h4 x (by simp[hx]) hs
    ·exact h2 hx
theorem permB_iff {p:List Int}:aU p=true↔(∀v∈p,1≤v∧v≤p.length)∧p.Nodup:=by
 rw[aU,pU];simp
theorem mK {α:Type} (p:α→Bool):∀(l:List α),l.length=(l.filter p).length+(l.filter fun x=> !p x).length
 |[]=>rfl
 |x::l=>by
  have:=mK p l
  rw[List.filter_cons,List.filter_cons]
  cases p x<;>simp<;>omega
theorem kr:∀{n:Nat} {l:List Int} {a:Int},l.Nodup→(∀x∈l,a<x∧x≤a+n)→l.length≤n
 |0,l,a,_,hb=>by
  cases l with
  |nil=>simp
  |cons x l=>have:=hb x (by simp);omega
 |n+1,l,a,hn,hb=>by
  have h1:(l.filter fun x=>decide (x≠a+(n+1:Nat))).length≤n:=kr (a:=a) (List.Nodup.sublist List.filter_sublist hn) fun x hx=>by
   simp only[List.mem_filter,decide_eq_true_eq]at hx
   have:=hb x hx.1
   refine⟨this.1, ?_⟩
   have h2:=hx.2
   push_cast at h2 this ⊢
   omega
  have h2:l.length≤(l.filter fun x=>decide (x≠a+(n+1:Nat))).length+1:=by
   have h3:=mK (fun x=>decide (x≠a+(n+1:Nat))) l
   have h4:(l.filter fun x=> !decide (x≠a+(n+1:Nat))).length≤1:=by
    have h5:(l.filter fun x=> !decide (x≠a+(n+1:Nat))).Nodup:=List.Nodup.sublist List.filter_sublist hn
    have h6:∀x∈l.filter (fun x=> !decide (x≠a+(n+1:Nat))),x=a+(n+1:Nat):=fun x hx=>by
     simp only[List.mem_filter]at hx;simpa using hx.2
    revert h5 h6
    generalize l.filter (fun x=> !decide (x≠a+(n+1:Nat)))=q
    intro h5 h6
    match q,h5,h6 with
    |[],_,_=>simp
    |[x],_,_=>simp
    |x::y::r,h5,h6=>
     have e1:=h6 x (by simp)
     have e2:=h6 y (by simp)
     simp only[List.nodup_cons,List.mem_cons,not_or]at h5
     exact absurd (e1.trans e2.symm) h5.1.1
   omega
  omega
theorem uG {p:List Int} (h:aU p=true) {v:Int} (h1:1≤v) (h2:v≤p.length):v∈p:=by
 obtain⟨q1,q2⟩:=permB_iff.1 h
 by_cases hm:v∈p
 ·exact hm
 ·exfalso
  have:=kr (n:=p.length) (a:=0) (l:=v::p) (List.nodup_cons.2 ⟨hm,q2⟩) fun x hx=>by
   rcases List.mem_cons.1 hx with rfl|hx
   ·omega
   ·have:=q1 x hx;omega
  simp at this;omega
theorem Cd {p:List Int} (h:aU p=true) {i j:Nat} (hi:i<p.length) (hj:j<p.length) (e:p.getD i 0=p.getD j 0):i=j:=by
 obtain⟨q1,q2⟩:=permB_iff.1 h
 rw[List.getD_eq_getElem?_getD,List.getElem?_eq_getElem hi,List.getD_eq_getElem?_getD,List.getElem?_eq_getElem hj]at e
 exact(List.getElem_inj q2).1 e
end Go.Gl
