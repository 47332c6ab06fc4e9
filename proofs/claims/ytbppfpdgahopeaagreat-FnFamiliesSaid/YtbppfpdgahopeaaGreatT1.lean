/-
  What the functions compute, and what the law asks of it: texts joined. Conditions: those that each lemma names.
-/
import Derived.Test.YtbppfpdgahopeaaGreatA0
import Derived.Test.YtbppfpdgahopeaaGreatGlC
import Derived.Shelf.Strings.Builder1
import Derived.Shelf.Strings.Builder2
import Derived.Shelf.Strings.OnBuilder
import Derived.Ground.Names2Prog
import Derived.Shelf.Slices.Clone
import Derived.Shelf.Spec.SlicesGrow
import Derived.Ground.Names8Prog
import Derived.Test.YtbppfpdgahopeaaGreatProg
import Derived.Lib.Join
set_option linter.unusedSimpArgs false
set_option linter.unusedVariables false
set_option maxRecDepth 20000
set_option linter.unusedSectionVars false
namespace Go.Gl
open Go Go.Proofs
variable [Amb]
theorem spec_l1In_c (a b c:Int):Fun Tryz.prog 64 [(.int .i64 (a)),(.int .i64 (b)),(.int .i64 (c))] [(.bool ((decide (b≤a)&&decide (a≤c))))]:=by
 refine fO sg0 [6] Tryz.func64 ?_
 refine dE trivial ?_
 all_goals try (refine zlf ?_;repeat' first|exact zso|refine And.intro ?_ ?_|(refine zim ?_;intro zb hc)|(refine zin ?_;intro zb)|intro j')
 all_goals try refine zbx ?_
def bitI (b:Bool):Int:=if b then 1 else 0
theorem bitI_r (b:Bool):0≤bitI b∧bitI b≤1:=by cases b<;>decide
theorem spec_l1Bit_c (b:Bool):Fun Tryz.prog 73 [(.bool (b))] [(.int .i64 (bitI b))]:=by
 refine fO sg0 [2] Tryz.func73 ?_
 refine dE trivial ?_
 all_goals try (refine zlf ?_;repeat' first|exact zso|refine And.intro ?_ ?_|(refine zim ?_;intro zb hc)|(refine zin ?_;intro zb)|intro j')
 all_goals try refine zbx ?_
 all_goals simp[bitI,hc]
theorem spec_l1Max_c (a b:Int):Fun Tryz.prog 72 [(.int .i64 (a)),(.int .i64 (b))] [(.int .i64 (max a b))]:=by
 refine fO sg0 [4] Tryz.func72 ?_
 refine dE trivial ?_
 all_goals try (refine zlf ?_;repeat' first|exact zso|refine And.intro ?_ ?_|(refine zim ?_;intro zb hc)|(refine zin ?_;intro zb)|intro j')
 all_goals try refine zbx ?_
 all_goals omega
theorem drop_at {s:List UInt8} {k:Nat} (h:k<s.length):s.drop k=s.getD k 0::s.drop (k+1):=by
 rw[List.drop_eq_getElem_cons h,List.getD_eq_getElem?_getD,List.getElem?_eq_getElem h];rfl
theorem dropI_at {s:List Int} {k:Nat} (h:k<s.length):s.drop k=s.getD k 0::s.drop (k+1):=by
 rw[List.drop_eq_getElem_cons h,List.getD_eq_getElem?_getD,List.getElem?_eq_getElem h];rfl
end Go.Gl
namespace Go.Gl
open Go Go.Proofs
variable [Amb] [NoQ]
def permGo (n:Int):List Int→List Int→Bool
 |_,[]=>true
 |seen,v::p=>decide (1≤v)&&decide (v≤n)&& !(seen.contains v)&&permGo n (seen++[v]) p
def permB (p:List Int):Bool:=permGo p.length [] p
def isPermB (p:List Int):Bool:=decide (p.length≤8)&&permB p
theorem contains_take {l:List Int} {k:Nat} {x:Int} (h:k<l.length):(l.take (k+1)).contains x=((l.take k).contains x||decide (x=l.getD k 0)):=by
 rw[List.take_add_one,List.getD_eq_getElem?_getD,List.getElem?_eq_getElem h]
 simp only[Option.toList_some,Option.getD_some,List.contains_append]
 congr 1
 simp[List.contains_cons]
theorem contains_at {l:List Int} {k:Nat} (h:k<l.length):l.contains (l.getD k 0)=true:=by
 rw[List.getD_eq_getElem?_getD,List.getElem?_eq_getElem h];simp
theorem permGo_step {n:Int} {p:List Int} {k:Nat} (h:k<p.length):permGo n (p.take k) (p.drop k)=(decide (1≤p.getD k 0)&&decide (p.getD k 0≤n)&& !((p.take k).contains (p.getD k 0))&&permGo n (p.take (k+1)) (p.drop (k+1))):=by
 rw[dropI_at h,permGo]
 congr 2
 rw[List.take_add_one,List.getD_eq_getElem?_getD,List.getElem?_eq_getElem h];rfl
theorem spec_l2Has_c {m0:Bool} (l:List Int) (x:Int) (hl:l.length≤1099511627776):Fun Tryz.prog 70 [(.sl (.lent m0) (List.map (PV.int .i64) (l))),(.int .i64 (x))] [(.bool (l.contains x))]:=by
 refine fO sg0 [4] Tryz.func70 ?_
 refine dE trivial ?_
 all_goals try (refine zlf ?_;repeat' first|exact zso|refine And.intro ?_ ?_|(refine zim ?_;intro zb hc)|(refine zin ?_;intro zb)|intro j')
 all_goals try refine zbx ?_
 refine v_loopB (fun ms1 S1=>∃(k:Nat),S1.e 0=.p (.sl (.lent m0) (List.map (PV.int .i64) (l)))∧S1.e 1=.p (.int .i64 (x))∧S1.e 5=.p (.int .i64 (k))∧(k≤l.length)∧((l.take k).contains x=false)∧ms1=l.length - k) ((fun(k:Nat)=>l.length - k) (0)) ?_ ⟨0,dIa trivial ?_⟩
 all_goals try (refine zlf ?_;repeat' first|exact zso|refine And.intro ?_ ?_|(refine zim ?_;intro zb hc)|(refine zin ?_;intro zb)|intro j')
 all_goals try refine zbx ?_
 rintro ms1 S1 ⟨k,h1_0,h1_1,h1_5,c1_0,c1_1,hm1⟩
 have fL1:=(And.intro h1_0 (And.intro h1_1 h1_5))
 refine dEa fL1 ?_
 all_goals try (refine zlf ?_;repeat' first|exact zso|refine And.intro ?_ ?_|(refine zim ?_;intro zb hc)|(refine zin ?_;intro zb)|intro j')
 all_goals try refine zbx ?_
 ·rw[←hc,contains_at (by omega)]
 ·focus
   refine q_lp_n ((fun(k:Nat)=>l.length - k) (k+1)) (dC fL1 ?_) ⟨k+1,dC fL1 ?_⟩
   all_goals try (refine zlf ?_;repeat' first|exact zso|refine And.intro ?_ ?_|(refine zim ?_;intro zb hc)|(refine zin ?_;intro zb)|intro j')
   all_goals try refine zbx ?_
  rw[contains_take (by omega),c1_1,Bool.false_or];exact decide_eq_false (fun e=>hc e.symm)
 ·rw[←c1_1,List.take_of_length_le (by omega)]
theorem spec_IsPerm_c {m0:Bool} (p:List Int) (hl:p.length≤1048576):Fun Tryz.prog 29 [(.sl (.lent m0) (List.map (PV.int .i64) (p)))] [(.bool (isPermB p))]:=by
 refine fO sg0 [2] Tryz.func29 ?_
 have cE1:= @spec_l1In_c;have cE2:= @spec_l2Has_c;have cD1:=zdh [false,false,false,false,false,false,true,false,false,false,false,false,false,false,false,false,true,false] []
 refine dE trivial ?_
 all_goals try (refine zlf ?_;repeat' first|exact zso|refine And.intro ?_ ?_|(refine zim ?_;intro zb hc)|(refine zin ?_;intro zb)|intro j')
 all_goals try refine zbx ?_
 refine v_loopB (fun ms1 S1=>∃(k:Nat),S1.e 0=.p (.sl (.lent m0) (List.map (PV.int .i64) (p)))∧S1.e 3=.p (.int .i64 (k))∧(k≤p.length)∧(p.length≤8→permB p=permGo p.length (p.take k) (p.drop k))∧ms1=p.length - k) ((fun(k:Nat)=>p.length - k) (0)) ?_ ⟨0,dIa trivial ?_⟩
 all_goals try (refine zlf ?_;repeat' first|exact zso|refine And.intro ?_ ?_|(refine zim ?_;intro zb hc)|(refine zin ?_;intro zb)|intro j')
 all_goals try refine zbx ?_
 rintro ms1 S1 ⟨k,h1_0,h1_3,c1_0,c1_1,hm1⟩
 have fL1:=(And.intro h1_0 h1_3)
 refine dEa fL1 ?_
 all_goals try (refine zlf ?_;repeat' first|exact zso|refine And.intro ?_ ?_|(refine zim ?_;intro zb hc)|(refine zin ?_;intro zb)|intro j')
 all_goals try refine zbx ?_
 all_goals try (have c2:=c1_1 (by omega);rw[permGo_step (by omega)]at c2)
 ·simp only[isPermB,c2,hc];simp
 ·focus
   refine q_lp_n ((fun(k:Nat)=>p.length - k) (k+1)) (dC fL1 ?_) ⟨k+1,dC fL1 ?_⟩
   all_goals try (refine zlf ?_;repeat' first|exact zso|refine And.intro ?_ ?_|(refine zim ?_;intro zb hc)|(refine zin ?_;intro zb)|intro j')
   all_goals try refine zbx ?_
  intro h;rw[c2,hc,decide_eq_true (by omega),decide_eq_true (by omega)];rfl
 ·simp only[isPermB,c2]
  rcases hc with hc|hc
  ·rw[decide_eq_false (by omega:¬1≤p.getD k 0)];simp
  ·rw[decide_eq_false (by omega:¬p.getD k 0≤(p.length:Int))];simp
 ·rw[isPermB,decide_eq_false (by omega)];rfl
 ·by_cases h8:p.length≤8
  ·rw[isPermB,c1_1 h8,List.drop_of_length_le (by omega),permGo,Bool.and_true];congr 1;simp only[eq_iff_iff];omega
  ·rw[isPermB,decide_eq_false h8,decide_eq_false (by omega)];rfl
 ·rfl
theorem impl_isPerm_c {m0:Bool} (p:List Int) (hl:p.length≤1048576):Fun Tryz.prog 87 [(.sl (.lent m0) (List.map (PV.int .i64) (p)))] [(.bool (permB p))]:=by
 refine fO sg0 [2] Tryz.func87 ?_
 refine dEa trivial ?_
 all_goals try (refine zlf ?_;repeat' first|exact zso|refine And.intro ?_ ?_|(refine zim ?_;intro zb hc)|(refine zin ?_;intro zb)|intro j')
 all_goals try refine zbx ?_
 refine v_loopB (fun ms1 S1=>∃(k:Nat) (seen:List Bool),S1.e 0=.p (.sl (.lent m0) (List.map (PV.int .i64) (p)))∧S1.e 10=.p (.sl (.lent m0) (List.map (PV.int .i64) (p)))∧OwnL (S1.e 3) S1.h S1.n PV.bool ((seen).length) (seen)∧S1.e 11=.p (.int .i64 (p.length))∧S1.e 12=.p (.int .i64 (k))∧(k≤p.length)∧(seen.length=p.length+1)∧(permB p=permGo p.length (p.take k) (p.drop k))∧(∀v:Nat,1≤v→v≤p.length→seen.getD v false=(p.take k).contains (v:Int))∧ms1=p.length - k) ((fun(k:Nat) (seen:List Bool)=>p.length - k) (0) (List.replicate (p.length+1) false)) ?_ ⟨0,List.replicate (p.length+1) false,dI trivial ?_⟩
 all_goals try (refine zlf ?_;repeat' first|exact zso|refine And.intro ?_ ?_|(refine zim ?_;intro zb hc)|(refine zin ?_;intro zb)|intro j')
 all_goals try refine zbx ?_
 rintro ms1 S1 ⟨k,seen,h1_0,h1_10,o1_3,h1_11,h1_12,c1_0,c1_1,c1_2,c1_3,hm1⟩
 obtain⟨i1_3,h1_3,b1_3,l1_3⟩:=o1_3.out
 have ni1_3:=znds (x:=i1_3) (n:=S1.n)
 have fL1:=(And.intro h1_0 (And.intro h1_10 (And.intro h1_11 (And.intro h1_12 (And.intro h1_3 (And.intro b1_3 ni1_3))))))
 refine dE fL1 ?_
 all_goals try (refine zlf ?_;repeat' first|exact zso|refine And.intro ?_ ?_|(refine zim ?_;intro zb hc)|(refine zin ?_;intro zb)|intro j')
 all_goals try refine zbx ?_
 all_goals try rw[permGo_step (by omega)]at c1_2
 all_goals try exact zaut
 ·rw[c1_2,←show((p.getD k 0).toNat:Int)=p.getD k 0 by omega,←c1_3 _ (by omega) (by omega),hc];simp
 ·focus
   refine q_lp_n ((fun(k:Nat) (seen:List Bool)=>p.length - k) (k+1) (seen.set (p.getD k 0).toNat true)) (dC fL1 ?_) ⟨k+1,seen.set (p.getD k 0).toNat true,dC fL1 ?_⟩
   all_goals try (refine zlf ?_;repeat' first|exact zso|refine And.intro ?_ ?_|(refine zim ?_;intro zb hc)|(refine zin ?_;intro zb)|intro j')
   all_goals try refine zbx ?_
  ·rw[c1_2,decide_eq_true (by omega),decide_eq_true (by omega),←show((p.getD k 0).toNat:Int)=p.getD k 0 by omega,←c1_3 _ (by omega) (by omega),hc];rfl
  ·intro v h1 h2
   rw[contains_take (by omega),←c1_3 v h1 h2,List.getD_eq_getElem?_getD,List.getElem?_set]
   by_cases e:(p.getD k 0).toNat=v
   ·rw[if_pos e,if_pos (by omega),decide_eq_true (by omega)];simp
   ·rw[if_neg e,decide_eq_false (by omega),Bool.or_false,List.getD_eq_getElem?_getD]
 ·rw[c1_2,decide_eq_false (by omega:¬p.getD k 0≤(p.length:Int))];simp
 ·rw[c1_2,decide_eq_false (by omega:¬1≤p.getD k 0)];simp
 ·rw[c1_2,List.drop_of_length_le (by omega)];rfl
 ·intro v h1 h2;rw[List.getD_eq_getElem?_getD,List.getElem?_replicate];split<;>rfl
theorem impl_IsPerm_c {m0:Bool} (p:List Int) (hl:p.length≤1048576):Fun Tryz.prog 48 [(.sl (.lent m0) (List.map (PV.int .i64) (p)))] [(.bool (isPermB p))]:=by
 refine fO sg0 [2] Tryz.func48 ?_
 have cE1:= @impl_isPerm_c
 refine dEa trivial ?_
 all_goals try (refine zlf ?_;repeat' first|exact zso|refine And.intro ?_ ?_|(refine zim ?_;intro zb hc)|(refine zin ?_;intro zb)|intro j')
 all_goals try refine zbx ?_
 ·rw[isPermB,decide_eq_true (by omega),Bool.true_and]
 ·rw[isPermB,decide_eq_false (by omega)];rfl
end Go.Gl
namespace Go.Proofs
open Go.Shelf
def Tryz.lays156_ren:Go.Shelf.Ren:=⟨fun|156=>54|165=>96|166=>97|169=>98|240=>121|241=>122|276=>136|277=>137|n=>n,fun|31=>47|9=>9|3=>3|4=>4|0=>0|20=>20|72=>73|76=>77|70=>71|37=>22|75=>76|127=>95|164=>102|5=>5|80=>79|n=>n,fun|n=>n⟩
theorem Tryz.lays156:Go.Proofs.Lays.n156 Tryz.prog Tryz.lays156_ren:={
 mixed:=by kernel_rfl
 f156:=Tryz.func54.trans (congrArg some (by kernel_rfl))
 f165:=Tryz.func96.trans (congrArg some (by kernel_rfl))
 f166:=Tryz.func97.trans (congrArg some (by kernel_rfl))
 f169:=Tryz.func98.trans (congrArg some (by kernel_rfl))
 f240:=Tryz.func121.trans (congrArg some (by kernel_rfl))
 f241:=Tryz.func122.trans (congrArg some (by kernel_rfl))
 f276:=Tryz.func136.trans (congrArg some (by kernel_rfl))
 f277:=Tryz.func137.trans (congrArg some (by kernel_rfl))
 t0:=Tryz.underlying0
 a0:=Tryz.isAgg0
 z0:=Tryz.sizeOf0
 v0:=Tryz.zeroValue0
 t3:=Tryz.underlying3
 a3:=Tryz.isAgg3
 z3:=Tryz.sizeOf3
 v3:=Tryz.zeroValue3
 t4:=Tryz.underlying4
 a4:=Tryz.isAgg4
 z4:=Tryz.sizeOf4
 v4:=Tryz.zeroValue4
 t9:=Tryz.underlying9
 a9:=Tryz.isAgg9
 z9:=Tryz.sizeOf9
 v9:=Tryz.zeroValue9
 t20:=Tryz.underlying20
 a20:=Tryz.isAgg20
 z20:=Tryz.sizeOf20
 v20:=Tryz.zeroValue20
 t31:=Tryz.underlying47
 a31:=Tryz.isAgg47
 z31:=Tryz.sizeOf47
 v31:=Tryz.zeroValue47
 t37:=Tryz.underlying22
 a37:=Tryz.isAgg22
 z37:=Tryz.sizeOf22
 v37:=Tryz.zeroValue22
 t70:=Tryz.underlying71
 a70:=Tryz.isAgg71
 z70:=Tryz.sizeOf71
 v70:=Tryz.zeroValue71
 t72:=Tryz.underlying73
 a72:=Tryz.isAgg73
 z72:=Tryz.sizeOf73
 v72:=Tryz.zeroValue73
 t75:=Tryz.underlying76
 a75:=Tryz.isAgg76
 z75:=Tryz.sizeOf76
 v75:=Tryz.zeroValue76
 t76:=Tryz.underlying77
 a76:=Tryz.isAgg77
 z76:=Tryz.sizeOf77
 v76:=Tryz.zeroValue77
 t127:=Tryz.underlying95
 a127:=Tryz.isAgg95
 z127:=Tryz.sizeOf95
 v127:=Tryz.zeroValue95
 t164:=Tryz.underlying102
 a164:=Tryz.isAgg102
 z164:=Tryz.sizeOf102
 v164:=Tryz.zeroValue102}
theorem Tryz.Builder_Extra_156:Builder.Extra Tryz.prog Tryz.lays156_ren:={
 sizeBuilder:=by kernel_rfl
 liesBuilder:=by kernel_rfl
 t5:=Tryz.underlying5
 a5:=Tryz.isAgg5
 z5:=Tryz.sizeOf5
 v5:=Tryz.zeroValue5
 infoByte:=by kernel_rfl
 cellsByte:=by kernel_rfl
 sizeByte:=by kernel_rfl
 neB5:=by decide}
open Go.RowKit in
theorem Tryz.strings_Join_none (a:Option Addr) (c:Nat) (sep:ByteArray) (w:World):
  Calls Tryz.prog 54 #[.slice a 0 c,.string sep] w fun e w'=>e=.returned (.string ⟨#[]⟩)∧w'=w:=Any.strings_Join_none Tryz.lays156 Tryz.Builder_Extra_156 a c sep w
open Go.RowKit in
theorem Tryz.strings_Join (bk o c:Nat) (xs:List ByteArray) (sep:ByteArray) (w:World) (hcells:∀(j:Nat) x,xs[j]? =some x→w.cell? ⟨bk,o+j,none⟩=some (.string x)) (hbk:bk<w.heap.size) (hN:xs.length≤140737488355328) (hcap:xs.length≤c) (hlen:(Lib.join (xs.map (·.data.toList)) sep.data.toList).length≤140737488355328):
  Calls Tryz.prog 54 #[.slice (some ⟨bk,o,none⟩) xs.length c,.string sep] w fun e w'=>e=.returned (.string ⟨(Lib.join (xs.map (·.data.toList)) sep.data.toList).toArray⟩)∧Below w.heap.size w w':=Any.strings_Join Tryz.lays156 Tryz.Builder_Extra_156 bk o c xs sep w hcells hbk hN hcap hlen
def Tryz.laysNm215_ren:Go.Shelf.Ren:=⟨fun|15=>85|n=>n,fun|22=>24|3=>3|4=>4|n=>n,fun|n=>n⟩
theorem Tryz.laysNm215:Go.Proofs.Lays2.n15 Tryz.prog Tryz.laysNm215_ren:={
 mixed:=by kernel_rfl
 f15:=Tryz.func85.trans (congrArg some (by kernel_rfl))
 t3:=Tryz.underlying3
 a3:=Tryz.isAgg3
 z3:=Tryz.sizeOf3
 v3:=Tryz.zeroValue3
 t4:=Tryz.underlying4
 a4:=Tryz.isAgg4
 z4:=Tryz.sizeOf4
 v4:=Tryz.zeroValue4
 t22:=Tryz.underlying24
 a22:=Tryz.isAgg24
 z22:=Tryz.sizeOf24
 v22:=Tryz.zeroValue24
 i3:=by kernel_rfl}
open Go.RowKit Go.Lib in
theorem Tryz.slices_Clone_int (b off n c:Nat) (zs:List Int) (w:World) (hz:n≤zs.length) (hbig:n*8≤140737488355328) (hc:∀j,j<zs.length→w.cell? ⟨b,off+j,none⟩=some (.int .i64 (zs.getD j 0))):
  Calls Tryz.prog 85 #[.slice (some ⟨b,off,none⟩) n c] w fun e w'=>∃v',e=.returned v'∧w'.ownsRow w.heap.size 3 1 v' n ((zs.take n).map (Value.int .i64))∧v'≠ .slice none 0 0∧Below w.heap.size w w':=Any.slices_Clone_int Tryz.laysNm215 b off n c zs w hz hbig hc
open Go.RowKit Go.Lib in
theorem Tryz.slices_Clone_int_nil (n c:Nat) (w:World):
  Calls Tryz.prog 85 #[.slice none n c] w fun e w'=>e=.returned (.slice none 0 0)∧w'=w:=Any.slices_Clone_int_nil Tryz.laysNm215 n c w
open Go.RowKit Go.Lib in
theorem Tryz.slices_Clone_int_zero (a:Addr) (c:Nat) (w:World):
  Calls Tryz.prog 85 #[.slice (some a) 0 c] w fun e w'=>∃v',e=.returned v'∧w'.ownsRow w.heap.size 3 1 v' 0 []∧v'≠ .slice none 0 0∧Below w.heap.size w w':=Any.slices_Clone_int_zero Tryz.laysNm215 a c w
def Tryz.laysGrow_ren:Go.Shelf.Ren:=⟨fun|4=>150|n=>n,fun|22=>24|25=>3|3=>3|4=>4|9=>9|20=>20|0=>0|n=>n,fun|n=>n⟩
theorem Tryz.laysGrow:Go.Proofs.Lays8.n4 Tryz.prog Tryz.laysGrow_ren:={
 mixed:=by kernel_rfl
 f4:=⟨Tryz.f150.name,by decide,Tryz.func150.trans (congrArg some (by kernel_rfl))⟩
 t0:=Tryz.underlying0
 a0:=Tryz.isAgg0
 z0:=Tryz.sizeOf0
 v0:=Tryz.zeroValue0
 t3:=Tryz.underlying3
 a3:=Tryz.isAgg3
 z3:=Tryz.sizeOf3
 v3:=Tryz.zeroValue3
 t4:=Tryz.underlying4
 a4:=Tryz.isAgg4
 z4:=Tryz.sizeOf4
 v4:=Tryz.zeroValue4
 t9:=Tryz.underlying9
 a9:=Tryz.isAgg9
 z9:=Tryz.sizeOf9
 v9:=Tryz.zeroValue9
 t20:=Tryz.underlying20
 a20:=Tryz.isAgg20
 z20:=Tryz.sizeOf20
 v20:=Tryz.zeroValue20
 t22:=Tryz.underlying24
 a22:=Tryz.isAgg24
 z22:=Tryz.sizeOf24
 v22:=Tryz.zeroValue24}
open Go.RowKit Go.Lib in
theorem Tryz.slices_Grow_room (base:Option Addr) (l c n:Nat) (w:World) (hlc:l≤c) (hc63:c≤9223372036854775807) (hn63:n≤9223372036854775807) (hroom:l+n≤c):
  Calls Tryz.prog 150 #[.slice base l c,.int .i64 n] w fun e w'=>e=.returned (.slice base l c)∧w'=w:=Any8.slices_Grow_room Tryz.laysGrow base l c n w hlc hc63 hn63 hroom
end Go.Proofs
namespace Go.Gl
open Go Go.Proofs
variable [Amb] [NoQ]
theorem slices_Clone_c {m0:Bool} (l:List Int) (hl:l.length≤1099511627776):
  Fun Tryz.prog 85 [.sl (.lent m0) (List.map (.int .i64) l)] [.sl .own (List.map (.int .i64) l)]:=by
 refine Fun.of_row 3 Tryz.func85 rfl rfl nrL_int (by intro x hx;rw[List.mem_map]at hx;obtain⟨_,_,rfl⟩:=hx;rfl) ?_
 intro w F G vs _ hv
 simp only[RepL]at hv
 obtain⟨a,vs1,rfl,ha,rfl⟩:=hv
 have e1:(l.map (PV.int .i64)).map pvV=l.map (Value.int .i64):=by simp[Function.comp_def,pvV,plV]
 simp only[RepP]at ha
 obtain⟨a,cap,rfl,h1,h2,ho,h3⟩:=ha
 rw[e1,List.length_map]at*
 by_cases hn:a=none
 ·subst hn
  have hl0:l=[]:=by
   rcases h3 with h3|⟨B,off,h3,_⟩
   ·simpa using h3
   ·cases h3
  subst hl0
  exact(Tryz.slices_Clone_int_nil _ _ w).mono fun e w' h=>⟨_,h.1,⟨by simp,.inl ⟨rfl,rfl⟩⟩,h.2▸Go.RowKit.Below.refl _ _⟩
 ·obtain⟨ad,rfl⟩:∃ad,a=some ad:=by cases a with|none=>exact absurd rfl hn|some ad=>exact⟨ad,rfl⟩
  by_cases hl0:l=[]
  ·subst hl0
   exact(Tryz.slices_Clone_int_zero ad cap w).mono fun e w' ⟨v,hv,hr,_,hw⟩=>⟨v,hv,hr,hw⟩
  ·rcases h3 with h3|⟨B,off,h3,_,_,hc⟩
   ·simp at h3;exact absurd h3 hl0
   ·cases h3
    rw[RepC_iff]at hc
    have:=Tryz.slices_Clone_int B off l.length cap l w (Nat.le_refl _) (by omega) (fun j hj=>by
     obtain⟨u,hu,_,hr⟩:=hc j (.int .i64 (l.getD j 0)) (by rw[List.getElem?_map,List.getD_eq_getElem?_getD,List.getElem?_eq_getElem hj];rfl)
     rw[repP_i hr]at hu;exact hu)
    rw[List.take_length]at this
    exact this.mono fun e w' ⟨v,hv,hr,_,hw⟩=>⟨v,hv,hr,hw⟩
def markL (n:Nat) (k:Int):List Int:=(List.range n).map fun i:Nat=>k+(i:Int)
theorem markL_length {n:Nat} {k:Int}:(markL n k).length=n:=by simp[markL]
theorem take_succ_iff {a b:List Int} {k:Nat} (ha:k<a.length) (hb:k<b.length):a.take (k+1)=b.take (k+1)↔a.take k=b.take k∧a.getD k 0=b.getD k 0:=by
 rw[List.take_add_one,List.take_add_one,List.getD_eq_getElem?_getD,List.getD_eq_getElem?_getD,List.getElem?_eq_getElem ha,List.getElem?_eq_getElem hb]
 simp only[Option.toList_some,Option.getD_some]
 constructor
 ·intro h
  have:=List.append_inj h (by simp;omega)
  exact⟨this.1,by simpa using this.2⟩
 ·rintro⟨h1,h2⟩;rw[h1,h2]
theorem take_getD {α:Type} {l:List α} {i:Nat} {d:α} (h:i<l.length):l.take (i+1)=l.take i++[l.getD i d]:=by
 rw[List.take_add_one,List.getD_eq_getElem?_getD,List.getElem?_eq_getElem h];rfl
theorem mk_take {n:Nat} {k:Int}:List.take n (markL n k)=markL n k:=by
 rw[List.take_of_length_le];simp[markL_length]
attribute [go_sem] mk_take markL_length List.not_mem_nil List.mem_cons or_false
theorem dropL_at {α:Type} {l:List (List α)} {i:Nat} (h:i<l.length):l.drop i=l.getD i []::l.drop (i+1):=by
 rw[List.drop_eq_getElem_cons h,List.getD_eq_getElem?_getD,List.getElem?_eq_getElem h];rfl
theorem getD_mem {α:Type} {l:List α} {i:Nat} {d:α} (h:i<l.length):l.getD i d∈l:=by
 rw[List.getD_eq_getElem?_getD,List.getElem?_eq_getElem h];exact List.getElem_mem h
def lackL (p:List Int) (j:Nat):List Int:=((List.range j).map fun i:Nat=>(i:Int)+1).filter fun v=> !p.contains v
theorem lackL_succ {p:List Int} {j:Nat}:lackL p (j+1)=lackL p j++(if p.contains ((j:Int)+1)then[]else[(j:Int)+1]):=by
 simp only[lackL,List.range_succ,List.map_append,List.filter_append,List.map_cons,List.map_nil]
 congr 1
 rw[List.filter_cons]
 cases p.contains ((j:Int)+1)<;>rfl
theorem lackL_len {p:List Int} {j:Nat}:(lackL p j).length≤j:=by
 unfold lackL;exact Nat.le_trans (List.length_filter_le _ _) (by simp)
def extL (p:List Int) (j:Nat):List (List Int):=(lackL p j).map fun v=>p++[v]
theorem extL_succ {p:List Int} {j:Nat}:extL p (j+1)=extL p j++(if p.contains ((j:Int)+1)then[]else[p++[(j:Int)+1]]):=by
 rw[extL,lackL_succ,List.map_append];congr 1
 cases p.contains ((j:Int)+1)<;>simp
theorem extL_len {p:List Int} {j:Nat}:(extL p j).length≤j:=by simpa[extL]using lackL_len
def lvl (n:Nat):Nat→List (List Int)→List (List Int)
 |0,L=>L
 |k+1,L=>lvl n k (L.flatMap fun p=>extL p n)
theorem lvl_app {n:Nat}:∀{k:Nat} {A B:List (List Int)},lvl n k (A++B)=lvl n k A++lvl n k B
 |0,_,_=>rfl
 |k+1,A,B=>by simp only[lvl,List.flatMap_append,lvl_app]
theorem lvl_succ {n:Nat}:∀{k:Nat} {L:List (List Int)},lvl n (k+1) L=(lvl n k L).flatMap fun p=>extL p n
 |0,_=>rfl
 |k+1,L=>by rw[lvl,lvl_succ (k:=k),←lvl]
theorem lvl_nil {n:Nat}:∀{k:Nat},lvl n k []=[]
 |0=>rfl
 |k+1=>by rw[lvl];exact lvl_nil
theorem flat_len {n:Nat}:∀{L:List (List Int)},(L.flatMap fun p=>extL p n).length≤L.length*n
 |[]=>by simp
 |p::L=>by
  have:=flat_len (n:=n) (L:=L)
  have h1:=extL_len (p:=p) (j:=n)
  simp only[List.flatMap_cons,List.length_append,List.length_cons,Nat.succ_mul];omega
theorem lvl_len {n:Nat} (hn:n≤8):∀{k:Nat} {L:List (List Int)},(lvl n k L).length≤L.length*8^k
 |0,L=>by simp[lvl]
 |k+1,L=>by
  rw[lvl,Nat.pow_succ]
  refine Nat.le_trans (lvl_len hn) ?_
  have h1:=flat_len (n:=n) (L:=L)
  have h2:L.length*n≤L.length*8:=Nat.mul_le_mul_left _ hn
  calc _≤(L.length*8)*8^k:=Nat.mul_le_mul_right _ (Nat.le_trans h1 h2)
   _=_:=by rw[Nat.mul_assoc,Nat.mul_comm 8]
theorem lvl_row {n:Nat}:∀{k m:Nat} {L:List (List Int)},(∀l∈L,l.length=m)→∀l∈lvl n k L,l.length=m+k
 |0,m,L,h,l,hl=>by simpa[lvl]using h l hl
 |k+1,m,L,h,l,hl=>by
  rw[lvl]at hl
  have:=lvl_row (k:=k) (m:=m+1) (fun q hq=>by
   simp only[List.mem_flatMap,extL,List.mem_map]at hq
   obtain⟨p,hp,v,_,rfl⟩:=hq
   simp[h p hp]) l hl
  omega
def permL (n:Nat):List (List Int):=lvl n n [[]]
theorem permL_len {n:Nat} (hn:n≤8):(permL n).length≤8^8:=by
 have h1:=lvl_len hn (k:=n) (L:=[[]])
 have h2:8^n≤8^8:=Nat.pow_le_pow_right (by omega) hn
 simp only[permL,List.length_singleton,Nat.one_mul]at h1 ⊢;omega
theorem permL_row {n:Nat}:∀l∈permL n,l.length=n:=fun l hl=>by
 have:=lvl_row (m:=0) (by simp) l hl
 omega
theorem tk1 {α:Type} {l:List α} {x:α}:List.take (l.length+1) (l++[x])=l++[x]:=List.take_of_length_le (by simp)
def sgFl:FuncId→List Bool:=fun f=>if f=126 then[false,false,true]else if f=8589934718 then[false,true]else[]
theorem sgFl_eq {f:FuncId}:sgFl f=if f=126 then[false,false,true]else if f=8589934718 then[false,true]else[]:=_root_.id rfl
theorem way_sgFl:wayE sgFl=false∧wayN sgFl=false∧wayS sgFl=false∧wayZ sgFl=false∧wayM sgFl=false:=⟨rfl,rfl,rfl,rfl,rfl⟩
attribute [go_sem] sgFl_eq way_sgFl
theorem spec_l2Fill_c (n:Nat) (h8:n≤8):∀(d:Nat) (head:List Int) (out:List (List Int)),head.length+d=n→out.length+8^d≤1099511627776→CallT Tryz.prog true 126 [.pv (.int .i64 n),.pv (.sl (.lent false) (List.map (PV.int .i64) head)),.mu false (List.map (elI false) out)] [none,none,none] [.sl .own (List.map (elI false) (out++lvl n d [head]))]:=by
 intro d
 induction d with
 |zero=>
  intro head out hd ho
  refine CallT.of (sg:=sgFl) (ts:=[6]) mo Tryz.func126 rfl rfl rfl rfl (by kernel_rfl) (by simp only[go_sem]) rfl rfl ?_
  have cE1:= @spec_l2Has_c
  refine dTa trivial ?_
  all_goals try (refine zlf ?_;repeat' first|exact zso|refine And.intro ?_ ?_|(refine zim ?_;intro zb hc)|(refine zin ?_;intro zb)|intro j')
  all_goals try refine zbx ?_
  all_goals(rw[List.take_of_length_le (by simp)];rfl)
 |succ d ih=>
  intro head out hd ho
  refine CallT.of (sg:=sgFl) (ts:=[6]) mo Tryz.func126 rfl rfl rfl rfl (by kernel_rfl) (by simp only[go_sem]) rfl rfl ?_
  have cE1:= @spec_l2Has_c
  refine dTa trivial ?_
  all_goals try (refine zlf ?_;repeat' first|exact zso|refine And.intro ?_ ?_|(refine zim ?_;intro zb hc)|(refine zin ?_;intro zb)|intro j')
  all_goals try refine zbx ?_
  refine v_loopB (fun ms1 S1=>∃(v:Nat),S1.e 0=.p (.int .i64 (n))∧S1.e 1=.p (.sl (.lent false) (List.map (PV.int .i64) (head)))∧OwnM (S1.e 2) S1.h S1.n (elI false) ((out++lvl n d (extL head v)).length) (out++lvl n d (extL head v))∧S1.e 7=.p (.int .i64 ((v+1)))∧(v≤n)∧ms1=n - v) ((fun(v:Nat)=>n - v) (0)) ?_ ⟨0,dIa trivial ?_⟩
  all_goals try (refine zlf ?_;repeat' first|exact zso|refine And.intro ?_ ?_|(refine zim ?_;intro zb hc)|(refine zin ?_;intro zb)|intro j')
  all_goals try refine zbx ?_
  rintro ms1 S1 ⟨v,h1_0,h1_1,o1_2,h1_7,c1_0,hm1⟩
  obtain⟨i1_2,mm1_2,h1_2,b1_2,l1_2⟩:=o1_2.out
  have ni1_2:=znds (x:=i1_2) (n:=S1.n)
  have fL1:=(And.intro h1_0 (And.intro h1_1 (And.intro h1_7 (And.intro h1_2 (And.intro b1_2 ni1_2)))))
  have b1:=lvl_len h8 (k:=d) (L:=extL head v)
  have b2:=extL_len (p:=head) (j:=v)
  have b3:(extL head v).length*8^d≤v*8^d:=Nat.mul_le_mul_right _ b2
  have cM1:= @ih
  refine dTa fL1 ?_
  all_goals try (refine zlf ?_;repeat' first|exact zso|refine And.intro ?_ ?_|(refine zim ?_;intro zb hc)|(refine zin ?_;intro zb)|intro j')
  all_goals try refine zbx ?_
  ·have b4:=Nat.mul_le_mul_right (8^d) (show v+1≤8 by omega)
   have b5:8^(d+1)=8*8^d:=by rw[Nat.pow_succ,Nat.mul_comm]
   rw[Nat.succ_mul]at b4
   rw[List.length_append];omega
  ·focus
    refine q_lp_n ((fun(v:Nat)=>n - v) (v+1)) (dC fL1 ?_) ⟨v+1,dC fL1 ?_⟩
    all_goals try (refine zlf ?_;repeat' first|exact zso|refine And.intro ?_ ?_|(refine zim ?_;intro zb hc)|(refine zin ?_;intro zb)|intro j')
    all_goals try refine zbx ?_
   all_goals(rw[extL_succ,hc,if_neg (by decide),lvl_app];try simp only[tk1,List.length_append,List.append_assoc,Nat.add_assoc])
  ·focus
    refine q_lp_n ((fun(v:Nat)=>n - v) (v+1)) (dC fL1 ?_) ⟨v+1,dC fL1 ?_⟩
    all_goals try (refine zlf ?_;repeat' first|exact zso|refine And.intro ?_ ?_|(refine zim ?_;intro zb hc)|(refine zin ?_;intro zb)|intro j')
    all_goals try refine zbx ?_
   all_goals(rw[extL_succ,hc,if_pos rfl,List.append_nil])
  ·obtain rfl:v=n:=by omega
   rw[lvl,List.flatMap_cons,List.flatMap_nil,List.append_nil]
  ·rw[show extL head 0=[]by simp[extL,lackL],lvl_nil,List.append_nil]
  ·rw[show extL head 0=[]by simp[extL,lackL],lvl_nil,List.append_nil]
def permsB (n:Int):List (List Int):=if 0≤n∧n≤6 then permL n.toNat else[]
theorem spec_PermsOf_c (n:Int):Fun Tryz.prog 103 [(.int .i64 (n))] [(.sl .own (List.map (elI false) (permsB n)))]:=by
 have h8:=fun(a:0≤n) (b:n≤6)=>spec_l2Fill_c n.toNat (by omega) n.toNat [] [] (Nat.zero_add _) (by have h2:8^n.toNat≤8^8:=Nat.pow_le_pow_right (by omega) (by omega);simp only[List.length_nil,Nat.zero_add];omega)
 by_cases hn:0≤n∧n≤6
 ·have h9:=h8 hn.1 hn.2
  rw[show((n.toNat:Nat):Int)=n by omega]at h9
  have h10:permsB n=lvl n.toNat n.toNat [[]]:=by rw[permsB,if_pos hn];rfl
  rw[h10]
  simp only[List.map_nil,List.nil_append]at h9
  refine fO sgFl [2] Tryz.func103 ?_
  have cE1:= @spec_l1In_c
  have cM1:= @h9
  refine dEa trivial ?_
  all_goals try (refine zlf ?_;repeat' first|exact zso|refine And.intro ?_ ?_|(refine zim ?_;intro zb hc)|(refine zin ?_;intro zb)|intro j')
  all_goals try refine zbx ?_
 ·have h10:permsB n=[]:=by rw[permsB,if_neg hn]
  rw[h10]
  refine fO sgFl [2] Tryz.func103 ?_
  have cE1:= @spec_l1In_c
  refine dE trivial ?_
  all_goals try (refine zlf ?_;repeat' first|exact zso|refine And.intro ?_ ?_|(refine zim ?_;intro zb hc)|(refine zin ?_;intro zb)|intro j')
  all_goals try refine zbx ?_
  all_goals exact absurd hc hn
def idxG {α:Type} (p:α→Bool):List α→Nat→Int
 |[],_=> -1
 |x::l,i=>if p x then i else idxG p l (i+1)
theorem idxG_any {α:Type} {p:α→Bool}:∀{l:List α} {i:Nat},decide (0≤idxG p l i)=l.any p
 |[],_=>rfl
 |x::l,i=>by
  rw[idxG,List.any_cons]
  split
  ·rename_i h;rw[h,Bool.true_or];exact decide_eq_true (by omega)
  ·rename_i h;rw[idxG_any,Bool.eq_false_iff.2 h,Bool.false_or]
theorem slices_IndexFunc_LLint_int_c {e0 m0:Bool} (l:List (List Int)) (g:FuncId) (caps:List PV) (p:List Int→Bool) (hl:l.length≤1099511627776) (hp:∀x∈l,Fun Tryz.prog g (.sl (.lent e0) (List.map (PV.int .i64) x)::caps.map PV.cell) [.bool (p x)]):Fun Tryz.prog 117 [(.sl (.lent m0) (List.map (elI e0) (l))),(.fn g [] caps)] [(.int .i64 (idxG p l 0))]:=by
 refine fO sg0 [4] Tryz.func117 ?_
 refine dE trivial ?_
 all_goals try (refine zlf ?_;repeat' first|exact zso|refine And.intro ?_ ?_|(refine zim ?_;intro zb hc)|(refine zin ?_;intro zb)|intro j')
 all_goals try refine zbx ?_
 refine v_loopB (fun ms1 S1=>∃(k:Nat),S1.e 0=.p (.sl (.lent m0) (List.map (elI e0) (l)))∧S1.e 1=.p (.fn g [] caps)∧S1.e 7=.p (.int .i64 (l.length))∧S1.e 8=.p (.int .i64 (k))∧(k≤l.length)∧(idxG p l 0=idxG p (l.drop k) k)∧ms1=l.length - k) ((fun(k:Nat)=>l.length - k) (0)) ?_ ⟨0,dIa trivial ?_⟩
 all_goals try (refine zlf ?_;repeat' first|exact zso|refine And.intro ?_ ?_|(refine zim ?_;intro zb hc)|(refine zin ?_;intro zb)|intro j')
 all_goals try refine zbx ?_
 rintro ms1 S1 ⟨k,h1_0,h1_1,h1_7,h1_8,c1_0,c1_1,hm1⟩
 have fL1:=(And.intro h1_0 (And.intro h1_1 (And.intro h1_7 h1_8)))
 have cE1:= @hp
 refine dEa fL1 ?_
 all_goals try (refine zlf ?_;repeat' first|exact zso|refine And.intro ?_ ?_|(refine zim ?_;intro zb hc)|(refine zin ?_;intro zb)|intro j')
 all_goals try refine zbx ?_
 ·exact getD_mem hc
 ·rw[c1_1,dropL_at (by omega),idxG,if_pos hc]
 ·focus
   refine q_lp_n ((fun(k:Nat)=>l.length - k) (k+1)) (dC fL1 ?_) ⟨k+1,dC fL1 ?_⟩
   all_goals try (refine zlf ?_;repeat' first|exact zso|refine And.intro ?_ ?_|(refine zim ?_;intro zb hc)|(refine zin ?_;intro zb)|intro j')
   all_goals try refine zbx ?_
  rw[c1_1,dropL_at (by omega),idxG,if_neg (by rw[hc];decide)]
 ·rw[c1_1,List.drop_of_length_le (by omega),idxG]
theorem slices_ContainsFunc_LLint_int_c {e0 m0:Bool} (l:List (List Int)) (g:FuncId) (caps:List PV) (p:List Int→Bool) (hl:l.length≤1099511627776) (hp:∀x∈l,Fun Tryz.prog g (.sl (.lent e0) (List.map (PV.int .i64) x)::caps.map PV.cell) [.bool (p x)]):Fun Tryz.prog 89 [(.sl (.lent m0) (List.map (elI e0) (l))),(.fn g [] caps)] [(.bool (l.any p))]:=by
 refine fO sg0 [4] Tryz.func89 ?_
 have cE1:= @slices_IndexFunc_LLint_int_c
 have cE1:=(fun m0=>slices_IndexFunc_LLint_int_c (m0:=m0) l g caps p hl hp);have cE2:= @slices_IndexFunc_LLint_int_c
 refine dE trivial ?_
 all_goals try (refine zlf ?_;repeat' first|exact zso|refine And.intro ?_ ?_|(refine zim ?_;intro zb hc)|(refine zin ?_;intro zb)|intro j')
 all_goals try refine zbx ?_
 rw[idxG_any]
def fitK (b:Int) (p q c:List Int) (i:Int) (k:Nat):Bool:=(List.range k).all fun l=>decide (q.getD l 0<q.getD c.length 0)==decide (p.getD (c.getD l 0 - b).toNat 0<p.getD (i - b).toNat 0)
def fitB (b:Int) (p q c:List Int) (i:Int):Bool:=fitK b p q c i c.length
theorem fitK_succ {b:Int} {p q c:List Int} {i:Int} {k:Nat}:fitK b p q c i (k+1)=(fitK b p q c i k&&(decide (q.getD k 0<q.getD c.length 0)==decide (p.getD (c.getD k 0 - b).toNat 0<p.getD (i - b).toNat 0))):=by
 simp[fitK,List.range_succ]
def fromI (b:Int) (c:List Int):Int:=if c.length=0 then b else c.getD (c.length - 1) 0+1
def occ (b:Int) (p q:List Int):Nat→List Int→List (List Int)
 |0,c=>[c]
 |d+1,c=>(List.range ((p.length:Int)+b - fromI b c).toNat).flatMap fun j:Nat=>if fitB b p q c (fromI b c+j)=true then occ b p q d (c++[fromI b c+j])else[]
def occJ (b:Int) (p q:List Int) (d:Nat) (c:List Int) (J:Nat):List (List Int):=
 (List.range J).flatMap fun j:Nat=>if fitB b p q c (fromI b c+j)=true then occ b p q d (c++[fromI b c+j])else[]
theorem occ_J {b:Int} {p q:List Int} {d:Nat} {c:List Int}:occ b p q (d+1) c=occJ b p q d c ((p.length:Int)+b - fromI b c).toNat:=rfl
theorem occJ_succ {b:Int} {p q:List Int} {d:Nat} {c:List Int} {J:Nat}:occJ b p q d c (J+1)=occJ b p q d c J++if fitB b p q c (fromI b c+J)=true then occ b p q d (c++[fromI b c+J])else[]:=by
 simp[occJ,List.range_succ]
theorem from_snoc {b i:Int} {c:List Int}:fromI b (c++[i])=i+1:=by
 rw[fromI,if_neg (by simp)];simp
theorem occ_len {b:Int} {p q:List Int} (hb:0≤b):∀{d:Nat} {c:List Int},b≤fromI b c→(occ b p q d c).length≤p.length^d
 |0,c,_=>by simp[occ]
 |d+1,c,hc=>by
  have key:∀J,(occJ b p q d c J).length≤J*p.length^d:=by
   intro J
   induction J with
   |zero=>simp[occJ]
   |succ J ih=>
    rw[occJ_succ,List.length_append,Nat.succ_mul]
    split
    ·have:=occ_len (q:=q) (p:=p) hb (d:=d) (c:=c++[fromI b c+J]) (by rw[from_snoc];omega)
     omega
    ·simp;omega
  rw[occ_J,Nat.pow_succ,Nat.mul_comm]
  exact Nat.le_trans (key _) (Nat.mul_le_mul_right _ (by omega))
theorem occ_nil {b:Int} {p q:List Int}:∀{d:Nat} {c:List Int},1≤d→(p.length:Int)+b<fromI b c+d→occ b p q d c=[]
 |d+1,c,_,h=>by
  rw[occ,List.flatMap_eq_nil_iff]
  intro j hj
  rw[List.mem_range]at hj
  split
  ·exact occ_nil (by omega) (by rw[from_snoc];omega)
  ·rfl
def hasB (p q:List Int):Bool:= !(occ 0 p q q.length []).isEmpty
theorem fitB_shift {p q c:List Int} {i:Int}:fitB 1 p q (c.map (·+1)) (i+1)=fitB 0 p q c i:=by
 simp only[fitB,fitK,List.length_map]
 rw[Bool.eq_iff_iff,List.all_eq_true,List.all_eq_true]
 refine forall_congr' fun l=>imp_congr_right fun hl=> ?_
 rw[List.mem_range]at hl
 have e1:(c.map (·+1)).getD l 0 - 1=c.getD l 0 - 0:=by
  rw[List.getD_eq_getElem?_getD,List.getElem?_map,List.getD_eq_getElem?_getD,List.getElem?_eq_getElem hl];simp
 rw[e1,show i+1 - 1=i - 0 by omega]
theorem from_shift {c:List Int}:fromI 1 (c.map (·+1))=fromI 0 c+1:=by
 unfold fromI
 rw[List.length_map]
 split
 ·rfl
 ·rename_i h
  rw[List.getD_eq_getElem?_getD,List.getElem?_map,List.getD_eq_getElem?_getD,List.getElem?_eq_getElem (by omega)];simp
theorem occ_shift {p q:List Int}:∀{d:Nat} {c:List Int},occ 1 p q d (c.map (·+1))=(occ 0 p q d c).map (List.map (·+1))
 |0,c=>rfl
 |d+1,c=>by
  rw[occ,occ,from_shift,List.map_flatMap]
  rw[show((p.length:Int)+1 - (fromI 0 c+1))=p.length+0 - fromI 0 c by omega]
  congr 1;funext j
  rw[show fromI 0 c+1+(j:Int)=(fromI 0 c+j)+1 by omega,fitB_shift]
  split
  ·rw[show List.map (·+1) c++[fromI 0 c+(j:Int)+1]=List.map (·+1) (c++[fromI 0 c+(j:Int)])by simp,occ_shift]
  ·rfl
theorem fitK_mono {b:Int} {p q c:List Int} {i:Int} {k n:Nat} (hk:k≤n) (h:fitK b p q c i k=false):fitK b p q c i n=false:=by
 induction hk with
 |refl=>exact h
 |step _ ih=>rw[fitK_succ,ih];rfl
theorem spec_l7Fits_c {m0 m1 m2:Bool} (p q c:List Int) (i:Int) (hq:q.length≤8) (hp:p.length≤8) (hc0:c.length<q.length) (hx:∀x∈c,1≤x∧x≤p.length) (hi:1≤i∧i≤p.length):Fun Tryz.prog 147 [(.sl (.lent m0) (List.map (PV.int .i64) (p))),(.sl (.lent m1) (List.map (PV.int .i64) (q))),(.sl (.lent m2) (List.map (PV.int .i64) ((c++[i]))))] [(.bool (fitB 1 p q c i))]:=by
 refine fO sg0 [6] Tryz.func147 ?_
 have e1:(c++[i]).getD c.length 0=i:=by simp
 refine dEa trivial ?_
 all_goals try (refine zlf ?_;repeat' first|exact zso|refine And.intro ?_ ?_|(refine zim ?_;intro zb hc)|(refine zin ?_;intro zb)|intro j')
 all_goals try refine zbx ?_
 refine v_loopB (fun ms1 S1=>∃(k:Nat),S1.e 0=.p (.sl (.lent m0) (List.map (PV.int .i64) (p)))∧S1.e 1=.p (.sl (.lent m1) (List.map (PV.int .i64) (q)))∧S1.e 2=.p (.sl (.lent m2) (List.map (PV.int .i64) ((c++[i]))))∧S1.e 7=.p (.int .i64 (c.length))∧S1.e 8=.p (.int .i64 (k))∧(k≤c.length)∧(fitK 1 p q c i k=true)∧ms1=c.length - k) ((fun(k:Nat)=>c.length - k) (0)) ?_ ⟨0,dC trivial ?_⟩
 all_goals try (refine zlf ?_;repeat' first|exact zso|refine And.intro ?_ ?_|(refine zim ?_;intro zb hc)|(refine zin ?_;intro zb)|intro j')
 all_goals try refine zbx ?_
 rintro ms1 S1 ⟨k,h1_0,h1_1,h1_2,h1_7,h1_8,c1_0,c1_1,hm1⟩
 have fL1:=(And.intro h1_0 (And.intro h1_1 (And.intro h1_2 (And.intro h1_7 h1_8))))
 by_cases hk:k<c.length
 ·have e2:(c++[i]).getD k 0=c.getD k 0:=by simp[List.getD_eq_getElem?_getD,List.getElem?_append_left hk]
  have e3:=hx _ (getD_mem (d:=0) hk)
  refine dEa (And.intro fL1 (And.intro @e1 @e2)) ?_
  all_goals try (refine zlf ?_;repeat' first|exact zso|refine And.intro ?_ ?_|(refine zim ?_;intro zb hc)|(refine zin ?_;intro zb)|intro j')
  all_goals try refine zbx ?_
  ·exact(fitK_mono (k:=k+1) (by omega) (by rw[fitK_succ,c1_1,Bool.true_and];simpa using hc)).symm
  ·focus
    refine q_lp_n ((fun(k:Nat)=>c.length - k) (k+1)) (dC fL1 ?_) ⟨k+1,dC fL1 ?_⟩
    all_goals try (refine zlf ?_;repeat' first|exact zso|refine And.intro ?_ ?_|(refine zim ?_;intro zb hc)|(refine zin ?_;intro zb)|intro j')
    all_goals try refine zbx ?_
   rw[fitK_succ,c1_1,Bool.true_and,beq_iff_eq];simpa using hc
 ·refine dEa (And.intro fL1 @e1) ?_
  all_goals try (refine zlf ?_;repeat' first|exact zso|refine And.intro ?_ ?_|(refine zim ?_;intro zb hc)|(refine zin ?_;intro zb)|intro j')
  all_goals try refine zbx ?_
  obtain rfl:k=c.length:=by omega
  exact c1_1.symm
def sgFd:FuncId→List Bool:=fun f=>if f=140 then[false,false,false,true]else if f=8589934732 then[false,false,true]else[]
theorem sgFd_eq {f:FuncId}:sgFd f=if f=140 then[false,false,false,true]else if f=8589934732 then[false,false,true]else[]:=_root_.id rfl
theorem way_sgFd:wayE sgFd=false∧wayN sgFd=false∧wayS sgFd=false∧wayZ sgFd=false∧wayM sgFd=false:=⟨rfl,rfl,rfl,rfl,rfl⟩
attribute [go_sem] sgFd_eq way_sgFd
set_option maxHeartbeats 1000000 in
theorem spec_l7Find_c {m0 m1:Bool} (p q:List Int) (hp:p.length≤8) (hq:q.length≤8):∀(d:Nat) (h:List Int) (out:List (List Int)),h.length+d=q.length→(∀x∈h,1≤x∧x≤p.length)→out.length+8^d≤1099511627776→
  CallT Tryz.prog true 140 [.pv (.sl (.lent m0) (List.map (PV.int .i64) p)),.pv (.sl (.lent m1) (List.map (PV.int .i64) q)),.pv (.sl (.lent false) (List.map (PV.int .i64) h)),.mu false (List.map (elI false) out)] [none,none,none,none] [.sl .own (List.map (elI false) (out++occ 1 p q d h))]:=by
 intro d
 induction d with
 |zero=>
  intro h out hd hx ho
  refine CallT.of (sg:=sgFd) (ts:=[8]) mo Tryz.func140 rfl rfl rfl rfl (by kernel_rfl) (by simp only[go_sem]) rfl rfl ?_
  have cE1:= @spec_l7Fits_c
  refine dTa trivial ?_
  all_goals try (refine zlf ?_;repeat' first|exact zso|refine And.intro ?_ ?_|(refine zim ?_;intro zb hc)|(refine zin ?_;intro zb)|intro j')
  all_goals try refine zbx ?_
  all_goals(rw[tk1];rfl)
 |succ d ih=>
  intro h out hd hx ho
  have f0:1≤fromI 1 h∧fromI 1 h≤p.length+1:=by
   unfold fromI
   split
   ·omega
   ·have:=hx _ (getD_mem (d:=0) (show h.length - 1<h.length by omega));omega
  refine CallT.of (sg:=sgFd) (ts:=[8]) mo Tryz.func140 rfl rfl rfl rfl (by kernel_rfl) (by simp only[go_sem]) rfl rfl ?_
  have cE1:= @spec_l7Fits_c
  have lenJ:∀J:Nat,(J:Int)≤p.length+1 - fromI 1 h→(occJ 1 p q d h J).length≤J*8^d:=by
   intro J
   induction J with
   |zero=>intro _;simp[occJ]
   |succ J ihJ=>
    intro hJ
    have h1:=ihJ (by omega)
    have h2:(if fitB 1 p q h (fromI 1 h+J)=true then occ 1 p q d (h++[fromI 1 h+J])else[]).length≤8^d:=by
     split
     ·exact Nat.le_trans (occ_len (by decide) (by rw[from_snoc];omega)) (Nat.pow_le_pow_left hp d)
     ·exact Nat.zero_le _
    rw[occJ_succ,List.length_append,Nat.succ_mul]
    exact Nat.add_le_add h1 h2
  by_cases hn:h.length=0
  ·have f1:fromI 1 h=1:=if_pos hn
   refine dTa @hn ?_
   all_goals try (refine zlf ?_;repeat' first|exact zso|refine And.intro ?_ ?_|(refine zim ?_;intro zb hc)|(refine zin ?_;intro zb)|intro j')
   all_goals try refine zbx ?_
   refine v_loopB (fun ms1 S1=>∃(J:Nat),S1.e 0=.p (.sl (.lent m0) (List.map (PV.int .i64) (p)))∧S1.e 1=.p (.sl (.lent m1) (List.map (PV.int .i64) (q)))∧S1.e 2=.p (.sl (.lent false) (List.map (PV.int .i64) (h)))∧OwnM (S1.e 3) S1.h S1.n (elI false) ((out++occJ 1 p q d h J).length) (out++occJ 1 p q d h J)∧S1.e 10=.p (.int .i64 ((fromI 1 h+J)))∧((J:Int)≤p.length+1 - fromI 1 h)∧ms1=p.length+1 - J) ((fun(J:Nat)=>p.length+1 - J) (0)) ?_ ⟨0,dC trivial ?_⟩
   all_goals try (refine zlf ?_;repeat' first|exact zso|refine And.intro ?_ ?_|(refine zim ?_;intro zb hc)|(refine zin ?_;intro zb)|intro j')
   all_goals try refine zbx ?_
   rintro ms1 S1 ⟨J,h1_0,h1_1,h1_2,o1_3,h1_10,c1_0,hm1⟩
   obtain⟨i1_3,mm1_3,h1_3,b1_3,l1_3⟩:=o1_3.out
   have ni1_3:=znds (x:=i1_3) (n:=S1.n)
   have fL1:=(And.intro h1_0 (And.intro h1_1 (And.intro h1_2 (And.intro h1_10 (And.intro h1_3 (And.intro b1_3 ni1_3))))))
   have b1:=lenJ J (by omega)
   by_cases hJ:fromI 1 h+J≤p.length
   ·have cM1:= @ih
    refine dTa (And.intro fL1 @tk1) ?_
    all_goals try (refine zlf ?_;repeat' first|exact zso|refine And.intro ?_ ?_|(refine zim ?_;intro zb hc)|(refine zin ?_;intro zb)|intro j')
    all_goals try refine zbx ?_
    ·intro x hx'
     rcases List.mem_append.1 hx' with hx'|hx'
     ·exact hx x hx'
     ·simp at hx';subst hx';omega
    ·have h8:J+1≤8:=by omega
     have h9:=Nat.mul_le_mul_right (8^d) h8
     have h10:8^(d+1)=8*8^d:=by rw[Nat.pow_succ,Nat.mul_comm]
     rw[Nat.succ_mul]at h9
     rw[List.length_append];omega
    ·focus
      refine q_lp_n ((fun(J:Nat)=>p.length+1 - J) (J+1)) (dC fL1 ?_) ⟨J+1,dC fL1 ?_⟩
      all_goals try (refine zlf ?_;repeat' first|exact zso|refine And.intro ?_ ?_|(refine zim ?_;intro zb hc)|(refine zin ?_;intro zb)|intro j')
      all_goals try refine zbx ?_
     all_goals(rw[occJ_succ,if_pos hc];try simp only[List.length_append,List.append_assoc,Nat.add_assoc])
    ·focus
      refine q_lp_n ((fun(J:Nat)=>p.length+1 - J) (J+1)) (dC fL1 ?_) ⟨J+1,dC fL1 ?_⟩
      all_goals try (refine zlf ?_;repeat' first|exact zso|refine And.intro ?_ ?_|(refine zim ?_;intro zb hc)|(refine zin ?_;intro zb)|intro j')
      all_goals try refine zbx ?_
     all_goals(rw[occJ_succ,if_neg (by rw[hc];decide),List.append_nil])
   ·refine dTa fL1 ?_
    all_goals try (refine zlf ?_;repeat' first|exact zso|refine And.intro ?_ ?_|(refine zim ?_;intro zb hc)|(refine zin ?_;intro zb)|intro j')
    all_goals try refine zbx ?_
    rw[occ_J,show((p.length:Int)+1 - fromI 1 h).toNat=J by omega]
   ·simp[occJ]
   ·simp[occJ]
  ·skip
   have f1:fromI 1 h=h.getD (h.length - 1) 0+1:=if_neg hn
   have f2:((h.length:Int) - 1).toNat=h.length - 1:=by omega
   have g1:=hx _ (getD_mem (d:=0) (show h.length - 1<h.length by omega))
   have cM1:=trivial
   refine dTa @f2 ?_
   all_goals try (refine zlf ?_;repeat' first|exact zso|refine And.intro ?_ ?_|(refine zim ?_;intro zb hc)|(refine zin ?_;intro zb)|intro j')
   all_goals try refine zbx ?_
   refine v_loopB (fun ms2 S2=>∃(J:Nat),S2.e 0=.p (.sl (.lent m0) (List.map (PV.int .i64) (p)))∧S2.e 1=.p (.sl (.lent m1) (List.map (PV.int .i64) (q)))∧S2.e 2=.p (.sl (.lent false) (List.map (PV.int .i64) (h)))∧OwnM (S2.e 3) S2.h S2.n (elI false) ((out++occJ 1 p q d h J).length) (out++occJ 1 p q d h J)∧S2.e 10=.p (.int .i64 ((fromI 1 h+J)))∧((J:Int)≤p.length+1 - fromI 1 h)∧ms2=p.length+1 - J) ((fun(J:Nat)=>p.length+1 - J) (0)) ?_ ⟨0,dC trivial ?_⟩
   all_goals try (refine zlf ?_;repeat' first|exact zso|refine And.intro ?_ ?_|(refine zim ?_;intro zb hc)|(refine zin ?_;intro zb)|intro j')
   all_goals try refine zbx ?_
   rintro ms2 S2 ⟨J,h2_0,h2_1,h2_2,o2_3,h2_10,c2_0,hm2⟩
   obtain⟨i2_3,mm2_3,h2_3,b2_3,l2_3⟩:=o2_3.out
   have ni2_3:=znds (x:=i2_3) (n:=S2.n)
   have fL2:=(And.intro h2_0 (And.intro h2_1 (And.intro h2_2 (And.intro h2_10 (And.intro h2_3 (And.intro b2_3 ni2_3))))))
   have b1:=lenJ J (by omega)
   by_cases hJ:fromI 1 h+J≤p.length
   ·have cM1:= @ih
    refine dTa (And.intro fL2 @tk1) ?_
    all_goals try (refine zlf ?_;repeat' first|exact zso|refine And.intro ?_ ?_|(refine zim ?_;intro zb hc)|(refine zin ?_;intro zb)|intro j')
    all_goals try refine zbx ?_
    ·intro x hx'
     rcases List.mem_append.1 hx' with hx'|hx'
     ·exact hx x hx'
     ·simp at hx';subst hx';omega
    ·have h8:J+1≤8:=by omega
     have h9:=Nat.mul_le_mul_right (8^d) h8
     have h10:8^(d+1)=8*8^d:=by rw[Nat.pow_succ,Nat.mul_comm]
     rw[Nat.succ_mul]at h9
     rw[List.length_append];omega
    ·focus
      refine q_lp_n ((fun(J:Nat)=>p.length+1 - J) (J+1)) (dC fL2 ?_) ⟨J+1,dC fL2 ?_⟩
      all_goals try (refine zlf ?_;repeat' first|exact zso|refine And.intro ?_ ?_|(refine zim ?_;intro zb hc)|(refine zin ?_;intro zb)|intro j')
      all_goals try refine zbx ?_
     all_goals(rw[occJ_succ,if_pos hc];try simp only[List.length_append,List.append_assoc,Nat.add_assoc])
    ·focus
      refine q_lp_n ((fun(J:Nat)=>p.length+1 - J) (J+1)) (dC fL2 ?_) ⟨J+1,dC fL2 ?_⟩
      all_goals try (refine zlf ?_;repeat' first|exact zso|refine And.intro ?_ ?_|(refine zim ?_;intro zb hc)|(refine zin ?_;intro zb)|intro j')
      all_goals try refine zbx ?_
     all_goals(rw[occJ_succ,if_neg (by rw[hc];decide),List.append_nil])
   ·have cM1:= @ih
    refine dTa fL2 ?_
    all_goals try (refine zlf ?_;repeat' first|exact zso|refine And.intro ?_ ?_|(refine zim ?_;intro zb hc)|(refine zin ?_;intro zb)|intro j')
    all_goals try refine zbx ?_
    rw[occ_J,show((p.length:Int)+1 - fromI 1 h).toNat=J by omega]
   ·simp[occJ]
   ·simp[occJ]
theorem occ_emp {p q:List Int} {d:Nat} {c:List Int}:(occ 1 p q d (c.map (·+1))).length=(occ 0 p q d c).length:=by rw[occ_shift,List.length_map]
theorem has_dec {p q:List Int}:decide (0<((occ 1 p q q.length []).length:Int))=hasB p q:=by
 have:=occ_emp (p:=p) (q:=q) (d:=q.length) (c:=[])
 rw[List.map_nil]at this
 rw[this,hasB]
 cases occ 0 p q q.length []with
 |nil=>rfl
 |cons x l=>simp
theorem spec_l7Has_c {m0 m1:Bool} (p q:List Int) (hp:p.length≤8) (hq:q.length≤8):Fun Tryz.prog 131 [(.sl (.lent m0) (List.map (PV.int .i64) (p))),(.sl (.lent m1) (List.map (PV.int .i64) (q)))] [(.bool (hasB p q))]:=by
 refine fO sgFd [4] Tryz.func131 ?_
 have h9:=spec_l7Find_c (m0:=m0) (m1:=m1) p q hp hq q.length [] [] (Nat.zero_add _) (by simp) (by have h2:8^q.length≤8^8:=Nat.pow_le_pow_right (by omega) (by omega);simp only[List.length_nil,Nat.zero_add];omega)
 simp only[List.map_nil,List.nil_append]at h9
 have cM1:= @h9
 refine dEa trivial ?_
 all_goals try (refine zlf ?_;repeat' first|exact zso|refine And.intro ?_ ?_|(refine zim ?_;intro zb hc)|(refine zin ?_;intro zb)|intro j')
 all_goals try refine zbx ?_
 exact has_dec
theorem occ_end {b:Int} {p q:List Int} {d:Nat} {c:List Int} {J:Nat} (h1:occJ b p q d c J=[]) (h2:∀j:Nat,J≤j→(j:Int)<p.length+b - fromI b c→occ b p q d (c++[fromI b c+j])=[]):occ b p q (d+1) c=[]:=by
 rw[occ,List.flatMap_eq_nil_iff]
 intro j hj
 rw[List.mem_range]at hj
 by_cases hJ:j<J
 ·rw[occJ,List.flatMap_eq_nil_iff]at h1
  exact h1 j (List.mem_range.2 hJ)
 ·rw[h2 j (by omega) (by omega)];split<;>rfl
theorem occ_hit {b:Int} {p q:List Int} {d:Nat} {c:List Int} {J:Nat} (hj:(J:Int)<p.length+b - fromI b c) (h1:fitB b p q c (fromI b c+J)=true) (h2:occ b p q d (c++[fromI b c+J])≠[]):occ b p q (d+1) c≠[]:=by
 intro h
 rw[occ,List.flatMap_eq_nil_iff]at h
 have:=h J (List.mem_range.2 (by omega))
 rw[if_pos h1]at this
 exact h2 this
set_option maxHeartbeats 1000000 in
theorem impl_has_c {m0 m1:Bool} (p q:List Int) (hp:p.length≤8) (hq:q.length≤8):∀(d:Nat) {m2:Bool} (c:List Int),c.length+d=q.length→(∀x∈c,0≤x∧x<p.length)→
  Fun Tryz.prog 82 [.sl (.lent m0) (List.map (PV.int .i64) p),.sl (.lent m1) (List.map (PV.int .i64) q),.sl (.lent m2) (List.map (PV.int .i64) c)] [.bool (!(occ 0 p q d c).isEmpty)]:=by
 intro d
 induction d with
 |zero=>
  intro m2 c hd hx
  refine fO sg0 [6] Tryz.func82 ?_
  have cE1:= @slices_Clone_c
  refine dEa trivial ?_
  all_goals try (refine zlf ?_;repeat' first|exact zso|refine And.intro ?_ ?_|(refine zim ?_;intro zb hc)|(refine zin ?_;intro zb)|intro j')
  all_goals try refine zbx ?_
  rfl
 |succ d ih=>
  intro m2 c hd hx
  have f0:0≤fromI 0 c∧fromI 0 c≤p.length:=by
   unfold fromI
   split
   ·omega
   ·have:=hx _ (getD_mem (d:=0) (show c.length - 1<c.length by omega));omega
  by_cases hn:c.length=0
  ·have f1:fromI 0 c=0:=if_pos hn
   refine fO sg0 [6] Tryz.func82 ?_
   have cE1:= @slices_Clone_c
   refine dEa @hn ?_
   all_goals try (refine zlf ?_;repeat' first|exact zso|refine And.intro ?_ ?_|(refine zim ?_;intro zb hc)|(refine zin ?_;intro zb)|intro j')
   all_goals try refine zbx ?_
   refine v_loopB (fun ms1 S1=>∃(J:Nat),S1.e 0=.p (.sl (.lent m0) (List.map (PV.int .i64) (p)))∧S1.e 1=.p (.sl (.lent m1) (List.map (PV.int .i64) (q)))∧S1.e 2=.p (.sl (.lent m2) (List.map (PV.int .i64) (c)))∧S1.e 8=.p (.int .i64 (c.length))∧S1.e 9=.p (.int .i64 ((fromI 0 c+J)))∧((J:Int)≤p.length - fromI 0 c)∧(occJ 0 p q d c J=[])∧ms1=p.length - J) ((fun(J:Nat)=>p.length - J) (0)) ?_ ⟨0,dIa trivial ?_⟩
   all_goals try (refine zlf ?_;repeat' first|exact zso|refine And.intro ?_ ?_|(refine zim ?_;intro zb hc)|(refine zin ?_;intro zb)|intro j')
   all_goals try refine zbx ?_
   rintro ms1 S1 ⟨J,h1_0,h1_1,h1_2,h1_8,h1_9,c1_0,c1_1,hm1⟩
   have fL1:=(And.intro h1_0 (And.intro h1_1 (And.intro h1_2 (And.intro h1_8 h1_9))))
   refine dEa fL1 ?_
   all_goals try (refine zlf ?_;repeat' first|exact zso|refine And.intro ?_ ?_|(refine zim ?_;intro zb hc)|(refine zin ?_;intro zb)|intro j')
   all_goals try refine zbx ?_
   ·refine v_loopB (fun ms2 S2=>∃(k:Nat),S2.e 0=.p (.sl (.lent m0) (List.map (PV.int .i64) (p)))∧S2.e 1=.p (.sl (.lent m1) (List.map (PV.int .i64) (q)))∧S2.e 2=.p (.sl (.lent m2) (List.map (PV.int .i64) (c)))∧S2.e 8=.p (.int .i64 (c.length))∧S2.e 9=.p (.int .i64 ((fromI 0 c+J)))∧S2.e 10=.p (.bool (fitK 0 p q c (fromI 0 c+J) k))∧S2.e 42=.p (.sl (.lent m2) (List.map (PV.int .i64) (c)))∧S2.e 43=.p (.int .i64 (c.length))∧S2.e 44=.p (.int .i64 (k))∧(k≤c.length)∧((J:Int)≤p.length - fromI 0 c - (d+1))∧S1.n≤S2.n∧ms2=c.length - k) ((fun(k:Nat)=>c.length - k) (0)) ?_ ⟨0,dC fL1 ?_⟩
    all_goals try (refine zlf ?_;repeat' first|exact zso|refine And.intro ?_ ?_|(refine zim ?_;intro zb hc)|(refine zin ?_;intro zb)|intro j')
    all_goals try refine zbx ?_
    rintro ms2 S2 ⟨k,h2_0,h2_1,h2_2,h2_8,h2_9,h2_10,h2_42,h2_43,h2_44,c2_0,c2_1,u2_0,hm2⟩
    have fL2:=(And.intro h2_0 (And.intro h2_1 (And.intro h2_2 (And.intro h2_8 (And.intro h2_9 (And.intro h2_10 (And.intro h2_42 (And.intro h2_43 h2_44))))))))
    by_cases hk:k<c.length
    ·omega
    ·have g4:k=c.length:=by omega
     have ih1:=fun(m:Bool)=>ih (m2:=m) (c++[fromI 0 c+J]) (by simp;omega) (by
      intro x hx'
      rcases List.mem_append.1 hx' with hx'|hx'
      ·exact hx x hx'
      ·simp at hx';subst hx';omega)
     have cE1:= @ih1;have cE2:= @slices_Clone_c
     refine dEa (And.intro fL2 @tk1) ?_
     all_goals try (refine zlf ?_;repeat' first|exact zso|refine And.intro ?_ ?_|(refine zim ?_;intro zb hc)|(refine zin ?_;intro zb)|intro j')
     all_goals try refine zbx ?_
     ·subst g4
      have o1:=occ_hit (b:=0) (p:=p) (q:=q) (d:=d) (c:=c) (J:=J) (by omega) zb.1 (fun e=>by rw[e]at hc;cases hc)
      cases ho:occ 0 p q (d+1) c with
      |nil=>exact absurd ho o1
      |cons _ _=>rfl
     ·focus
       refine q_lp_n ((fun(J:Nat)=>p.length - J) (J+1)) (dC fL2 ?_) ⟨J+1,dC fL2 ?_⟩
       all_goals try (refine zlf ?_;repeat' first|exact zso|refine And.intro ?_ ?_|(refine zim ?_;intro zb hc)|(refine zin ?_;intro zb)|intro j')
       all_goals try refine zbx ?_
      have o2:occ 0 p q d (c++[fromI 0 c+J])=[]:=by simpa using hc
      rw[occJ_succ,c1_1,o2];split<;>rfl
     ·focus
       refine q_lp_n ((fun(J:Nat)=>p.length - J) (J+1)) (dC fL2 ?_) ⟨J+1,dC fL2 ?_⟩
       all_goals try (refine zlf ?_;repeat' first|exact zso|refine And.intro ?_ ?_|(refine zim ?_;intro zb hc)|(refine zin ?_;intro zb)|intro j')
       all_goals try refine zbx ?_
      subst g4
      rw[occJ_succ,c1_1,if_neg (by rw[fitB,hc];decide)];rfl
   ·have o3:occ 0 p q (d+1) c=[]:=occ_end c1_1 fun j hj hj2=>by
     by_cases h0:d=0
     ·omega
     ·exact occ_nil (by omega) (by rw[from_snoc];omega)
    rw[o3];rfl
  ·skip
   have f1:fromI 0 c=c.getD (c.length - 1) 0+1:=if_neg hn
   have f2:((c.length:Int) - 1).toNat=c.length - 1:=by omega
   have g1:=hx _ (getD_mem (d:=0) (show c.length - 1<c.length by omega))
   refine fO sg0 [6] Tryz.func82 ?_
   have cE1:= @slices_Clone_c
   refine dEa @f2 ?_
   all_goals try (refine zlf ?_;repeat' first|exact zso|refine And.intro ?_ ?_|(refine zim ?_;intro zb hc)|(refine zin ?_;intro zb)|intro j')
   all_goals try refine zbx ?_
   refine v_loopB (fun ms3 S3=>∃(J:Nat),S3.e 0=.p (.sl (.lent m0) (List.map (PV.int .i64) (p)))∧S3.e 1=.p (.sl (.lent m1) (List.map (PV.int .i64) (q)))∧S3.e 2=.p (.sl (.lent m2) (List.map (PV.int .i64) (c)))∧S3.e 8=.p (.int .i64 (c.length))∧S3.e 9=.p (.int .i64 ((fromI 0 c+J)))∧((J:Int)≤p.length - fromI 0 c)∧(occJ 0 p q d c J=[])∧ms3=p.length - J) ((fun(J:Nat)=>p.length - J) (0)) ?_ ⟨0,dIa trivial ?_⟩
   all_goals try (refine zlf ?_;repeat' first|exact zso|refine And.intro ?_ ?_|(refine zim ?_;intro zb hc)|(refine zin ?_;intro zb)|intro j')
   all_goals try refine zbx ?_
   rintro ms3 S3 ⟨J,h3_0,h3_1,h3_2,h3_8,h3_9,c3_0,c3_1,hm3⟩
   have fL3:=(And.intro h3_0 (And.intro h3_1 (And.intro h3_2 (And.intro h3_8 h3_9))))
   refine dEa fL3 ?_
   all_goals try (refine zlf ?_;repeat' first|exact zso|refine And.intro ?_ ?_|(refine zim ?_;intro zb hc)|(refine zin ?_;intro zb)|intro j')
   all_goals try refine zbx ?_
   ·refine v_loopB (fun ms4 S4=>∃(k:Nat),S4.e 0=.p (.sl (.lent m0) (List.map (PV.int .i64) (p)))∧S4.e 1=.p (.sl (.lent m1) (List.map (PV.int .i64) (q)))∧S4.e 2=.p (.sl (.lent m2) (List.map (PV.int .i64) (c)))∧S4.e 8=.p (.int .i64 (c.length))∧S4.e 9=.p (.int .i64 ((fromI 0 c+J)))∧S4.e 10=.p (.bool (fitK 0 p q c (fromI 0 c+J) k))∧S4.e 42=.p (.sl (.lent m2) (List.map (PV.int .i64) (c)))∧S4.e 43=.p (.int .i64 (c.length))∧S4.e 44=.p (.int .i64 (k))∧(k≤c.length)∧((J:Int)≤p.length - fromI 0 c - (d+1))∧S3.n≤S4.n∧ms4=c.length - k) ((fun(k:Nat)=>c.length - k) (0)) ?_ ⟨0,dC fL3 ?_⟩
    all_goals try (refine zlf ?_;repeat' first|exact zso|refine And.intro ?_ ?_|(refine zim ?_;intro zb hc)|(refine zin ?_;intro zb)|intro j')
    all_goals try refine zbx ?_
    rintro ms4 S4 ⟨k,h4_0,h4_1,h4_2,h4_8,h4_9,h4_10,h4_42,h4_43,h4_44,c4_0,c4_1,u4_0,hm4⟩
    have fL4:=(And.intro h4_0 (And.intro h4_1 (And.intro h4_2 (And.intro h4_8 (And.intro h4_9 (And.intro h4_10 (And.intro h4_42 (And.intro h4_43 h4_44))))))))
    by_cases hk:k<c.length
    ·have g2:=hx _ (getD_mem (d:=0) hk)
     have g3:(decide (p.getD (c.getD k 0).toNat 0<p.getD (fromI 0 c+J).toNat 0)==decide (q.getD k 0<q.getD c.length 0))=(decide (q.getD k 0<q.getD c.length 0)==decide (p.getD (c.getD k 0 - 0).toNat 0<p.getD (fromI 0 c+J - 0).toNat 0)):=by
      rw[Int.sub_zero,Int.sub_zero,Bool.eq_iff_iff,beq_iff_eq,beq_iff_eq];exact eq_comm
     refine dEa fL4 ?_
     all_goals try (refine zlf ?_;repeat' first|exact zso|refine And.intro ?_ ?_|(refine zim ?_;intro zb hc)|(refine zin ?_;intro zb)|intro j')
     all_goals try refine zbx ?_
     ·focus
       refine q_lp_n ((fun(k:Nat)=>c.length - k) (k+1)) (dC fL4 ?_) ⟨k+1,dC fL4 ?_⟩
       all_goals try (refine zlf ?_;repeat' first|exact zso|refine And.intro ?_ ?_|(refine zim ?_;intro zb hc)|(refine zin ?_;intro zb)|intro j')
       all_goals try refine zbx ?_
      rw[fitK_succ,hc,Bool.true_and];exact g3
     ·focus
       refine q_lp_n ((fun(k:Nat)=>c.length - k) (k+1)) (dC fL4 ?_) ⟨k+1,dC fL4 ?_⟩
       all_goals try (refine zlf ?_;repeat' first|exact zso|refine And.intro ?_ ?_|(refine zim ?_;intro zb hc)|(refine zin ?_;intro zb)|intro j')
       all_goals try refine zbx ?_
      rw[fitK_succ,hc];rfl
    ·have g4:k=c.length:=by omega
     have ih1:=fun(m:Bool)=>ih (m2:=m) (c++[fromI 0 c+J]) (by simp;omega) (by
      intro x hx'
      rcases List.mem_append.1 hx' with hx'|hx'
      ·exact hx x hx'
      ·simp at hx';subst hx';omega)
     have cE1:= @ih1;have cE2:= @slices_Clone_c
     refine dEa (And.intro fL4 @tk1) ?_
     all_goals try (refine zlf ?_;repeat' first|exact zso|refine And.intro ?_ ?_|(refine zim ?_;intro zb hc)|(refine zin ?_;intro zb)|intro j')
     all_goals try refine zbx ?_
     ·subst g4
      have o1:=occ_hit (b:=0) (p:=p) (q:=q) (d:=d) (c:=c) (J:=J) (by omega) zb.1 (fun e=>by rw[e]at hc;cases hc)
      cases ho:occ 0 p q (d+1) c with
      |nil=>exact absurd ho o1
      |cons _ _=>rfl
     ·focus
       refine q_lp_n ((fun(J:Nat)=>p.length - J) (J+1)) (dC fL4 ?_) ⟨J+1,dC fL4 ?_⟩
       all_goals try (refine zlf ?_;repeat' first|exact zso|refine And.intro ?_ ?_|(refine zim ?_;intro zb hc)|(refine zin ?_;intro zb)|intro j')
       all_goals try refine zbx ?_
      have o2:occ 0 p q d (c++[fromI 0 c+J])=[]:=by simpa using hc
      rw[occJ_succ,c3_1,o2];split<;>rfl
     ·focus
       refine q_lp_n ((fun(J:Nat)=>p.length - J) (J+1)) (dC fL4 ?_) ⟨J+1,dC fL4 ?_⟩
       all_goals try (refine zlf ?_;repeat' first|exact zso|refine And.intro ?_ ?_|(refine zim ?_;intro zb hc)|(refine zin ?_;intro zb)|intro j')
       all_goals try refine zbx ?_
      subst g4
      rw[occJ_succ,c3_1,if_neg (by rw[fitB,hc];decide)];rfl
   ·have o3:occ 0 p q (d+1) c=[]:=occ_end c3_1 fun j hj hj2=>by
     by_cases h0:d=0
     ·omega
     ·exact occ_nil (by omega) (by rw[from_snoc];omega)
    rw[o3];rfl
def mkLL:List Nat→Int→List (List Int)
 |[],_=>[]
 |n::ns,k=>markL n k::mkLL ns (k+n)
theorem mkLL_len:∀{ns:List Nat} {k:Int},(mkLL ns k).length=ns.length
 |[],_=>rfl
 |_::ns,_=>by simp only[mkLL,List.length_cons,mkLL_len]
theorem mkLL_take {L:List (List Int)} {k:Int}:List.take L.length (mkLL (L.map List.length) k)=mkLL (L.map List.length) k:=by
 rw[List.take_of_length_le];rw[mkLL_len,List.length_map];exact Nat.le_refl _
attribute [go_sem] mkLL_take mkLL_len
theorem permGo_iff {n:Int}:∀{p seen:List Int},permGo n seen p=true↔(∀v∈p,1≤v∧v≤n)∧p.Nodup∧∀v∈p,v∉seen
 |[],seen=>by simp[permGo]
 |v::p,seen=>by
  rw[permGo,Bool.and_eq_true,permGo_iff]
  simp only[Bool.and_eq_true,decide_eq_true_eq,Bool.not_eq_true',List.nodup_cons,List.mem_append,List.mem_singleton]
  constructor
  ·rintro⟨⟨⟨h1,h2⟩,h3⟩,h4,h5,h6⟩
   have h3':v∉seen:=fun h=>by rw[←List.contains_iff_mem]at h;rw[h]at h3;cases h3
   refine⟨fun x hx=> ?_,⟨fun hv=>h6 v hv (.inr rfl),h5⟩,fun x hx=> ?_⟩
   ·rcases List.mem_cons.1 hx with rfl|hx
    ·exact⟨h1,h2⟩
    ·exact h4 x hx
   ·rcases List.mem_cons.1 hx with rfl|hx
    ·exact h3'
    ·exact fun hs=>h6 x hx (.inl hs)
  ·rintro⟨h1,⟨h2,h3⟩,h4⟩
   have h5:=h1 v (by simp)
   refine⟨⟨⟨h5.1,h5.2⟩, ?_⟩,fun x hx=>h1 x (by simp[hx]),h3,fun x hx=> ?_⟩
   ·rw[←Bool.not_eq_true,List.contains_iff_mem];exact h4 v (by simp)
   ·rintro(hs|rfl)
    ·exact h4 x (by simp[hx]) hs
    ·exact h2 hx
theorem permB_iff {p:List Int}:permB p=true↔(∀v∈p,1≤v∧v≤p.length)∧p.Nodup:=by
 rw[permB,permGo_iff];simp
theorem lackL_mem {p:List Int} {n:Nat} {v:Int} (h:v∈lackL p n):1≤v∧v≤n∧v∉p:=by
 simp only[lackL,List.mem_filter,List.mem_map,List.mem_range,Bool.not_eq_true']at h
 obtain⟨⟨i,hi,rfl⟩,h2⟩:=h
 refine⟨by omega,by omega,fun hm=> ?_⟩
 rw[←List.contains_iff_mem,h2]at hm;cases hm
theorem lvl_ok {n:Nat}:∀{k:Nat} {L:List (List Int)},(∀l∈L,(∀v∈l,1≤v∧v≤(n:Int))∧l.Nodup)→∀l∈lvl n k L,(∀v∈l,1≤v∧v≤(n:Int))∧l.Nodup
 |0,L,h,l,hl=>h l hl
 |k+1,L,h,l,hl=>by
  rw[lvl]at hl
  refine lvl_ok (fun q hq=> ?_) l hl
  simp only[List.mem_flatMap,extL,List.mem_map]at hq
  obtain⟨p,hp,v,hv,rfl⟩:=hq
  obtain⟨h1,h2⟩:=h p hp
  obtain⟨g1,g2,g3⟩:=lackL_mem hv
  refine⟨fun x hx=> ?_, ?_⟩
  ·rcases List.mem_append.1 hx with hx|hx
   ·exact h1 x hx
   ·simp at hx;subst hx;exact⟨g1,g2⟩
  ·rw[List.nodup_append]
   refine⟨h2,by simp,fun a ha b hb e=> ?_⟩
   simp at hb;subst hb;subst e;exact g3 ha
theorem permL_perm {n:Nat} {l:List Int} (h:l∈permL n):permB l=true:=by
 have h1:=permL_row l h
 have h2:=lvl_ok (n:=n) (L:=[[]]) (k:=n) (by simp) l h
 rw[permB_iff,h1];exact h2
theorem permL_isPerm {n:Nat} (hn:n≤8) {l:List Int} (h:l∈permL n):isPermB l=true:=by
 rw[isPermB,permL_perm h,permL_row l h,decide_eq_true hn];rfl
theorem len_two {α:Type} (p:α→Bool):∀(l:List α),l.length=(l.filter p).length+(l.filter fun x=> !p x).length
 |[]=>rfl
 |x::l=>by
  have:=len_two p l
  rw[List.filter_cons,List.filter_cons]
  cases p x<;>simp<;>omega
theorem nodup_le:∀{n:Nat} {l:List Int} {a:Int},l.Nodup→(∀x∈l,a<x∧x≤a+n)→l.length≤n
 |0,l,a,_,hb=>by
  cases l with
  |nil=>simp
  |cons x l=>have:=hb x (by simp);omega
 |n+1,l,a,hn,hb=>by
  have h1:(l.filter fun x=>decide (x≠a+(n+1:Nat))).length≤n:=nodup_le (a:=a) (List.Nodup.sublist List.filter_sublist hn) fun x hx=>by
   simp only[List.mem_filter,decide_eq_true_eq]at hx
   have:=hb x hx.1
   refine⟨this.1, ?_⟩
   have h2:=hx.2
   push_cast at h2 this ⊢
   omega
  have h2:l.length≤(l.filter fun x=>decide (x≠a+(n+1:Nat))).length+1:=by
   have h3:=len_two (fun x=>decide (x≠a+(n+1:Nat))) l
   have h4:(l.filter fun x=> !decide (x≠a+(n+1:Nat))).length≤1:=by
    have h5:(l.filter fun x=> !decide (x≠a+(n+1:Nat))).Nodup:=List.Nodup.sublist List.filter_sublist hn
    have h6:∀x∈l.filter (fun x=> !decide (x≠a+(n+1:Nat))),x=a+(n+1:Nat):=fun x hx=>by
     simp only[List.mem_filter]at hx;simpa using hx.2
    revert h5 h6
    generalize l.filter (fun x=> !decide (x≠a+(n+1:Nat)))=q
    intro h5 h6
    match q,h5,h6 with
    |[],_,_=>simp
    |[x],_,_=>simp
    |x::y::r,h5,h6=>
     have e1:=h6 x (by simp)
     have e2:=h6 y (by simp)
     simp only[List.nodup_cons,List.mem_cons,not_or]at h5
     exact absurd (e1.trans e2.symm) h5.1.1
   omega
  omega
theorem perm_mem {p:List Int} (h:permB p=true) {v:Int} (h1:1≤v) (h2:v≤p.length):v∈p:=by
 obtain⟨q1,q2⟩:=permB_iff.1 h
 by_cases hm:v∈p
 ·exact hm
 ·exfalso
  have:=nodup_le (n:=p.length) (a:=0) (l:=v::p) (List.nodup_cons.2 ⟨hm,q2⟩) fun x hx=>by
   rcases List.mem_cons.1 hx with rfl|hx
   ·omega
   ·have:=q1 x hx;omega
  simp at this;omega
theorem perm_spot {p:List Int} (h:permB p=true) {v:Int} (h1:1≤v) (h2:v≤p.length):∃i,i<p.length∧p.getD i 0=v:=by
 obtain⟨i,hi,e⟩:=List.getElem_of_mem (perm_mem h h1 h2)
 exact⟨i,hi,by rw[List.getD_eq_getElem?_getD,List.getElem?_eq_getElem hi];exact e⟩
theorem perm_inj {p:List Int} (h:permB p=true) {i j:Nat} (hi:i<p.length) (hj:j<p.length) (e:p.getD i 0=p.getD j 0):i=j:=by
 obtain⟨q1,q2⟩:=permB_iff.1 h
 rw[List.getD_eq_getElem?_getD,List.getElem?_eq_getElem hi,List.getD_eq_getElem?_getD,List.getElem?_eq_getElem hj]at e
 exact(List.getElem_inj q2).1 e
theorem strings_Join_c {m0:Bool} (l:List (List UInt8)) (sep:List UInt8) (h1:l.length≤1099511627776) (h2:(Lib.join l sep).length≤1099511627776):
  Fun Tryz.prog 54 [.sl (.lent m0) (List.map .str l),.str sep] [.str (Lib.join l sep)]:=by
 refine Fun.of_plain Tryz.func54 rfl rfl rfl ?_
 intro w F G vs _ hv
 simp only[RepL]at hv
 obtain⟨a,vs1,rfl,ha,b,vs2,rfl,hb,rfl⟩:=hv
 have hb:=repP_str hb
 subst hb
 have e1:(l.map fun s=>(⟨s.toArray⟩:ByteArray)).map (·.data.toList)=l:=by simp[Function.comp_def]
 by_cases hl:l=[]
 ·subst hl
  obtain⟨a',cap,rfl⟩:=repP_nil ha
  exact(Tryz.strings_Join_none a' cap _ w).mono fun e w' h=>⟨h.1.trans (by simp[Lib.join]),h.2▸Go.RowKit.Below.refl _ _⟩
 ·obtain⟨B,off,cap,rfl,hc1,_,hB,hcells⟩:=rep_strs ha hl
  have:=Tryz.strings_Join B off cap (l.map fun s=>(⟨s.toArray⟩:ByteArray)) ⟨sep.toArray⟩ w hcells hB (by simp;omega) (by simpa using hc1) (by rw[e1];simp only;simpa using(by omega:(Lib.join l sep).length≤140737488355328))
  rw[e1,List.length_map]at this
  simpa using this
theorem permGo_mem {n:Int}:∀{p seen:List Int},permGo n seen p=true→∀v∈p,1≤v∧v≤n
 |[],_,_,v,h=>by simp at h
 |w::p,seen,h,v,hv=>by
  simp only[permGo,Bool.and_eq_true,decide_eq_true_eq]at h
  rcases List.mem_cons.1 hv with rfl|hv
  ·exact⟨h.1.1.1,h.1.1.2⟩
  ·exact permGo_mem h.2 v hv
theorem perm_at {p:List Int} (h:permB p=true) {i:Nat} (hi:i<p.length):1≤p.getD i 0∧p.getD i 0≤p.length:=by
 have:=permGo_mem h (p.getD i 0) (by rw[List.getD_eq_getElem?_getD,List.getElem?_eq_getElem hi];simp)
 exact this
theorem isPerm_facts {p:List Int} (h:isPermB p=true):p.length≤8∧permB p=true:=by
 simp only[isPermB,Bool.and_eq_true,decide_eq_true_eq]at h;exact h
theorem w_conv2 {P:Program} {sg:FuncId→List Bool} {h:Nat→Blk} {k:Nat} {ρ:Operand→AV} {C:R→Prop} {t t':TypeId} {x:Operand}:opB P sg ρ h k (.convert t t' x) C=convW P t t' k h (ρ x) C:=_root_.id rfl
attribute [local go_sem ↓] w_conv2
theorem join_step {l:List (List UInt8)} {sep:List UInt8} {k:Nat} (hk:k<l.length):Lib.join (l.take (k+1)) sep=(if k=0 then[]else Lib.join (l.take k) sep++sep)++l.getD k []:=by
 match l,k,hk with
 |x::r,0,_=>simp[Lib.join_one]
 |x::r,k+1,hk=>
  have hk':k<r.length:=by simpa using hk
  rw[List.take_succ_cons,List.take_succ_cons,Lib.join_cons,Lib.join_cons,Lib.joinTail_take_succ sep r k (r.getD k []) (by rw[List.getD_eq_getElem?_getD,List.getElem?_eq_getElem hk'];rfl)]
  simp
theorem join_take_le {l:List (List UInt8)} {sep:List UInt8} {k:Nat}:(Lib.join (l.take k) sep).length≤(Lib.join l sep).length:=by
 match l,k with
 |[],k=>simp
 |x::r,0=>simp[Lib.join_nil]
 |x::r,k+1=>
  rw[List.take_succ_cons,Lib.join_cons,Lib.join_cons,List.length_append,List.length_append]
  have:=Lib.joinTail_take_le sep r k
  omega
theorem join_len_le {n:Nat} {sep:List UInt8}:∀{l:List (List UInt8)},(∀x∈l,x.length≤n)→(Lib.join l sep).length≤l.length*(n+sep.length):=by
 intro l
 have key:∀{l:List (List UInt8)},(∀x∈l,x.length≤n)→(Lib.joinTail sep l).length≤l.length*(n+sep.length):=by
  intro l
  induction l with
  |nil=>intro _;simp[Lib.joinTail]
  |cons x r ih=>
   intro h
   have h1:=ih fun y hy=>h y (by simp[hy])
   have h2:=h x (by simp)
   have e:(Lib.joinTail sep (x::r))=sep++x++Lib.joinTail sep r:=by simp[Lib.joinTail]
   rw[e,List.length_append,List.length_append,List.length_cons,Nat.succ_mul];omega
 cases l with
 |nil=>intro _;simp[Lib.join_nil]
 |cons x r=>
  intro h
  have h1:=key (l:=r) fun y hy=>h y (by simp[hy])
  have h2:=h x (by simp)
  rw[Lib.join_cons,List.length_append,List.length_cons,Nat.succ_mul];omega
theorem u8s_fold {s:List UInt8}:List.map (fun b:UInt8=>PV.int .u8 (b.toNat:Int)) s=List.map u8P s:=_root_.id rfl
attribute [local go_sem] u8s_fold
theorem spec_Join_c {m0:Bool} (l:List (List UInt8)) (sep:List UInt8) (h1:l.length≤1099511627776) (h2:(Lib.join l sep).length≤1099511627776):Fun Tryz.prog 61 [(.sl (.lent m0) (List.map PV.str (l))),(.str (sep))] [(.str (Lib.join l sep))]:=by
 refine fO sg0 [4] Tryz.func61 ?_
 refine dE trivial ?_
 all_goals try (refine zlf ?_;repeat' first|exact zso|refine And.intro ?_ ?_|(refine zim ?_;intro zb hc)|(refine zin ?_;intro zb)|intro j')
 all_goals try refine zbx ?_
 refine v_loopB (fun ms1 S1=>∃(k:Nat),S1.e 0=.p (.sl (.lent m0) (List.map PV.str (l)))∧S1.e 1=.p (.str (sep))∧OwnL (S1.e 5) S1.h S1.n u8P ((Lib.join (l.take k) sep).length) (Lib.join (l.take k) sep)∧S1.e 6=.p (.int .i64 (k))∧(k≤l.length)∧ms1=l.length - k) ((fun(k:Nat)=>l.length - k) (0)) ?_ ⟨0,dIa trivial ?_⟩
 all_goals try (refine zlf ?_;repeat' first|exact zso|refine And.intro ?_ ?_|(refine zim ?_;intro zb hc)|(refine zin ?_;intro zb)|intro j')
 all_goals try refine zbx ?_
 rintro ms1 S1 ⟨k,h1_0,h1_1,o1_5,h1_6,c1_0,hm1⟩
 obtain⟨i1_5,h1_5,b1_5,l1_5⟩:=o1_5.out
 have ni1_5:=znds (x:=i1_5) (n:=S1.n)
 have fL1:=(And.intro h1_0 (And.intro h1_1 (And.intro h1_6 (And.intro h1_5 (And.intro b1_5 ni1_5)))))
 have b2:=join_take_le (l:=l) (sep:=sep) (k:=k+1)
 have b1:k<l.length→0<k→(Lib.join (l.take k) sep).length+(sep.length+(l.getD k []).length)≤1099511627776:=fun h h0=>by
  rw[join_step h,if_neg (by omega)]at b2;simp only[List.length_append]at b2;omega
 have b0:k<l.length→k=0→(Lib.join (l.take k) sep).length+(l.getD k []).length≤1099511627776:=fun h h0=>by
  subst h0;rw[join_step h,if_pos rfl]at b2;simp[Lib.join_nil]at b2 ⊢;omega
 refine dEa (And.intro fL1 (And.intro @c_la @Nat.add_assoc)) ?_
 all_goals try (refine zlf ?_;repeat' first|exact zso|refine And.intro ?_ ?_|(refine zim ?_;intro zb hc)|(refine zin ?_;intro zb)|intro j')
 all_goals try refine zbx ?_
 ·focus
   refine q_lp_n ((fun(k:Nat)=>l.length - k) (k+1)) (dC fL1 ?_) ⟨k+1,dC fL1 ?_⟩
   all_goals try (refine zlf ?_;repeat' first|exact zso|refine And.intro ?_ ?_|(refine zim ?_;intro zb hc)|(refine zin ?_;intro zb)|intro j')
   all_goals try refine zbx ?_
  all_goals(rw[join_step (by omega),if_neg (by omega)];simp only[List.length_append,List.append_assoc,Nat.add_assoc])
 ·focus
   refine q_lp_n ((fun(k:Nat)=>l.length - k) (k+1)) (dC fL1 ?_) ⟨k+1,dC fL1 ?_⟩
   all_goals try (refine zlf ?_;repeat' first|exact zso|refine And.intro ?_ ?_|(refine zim ?_;intro zb hc)|(refine zin ?_;intro zb)|intro j')
   all_goals try refine zbx ?_
  all_goals(obtain rfl:k=0:=by omega)
  all_goals(rw[join_step (by omega),if_pos rfl];simp[Lib.join_nil])
 ·rw[List.take_of_length_le (by omega)]
end Go.Gl
namespace Go.Gl
open Go Go.Proofs
variable [Amb]
def cmpI (a b:Int):Int:=if a<b then -1 else if b<a then 1 else 0
def cmpL:List Int→List Int→Int
 |[],[]=>0
 |[],_::_=> -1
 |_::_,[]=>1
 |a::x,b::y=>if cmpI a b≠0 then cmpI a b else cmpL x y
def cmpP (p q:List Int):Int:=if cmpI p.length q.length≠0 then cmpI p.length q.length else cmpL p q
theorem cmpI_0 {a b:Int}:cmpI a b=0↔a=b:=by
 unfold cmpI;split
 ·omega
 ·split<;>omega
end Go.Gl
namespace Go.Gl
open Go Go.Proofs
variable [Amb] [NoQ]
def befB (p q:List Int):Bool:=decide (cmpP p q<0)
theorem bef_ne {a b:List Int} (h:a.length≠b.length):decide (a.length<b.length)=befB a b:=by
 rw[befB,cmpP,if_pos (fun e=>by rw[cmpI_0]at e;omega)]
 unfold cmpI
 by_cases h1:a.length<b.length
 ·rw[if_pos (by omega)];simp[h1]
 ·rw[if_neg (by omega),if_pos (by omega)];simp[h1]
theorem bef_eq {a b:List Int} (h:a.length=b.length):befB a b=decide (cmpL a b<0):=by
 rw[befB,cmpP,if_neg (fun e=>e (cmpI_0.2 (by omega)))]
theorem cmpI_neg {a b:Int}:decide (cmpI a b<0)=decide (a<b):=by
 unfold cmpI;split
 ·rename_i h;simp[h]
 ·split<;>simp<;>omega
theorem spec_l2Before_c {m0 m1:Bool} (a b:List Int) (ha:a.length≤1048576) (hb:b.length≤1048576):Fun Tryz.prog 106 [(.sl (.lent m0) (List.map (PV.int .i64) (a))),(.sl (.lent m1) (List.map (PV.int .i64) (b)))] [(.bool (befB a b))]:=by
 refine fO sg0 [4] Tryz.func106 ?_
 refine dEa trivial ?_
 all_goals try (refine zlf ?_;repeat' first|exact zso|refine And.intro ?_ ?_|(refine zim ?_;intro zb hc)|(refine zin ?_;intro zb)|intro j')
 all_goals try refine zbx ?_
 ·exact bef_ne (by omega)
 have hl:a.length=b.length:=by omega
 rw[bef_eq hl]
 refine v_loopB (fun ms1 S1=>∃(k:Nat),S1.e 0=.p (.sl (.lent m0) (List.map (PV.int .i64) (a)))∧S1.e 1=.p (.sl (.lent m1) (List.map (PV.int .i64) (b)))∧S1.e 5=.p (.int .i64 (k))∧(k≤a.length)∧(cmpL a b=cmpL (a.drop k) (b.drop k))∧ms1=a.length - k) ((fun(k:Nat)=>a.length - k) (0)) ?_ ⟨0,dIa trivial ?_⟩
 all_goals try (refine zlf ?_;repeat' first|exact zso|refine And.intro ?_ ?_|(refine zim ?_;intro zb hc)|(refine zin ?_;intro zb)|intro j')
 all_goals try refine zbx ?_
 rintro ms1 S1 ⟨k,h1_0,h1_1,h1_5,c1_0,c1_1,hm1⟩
 have fL1:=(And.intro h1_0 (And.intro h1_1 h1_5))
 refine dEa fL1 ?_
 all_goals try (refine zlf ?_;repeat' first|exact zso|refine And.intro ?_ ?_|(refine zim ?_;intro zb hc)|(refine zin ?_;intro zb)|intro j')
 all_goals try refine zbx ?_
 ·rw[c1_1,dropI_at (by omega),dropI_at (s:=b) (by omega),cmpL,if_pos (fun e=>hc (cmpI_0.1 e)),cmpI_neg]
 ·focus
   refine q_lp_n ((fun(k:Nat)=>a.length - k) (k+1)) (dC fL1 ?_) ⟨k+1,dC fL1 ?_⟩
   all_goals try (refine zlf ?_;repeat' first|exact zso|refine And.intro ?_ ?_|(refine zim ?_;intro zb hc)|(refine zin ?_;intro zb)|intro j')
   all_goals try refine zbx ?_
  rw[c1_1,dropI_at (by omega),dropI_at (s:=b) (by omega),cmpL,if_neg (fun h=>h (cmpI_0.2 hc))]
 ·rw[c1_1,List.drop_of_length_le (l:=a) (by omega),List.drop_of_length_le (l:=b) (by omega),cmpL];rfl
theorem has_end {p q:List Int}:(!(occ 0 p q q.length []).isEmpty)=hasB p q:=rfl
theorem impl_has0_c {m0 m1:Bool} (p q:List Int) (hp:p.length≤8) (hq:q.length≤8):Fun Tryz.prog 82 [.sl (.lent m0) (List.map (PV.int .i64) p),.sl (.lent m1) (List.map (PV.int .i64) q),.sl (.lent false) []] [.bool (hasB p q)]:=by
 have c1:=impl_has_c (m0:=m0) (m1:=m1) p q hp hq q.length (m2:=false) [] (by simp) (by simp)
 rw[has_end]at c1
 simpa only[List.map_nil]using c1
def avB (L:List (List Int)) (p:List Int):Bool:= !(L.any fun q=>hasB p q)
theorem spec_l12Avoids_c {e0 m0 m1:Bool} (L:List (List Int)) (p:List Int) (hL:L.length≤1099511627776) (hl:∀q∈L,q.length≤8) (hp:p.length≤8):Fun Tryz.prog 115 [(.sl (.lent m0) (List.map (elI e0) (L))),(.sl (.lent m1) (List.map (PV.int .i64) (p)))] [(.bool (avB L p))]:=by
 refine fO sg0 [4] Tryz.func115 ?_
 have cE1:= @spec_l7Has_c
 refine dEa trivial ?_
 all_goals try (refine zlf ?_;repeat' first|exact zso|refine And.intro ?_ ?_|(refine zim ?_;intro zb hc)|(refine zin ?_;intro zb)|intro j')
 all_goals try refine zbx ?_
 refine v_loopB (fun ms1 S1=>∃(k:Nat),S1.e 0=.p (.sl (.lent m0) (List.map (elI e0) (L)))∧S1.e 1=.p (.sl (.lent m1) (List.map (PV.int .i64) (p)))∧S1.e 5=.p (.int .i64 (k))∧(k≤L.length)∧(∀q∈L.take k,hasB p q=false)∧ms1=L.length - k) ((fun(k:Nat)=>L.length - k) (0)) ?_ ⟨0,dIa trivial ?_⟩
 all_goals try (refine zlf ?_;repeat' first|exact zso|refine And.intro ?_ ?_|(refine zim ?_;intro zb hc)|(refine zin ?_;intro zb)|intro j')
 all_goals try refine zbx ?_
 rintro ms1 S1 ⟨k,h1_0,h1_1,h1_5,c1_0,c1_1,hm1⟩
 have fL1:=(And.intro h1_0 (And.intro h1_1 h1_5))
 refine dEa fL1 ?_
 all_goals try (refine zlf ?_;repeat' first|exact zso|refine And.intro ?_ ?_|(refine zim ?_;intro zb hc)|(refine zin ?_;intro zb)|intro j')
 all_goals try refine zbx ?_
 ·exact hl _ (getD_mem hc)
 ·have h1:(L.any fun q=>hasB p q)=true:=List.any_eq_true.2 ⟨_,getD_mem (by omega),hc⟩
  rw[avB,h1];rfl
 ·focus
   refine q_lp_n ((fun(k:Nat)=>L.length - k) (k+1)) (dC fL1 ?_) ⟨k+1,dC fL1 ?_⟩
   all_goals try (refine zlf ?_;repeat' first|exact zso|refine And.intro ?_ ?_|(refine zim ?_;intro zb hc)|(refine zin ?_;intro zb)|intro j')
   all_goals try refine zbx ?_
  intro q hq
  rw[take_getD (d:=[]) (by omega)]at hq
  rcases List.mem_append.1 hq with hq|hq
  ·exact c1_1 q hq
  ·simp at hq;subst hq;simpa using hc
 ·have h1:(L.any fun q=>hasB p q)=false:=by
   rw[Bool.eq_false_iff];intro h
   obtain⟨q,hq,h2⟩:=List.any_eq_true.1 h
   rw[List.take_of_length_le (by omega)]at c1_1
   rw[c1_1 q hq]at h2;cases h2
  rw[avB,h1];rfl
def basK (L:List (List Int)) (k:Nat):Bool:=(List.range k).all fun i=>isPermB (L.getD i [])&& !decide ((L.getD i []).length=0)&&(decide (i=0)||befB (L.getD (i - 1) []) (L.getD i []))&& !((List.range i).any fun j=>hasB (L.getD i []) (L.getD j []))
def basisB (L:List (List Int)):Bool:=decide (L.length≤8)&&basK L L.length
theorem basK_succ {L:List (List Int)} {k:Nat}:basK L (k+1)=(basK L k&&(isPermB (L.getD k [])&& !decide ((L.getD k []).length=0)&&(decide (k=0)||befB (L.getD (k - 1) []) (L.getD k []))&& !((List.range k).any fun j=>hasB (L.getD k []) (L.getD j [])))):=by
 simp[basK,List.range_succ]
theorem basK_perm {L:List (List Int)} {k j:Nat} (h:basK L k=true) (hj:j<k):isPermB (L.getD j [])=true:=by
 rw[basK,List.all_eq_true]at h
 have:=h j (List.mem_range.2 hj)
 simp only[Bool.and_eq_true]at this
 exact this.1.1.1
theorem basK_mono {L:List (List Int)} {k n:Nat} (hk:k≤n) (h:basK L k=false):basK L n=false:=by
 induction hk with
 |refl=>exact h
 |step _ ih=>rw[basK_succ,ih];rfl
theorem basis_f {L:List (List Int)} {k:Nat} (hk:k<L.length) (h:(isPermB (L.getD k [])&& !decide ((L.getD k []).length=0)&&(decide (k=0)||befB (L.getD (k - 1) []) (L.getD k []))&& !((List.range k).any fun j=>hasB (L.getD k []) (L.getD j [])))=false):false=basisB L:=by
 rw[basisB,basK_mono (k:=k+1) (by omega) (by rw[basK_succ,h,Bool.and_false]),Bool.and_false]
set_option maxHeartbeats 1000000 in
theorem spec_IsBasis_c {e0 m0:Bool} (L:List (List Int)) (hL:L.length≤1048576) (hl:∀l∈L,l.length≤1048576):Fun Tryz.prog 114 [(.sl (.lent m0) (List.map (elI e0) (L)))] [(.bool (basisB L))]:=by
 refine fO sg0 [2] Tryz.func114 ?_
 have cE1:= @spec_IsPerm_c;have cE2:= @spec_l2Before_c;have cE3:= @spec_l7Has_c;have cD1:=zdh [false,false,false,false,true,false,false,false,false,false,false,false,false,false,false,false,false,false,false,false,false,false,false,false,false,false,false,true,false,false,false] [];have cD2:=zdh [false,false,false,false,false,false,false,false,true] []
 refine dEa trivial ?_
 all_goals try (refine zlf ?_;repeat' first|exact zso|refine And.intro ?_ ?_|(refine zim ?_;intro zb hc;repeat (have zc:=zb.1;replace zb:=zb.2))|(refine zin ?_;intro zb)|intro j')
 all_goals try refine zbx ?_
 refine v_loopB (fun ms1 S1=>∃(k:Nat),S1.e 0=.p (.sl (.lent m0) (List.map (elI e0) (L)))∧S1.e 3=.p (.int .i64 (k))∧(k≤L.length)∧(basK L k=true)∧ms1=L.length - k) ((fun(k:Nat)=>L.length - k) (0)) ?_ ⟨0,dC trivial ?_⟩
 all_goals try (refine zlf ?_;repeat' first|exact zso|refine And.intro ?_ ?_|(refine zim ?_;intro zb hc;repeat (have zc:=zb.1;replace zb:=zb.2))|(refine zin ?_;intro zb)|intro j')
 all_goals try refine zbx ?_
 rintro ms1 S1 ⟨k,h1_0,h1_3,c1_0,c1_1,hm1⟩
 have fL1:=(And.intro h1_0 h1_3)
 have u1:((k:Int) - 1).toNat=k - 1:=by omega
 by_cases hk:k<L.length
 ·have g1:=hl _ (getD_mem (d:=[]) hk)
  have g2:0<k→(L.getD (k - 1) []).length≤1048576:=fun h=>hl _ (getD_mem (by omega))
  refine dEa (And.intro fL1 @u1) ?_
  all_goals try (refine zlf ?_;repeat' first|exact zso|refine And.intro ?_ ?_|(refine zim ?_;intro zb hc;repeat (have zc:=zb.1;replace zb:=zb.2))|(refine zin ?_;intro zb)|intro j')
  all_goals try refine zbx ?_
  ·refine basis_f hk ?_
   have x1:befB (L.getD (k - 1) []) (L.getD k [])=false:=hc
   have x3:decide (k=0)=false:=decide_eq_false (by omega)
   rw[x1,x3];simp
  ·have w1:isPermB (L.getD k [])=true:=by assumption
   have w2:¬((L.getD k []).length:Int)=0:=by assumption
   have w3:(decide (k=0)||befB (L.getD (k - 1) []) (L.getD k []))=true:=by rw[hc,Bool.or_true]
   have w4:=(isPerm_facts w1).1
   refine v_loopB (fun ms2 S2=>∃(j:Nat),S2.e 0=.p (.sl (.lent m0) (List.map (elI e0) (L)))∧S2.e 3=.p (.int .i64 (k))∧S2.e 4=.p (.int .i64 (j))∧(j≤k)∧(∀i,i<j→hasB (L.getD k []) (L.getD i [])=false)∧S1.n≤S2.n∧ms2=k - j) ((fun(j:Nat)=>k - j) (0)) ?_ ⟨0,dC fL1 ?_⟩
   all_goals try (refine zlf ?_;repeat' first|exact zso|refine And.intro ?_ ?_|(refine zim ?_;intro zb hc;repeat (have zc:=zb.1;replace zb:=zb.2))|(refine zin ?_;intro zb)|intro j')
   all_goals try refine zbx ?_
   rintro ms2 S2 ⟨j,h2_0,h2_3,h2_4,c2_0,c2_1,u2_0,hm2⟩
   have fL2:=(And.intro h2_0 (And.intro h2_3 h2_4))
   have w5:j<k→(L.getD j []).length≤8:=fun h=>(isPerm_facts (basK_perm c1_1 h)).1
   have w6:j<k→(L.take k).getD j []=L.getD j []:=fun h=>by simp only[List.getD_eq_getElem?_getD,List.getElem?_take];rw[if_pos h]
   by_cases hj:j<k
   ·have w7:=w5 hj
    have w8:=w6 hj
    refine dEa fL2 ?_
    all_goals try (refine zlf ?_;repeat' first|exact zso|refine And.intro ?_ ?_|(refine zim ?_;intro zb hc;repeat (have zc:=zb.1;replace zb:=zb.2))|(refine zin ?_;intro zb)|intro j')
    all_goals try refine zbx ?_
    ·have x1:((List.range k).any fun j=>hasB (L.getD k []) (L.getD j []))=true:=List.any_eq_true.2 ⟨j,List.mem_range.2 hj,hc⟩
     exact basis_f hk (by rw[x1];simp)
    ·focus
      refine q_lp_n ((fun(j:Nat)=>k - j) (j+1)) (dC fL2 ?_) ⟨j+1,dC fL2 ?_⟩
      all_goals try (refine zlf ?_;repeat' first|exact zso|refine And.intro ?_ ?_|(refine zim ?_;intro zb hc;repeat (have zc:=zb.1;replace zb:=zb.2))|(refine zin ?_;intro zb)|intro j')
      all_goals try refine zbx ?_
     intro i hi
     by_cases e:i=j
     ·subst e;exact hc
     ·exact c2_1 i (by omega)
   ·refine dEa fL2 ?_
    all_goals try (refine zlf ?_;repeat' first|exact zso|refine And.intro ?_ ?_|(refine zim ?_;intro zb hc;repeat (have zc:=zb.1;replace zb:=zb.2))|(refine zin ?_;intro zb)|intro j')
    all_goals try refine zbx ?_
    ·focus
      refine q_lp_n ((fun(k:Nat)=>L.length - k) (k+1)) (dC fL2 ?_) ⟨k+1,dC fL2 ?_⟩
      all_goals try (refine zlf ?_;repeat' first|exact zso|refine And.intro ?_ ?_|(refine zim ?_;intro zb hc;repeat (have zc:=zb.1;replace zb:=zb.2))|(refine zin ?_;intro zb)|intro j')
      all_goals try refine zbx ?_
     have x1:((List.range k).any fun j=>hasB (L.getD k []) (L.getD j []))=false:=by
      rw[Bool.eq_false_iff];intro h
      obtain⟨i,hi,h2⟩:=List.any_eq_true.1 h
      rw[c2_1 i (by have:=List.mem_range.1 hi;omega)]at h2;cases h2
     rw[basK_succ,c1_1,w1,w3,x1,decide_eq_false (by omega)];rfl
  ·have w1:isPermB (L.getD k [])=true:=by assumption
   have w2:¬((L.getD k []).length:Int)=0:=by assumption
   have w3:(decide (k=0)||befB (L.getD (k - 1) []) (L.getD k []))=true:=by rw[decide_eq_true (by omega),Bool.true_or]
   have w4:=(isPerm_facts w1).1
   refine v_loopB (fun ms3 S3=>∃(j:Nat),S3.e 0=.p (.sl (.lent m0) (List.map (elI e0) (L)))∧S3.e 3=.p (.int .i64 (k))∧S3.e 4=.p (.int .i64 (j))∧(j≤k)∧(∀i,i<j→hasB (L.getD k []) (L.getD i [])=false)∧S1.n≤S3.n∧ms3=k - j) ((fun(j:Nat)=>k - j) (0)) ?_ ⟨0,dC fL1 ?_⟩
   all_goals try (refine zlf ?_;repeat' first|exact zso|refine And.intro ?_ ?_|(refine zim ?_;intro zb hc;repeat (have zc:=zb.1;replace zb:=zb.2))|(refine zin ?_;intro zb)|intro j')
   all_goals try refine zbx ?_
   rintro ms3 S3 ⟨j,h3_0,h3_3,h3_4,c3_0,c3_1,u3_0,hm3⟩
   have fL3:=(And.intro h3_0 (And.intro h3_3 h3_4))
   have w5:j<k→(L.getD j []).length≤8:=fun h=>(isPerm_facts (basK_perm c1_1 h)).1
   have w6:j<k→(L.take k).getD j []=L.getD j []:=fun h=>by simp only[List.getD_eq_getElem?_getD,List.getElem?_take];rw[if_pos h]
   by_cases hj:j<k
   ·omega
   ·refine dEa fL3 ?_
    all_goals try (refine zlf ?_;repeat' first|exact zso|refine And.intro ?_ ?_|(refine zim ?_;intro zb hc;repeat (have zc:=zb.1;replace zb:=zb.2))|(refine zin ?_;intro zb)|intro j')
    all_goals try refine zbx ?_
    ·focus
      refine q_lp_n ((fun(k:Nat)=>L.length - k) (k+1)) (dC fL3 ?_) ⟨k+1,dC fL3 ?_⟩
      all_goals try (refine zlf ?_;repeat' first|exact zso|refine And.intro ?_ ?_|(refine zim ?_;intro zb hc;repeat (have zc:=zb.1;replace zb:=zb.2))|(refine zin ?_;intro zb)|intro j')
      all_goals try refine zbx ?_
     have x1:((List.range k).any fun j=>hasB (L.getD k []) (L.getD j []))=false:=by
      rw[Bool.eq_false_iff];intro h
      obtain⟨i,hi,h2⟩:=List.any_eq_true.1 h
      rw[c3_1 i (by have:=List.mem_range.1 hi;omega)]at h2;cases h2
     rw[basK_succ,c1_1,w1,w3,x1,decide_eq_false (by omega)];rfl
  ·have x2:(L.getD k []).length=0:=by omega
   exact basis_f hk (by rw[decide_eq_true x2];simp)
  ·exact basis_f hk (by rw[hc];rfl)
 ·skip
  refine dEa fL1 ?_
  all_goals try (refine zlf ?_;repeat' first|exact zso|refine And.intro ?_ ?_|(refine zim ?_;intro zb hc;repeat (have zc:=zb.1;replace zb:=zb.2))|(refine zin ?_;intro zb)|intro j')
  all_goals try refine zbx ?_
  obtain rfl:k=L.length:=by omega
  rw[basisB,c1_1,Bool.and_true];congr 1;rw[eq_iff_iff];omega
def minT (l:List Int) (k:Nat):Int:=(l.take k).foldl min (l.getD 0 0)
def maxT (l:List Int) (k:Nat):Int:=(l.take k).foldl max (l.getD 0 0)
def minL (l:List Int):Int:=minT l l.length
def maxL (l:List Int):Int:=maxT l l.length
theorem minT_succ {l:List Int} {k:Nat} (h:k<l.length):minT l (k+1)=min (minT l k) (l.getD k 0):=by
 rw[minT,take_getD (d:=0) h,List.foldl_append];rfl
theorem maxT_succ {l:List Int} {k:Nat} (h:k<l.length):maxT l (k+1)=max (maxT l k) (l.getD k 0):=by
 rw[maxT,take_getD (d:=0) h,List.foldl_append];rfl
theorem minT_1 {l:List Int} (h:0<l.length):minT l 1=l.getD 0 0:=by
 rw[minT_succ h,minT,List.take_zero];simp
theorem maxT_1 {l:List Int} (h:0<l.length):maxT l 1=l.getD 0 0:=by
 rw[maxT_succ h,maxT,List.take_zero];simp
theorem minT_b {l:List Int} {a b:Int} (hb:∀x∈l,a≤x∧x≤b) (h0:0<l.length):∀{k:Nat},k≤l.length→a≤minT l k∧minT l k≤b
 |0,_=>by rw[minT,List.take_zero];exact hb _ (getD_mem h0)
 |k+1,h=>by
  have h1:=minT_b hb h0 (k:=k) (by omega)
  have h2:=hb _ (getD_mem (d:=0) (show k<l.length by omega))
  rw[minT_succ (by omega)];omega
theorem maxT_b {l:List Int} {a b:Int} (hb:∀x∈l,a≤x∧x≤b) (h0:0<l.length):∀{k:Nat},k≤l.length→a≤maxT l k∧maxT l k≤b
 |0,_=>by rw[maxT,List.take_zero];exact hb _ (getD_mem h0)
 |k+1,h=>by
  have h1:=maxT_b hb h0 (k:=k) (by omega)
  have h2:=hb _ (getD_mem (d:=0) (show k<l.length by omega))
  rw[maxT_succ (by omega)];omega
def segL (p:List Int) (a b:Nat):List Int:=(p.take b).drop a
theorem segL_len {p:List Int} {a b:Nat} (h:b≤p.length):(segL p a b).length=b - a:=by simp[segL];omega
theorem segL_at {p:List Int} {a b k:Nat} (h:a+k<b):(segL p a b).getD k 0=p.getD (a+k) 0:=by
 simp only[segL,List.getD_eq_getElem?_getD,List.getElem?_drop,List.getElem?_take]
 rw[if_pos h]
theorem segL_mem {p:List Int} {a b:Nat} {x:Int} (h:x∈segL p a b):x∈p:=List.mem_of_mem_take (List.mem_of_mem_drop h)
def isIntB (p:List Int) (a b:Int):Bool:=decide (maxL (segL p a.toNat b.toNat) - minL (segL p a.toNat b.toNat)=b - a - 1)
theorem slices_Min_int_int_c {m0:Bool} (l:List Int) (h0:0<l.length) (hl:l.length≤1099511627776):Fun Tryz.prog 142 [(.sl (.lent m0) (List.map (PV.int .i64) (l)))] [(.int .i64 (minL l))]:=by
 refine fO sg0 [2] Tryz.func142 ?_
 refine dEa trivial ?_
 all_goals try (refine zlf ?_;repeat' first|exact zso|refine And.intro ?_ ?_|(refine zim ?_;intro zb hc)|(refine zin ?_;intro zb)|intro j')
 all_goals try refine zbx ?_
 refine v_loopB (fun ms1 S1=>∃(k:Nat),S1.e 0=.p (.sl (.lent m0) (List.map (PV.int .i64) (l)))∧S1.e 3=.p (.int .i64 (minT l k))∧S1.e 4=.p (.int .i64 (k))∧(1≤k)∧(k≤l.length)∧ms1=l.length - k) ((fun(k:Nat)=>l.length - k) (1)) ?_ ⟨1,dIa trivial ?_⟩
 all_goals try (refine zlf ?_;repeat' first|exact zso|refine And.intro ?_ ?_|(refine zim ?_;intro zb hc)|(refine zin ?_;intro zb)|intro j')
 all_goals try refine zbx ?_
 rintro ms1 S1 ⟨k,h1_0,h1_3,h1_4,c1_0,c1_1,hm1⟩
 have fL1:=(And.intro h1_0 (And.intro h1_3 h1_4))
 refine dEa fL1 ?_
 all_goals try (refine zlf ?_;repeat' first|exact zso|refine And.intro ?_ ?_|(refine zim ?_;intro zb hc)|(refine zin ?_;intro zb)|intro j')
 all_goals try refine zbx ?_
 ·focus
   refine q_lp_n ((fun(k:Nat)=>l.length - k) (k+1)) (dC fL1 ?_) ⟨k+1,dC fL1 ?_⟩
   all_goals try (refine zlf ?_;repeat' first|exact zso|refine And.intro ?_ ?_|(refine zim ?_;intro zb hc)|(refine zin ?_;intro zb)|intro j')
   all_goals try refine zbx ?_
  rw[minT_succ (by omega)]
 ·rw[minL];congr 1;omega
 ·rw[minT_1 h0]
theorem slices_Max_int_int_c {m0:Bool} (l:List Int) (h0:0<l.length) (hl:l.length≤1099511627776):Fun Tryz.prog 141 [(.sl (.lent m0) (List.map (PV.int .i64) (l)))] [(.int .i64 (maxL l))]:=by
 refine fO sg0 [2] Tryz.func141 ?_
 refine dEa trivial ?_
 all_goals try (refine zlf ?_;repeat' first|exact zso|refine And.intro ?_ ?_|(refine zim ?_;intro zb hc)|(refine zin ?_;intro zb)|intro j')
 all_goals try refine zbx ?_
 refine v_loopB (fun ms1 S1=>∃(k:Nat),S1.e 0=.p (.sl (.lent m0) (List.map (PV.int .i64) (l)))∧S1.e 3=.p (.int .i64 (maxT l k))∧S1.e 4=.p (.int .i64 (k))∧(1≤k)∧(k≤l.length)∧ms1=l.length - k) ((fun(k:Nat)=>l.length - k) (1)) ?_ ⟨1,dIa trivial ?_⟩
 all_goals try (refine zlf ?_;repeat' first|exact zso|refine And.intro ?_ ?_|(refine zim ?_;intro zb hc)|(refine zin ?_;intro zb)|intro j')
 all_goals try refine zbx ?_
 rintro ms1 S1 ⟨k,h1_0,h1_3,h1_4,c1_0,c1_1,hm1⟩
 have fL1:=(And.intro h1_0 (And.intro h1_3 h1_4))
 refine dEa fL1 ?_
 all_goals try (refine zlf ?_;repeat' first|exact zso|refine And.intro ?_ ?_|(refine zim ?_;intro zb hc)|(refine zin ?_;intro zb)|intro j')
 all_goals try refine zbx ?_
 ·focus
   refine q_lp_n ((fun(k:Nat)=>l.length - k) (k+1)) (dC fL1 ?_) ⟨k+1,dC fL1 ?_⟩
   all_goals try (refine zlf ?_;repeat' first|exact zso|refine And.intro ?_ ?_|(refine zim ?_;intro zb hc)|(refine zin ?_;intro zb)|intro j')
   all_goals try refine zbx ?_
  rw[maxT_succ (by omega)]
 ·rw[maxL];congr 1;omega
 ·rw[maxT_1 h0]
theorem impl_isInterval_c {m0:Bool} (p:List Int) (a b:Int) (h0:0≤a) (h1:a<b) (h2:b≤p.length) (hl:p.length≤8) (hb:∀x∈p,0≤x∧x≤1048576):Fun Tryz.prog 132 [(.sl (.lent m0) (List.map (PV.int .i64) (p))),(.int .i64 (a)),(.int .i64 (b))] [(.bool (isIntB p a b))]:=by
 refine fO sg0 [6] Tryz.func132 ?_
 have cE1:= @slices_Max_int_int_c;have cE2:= @slices_Min_int_int_c
 have e1:List.drop a.toNat (List.take b.toNat p)=segL p a.toNat b.toNat:=rfl
 have e2:(segL p a.toNat b.toNat).length=b.toNat - a.toNat:=segL_len (by omega)
 have b1:=minT_b (fun x hx=>hb x (segL_mem (a:=a.toNat) (b:=b.toNat) hx)) (by omega) (Nat.le_refl _)
 have b2:=maxT_b (fun x hx=>hb x (segL_mem (a:=a.toNat) (b:=b.toNat) hx)) (by omega) (Nat.le_refl _)
 rw[←minL]at b1
 rw[←maxL]at b2
 refine dEa @e1 ?_
 all_goals try (refine zlf ?_;repeat' first|exact zso|refine And.intro ?_ ?_|(refine zim ?_;intro zb hc)|(refine zin ?_;intro zb)|intro j')
 all_goals try refine zbx ?_
 rw[isIntB,e2];congr 1;rw[eq_iff_iff];omega
theorem spec_l1Min_c (a b:Int):Fun Tryz.prog 138 [(.int .i64 (a)),(.int .i64 (b))] [(.int .i64 (min a b))]:=by
 refine fO sg0 [4] Tryz.func138 ?_
 refine dE trivial ?_
 all_goals try (refine zlf ?_;repeat' first|exact zso|refine And.intro ?_ ?_|(refine zim ?_;intro zb hc)|(refine zin ?_;intro zb)|intro j')
 all_goals try refine zbx ?_
 all_goals omega
theorem spec_l5Run_c {m0:Bool} (p:List Int) (a b:Int) (h0:0≤a) (h1:a≤b) (h2:b<p.length) (hl:p.length≤8) (hb:∀x∈p,0≤x∧x≤1048576):Fun Tryz.prog 123 [(.sl (.lent m0) (List.map (PV.int .i64) (p))),(.int .i64 (a)),(.int .i64 (b))] [(.bool (isIntB p a (b+1)))]:=by
 refine fO sg0 [6] Tryz.func123 ?_
 have cE1:= @spec_l1Min_c;have cE2:= @spec_l1Max_c
 have e2:(segL p a.toNat (b+1).toNat).length=(b+1).toNat - a.toNat:=segL_len (by omega)
 have b1:=minT_b (fun x hx=>hb x (segL_mem (a:=a.toNat) (b:=(b+1).toNat) hx)) (by omega) (Nat.le_refl _)
 have b2:=maxT_b (fun x hx=>hb x (segL_mem (a:=a.toNat) (b:=(b+1).toNat) hx)) (by omega) (Nat.le_refl _)
 rw[←minL]at b1
 rw[←maxL]at b2
 refine dEa trivial ?_
 all_goals try (refine zlf ?_;repeat' first|exact zso|refine And.intro ?_ ?_|(refine zim ?_;intro zb hc)|(refine zin ?_;intro zb)|intro j')
 all_goals try refine zbx ?_
 refine v_loopB (fun ms1 S1=>∃(k:Nat),S1.e 0=.p (.sl (.lent m0) (List.map (PV.int .i64) (p)))∧S1.e 1=.p (.int .i64 (a))∧S1.e 2=.p (.int .i64 (b))∧S1.e 7=.p (.int .i64 (minT (segL p a.toNat (b+1).toNat) k))∧S1.e 8=.p (.int .i64 (maxT (segL p a.toNat (b+1).toNat) k))∧S1.e 9=.p (.int .i64 ((a+k)))∧((k:Int)≤b+1 - a)∧ms1=(b+1 - a).toNat - k) ((fun(k:Nat)=>(b+1 - a).toNat - k) (0)) ?_ ⟨0,dI trivial ?_⟩
 all_goals try (refine zlf ?_;repeat' first|exact zso|refine And.intro ?_ ?_|(refine zim ?_;intro zb hc)|(refine zin ?_;intro zb)|intro j')
 all_goals try refine zbx ?_
 rintro ms1 S1 ⟨k,h1_0,h1_1,h1_2,h1_7,h1_8,h1_9,c1_0,hm1⟩
 have fL1:=(And.intro h1_0 (And.intro h1_1 (And.intro h1_2 (And.intro h1_7 (And.intro h1_8 h1_9)))))
 have e3:a+k<b+1→p.getD (a+k).toNat 0=(segL p a.toNat (b+1).toNat).getD k 0:=fun h=>by
  rw[segL_at (by omega)];congr 1;omega
 refine dE fL1 ?_
 all_goals try (refine zlf ?_;repeat' first|exact zso|refine And.intro ?_ ?_|(refine zim ?_;intro zb hc)|(refine zin ?_;intro zb)|intro j')
 all_goals try refine zbx ?_
 all_goals try rw[e3 (by omega)]
 all_goals try exact zaut
 ·focus
   refine q_lp_n ((fun(k:Nat)=>(b+1 - a).toNat - k) (k+1)) (dC fL1 ?_) ⟨k+1,dC fL1 ?_⟩
   all_goals try (refine zlf ?_;repeat' first|exact zso|refine And.intro ?_ ?_|(refine zim ?_;intro zb hc)|(refine zin ?_;intro zb)|intro j')
   all_goals try refine zbx ?_
  ·rw[minT_succ (by omega)]
  ·rw[maxT_succ (by omega)]
 ·have h4:=minT_b (fun x hx=>hb x (segL_mem (a:=a.toNat) (b:=(b+1).toNat) hx)) (by omega) (show k≤(segL p a.toNat (b+1).toNat).length by omega)
  have h5:=maxT_b (fun x hx=>hb x (segL_mem (a:=a.toNat) (b:=(b+1).toNat) hx)) (by omega) (show k≤(segL p a.toNat (b+1).toNat).length by omega)
  rw[n_i64];omega
 ·have h3:k=(segL p a.toNat (b+1).toNat).length:=by omega
  rw[isIntB,h3,←minL,←maxL];congr 1;rw[eq_iff_iff];omega
 ·rw[minT,List.take_zero,segL_at (by omega)];simp
 ·rw[maxT,List.take_zero,segL_at (by omega)];simp
def ivR (p:List Int) (a k:Nat):List (List Int):=(List.range k).flatMap fun i:Nat=>if(i:Int)+2<p.length∧isIntB p a (a+2+i)=true then[[(a:Int)+1,a+2+i]]else[]
def ivA (p:List Int) (a:Nat):List (List Int):=(List.range a).flatMap fun x=>ivR p x (p.length - 1 - x)
def ivsL (p:List Int):List (List Int):=ivA p p.length
theorem ivR_succ {p:List Int} {a k:Nat}:ivR p a (k+1)=ivR p a k++if(k:Int)+2<p.length∧isIntB p a (a+2+k)=true then[[(a:Int)+1,a+2+k]]else[]:=by
 simp[ivR,List.range_succ]
theorem ivA_succ {p:List Int} {a:Nat}:ivA p (a+1)=ivA p a++ivR p a (p.length - 1 - a):=by
 simp[ivA,List.range_succ]
theorem ivR_len {p:List Int} {a:Nat}:∀{k:Nat},(ivR p a k).length≤k
 |0=>by simp[ivR]
 |k+1=>by
  have:=ivR_len (p:=p) (a:=a) (k:=k)
  rw[ivR_succ,List.length_append];split<;>simp<;>omega
theorem ivA_len {p:List Int}:∀{a:Nat},(ivA p a).length≤a*p.length
 |0=>by simp[ivA]
 |a+1=>by
  have h1:=ivA_len (p:=p) (a:=a)
  have h2:=ivR_len (p:=p) (a:=a) (k:=p.length - 1 - a)
  rw[ivA_succ,List.length_append,Nat.succ_mul];omega
theorem ivA_b {p:List Int} (hl:p.length≤8) {a:Nat} (ha:a≤p.length):(ivA p a).length≤64:=
 Nat.le_trans ivA_len (Nat.le_trans (Nat.mul_le_mul ha (Nat.le_refl _)) (Nat.mul_le_mul hl hl))
theorem impl_intervals_c {m0:Bool} (p:List Int) (hl:p.length≤8) (hb:∀x∈p,0≤x∧x≤1048576):Fun Tryz.prog 116 [(.sl (.lent m0) (List.map (PV.int .i64) (p)))] [(.sl .own (List.map (elI false) (ivsL p)))]:=by
 refine fO sg0 [2] Tryz.func116 ?_
 have cE1:= @impl_isInterval_c
 refine dEa trivial ?_
 all_goals try (refine zlf ?_;repeat' first|exact zso|refine And.intro ?_ ?_|(refine zim ?_;intro zb hc)|(refine zin ?_;intro zb)|intro j')
 all_goals try refine zbx ?_
 refine v_loopB (fun ms1 S1=>∃(a:Nat),S1.e 0=.p (.sl (.lent m0) (List.map (PV.int .i64) (p)))∧OwnL (S1.e 3) S1.h S1.n (elI false) ((ivA p a).length) (ivA p a)∧S1.e 8=.p (.int .i64 (p.length))∧S1.e 9=.p (.int .i64 (a))∧(a≤p.length)∧ms1=p.length - a) ((fun(a:Nat)=>p.length - a) (0)) ?_ ⟨0,dIa trivial ?_⟩
 all_goals try (refine zlf ?_;repeat' first|exact zso|refine And.intro ?_ ?_|(refine zim ?_;intro zb hc)|(refine zin ?_;intro zb)|intro j')
 all_goals try refine zbx ?_
 rintro ms1 S1 ⟨a,h1_0,o1_3,h1_8,h1_9,c1_0,hm1⟩
 obtain⟨i1_3,h1_3,b1_3,l1_3⟩:=o1_3.out
 have ni1_3:=znds (x:=i1_3) (n:=S1.n)
 have fL1:=(And.intro h1_0 (And.intro h1_8 (And.intro h1_9 (And.intro h1_3 (And.intro b1_3 ni1_3)))))
 have c1:=ivA_b hl c1_0
 refine dEa fL1 ?_
 all_goals try (refine zlf ?_;repeat' first|exact zso|refine And.intro ?_ ?_|(refine zim ?_;intro zb hc)|(refine zin ?_;intro zb)|intro j')
 all_goals try refine zbx ?_
 ·refine v_loopB (fun ms2 S2=>∃(k:Nat),S2.e 0=.p (.sl (.lent m0) (List.map (PV.int .i64) (p)))∧OwnL (S2.e 3) S2.h S2.n (elI false) ((ivA p a++ivR p a k).length) (ivA p a++ivR p a k)∧S2.e 4=.p (.int .i64 (a))∧S2.e 5=.p (.int .i64 ((a+2+k)))∧S2.e 8=.p (.int .i64 (p.length))∧S2.e 9=.p (.int .i64 (a))∧(k≤p.length - 1 - a)∧(a<p.length)∧S1.n≤S2.n∧ms2=p.length - 1 - a - k) ((fun(k:Nat)=>p.length - 1 - a - k) (0)) ?_ ⟨0,dIa fL1 ?_⟩
  all_goals try (refine zlf ?_;repeat' first|exact zso|refine And.intro ?_ ?_|(refine zim ?_;intro zb hc)|(refine zin ?_;intro zb)|intro j')
  all_goals try refine zbx ?_
  rintro ms2 S2 ⟨k,h2_0,o2_3,h2_4,h2_5,h2_8,h2_9,c2_0,c2_1,u2_0,hm2⟩
  obtain⟨i2_3,h2_3,b2_3,l2_3⟩:=o2_3.out
  have ni2_3:=znds (x:=i2_3) (n:=S2.n)
  have fL2:=(And.intro h2_0 (And.intro h2_4 (And.intro h2_5 (And.intro h2_8 (And.intro h2_9 (And.intro h2_3 (And.intro b2_3 ni2_3)))))))
  have c2:=ivR_len (p:=p) (a:=a) (k:=k)
  refine dEa fL2 ?_
  all_goals try (refine zlf ?_;repeat' first|exact zso|refine And.intro ?_ ?_|(refine zim ?_;intro zb hc)|(refine zin ?_;intro zb)|intro j')
  all_goals try refine zbx ?_
  ·focus
    refine q_lp_n ((fun(k:Nat)=>p.length - 1 - a - k) (k+1)) (dC fL2 ?_) ⟨k+1,dC fL2 ?_⟩
    all_goals try (refine zlf ?_;repeat' first|exact zso|refine And.intro ?_ ?_|(refine zim ?_;intro zb hc)|(refine zin ?_;intro zb)|intro j')
    all_goals try refine zbx ?_
   all_goals(rw[ivR_succ,if_pos ⟨by omega,hc⟩]<;>simp[elI,Nat.add_assoc])
  ·focus
    refine q_lp_n ((fun(k:Nat)=>p.length - 1 - a - k) (k+1)) (dC fL2 ?_) ⟨k+1,dC fL2 ?_⟩
    all_goals try (refine zlf ?_;repeat' first|exact zso|refine And.intro ?_ ?_|(refine zim ?_;intro zb hc)|(refine zin ?_;intro zb)|intro j')
    all_goals try refine zbx ?_
   all_goals(rw[ivR_succ,if_neg (fun h=>by rw[h.2]at hc;cases hc),List.append_nil])
  ·focus
    refine q_lp_n ((fun(k:Nat)=>p.length - 1 - a - k) (k+1)) (dC fL2 ?_) ⟨k+1,dC fL2 ?_⟩
    all_goals try (refine zlf ?_;repeat' first|exact zso|refine And.intro ?_ ?_|(refine zim ?_;intro zb hc)|(refine zin ?_;intro zb)|intro j')
    all_goals try refine zbx ?_
   all_goals(rw[ivR_succ,if_neg (fun h=>by omega),List.append_nil])
  ·focus
    refine q_lp_n ((fun(a:Nat)=>p.length - a) (a+1)) (dC fL2 ?_) ⟨a+1,dC fL2 ?_⟩
    all_goals try (refine zlf ?_;repeat' first|exact zso|refine And.intro ?_ ?_|(refine zim ?_;intro zb hc)|(refine zin ?_;intro zb)|intro j')
    all_goals try refine zbx ?_
   all_goals(rw[ivA_succ,show k=p.length - 1 - a by omega])
  ·simp[ivR]
  ·simp[ivR]
 ·obtain rfl:a=p.length:=by omega
  rfl
theorem spec_IntervalsOf_c {m0:Bool} (p:List Int) (hp:isPermB p=true) (hl:p.length≤8) (hb:∀x∈p,0≤x∧x≤1048576):Fun Tryz.prog 99 [(.sl (.lent m0) (List.map (PV.int .i64) (p)))] [(.sl .own (List.map (elI false) (ivsL p)))]:=by
 refine fO sg0 [2] Tryz.func99 ?_
 have cE1:= @spec_IsPerm_c;have cE2:= @spec_l5Run_c
 refine dEa trivial ?_
 all_goals try (refine zlf ?_;repeat' first|exact zso|refine And.intro ?_ ?_|(refine zim ?_;intro zb hc)|(refine zin ?_;intro zb)|intro j')
 all_goals try refine zbx ?_
 refine v_loopB (fun ms1 S1=>∃(a:Nat),S1.e 0=.p (.sl (.lent m0) (List.map (PV.int .i64) (p)))∧OwnL (S1.e 3) S1.h S1.n (elI false) ((ivA p a).length) (ivA p a)∧S1.e 4=.p (.int .i64 (a))∧(a≤p.length)∧ms1=p.length - a) ((fun(a:Nat)=>p.length - a) (0)) ?_ ⟨0,dIa trivial ?_⟩
 all_goals try (refine zlf ?_;repeat' first|exact zso|refine And.intro ?_ ?_|(refine zim ?_;intro zb hc)|(refine zin ?_;intro zb)|intro j')
 all_goals try refine zbx ?_
 rintro ms1 S1 ⟨a,h1_0,o1_3,h1_4,c1_0,hm1⟩
 obtain⟨i1_3,h1_3,b1_3,l1_3⟩:=o1_3.out
 have ni1_3:=znds (x:=i1_3) (n:=S1.n)
 have fL1:=(And.intro h1_0 (And.intro h1_4 (And.intro h1_3 (And.intro b1_3 ni1_3))))
 have c1:=ivA_b hl c1_0
 refine dEa (And.intro fL1 @hp) ?_
 all_goals try (refine zlf ?_;repeat' first|exact zso|refine And.intro ?_ ?_|(refine zim ?_;intro zb hc)|(refine zin ?_;intro zb)|intro j')
 all_goals try refine zbx ?_
 ·refine v_loopB (fun ms2 S2=>∃(k:Nat),S2.e 0=.p (.sl (.lent m0) (List.map (PV.int .i64) (p)))∧OwnL (S2.e 3) S2.h S2.n (elI false) ((ivA p a++ivR p a k).length) (ivA p a++ivR p a k)∧S2.e 4=.p (.int .i64 (a))∧S2.e 5=.p (.int .i64 ((a+1+k)))∧(k≤p.length - 1 - a)∧(a<p.length)∧S1.n≤S2.n∧ms2=p.length - 1 - a - k) ((fun(k:Nat)=>p.length - 1 - a - k) (0)) ?_ ⟨0,dIa fL1 ?_⟩
  all_goals try (refine zlf ?_;repeat' first|exact zso|refine And.intro ?_ ?_|(refine zim ?_;intro zb hc)|(refine zin ?_;intro zb)|intro j')
  all_goals try refine zbx ?_
  rintro ms2 S2 ⟨k,h2_0,o2_3,h2_4,h2_5,c2_0,c2_1,u2_0,hm2⟩
  obtain⟨i2_3,h2_3,b2_3,l2_3⟩:=o2_3.out
  have ni2_3:=znds (x:=i2_3) (n:=S2.n)
  have fL2:=(And.intro h2_0 (And.intro h2_4 (And.intro h2_5 (And.intro h2_3 (And.intro b2_3 ni2_3)))))
  have c2:=ivR_len (p:=p) (a:=a) (k:=k)
  have e5:(a:Int)+1+k+1=a+2+k:=by omega
  refine dEa (And.intro fL2 @e5) ?_
  all_goals try (refine zlf ?_;repeat' first|exact zso|refine And.intro ?_ ?_|(refine zim ?_;intro zb hc)|(refine zin ?_;intro zb)|intro j')
  all_goals try refine zbx ?_
  ·focus
    refine q_lp_n ((fun(k:Nat)=>p.length - 1 - a - k) (k+1)) (dC fL2 ?_) ⟨k+1,dC fL2 ?_⟩
    all_goals try (refine zlf ?_;repeat' first|exact zso|refine And.intro ?_ ?_|(refine zim ?_;intro zb hc)|(refine zin ?_;intro zb)|intro j')
    all_goals try refine zbx ?_
   all_goals(rw[ivR_succ,if_pos ⟨by omega,hc⟩]<;>simp[elI,Nat.add_assoc])
  ·focus
    refine q_lp_n ((fun(k:Nat)=>p.length - 1 - a - k) (k+1)) (dC fL2 ?_) ⟨k+1,dC fL2 ?_⟩
    all_goals try (refine zlf ?_;repeat' first|exact zso|refine And.intro ?_ ?_|(refine zim ?_;intro zb hc)|(refine zin ?_;intro zb)|intro j')
    all_goals try refine zbx ?_
   all_goals(rw[ivR_succ,if_neg (fun h=>by rw[h.2]at hc;cases hc),List.append_nil])
  ·focus
    refine q_lp_n ((fun(k:Nat)=>p.length - 1 - a - k) (k+1)) (dC fL2 ?_) ⟨k+1,dC fL2 ?_⟩
    all_goals try (refine zlf ?_;repeat' first|exact zso|refine And.intro ?_ ?_|(refine zim ?_;intro zb hc)|(refine zin ?_;intro zb)|intro j')
    all_goals try refine zbx ?_
   all_goals(rw[ivR_succ,if_neg (fun h=>by omega),List.append_nil])
  ·focus
    refine q_lp_n ((fun(a:Nat)=>p.length - a) (a+1)) (dC fL2 ?_) ⟨a+1,dC fL2 ?_⟩
    all_goals try (refine zlf ?_;repeat' first|exact zso|refine And.intro ?_ ?_|(refine zim ?_;intro zb hc)|(refine zin ?_;intro zb)|intro j')
    all_goals try refine zbx ?_
   all_goals(rw[ivA_succ,show k=p.length - 1 - a by omega])
  ·simp[ivR]
  ·simp[ivR]
 ·obtain rfl:a=p.length:=by omega
  rfl
def isSimB (p:List Int):Bool:=decide (0<p.length)&&decide ((ivsL p).length=0)
theorem isSim_t {p:List Int} (h:0<(p.length:Int)):decide (((ivsL p).length:Int)=0)=isSimB p:=by
 rw[isSimB,decide_eq_true (by omega:0<p.length),Bool.true_and];congr 1;rw[eq_iff_iff];omega
theorem isSim_f {p:List Int} (h:(p.length:Int)≤0):false=isSimB p:=by
 rw[isSimB,decide_eq_false (by omega),Bool.false_and]
theorem perm_bd {p:List Int} (h:isPermB p=true):∀x∈p,0≤x∧x≤1048576:=fun x hx=>by
 simp only[isPermB,Bool.and_eq_true,decide_eq_true_eq]at h
 obtain⟨i,hi,rfl⟩:=List.getElem_of_mem hx
 have:=perm_at h.2 hi
 rw[List.getD_eq_getElem?_getD,List.getElem?_eq_getElem hi]at this
 simp only[Option.getD_some]at this;omega
theorem impl_isSimple_c {m0:Bool} (p:List Int) (hl:p.length≤8) (hb:∀x∈p,0≤x∧x≤1048576):Fun Tryz.prog 88 [(.sl (.lent m0) (List.map (PV.int .i64) (p)))] [(.bool (isSimB p))]:=by
 refine fO sg0 [2] Tryz.func88 ?_
 have cE1:= @impl_intervals_c
 refine dEa trivial ?_
 all_goals try (refine zlf ?_;repeat' first|exact zso|refine And.intro ?_ ?_|(refine zim ?_;intro zb hc)|(refine zin ?_;intro zb)|intro j')
 all_goals try refine zbx ?_
 ·exact isSim_t hc
 ·exact isSim_f hc
theorem spec_IsSimple_c {m0:Bool} (p:List Int) (hl:p.length≤1048576):Fun Tryz.prog 56 [(.sl (.lent m0) (List.map (PV.int .i64) (p)))] [(.bool ((isPermB p&&isSimB p)))]:=by
 by_cases hp:isPermB p=true
 ·have hl8:=(isPerm_facts hp).1
  have hb:=perm_bd hp
  have hq:=(isPerm_facts hp).2
  refine fO sg0 [2] Tryz.func56 ?_
  have cE1:= @spec_IsPerm_c;have cE2:= @spec_IntervalsOf_c
  refine dEa (And.intro @hp @Bool.true_and) ?_
  all_goals try (refine zlf ?_;repeat' first|exact zso|refine And.intro ?_ ?_|(refine zim ?_;intro zb hc)|(refine zin ?_;intro zb)|intro j')
  all_goals try refine zbx ?_
  ·exact isSim_t hc
  ·exact isSim_f hc
 ·rw[Bool.not_eq_true]at hp
  refine fO sg0 [2] Tryz.func56 ?_
  have cE1:= @spec_IsPerm_c;have cE2:= @spec_IntervalsOf_c
  refine dEa (And.intro @hp @Bool.false_and) ?_
  all_goals try (refine zlf ?_;repeat' first|exact zso|refine And.intro ?_ ?_|(refine zim ?_;intro zb hc)|(refine zin ?_;intro zb)|intro j')
  all_goals try refine zbx ?_
def rkI (l:List Int) (x:Int) (k:Nat):Int:=((l.take k).filter fun y=>decide (y<x)).length+1
def patL (l:List Int):List Int:=l.map fun x=>rkI l x l.length
theorem rkI_succ {l:List Int} {x:Int} {k:Nat} (h:k<l.length):rkI l x (k+1)=rkI l x k+bitI (decide (l.getD k 0<x)):=by
 rw[rkI,rkI,take_getD (d:=0) h,List.filter_append,List.length_append,List.filter_cons]
 cases decide (l.getD k 0<x)<;>simp[bitI]<;>omega
theorem rkI_b {l:List Int} {x:Int} {k:Nat}:1≤rkI l x k∧rkI l x k≤l.length+1:=by
 have:=List.length_filter_le (fun y=>decide (y<x)) (l.take k)
 rw[List.length_take]at this
 unfold rkI;omega
theorem spec_l2Pattern_c {m0:Bool} (l:List Int) (hl:l.length≤1048576):Fun Tryz.prog 125 [(.sl (.lent m0) (List.map (PV.int .i64) (l)))] [(.sl .own (List.map (PV.int .i64) (patL l)))]:=by
 refine fO sg0 [2] Tryz.func125 ?_
 have cE1:= @spec_l1Bit_c;have cD1:=zdh [false,false,false,false,false,false,false,false,false,false,true,false,false] [(0,10)]
 refine dEa trivial ?_
 all_goals try (refine zlf ?_;repeat' first|exact zso|refine And.intro ?_ ?_|(refine zim ?_;intro zb hc)|(refine zin ?_;intro zb)|intro j')
 all_goals try refine zbx ?_
 refine v_loopB (fun ms1 S1=>∃(k:Nat),S1.e 0=.p (.sl (.lent m0) (List.map (PV.int .i64) (l)))∧OwnL (S1.e 3) S1.h S1.n (PV.int .i64) (((l.take k).map (fun x=>rkI l x l.length)).length) ((l.take k).map (fun x=>rkI l x l.length))∧S1.e 4=.p (.int .i64 (k))∧(k≤l.length)∧ms1=l.length - k) ((fun(k:Nat)=>l.length - k) (0)) ?_ ⟨0,dIa trivial ?_⟩
 all_goals try (refine zlf ?_;repeat' first|exact zso|refine And.intro ?_ ?_|(refine zim ?_;intro zb hc)|(refine zin ?_;intro zb)|intro j')
 all_goals try refine zbx ?_
 rintro ms1 S1 ⟨k,h1_0,o1_3,h1_4,c1_0,hm1⟩
 obtain⟨i1_3,h1_3,b1_3,l1_3⟩:=o1_3.out
 have ni1_3:=znds (x:=i1_3) (n:=S1.n)
 have fL1:=(And.intro h1_0 (And.intro h1_4 (And.intro h1_3 (And.intro b1_3 ni1_3))))
 refine dEa fL1 ?_
 all_goals try (refine zlf ?_;repeat' first|exact zso|refine And.intro ?_ ?_|(refine zim ?_;intro zb hc)|(refine zin ?_;intro zb)|intro j')
 all_goals try refine zbx ?_
 ·refine v_loopB (fun ms2 S2=>∃(j:Nat),S2.e 0=.p (.sl (.lent m0) (List.map (PV.int .i64) (l)))∧OwnL (S2.e 3) S2.h S2.n (PV.int .i64) (((l.take k).map (fun x=>rkI l x l.length)).length) ((l.take k).map (fun x=>rkI l x l.length))∧S2.e 4=.p (.int .i64 (k))∧S2.e 5=.p (.int .i64 (rkI l (l.getD k 0) j))∧S2.e 6=.p (.int .i64 (j))∧(j≤l.length)∧(k<l.length)∧S1.n≤S2.n∧ms2=l.length - j) ((fun(j:Nat)=>l.length - j) (0)) ?_ ⟨0,dIa fL1 ?_⟩
  all_goals try (refine zlf ?_;repeat' first|exact zso|refine And.intro ?_ ?_|(refine zim ?_;intro zb hc)|(refine zin ?_;intro zb)|intro j')
  all_goals try refine zbx ?_
  rintro ms2 S2 ⟨j,h2_0,o2_3,h2_4,h2_5,h2_6,c2_0,c2_1,u2_0,hm2⟩
  obtain⟨i2_3,h2_3,b2_3,l2_3⟩:=o2_3.out
  have ni2_3:=znds (x:=i2_3) (n:=S2.n)
  have fL2:=(And.intro h2_0 (And.intro h2_4 (And.intro h2_5 (And.intro h2_6 (And.intro h2_3 (And.intro b2_3 ni2_3))))))
  have b1:=rkI_b (l:=l) (x:=l.getD k 0) (k:=j)
  have b2:=bitI_r (decide (l.getD j 0<l.getD k 0))
  refine dEa fL2 ?_
  all_goals try (refine zlf ?_;repeat' first|exact zso|refine And.intro ?_ ?_|(refine zim ?_;intro zb hc)|(refine zin ?_;intro zb)|intro j')
  all_goals try refine zbx ?_
  ·focus
    refine q_lp_n ((fun(j:Nat)=>l.length - j) (j+1)) (dC fL2 ?_) ⟨j+1,dC fL2 ?_⟩
    all_goals try (refine zlf ?_;repeat' first|exact zso|refine And.intro ?_ ?_|(refine zim ?_;intro zb hc)|(refine zin ?_;intro zb)|intro j')
    all_goals try refine zbx ?_
   rw[rkI_succ (by omega)]
  ·focus
    refine q_lp_n ((fun(k:Nat)=>l.length - k) (k+1)) (dC fL2 ?_) ⟨k+1,dC fL2 ?_⟩
    all_goals try (refine zlf ?_;repeat' first|exact zso|refine And.intro ?_ ?_|(refine zim ?_;intro zb hc)|(refine zin ?_;intro zb)|intro j')
    all_goals try refine zbx ?_
   all_goals(obtain rfl:j=l.length:=by omega)
   rw[take_getD (d:=0) (by omega),List.map_append];rfl
 ·rw[List.take_of_length_le (by omega)];rfl
theorem impl_pattern_c {m0:Bool} (l:List Int) (hl:l.length≤1048576):Fun Tryz.prog 135 [(.sl (.lent m0) (List.map (PV.int .i64) (l)))] [(.sl .own (List.map (PV.int .i64) (patL l)))]:=by
 refine fO sg0 [2] Tryz.func135 ?_
 refine dEa trivial ?_
 all_goals try (refine zlf ?_;repeat' first|exact zso|refine And.intro ?_ ?_|(refine zim ?_;intro zb hc)|(refine zin ?_;intro zb)|intro j')
 all_goals try refine zbx ?_
 refine v_loopB (fun ms1 S1=>∃(k:Nat),S1.e 0=.p (.sl (.lent m0) (List.map (PV.int .i64) (l)))∧S1.e 10=.p (.sl (.lent m0) (List.map (PV.int .i64) (l)))∧S1.e 11=.p (.int .i64 (l.length))∧S1.e 12=.p (.int .i64 (k))∧OwnL (S1.e 3) S1.h S1.n (PV.int .i64) (((l.take k).map (fun x=>rkI l x l.length)).length) ((l.take k).map (fun x=>rkI l x l.length))∧(k≤l.length)∧ms1=l.length - k) ((fun(k:Nat)=>l.length - k) (0)) ?_ ⟨0,dIa trivial ?_⟩
 all_goals try (refine zlf ?_;repeat' first|exact zso|refine And.intro ?_ ?_|(refine zim ?_;intro zb hc)|(refine zin ?_;intro zb)|intro j')
 all_goals try refine zbx ?_
 rintro ms1 S1 ⟨k,h1_0,h1_10,h1_11,h1_12,o1_3,c1_0,hm1⟩
 obtain⟨i1_3,h1_3,b1_3,l1_3⟩:=o1_3.out
 have ni1_3:=znds (x:=i1_3) (n:=S1.n)
 have fL1:=(And.intro h1_0 (And.intro h1_10 (And.intro h1_11 (And.intro h1_12 (And.intro h1_3 (And.intro b1_3 ni1_3))))))
 refine dEa fL1 ?_
 all_goals try (refine zlf ?_;repeat' first|exact zso|refine And.intro ?_ ?_|(refine zim ?_;intro zb hc)|(refine zin ?_;intro zb)|intro j')
 all_goals try refine zbx ?_
 ·refine v_loopB (fun ms2 S2=>∃(j:Nat),S2.e 0=.p (.sl (.lent m0) (List.map (PV.int .i64) (l)))∧S2.e 10=.p (.sl (.lent m0) (List.map (PV.int .i64) (l)))∧S2.e 11=.p (.int .i64 (l.length))∧S2.e 12=.p (.int .i64 (k))∧OwnL (S2.e 3) S2.h S2.n (PV.int .i64) (((l.take k).map (fun x=>rkI l x l.length)).length) ((l.take k).map (fun x=>rkI l x l.length))∧S2.e 5=.p (.int .i64 (l.getD k 0))∧S2.e 16=.p (.sl (.lent m0) (List.map (PV.int .i64) (l)))∧S2.e 17=.p (.int .i64 (l.length))∧S2.e 18=.p (.int .i64 (j))∧S2.e 6=.p (.int .i64 (rkI l (l.getD k 0) j))∧(j≤l.length)∧(k<l.length)∧S1.n≤S2.n∧ms2=l.length - j) ((fun(j:Nat)=>l.length - j) (0)) ?_ ⟨0,dIa fL1 ?_⟩
  all_goals try (refine zlf ?_;repeat' first|exact zso|refine And.intro ?_ ?_|(refine zim ?_;intro zb hc)|(refine zin ?_;intro zb)|intro j')
  all_goals try refine zbx ?_
  rintro ms2 S2 ⟨j,h2_0,h2_10,h2_11,h2_12,o2_3,h2_5,h2_16,h2_17,h2_18,h2_6,c2_0,c2_1,u2_0,hm2⟩
  obtain⟨i2_3,h2_3,b2_3,l2_3⟩:=o2_3.out
  have ni2_3:=znds (x:=i2_3) (n:=S2.n)
  have fL2:=(And.intro h2_0 (And.intro h2_10 (And.intro h2_11 (And.intro h2_12 (And.intro h2_5 (And.intro h2_16 (And.intro h2_17 (And.intro h2_18 (And.intro h2_6 (And.intro h2_3 (And.intro b2_3 ni2_3)))))))))))
  have b1:=rkI_b (l:=l) (x:=l.getD k 0) (k:=j)
  refine dEa fL2 ?_
  all_goals try (refine zlf ?_;repeat' first|exact zso|refine And.intro ?_ ?_|(refine zim ?_;intro zb hc)|(refine zin ?_;intro zb)|intro j')
  all_goals try refine zbx ?_
  ·focus
    refine q_lp_n ((fun(j:Nat)=>l.length - j) (j+1)) (dC fL2 ?_) ⟨j+1,dC fL2 ?_⟩
    all_goals try (refine zlf ?_;repeat' first|exact zso|refine And.intro ?_ ?_|(refine zim ?_;intro zb hc)|(refine zin ?_;intro zb)|intro j')
    all_goals try refine zbx ?_
   rw[rkI_succ (by omega),decide_eq_true hc];rfl
  ·focus
    refine q_lp_n ((fun(j:Nat)=>l.length - j) (j+1)) (dC fL2 ?_) ⟨j+1,dC fL2 ?_⟩
    all_goals try (refine zlf ?_;repeat' first|exact zso|refine And.intro ?_ ?_|(refine zim ?_;intro zb hc)|(refine zin ?_;intro zb)|intro j')
    all_goals try refine zbx ?_
   rw[rkI_succ (by omega),decide_eq_false (by omega)];simp[bitI]
  ·focus
    refine q_lp_n ((fun(k:Nat)=>l.length - k) (k+1)) (dC fL2 ?_) ⟨k+1,dC fL2 ?_⟩
    all_goals try (refine zlf ?_;repeat' first|exact zso|refine And.intro ?_ ?_|(refine zim ?_;intro zb hc)|(refine zin ?_;intro zb)|intro j')
    all_goals try refine zbx ?_
   all_goals(obtain rfl:j=l.length:=by omega)
   rw[take_getD (d:=0) (by omega),List.map_append];rfl
 ·rw[List.take_of_length_le (by omega)];rfl
def cplL (p:List Int):List Int:=p.map fun v=>(p.length:Int)+1 - v
theorem impl_complement_c {m0:Bool} (p:List Int) (hl:p.length≤1048576) (hb:∀x∈p,0≤x∧x≤1048576):Fun Tryz.prog 144 [(.sl (.lent m0) (List.map (PV.int .i64) (p)))] [(.sl .own (List.map (PV.int .i64) (cplL p)))]:=by
 refine fO sg0 [2] Tryz.func144 ?_
 refine dEa trivial ?_
 all_goals try (refine zlf ?_;repeat' first|exact zso|refine And.intro ?_ ?_|(refine zim ?_;intro zb hc)|(refine zin ?_;intro zb)|intro j')
 all_goals try refine zbx ?_
 refine v_loopB (fun ms1 S1=>∃(k:Nat),S1.e 0=.p (.sl (.lent m0) (List.map (PV.int .i64) (p)))∧S1.e 7=.p (.sl (.lent m0) (List.map (PV.int .i64) (p)))∧S1.e 8=.p (.int .i64 (p.length))∧S1.e 9=.p (.int .i64 (k))∧OwnL (S1.e 3) S1.h S1.n (PV.int .i64) (((p.take k).map (fun v=>(p.length:Int)+1 - v)).length) ((p.take k).map (fun v=>(p.length:Int)+1 - v))∧(k≤p.length)∧ms1=p.length - k) ((fun(k:Nat)=>p.length - k) (0)) ?_ ⟨0,dI trivial ?_⟩
 all_goals try (refine zlf ?_;repeat' first|exact zso|refine And.intro ?_ ?_|(refine zim ?_;intro zb hc)|(refine zin ?_;intro zb)|intro j')
 all_goals try refine zbx ?_
 rintro ms1 S1 ⟨k,h1_0,h1_7,h1_8,h1_9,o1_3,c1_0,hm1⟩
 obtain⟨i1_3,h1_3,b1_3,l1_3⟩:=o1_3.out
 have ni1_3:=znds (x:=i1_3) (n:=S1.n)
 have fL1:=(And.intro h1_0 (And.intro h1_7 (And.intro h1_8 (And.intro h1_9 (And.intro h1_3 (And.intro b1_3 ni1_3))))))
 have b1:k<p.length→0≤p.getD k 0∧p.getD k 0≤1048576:=fun h=>hb _ (getD_mem h)
 refine dE fL1 ?_
 all_goals try (refine zlf ?_;repeat' first|exact zso|refine And.intro ?_ ?_|(refine zim ?_;intro zb hc)|(refine zin ?_;intro zb)|intro j')
 all_goals try refine zbx ?_
 all_goals try have b2:=b1 (by omega)
 all_goals try exact zaut
 ·focus
   refine q_lp_n ((fun(k:Nat)=>p.length - k) (k+1)) (dC fL1 ?_) ⟨k+1,dC fL1 ?_⟩
   all_goals try (refine zlf ?_;repeat' first|exact zso|refine And.intro ?_ ?_|(refine zim ?_;intro zb hc)|(refine zin ?_;intro zb)|intro j')
   all_goals try refine zbx ?_
  rw[take_getD (d:=0) (by omega),List.map_append];rfl
 ·rw[List.take_of_length_le (by omega)];rfl
theorem spec_l3Complement_c {m0:Bool} (p:List Int) (hl:p.length≤1048576) (hb:∀x∈p,0≤x∧x≤1048576):Fun Tryz.prog 149 [(.sl (.lent m0) (List.map (PV.int .i64) (p)))] [(.sl .own (List.map (PV.int .i64) (cplL p)))]:=by
 refine fO sg0 [2] Tryz.func149 ?_
 refine dEa trivial ?_
 all_goals try (refine zlf ?_;repeat' first|exact zso|refine And.intro ?_ ?_|(refine zim ?_;intro zb hc)|(refine zin ?_;intro zb)|intro j')
 all_goals try refine zbx ?_
 refine v_loopB (fun ms1 S1=>∃(k:Nat),S1.e 0=.p (.sl (.lent m0) (List.map (PV.int .i64) (p)))∧S1.e 4=.p (.int .i64 (k))∧OwnL (S1.e 3) S1.h S1.n (PV.int .i64) (((p.take k).map (fun v=>(p.length:Int)+1 - v)).length) ((p.take k).map (fun v=>(p.length:Int)+1 - v))∧(k≤p.length)∧ms1=p.length - k) ((fun(k:Nat)=>p.length - k) (0)) ?_ ⟨0,dI trivial ?_⟩
 all_goals try (refine zlf ?_;repeat' first|exact zso|refine And.intro ?_ ?_|(refine zim ?_;intro zb hc)|(refine zin ?_;intro zb)|intro j')
 all_goals try refine zbx ?_
 rintro ms1 S1 ⟨k,h1_0,h1_4,o1_3,c1_0,hm1⟩
 obtain⟨i1_3,h1_3,b1_3,l1_3⟩:=o1_3.out
 have ni1_3:=znds (x:=i1_3) (n:=S1.n)
 have fL1:=(And.intro h1_0 (And.intro h1_4 (And.intro h1_3 (And.intro b1_3 ni1_3))))
 have b1:k<p.length→0≤p.getD k 0∧p.getD k 0≤1048576:=fun h=>hb _ (getD_mem h)
 refine dE fL1 ?_
 all_goals try (refine zlf ?_;repeat' first|exact zso|refine And.intro ?_ ?_|(refine zim ?_;intro zb hc)|(refine zin ?_;intro zb)|intro j')
 all_goals try refine zbx ?_
 all_goals try have b2:=b1 (by omega)
 all_goals try exact zaut
 ·focus
   refine q_lp_n ((fun(k:Nat)=>p.length - k) (k+1)) (dC fL1 ?_) ⟨k+1,dC fL1 ?_⟩
   all_goals try (refine zlf ?_;repeat' first|exact zso|refine And.intro ?_ ?_|(refine zim ?_;intro zb hc)|(refine zin ?_;intro zb)|intro j')
   all_goals try refine zbx ?_
  rw[take_getD (d:=0) (by omega),List.map_append];rfl
 ·rw[List.take_of_length_le (by omega)];rfl
def invL (p:List Int):Nat→List Int
 |0=>List.replicate p.length 0
 |k+1=>(invL p k).set (p.getD k 0 - 1).toNat ((k:Int)+1)
theorem invL_len {p:List Int}:∀{k:Nat},(invL p k).length=p.length
 |0=>by simp[invL]
 |k+1=>by rw[invL,List.length_set,invL_len]
theorem invL_at {p:List Int} (hp:permB p=true):∀{k:Nat},k≤p.length→∀i,i<k→(invL p k).getD (p.getD i 0 - 1).toNat 0=(i:Int)+1
 |k+1,h,i,hi=>by
  have b1:=perm_at hp (i:=k) (by omega)
  have b2:=perm_at hp (i:=i) (by omega)
  rw[invL,List.getD_eq_getElem?_getD,List.getElem?_set,invL_len]
  by_cases e:i=k
  ·subst e;rw[if_pos rfl,if_pos (by omega)];rfl
  ·rw[if_neg fun h1=>e (perm_inj hp (by omega) (by omega) (by omega)),←List.getD_eq_getElem?_getD]
   exact invL_at hp (by omega) i (by omega)
def inv (p:List Int):List Int:=invL p p.length
theorem impl_inverse_c {m0:Bool} (p:List Int) (h8:p.length≤8) (hp:permB p=true):Fun Tryz.prog 95 [(.sl (.lent m0) (List.map (PV.int .i64) (p)))] [(.sl .own (List.map (PV.int .i64) (inv p)))]:=by
 refine fO sg0 [2] Tryz.func95 ?_
 refine dEa trivial ?_
 all_goals try (refine zlf ?_;repeat' first|exact zso|refine And.intro ?_ ?_|(refine zim ?_;intro zb hc)|(refine zin ?_;intro zb)|intro j')
 all_goals try refine zbx ?_
 refine v_loopB (fun ms1 S1=>∃(k:Nat),S1.e 9=.p (.sl (.lent m0) (List.map (PV.int .i64) (p)))∧OwnL (S1.e 3) S1.h S1.n (PV.int .i64) ((invL p k).length) (invL p k)∧S1.e 10=.p (.int .i64 (p.length))∧S1.e 11=.p (.int .i64 (k))∧(k≤p.length)∧ms1=p.length - k) ((fun(k:Nat)=>p.length - k) (0)) ?_ ⟨0,dIa trivial ?_⟩
 all_goals try (refine zlf ?_;repeat' first|exact zso|refine And.intro ?_ ?_|(refine zim ?_;intro zb hc)|(refine zin ?_;intro zb)|intro j')
 all_goals try refine zbx ?_
 rintro ms1 S1 ⟨k,h1_9,o1_3,h1_10,h1_11,c1_0,hm1⟩
 obtain⟨i1_3,h1_3,b1_3,l1_3⟩:=o1_3.out
 have ni1_3:=znds (x:=i1_3) (n:=S1.n)
 have fL1:=(And.intro h1_9 (And.intro h1_10 (And.intro h1_11 (And.intro h1_3 (And.intro b1_3 ni1_3)))))
 have b1:(invL p k).length=p.length:=invL_len
 have b2:=fun h=>perm_at hp (i:=k) h
 refine dEa fL1 ?_
 all_goals try (refine zlf ?_;repeat' first|exact zso|refine And.intro ?_ ?_|(refine zim ?_;intro zb hc)|(refine zin ?_;intro zb)|intro j')
 all_goals try refine zbx ?_
 ·focus
   refine q_lp_n ((fun(k:Nat)=>p.length - k) (k+1)) (dC fL1 ?_) ⟨k+1,dC fL1 ?_⟩
   all_goals try (refine zlf ?_;repeat' first|exact zso|refine And.intro ?_ ?_|(refine zim ?_;intro zb hc)|(refine zin ?_;intro zb)|intro j')
   all_goals try refine zbx ?_
  all_goals first|(rw[invL_len,invL_len];done)|skip
 ·obtain rfl:k=p.length:=by omega
  rfl
 ·exact invL_len.symm
theorem inv_len {p:List Int}:(inv p).length=p.length:=invL_len
theorem nodup_map {f:Int→Int} {l:List Int} (h:l.Nodup) (hf:∀x∈l,∀y∈l,x≠y→f x≠f y):(l.map f).Nodup:=by
 unfold List.Nodup
 rw[List.pairwise_map]
 exact List.Pairwise.imp_of_mem (fun {a b} ha hb hab=>hf a ha b hb hab) h
theorem rkI_lt {l:List Int} {x y:Int} (hx:x∈l) (h:x<y):rkI l x l.length<rkI l y l.length:=by
 unfold rkI
 rw[List.take_length]
 have h1:=len_two (fun z=>decide (z<x)) (l.filter fun z=>decide (z<y))
 have h2:((l.filter fun z=>decide (z<y)).filter fun z=>decide (z<x))=l.filter fun z=>decide (z<x):=by
  rw[List.filter_filter]
  refine List.filter_congr fun z _=> ?_
  by_cases hz:z<x
  ·simp[hz,show z<y by omega]
  ·simp[hz]
 have h3:x∈(l.filter fun z=>decide (z<y)).filter fun z=> !decide (z<x):=by
  simp only[List.mem_filter,decide_eq_true_eq,Bool.not_eq_true',decide_eq_false_iff_not]
  exact⟨⟨hx,h⟩,by omega⟩
 have h4:=List.length_pos_of_mem h3
 rw[h2]at h1
 omega
theorem patL_len {l:List Int}:(patL l).length=l.length:=by simp[patL]
theorem patL_perm {l:List Int} (hn:l.Nodup):permB (patL l)=true:=by
 rw[permB_iff,patL_len]
 refine⟨fun x hx=> ?_,nodup_map hn fun x hx y hy h=> ?_⟩
 ·obtain⟨y,hy,rfl⟩:=List.mem_map.1 hx
  refine⟨rkI_b.1, ?_⟩
  have h1:=len_two (fun z=>decide (z<y)) l
  have h2:y∈l.filter fun z=> !decide (z<y):=by simp[hy]
  have h3:=List.length_pos_of_mem h2
  unfold rkI
  rw[List.take_length]
  omega
 ·rcases Int.lt_or_gt_of_ne h with h|h
  ·have:=rkI_lt hx h;omega
  ·have:=rkI_lt hy h;omega
theorem cplL_len {p:List Int}:(cplL p).length=p.length:=by simp[cplL]
theorem cplL_perm {p:List Int} (h:permB p=true):permB (cplL p)=true:=by
 rw[permB_iff,cplL_len]
 obtain⟨a1,a2⟩:=permB_iff.1 h
 refine⟨fun x hx=> ?_,nodup_map a2 fun x _ y _ h=>by omega⟩
 obtain⟨y,hy,rfl⟩:=List.mem_map.1 hx
 have:=a1 y hy
 omega
theorem spec_l2Inverse_c {m0:Bool} (p:List Int) (h8:p.length≤8) (hp:permB p=true):Fun Tryz.prog 71 [(.sl (.lent m0) (List.map (PV.int .i64) (p)))] [(.sl .own (List.map (PV.int .i64) (inv p)))]:=by
 refine fO sg0 [2] Tryz.func71 ?_
 refine dEa trivial ?_
 all_goals try (refine zlf ?_;repeat' first|exact zso|refine And.intro ?_ ?_|(refine zim ?_;intro zb hc)|(refine zin ?_;intro zb)|intro j')
 all_goals try refine zbx ?_
 refine v_loopB (fun ms1 S1=>∃(k:Nat),S1.e 0=.p (.sl (.lent m0) (List.map (PV.int .i64) (p)))∧OwnL (S1.e 3) S1.h S1.n (PV.int .i64) ((invL p k).length) (invL p k)∧S1.e 4=.p (.int .i64 (k))∧(k≤p.length)∧ms1=p.length - k) ((fun(k:Nat)=>p.length - k) (0)) ?_ ⟨0,dIa trivial ?_⟩
 all_goals try (refine zlf ?_;repeat' first|exact zso|refine And.intro ?_ ?_|(refine zim ?_;intro zb hc)|(refine zin ?_;intro zb)|intro j')
 all_goals try refine zbx ?_
 rintro ms1 S1 ⟨k,h1_0,o1_3,h1_4,c1_0,hm1⟩
 obtain⟨i1_3,h1_3,b1_3,l1_3⟩:=o1_3.out
 have ni1_3:=znds (x:=i1_3) (n:=S1.n)
 have fL1:=(And.intro h1_0 (And.intro h1_4 (And.intro h1_3 (And.intro b1_3 ni1_3))))
 have b1:(invL p k).length=p.length:=invL_len
 have b2:=fun h=>perm_at hp (i:=k) h
 refine dEa fL1 ?_
 all_goals try (refine zlf ?_;repeat' first|exact zso|refine And.intro ?_ ?_|(refine zim ?_;intro zb hc)|(refine zin ?_;intro zb)|intro j')
 all_goals try refine zbx ?_
 ·focus
   refine q_lp_n ((fun(k:Nat)=>p.length - k) (k+1)) (dC fL1 ?_) ⟨k+1,dC fL1 ?_⟩
   all_goals try (refine zlf ?_;repeat' first|exact zso|refine And.intro ?_ ?_|(refine zim ?_;intro zb hc)|(refine zin ?_;intro zb)|intro j')
   all_goals try refine zbx ?_
  all_goals first|(rw[invL_len,invL_len];done)|skip
 ·obtain rfl:k=p.length:=by omega
  rfl
 ·exact invL_len.symm
end Go.Gl
