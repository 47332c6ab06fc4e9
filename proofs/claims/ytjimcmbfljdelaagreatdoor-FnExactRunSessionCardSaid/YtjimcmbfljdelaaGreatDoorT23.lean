/-
  What the functions compute, and what the law asks of it: texts joined. Conditions: those that each lemma names.
-/
import Derived.Test.YtjimcmbfljdelaaGreatDoorT22
set_option linter.unusedSimpArgs false
set_option linter.unusedVariables false
set_option maxRecDepth 20000
set_option linter.unusedSectionVars false
set_option maxHeartbeats 16000000
namespace Go.Gl
open Go Go.Proofs
variable [Amb][NoQ]
theorem cD(k:Int):Fun Tryz.prog 16 [.int .i64 k] [.sl .own (List.map (cK false) (Fe k)),.bool (CX k)]:=by
 refine fO au [2,3] Tryz.func16 ?_;have cE1:=@qu;have cE2:=@cQ;have cE3:=@bm;have b1:=Au (k:=k);have cE2:=@bm;have cE3:=trivial;refine dE ai trivial (AN ?_ ?_ ?_ ?_)<;>(intro zb hc;repeat (have zc:=zb.1;replace zb:=zb.2));all_goals(simp_all [Fe,CX];done)
variable [SplA]
theorem jh(k:Int):Fun Tryz.prog 25 [.int .i64 k] [.sl .own (List.map (cK false) (Fe k)),.bool (CX k)]:=by
 refine fO au [2,3] Tryz.func25 ?_;have cE1:=@qQ;have cE2:=@bo;have b1:=Au (k:=k);refine dE ai trivial (AN ?_ ?_ ?_ ?_)<;>(intro zb hc;repeat (have zc:=zb.1;replace zb:=zb.2));all_goals(simp_all [Fe,CX];done)
end Go.Gl
