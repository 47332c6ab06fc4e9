/-
  What the functions compute, and what the law asks of it: texts joined. Conditions: those that each lemma names.
-/
import Derived.Test.YtjimcmbfljdelaaGreatDoorA0
set_option linter.unusedSimpArgs false
set_option linter.unusedVariables false
set_option maxRecDepth 20000
set_option linter.unusedSectionVars false
set_option maxHeartbeats 16000000
namespace Go.Gl
open Go Go.Proofs
variable [Amb][NoQ]
theorem Fun.of_any{P:Program}{f:FuncId}{args res:List PV}{fn:Func}(hf:P.funcs[f]? =some fn)(hb:fn.body.isSome=true)(hn:(fn.name== "runtime.NumGoroutine")=false)(h1:noRoL res=true)(h2:jA res=true)(h4:impWs false args.length res=[])
  (h:∀(w:World) (F G:Nat->Prop) (vs:List Value),(∀B o,Amb.tb B=some o->w.heap[B]? =some o)->(∀B,w.heap.size<=B->G B)->RepL w F G args vs->Calls P f ⟨vs⟩ w λe w'=>∃v,e=.returned v/\(∀(F':Nat->Prop) ι,(∀B,¬F' B)->RepA w' F' G ι (impAll args.length res) v)/\Go.RowKit.Below w.heap.size w w'):Fun P f args res:=by
 have dead:∀j,bH (args.map .pv) j=.dead:=by
  intro j;unfold bH;rw[zA5];cases args[j]? <;>rfl
 have hrep:∀(w:World) (F G:Nat->Prop) (ι:Nat->Loc) (l:List PV) (vs:List Value) (k:Nat),RepAL w F G ι (bA k (l.map .pv)) vs->RepL w F G l vs:=by
  intro w F G ι l
  induction l with
  |nil=>intro vs k h;simpa[bA,RepAL,RepL]using h
  |cons x l ih=>
   intro vs k h;simp only[lI,oI,lE,zC3,bA,Arg.av,RepAL,RepA]at h;obtain⟨v,vs',rfl,h1,h2⟩:=h;simp only[RepL];exact⟨v,vs',rfl,h1,ih _ _ h2⟩
 refine⟨⟨fn,hf,hb,hn⟩,h1,h2,rfl, ?_⟩;intro w G ι vs hamb hG ok hrp;have hpost:∀j,aZ false (args.map .pv) [] res j=.dead:=by
  intro j;unfold aZ;rw[zB2,h4];show gK (args.map .pv) [] j=.dead;unfold gK;rw[zA5];cases args[j]? <;>rfl
 have hno2:∀(ι:Nat->Loc) B,¬Held (aZ false (args.map .pv) [] res) ι B:=by
  rintro ι B ⟨id,ho⟩;rw[hpost]at ho;exact ho
 refine(h w _ G vs hamb.ok hG (hrep w _ G ι args vs 0 hrp)).mono ?_;rintro e w' ⟨v,rfl,hv,hw⟩;refine⟨v,ι,rfl,λ_ _=>LocEq.refl _,⟨hw.os,hw.tape,hw.output,hw.size,λk hk _=>hw.block k hk,λq=>by rw[NoQ.no]at q;cases q⟩,⟨λid=>by rw[hpost];trivial,λid _ B ho=>by rw[hpost]at ho;exact ho.elim⟩, ?_⟩;rw[zB2];exact hv _ _ (hno2 ι)
end Go.Gl
