/-
 A program logic over the walk's rules, joined: the rules by which a goal is worked out. Conditions: those that each lemma names.
-/
import Derived.Test.YtbppfpdgahopeaaGreatDoorGlB
import Derived.Below
import Derived.LaidMore
import Derived.OpenShut
import Derived.Lib.SmallJoins
import Derived.Laws.AppendOwn
set_option linter.unusedSimpArgs false
set_option linter.unusedVariables false
set_option linter.unusedSectionVars false
namespace Go.Gl
open Go
variable [Amb]
def eO (nt:Nat):Code→Bool
 | .region _ ops false=>mA nt ops
 | .region _ ops true=>mA nt ops&&re ops
 | .seq a b=>eO nt a&&eO nt b
 | .cond _ a b=>eO nt a&&eO nt b
 | .block _ c=>eO nt c
 | .loop c=>eO nt c
 |_=>true
section
variable {P:Program} {sg:FuncId→List Bool} {nt:Nat}
def iI (P:Program) (sg:FuncId→List Bool):Code→(Ex→St→Prop)→St→Prop
 | .skip,Q,S=>Q .normal S
 | .region _ ops false,Q,S=>k5 P sg ops S.n ops.toList 0 S fun S'=>Q .normal (S'.nx (256*ops.size))
 | .region _ ops true,Q,S=>lD P sg ops S.n ops.toList 0 S [] fun S' L=>ir ops L∧Q .normal (S'.nx (256*ops.size))
 | .seq a b,Q,S=>iI P sg a (fun ex S'=>match ex with| .normal=>iI P sg b Q S'|ex=>Q ex S') S
 | .cond c a b,Q,S=>match rm S c with
  | .p (.bool t)=>(t=true→iI P sg a Q S)∧(t=false→iI P sg b Q S)
  |_=>False
 | .block id c,Q,S=>iI P sg c (fun ex S'=>match ex with| .exit j=>if j=id then Q .normal S' else Q (.exit j) S'|ex=>Q ex S') S
 | .loop c,Q,S=>∃I:Nat→St→Prop,(∃n,I n S)∧∀n S,I n S→iI P sg c (fun ex S'=>match ex with| .normal=>∃m,m<n∧I m S'|ex=>Q ex S') S
 | .exit id,Q,S=>Q (.exit id) S
 | .ret,Q,S=>Q .ret S
 |_,_,_=>False
theorem wp_mono:∀(c:Code) {Q Q':Ex→St→Prop} {S:St},(∀ex S',Q ex S'→Q' ex S')→Gl.wp P sg nt c Q S→Gl.wp P sg nt c Q' S:=by
 have opsM:∀{ops:Array Oper} {n0:Nat} (os:List Oper) (i:Nat) (S:St) {K K':St→Prop},(∀S,K S→K' S)→k5 P sg ops n0 os i S K→k5 P sg ops n0 os i S K':=by
  intro ops n0 os
  induction os with
  |nil=>intro i S K K' h hk;exact h _ hk
  |cons o os ih=>
   intro i S K K' h hk
   simp only[k5]at hk ⊢
   exact kC (fun hy=>pY hy fun r hr=>ih _ _ h hr) (fun hn=>ih _ _ h hn) hk
 have opsDM:∀{ops:Array Oper} {n0:Nat} (os:List Oper) (i:Nat) (S:St) (L) {K K':St→List (List (Nat×Blk)×List Nat)→Prop},(∀S L,K S L→K' S L)→lD P sg ops n0 os i S L K→lD P sg ops n0 os i S L K':=by
  intro ops n0 os
  induction os with
  |nil=>intro i S L K K' h hk;exact h _ _ hk
  |cons o os ih=>
   intro i S L K K' h hk
   simp only[lD]at hk ⊢
   exact kC (fun hy=>pY hy fun r hr=>ih _ _ _ h hr) (fun hn=>ih _ _ _ h hn) hk
 intro c
 induction c with
 |skip=>intro Q Q' S h hw;exact h _ _ hw
 |exit id=>intro Q Q' S h hw;exact h _ _ hw
 |ret=>intro Q Q' S h hw;exact h _ _ hw
 |seq x y ihx ihy=>
  intro Q Q' S h hw
  refine ihx (fun ex S' hq=> ?_) hw
  cases ex with
  |normal=>exact ihy h hq
  |exit id=>exact h _ _ hq
  |ret=>exact h _ _ hq
 |cond c x y ihx ihy=>
  intro Q Q' S h hw
  simp only[Gl.wp]at hw ⊢
  split at hw
  ·rename_i t e;exact⟨fun ht=>ihx h (hw.1 ht),fun ht=>ihy h (hw.2 ht)⟩
  ·exact hw.elim
 |block id c ih=>
  intro Q Q' S h hw
  refine ih (fun ex S' hq=> ?_) hw
  cases ex with
  |normal=>exact h _ _ hq
  |exit j=>
   simp only at hq ⊢
   split
   ·rename_i e;rw[if_pos e]at hq;exact h _ _ hq
   ·rename_i e;rw[if_neg e]at hq;exact h _ _ hq
  |ret=>exact h _ _ hq
 |loop c ih=>
  intro Q Q' S h hw
  obtain⟨I,hn,hs⟩:=hw
  refine⟨I,hn,fun n S hI=>ih (fun ex S' hq=> ?_) (hs n S hI)⟩
  cases ex with
  |normal=>exact hq
  |exit id=>exact h _ _ hq
  |ret=>exact h _ _ hq
 |region id ops d=>
  intro Q Q' S h hw
  cases d with
  |false=>exact⟨hw.1,opsM _ _ _ (fun S hq=>h _ _ hq) hw.2⟩
  |true=>exact⟨hw.1,hw.2.1,opsDM _ _ _ _ (fun S L hq=>⟨hq.1,h _ _ hq.2⟩) hw.2.2⟩
 |rangeFunc=>intro Q Q' S h hw;exact hw
 |scope=>intro Q Q' S h hw;exact hw
 |label=>intro Q Q' S h hw;exact hw
 |goto=>intro Q Q' S h hw;exact hw
 |refuse=>intro Q Q' S h hw;exact hw
theorem m5:∀(c:Code) {Q:Ex→St→Prop} {S:St},eO nt c=true→iI P sg c Q S→Gl.wp P sg nt c Q S:=by
 intro c
 induction c with
 |skip=>intro Q S _ hw;exact hw
 |exit id=>intro Q S _ hw;exact hw
 |ret=>intro Q S _ hw;exact hw
 |seq x y ihx ihy=>
  intro Q S h hw
  simp only[eO,Bool.and_eq_true]at h
  refine wp_mono x (fun ex S' hq=> ?_) (ihx h.1 hw)
  cases ex with
  |normal=>exact ihy h.2 hq
  |exit id=>exact hq
  |ret=>exact hq
 |cond c x y ihx ihy=>
  intro Q S h hw
  simp only[eO,Bool.and_eq_true]at h
  simp only[Gl.wp,iI]at hw ⊢
  split at hw
  ·rename_i t e;simp only[e];exact⟨fun ht=>ihx h.1 (hw.1 ht),fun ht=>ihy h.2 (hw.2 ht)⟩
  ·exact hw.elim
 |block id c ih=>intro Q S h hw;exact ih h hw
 |loop c ih=>
  intro Q S h hw
  obtain⟨I,hn,hs⟩:=hw
  exact⟨I,hn,fun n S hI=>ih h (hs n S hI)⟩
 |region id ops d=>
  intro Q S h hw
  cases d with
  |false=>exact⟨h,hw⟩
  |true=>
   simp only[eO,Bool.and_eq_true]at h
   exact⟨h.1,h.2,hw⟩
 |rangeFunc=>intro Q S _ hw;exact hw
 |scope=>intro Q S _ hw;exact hw
 |label=>intro Q S _ hw;exact hw
 |goto=>intro Q S _ hw;exact hw
 |refuse=>intro Q S _ hw;exact hw
def vY (as:List Arg) (ts:List Nat) (res:List PV) (ex:Ex) (S:St):Prop:=
 match ex with
 | .exit _=>False
 |_=>sN false S as [] (ts.map S.e) res
theorem Fun.of (hm:P.follows .mixedOrders=true) {f:FuncId} {args res:List PV} {fn:Func} {code:Code} {ts:List Nat}
  (hf:P.funcs[f]? =some fn) (hb:fn.body=some code) (hname:(fn.name== "runtime.NumGoroutine")=false) (hres:fn.results=⟨ts.map .tmp⟩) (hargs:decide (args.length≤fn.ntmps)=true)
  (hck:eO fn.ntmps code=true) (hnr:noRoL res=true) (hro:gA res=true)
  (hw:iI P sg code (vY (args.map .pv) ts res) (eZ (args.map .pv))):Fun P f args res:=
 CallT.of_wp hm hf hb hname hres (by rw[List.length_map];exact of_decide_eq_true hargs) hnr hro rfl (wp_mono _ (fun ex S h=>by cases ex with|exit id=>exact h|normal=>exact resW_tmp.symm▸h|ret=>exact resW_tmp.symm▸h) (m5 _ hck hw))
def IK (P:Program) (as:List Arg) (rs:List ResultVar) (res:List PV) (ex:Ex) (S:St):Prop:=
 match ex with
 | .exit _=>False
 |_=>jC P S rs fun vs=>sN false S as [] vs res
theorem Fun.ofR (hm:P.follows .mixedOrders=true) {f:FuncId} {args res:List PV} {fn:Func} {code:Code} {rs:List ResultVar}
  (hf:P.funcs[f]? =some fn) (hb:fn.body=some code) (hname:(fn.name== "runtime.NumGoroutine")=false) (hres:fn.results=⟨rs⟩) (hargs:decide (args.length≤fn.ntmps)=true)
  (hck:eO fn.ntmps code=true) (hnr:noRoL res=true) (hro:gA res=true)
  (hw:iI P sg code (IK P (args.map .pv) rs res) (eZ (args.map .pv))):Fun P f args res:=
 CallT.of_wp hm hf hb hname hres (by rw[List.length_map];exact of_decide_eq_true hargs) hnr hro rfl (wp_mono _ (fun ex S h=>by cases ex with|exit id=>exact h|normal=>exact h|ret=>exact h) (m5 _ hck hw))
class Dat where
 P:Program
 sg:FuncId→List Bool
 ops:Array Oper
 n0:Nat
 os:List Oper
 i:Nat
 S:St
def oz [D:Dat] (K:St→Prop):Prop:=k5 D.P D.sg D.ops D.n0 D.os D.i D.S K
def ow [D:Dat] (L:List (List (Nat×Blk)×List Nat)) (K:St→List (List (Nat×Blk)×List Nat)→Prop):Prop:=lD D.P D.sg D.ops D.n0 D.os D.i D.S L K
variable {Q:Ex→St→Prop} {S:St}
def ut (P:Program) (sg:FuncId→List Bool) (b:Code) (Q:Ex→St→Prop) (ex:Ex) (S':St):Prop:=match ex with| .normal=>iI P sg b Q S'|ex=>Q ex S'
def q0 (id:Nat) (Q:Ex→St→Prop) (ex:Ex) (S':St):Prop:=match ex with| .exit j=>if j=id then Q .normal S' else Q (.exit j) S'|ex=>Q ex S'
def L7 (I:Nat→St→Prop) (n:Nat) (Q:Ex→St→Prop) (ex:Ex) (S':St):Prop:=match ex with| .normal=>∃m,m<n∧I m S'|ex=>Q ex S'
theorem PH {a b:Code} (h:iI P sg a (ut P sg b Q) S):iI P sg (.seq a b) Q S:=h
theorem Jx (h:Q .normal S):iI P sg .skip Q S:=h
theorem JF {id:Nat} (h:Q (.exit id) S):iI P sg (.exit id) Q S:=h
theorem PI (h:Q .ret S):iI P sg .ret Q S:=h
theorem EM {id:Nat} {c:Code} (h:iI P sg c (q0 id Q) S):iI P sg (.block id c) Q S:=h
theorem Fg {b:Code} (h:iI P sg b Q S):ut P sg b Q .normal S:=h
theorem Fh {b:Code} {id:Nat} (h:Q (.exit id) S):ut P sg b Q (.exit id) S:=h
theorem Ff {b:Code} (h:Q .ret S):ut P sg b Q .ret S:=h
theorem Fk {id:Nat} (h:Q .normal S):q0 id Q .normal S:=h
theorem Fj {id:Nat} (h:Q .ret S):q0 id Q .ret S:=h
theorem Fi {id:Nat} (h:Q .normal S):q0 id Q (.exit id) S:=by simp only[q0,if_true];exact h
theorem oZ {id j:Nat} (e:(j==id)=false) (h:Q (.exit j) S):q0 id Q (.exit j) S:=by
 have:j≠id:=by simpa using e
 simp only[q0,if_neg this];exact h
theorem Kl {I:Nat→St→Prop} {n id:Nat} (h:Q (.exit id) S):L7 I n Q (.exit id) S:=h
theorem Kk {I:Nat→St→Prop} {n:Nat} (h:Q .ret S):L7 I n Q .ret S:=h
theorem am {I:Nat→St→Prop} {n:Nat} (m:Nat) (hm:m<n) (h:I m S):L7 I n Q .normal S:=⟨m,hm,h⟩
theorem Xa {c:Operand} {x y:Code} {t:Bool} (e:rm S c=.p (.bool t)) (h1:t=true→iI P sg x Q S) (h2:t=false→iI P sg y Q S):iI P sg (.cond c x y) Q S:=by
 simp only[iI,e];exact⟨h1,h2⟩
theorem Jy {c:Code} (I:Nat→St→Prop) (n:Nat) (h:I n S) (hs:∀n S,I n S→iI P sg c (L7 I n Q) S):iI P sg (.loop c) Q S:=⟨I,⟨n,h⟩,hs⟩
theorem lV {id:Nat} {ops:Array Oper} {os:List Oper} {n:Nat} (e:ops.toList=os) (en:256*ops.size=n) (h:∀K:St→Prop,(∀S',Q .normal (S'.nx n)→K S')→ @oz _ ⟨P,sg,ops,S.n,os,0,S⟩ K):iI P sg (.region id ops false) Q S:=by
 subst e;subst en;exact h _ fun S' hq=>hq
theorem oS {id:Nat} {ops:Array Oper} {os:List Oper} {n:Nat} (e:ops.toList=os) (en:256*ops.size=n) (h:∀K:St→List (List (Nat×Blk)×List Nat)→Prop,(∀S' L,ir ops L→Q .normal (S'.nx n)→K S' L)→ @ow _ ⟨P,sg,ops,S.n,os,0,S⟩ [] K):iI P sg (.region id ops true) Q S:=by
 subst e;subst en;exact h _ fun S' L hc hq=>⟨hc,hq⟩
def Og (v:AV) (A B:Prop):Prop:=
 match v with
 | .p (.bool t)=>(t=true→A)∧(t=false→B)
 |_=>False
theorem Io {t:Bool} {A B:Prop}:Og (.p (.bool t)) A B=((t=true→A)∧(t=false→B)):=_root_.id rfl
theorem In {A B:Prop}:Og (.p (.bool true)) A B=A:=by simp[Og]
theorem D6 {A B:Prop}:Og (.p (.bool false)) A B=B:=by simp[Og]
theorem EK {c:Operand} {x y:Code} (h:∀A B:Prop,(iI P sg x Q S→A)→(iI P sg y Q S→B)→Og (rm S c) A B):iI P sg (.cond c x y) Q S:=by
 have:=h _ _ id id
 simp only[iI,Og]at this ⊢
 exact this
def kg:PV→Bool
 | .sl .own _| .sl .fr _| .agg _| .dl _| .bx _=>false
 |_=>true
theorem su {as:List Arg} {t:Nat} {x:PV} (hx:kg x=true) (h:S.e t=.p x):sN false S as [] [S.e t] [x]:=by
 have e:∀K,K []→fin false S.h as.length (S.e t) x K:=fun K hK=>by
  rw[h]
  cases x with
  |sl o xs=>cases o with
   |ro=>exact⟨rfl,hK⟩
   |fr=>simp[kg]at hx
   |own=>simp[kg]at hx
  |agg xs=>simp[kg]at hx
  |dl xs=>simp[kg]at hx
  |bx xs=>simp[kg]at hx
  |_=>exact⟨rfl,hK⟩
 refine e _ ⟨by simp,fun j _=> ?_⟩
 split
 ·rename_i h;simp at h
 ·trivial
theorem xD {as:List Arg} {t:Nat} {x:PV} (hx:kg x=true) (h:S.e t=.p x):vY as [t] [x] .ret S:=su hx h
theorem W9 {as:List Arg} {t:Nat} {x:PV} (hx:kg x=true) (h:S.e t=.p x):vY as [t] [x] .normal S:=su hx h
theorem pp {as:List Arg}:vY as [] [] .ret S:=by
 refine⟨by simp,fun j _=> ?_⟩
 split
 ·rename_i h;simp at h
 ·trivial
theorem oR {as:List Arg}:vY as [] [] .normal S:=pp
theorem fG {ops:Array Oper} {L:List (List (Nat×Blk)×List Nat)} (h:(L.map (·.1)).all List.isEmpty=true):ir ops L:=by
 have key:∀i,(L.getD i ([],[])).1=[]:=fun i=>by
  rw[List.getD_eq_getElem?_getD]
  cases hi:L[i]? with
  |none=>rfl
  |some p=>
   have:=List.all_eq_true.1 h p.1 (List.mem_map.2 ⟨p,List.mem_of_getElem? hi,rfl⟩)
   simpa using this
 intro j _ i _
 right
 unfold clear
 rw[key i,key j]
 simp
def Nx [D:Dat] (d:Option Nat) (K:St→Prop):R→Prop:=
 fun r=>k5 D.P D.sg D.ops D.n0 D.os (D.i+1) (D.S.app d r) K
def Dx [D:Dat] (d:Option Nat) (L:List (List (Nat×Blk)×List Nat)) (K:St→List (List (Nat×Blk)×List Nat)→Prop):R→Prop:=
 fun r=>lD D.P D.sg D.ops D.n0 D.os (D.i+1) (D.S.app d r) (L++[(r.ws,r.rd)]) K
def KV (K:R→Prop) (v:PV):Prop:=K ⟨.p v,[],[]⟩
def KW (K:R→Prop) (v:AV):Prop:=K ⟨v,[],[]⟩
def KA (k:Nat) (K:R→Prop) (v:AV):Prop:=jM k v K
variable {ops:Array Oper} {n0 i k:Nat} {os:List Oper} {d:Option Nat} {K:St→Prop} {KD:St→List (List (Nat×Blk)×List Nat)→Prop} {L:List (List (Nat×Blk)×List Nat)} {op:Op} {ty:TypeId} {ps:String} {af:Array Edge} {C:R→Prop}
def gd (ops:Array Oper) (S:St) (j:Nat):AV:=match (ops[j]?).bind (·.dst)with|some d=>S.e d|none=>.p .any
theorem Dm {S:St} {j:Nat} {want:Bool} {yes no:Prop} {o:Oper} (hg:o.guard=some (j,want)):ds ops S o yes no=sj (gd ops S j) want yes no:=by
 unfold ds gd sj
 simp only[hg]
 cases (ops[j]?).bind (·.dst)<;>rfl
def gI [D:Dat] (v:AV) (want:Bool) (d:Option Nat) (op:Op) (K:St→Prop):Prop:=
 sj v want (jc D.P D.sg (rm D.S) D.S.h (lE D.n0 D.i) op (Nx d K)) (k5 D.P D.sg D.ops D.n0 D.os (D.i+1) (D.S.puto d (.tup [])) K)
def gJ [D:Dat] (v:AV) (want:Bool) (d:Option Nat) (op:Op) (L:List (List (Nat×Blk)×List Nat)) (K:St→List (List (Nat×Blk)×List Nat)→Prop):Prop:=
 sj v want (jc D.P D.sg (rm D.S) D.S.h (lE D.n0 D.i) op (Dx d L K)) (lD D.P D.sg D.ops D.n0 D.os (D.i+1) (D.S.puto d (.tup [])) (L++[([],[])]) K)
theorem Rq: @oz _ ⟨P,sg,ops,n0,[],i,S⟩ K=K S:=_root_.id rfl
theorem Kg: @oz _ ⟨P,sg,ops,n0,⟨d,op,ty,ps,af,none⟩::os,i,S⟩ K=jc P sg (rm S) S.h (lE n0 i) op (@Nx _ ⟨P,sg,ops,n0,os,i,S⟩ d K):=_root_.id rfl
theorem Fd {j:Nat} {want:Bool}: @oz _ ⟨P,sg,ops,n0,⟨d,op,ty,ps,af,some (j,want)⟩::os,i,S⟩ K= @gI _ ⟨P,sg,ops,n0,os,i,S⟩ (gd ops S j) want d op K:=
 Dm (o:=⟨d,op,ty,ps,af,some (j,want)⟩) rfl
theorem YQ {r:R}: @Nx _ ⟨P,sg,ops,n0,os,i,S⟩ d K r= @oz _ ⟨P,sg,ops,n0,os,i+1,S.app d r⟩ K:=_root_.id rfl
theorem U2: @ow _ ⟨P,sg,ops,n0,[],i,S⟩ L KD=KD S L:=_root_.id rfl
theorem NR: @ow _ ⟨P,sg,ops,n0,⟨d,op,ty,ps,af,none⟩::os,i,S⟩ L KD=jc P sg (rm S) S.h (lE n0 i) op (@Dx _ ⟨P,sg,ops,n0,os,i,S⟩ d L KD):=_root_.id rfl
theorem H9 {j:Nat} {want:Bool}: @ow _ ⟨P,sg,ops,n0,⟨d,op,ty,ps,af,some (j,want)⟩::os,i,S⟩ L KD= @gJ _ ⟨P,sg,ops,n0,os,i,S⟩ (gd ops S j) want d op L KD:=
 Dm (o:=⟨d,op,ty,ps,af,some (j,want)⟩) rfl
theorem aaj {v:AV} {ws:List (Nat×Blk)} {rd:List Nat}: @Dx _ ⟨P,sg,ops,n0,os,i,S⟩ d L KD ⟨v,ws,rd⟩= @ow _ ⟨P,sg,ops,n0,os,i+1,S.app d ⟨v,ws,rd⟩⟩ (L++[(ws,rd)]) KD:=_root_.id rfl
theorem yx {b want:Bool} {yes no:Prop}:sj (.p (.bool b)) want yes no=((b=want→yes)∧(b= !want→no)):=by
 cases b<;>cases want<;>simp[sj]
theorem T1 {want:Bool}: @gI _ ⟨P,sg,ops,n0,os,i,S⟩ (.tup []) want d op K= @oz _ ⟨P,sg,ops,n0,os,i+1,S.puto d (.tup [])⟩ K:=by simp[gI,sj,oz]
theorem TW {want:Bool}: @gJ _ ⟨P,sg,ops,n0,os,i,S⟩ (.tup []) want d op L KD= @ow _ ⟨P,sg,ops,n0,os,i+1,S.puto d (.tup [])⟩ (L++[([],[])]) KD:=by simp[gJ,sj,ow]
theorem T2: @gI _ ⟨P,sg,ops,n0,os,i,S⟩ (.p (.bool true)) true d op K=jc P sg (rm S) S.h (lE n0 i) op (@Nx _ ⟨P,sg,ops,n0,os,i,S⟩ d K):=by simp[gI,sj]
theorem T5: @gI _ ⟨P,sg,ops,n0,os,i,S⟩ (.p (.bool false)) false d op K=jc P sg (rm S) S.h (lE n0 i) op (@Nx _ ⟨P,sg,ops,n0,os,i,S⟩ d K):=by simp[gI,sj]
theorem T3: @gI _ ⟨P,sg,ops,n0,os,i,S⟩ (.p (.bool true)) false d op K= @oz _ ⟨P,sg,ops,n0,os,i+1,S.puto d (.tup [])⟩ K:=by simp[gI,sj,oz]
theorem T4: @gI _ ⟨P,sg,ops,n0,os,i,S⟩ (.p (.bool false)) true d op K= @oz _ ⟨P,sg,ops,n0,os,i+1,S.puto d (.tup [])⟩ K:=by simp[gI,sj,oz]
class Arm where
 A:Prop
 B:Prop
def GB (b want:Bool) [D:Arm]:Prop:=(b=want→D.A)∧(b= !want→D.B)
theorem TN {A B:Prop}: @GB true true ⟨A,B⟩=A:=by simp[GB]
theorem TQ {A B:Prop}: @GB false false ⟨A,B⟩=A:=by simp[GB]
theorem TO {A B:Prop}: @GB true false ⟨A,B⟩=B:=by simp[GB]
theorem TP {A B:Prop}: @GB false true ⟨A,B⟩=B:=by simp[GB]
theorem xB {b:Bool} {A B:Prop} (h1:b=true→A) (h2:b=false→B): @GB b true ⟨A,B⟩:=⟨h1,h2⟩
theorem xC {b:Bool} {A B:Prop} (h1:b=false→A) (h2:b=true→B): @GB b false ⟨A,B⟩:=⟨h1,h2⟩
theorem G1 {b want:Bool}: @gI _ ⟨P,sg,ops,n0,os,i,S⟩ (.p (.bool b)) want d op K= @GB b want ⟨jc P sg (rm S) S.h (lE n0 i) op (@Nx _ ⟨P,sg,ops,n0,os,i,S⟩ d K), @oz _ ⟨P,sg,ops,n0,os,i+1,S.puto d (.tup [])⟩ K⟩:=yx
theorem TX: @gJ _ ⟨P,sg,ops,n0,os,i,S⟩ (.p (.bool true)) true d op L KD=jc P sg (rm S) S.h (lE n0 i) op (@Dx _ ⟨P,sg,ops,n0,os,i,S⟩ d L KD):=by simp[gJ,sj]
theorem T0: @gJ _ ⟨P,sg,ops,n0,os,i,S⟩ (.p (.bool false)) false d op L KD=jc P sg (rm S) S.h (lE n0 i) op (@Dx _ ⟨P,sg,ops,n0,os,i,S⟩ d L KD):=by simp[gJ,sj]
theorem TY: @gJ _ ⟨P,sg,ops,n0,os,i,S⟩ (.p (.bool true)) false d op L KD= @ow _ ⟨P,sg,ops,n0,os,i+1,S.puto d (.tup [])⟩ (L++[([],[])]) KD:=by simp[gJ,sj,ow]
theorem TZ: @gJ _ ⟨P,sg,ops,n0,os,i,S⟩ (.p (.bool false)) true d op L KD= @ow _ ⟨P,sg,ops,n0,os,i+1,S.puto d (.tup [])⟩ (L++[([],[])]) KD:=by simp[gJ,sj,ow]
theorem G0 {b want:Bool}: @gJ _ ⟨P,sg,ops,n0,os,i,S⟩ (.p (.bool b)) want d op L KD= @GB b want ⟨jc P sg (rm S) S.h (lE n0 i) op (@Dx _ ⟨P,sg,ops,n0,os,i,S⟩ d L KD), @ow _ ⟨P,sg,ops,n0,os,i+1,S.puto d (.tup [])⟩ (L++[([],[])]) KD⟩:=yx
theorem YS {v:PV}:KV C v=C ⟨.p v,[],[]⟩:=_root_.id rfl
theorem YR {v:AV}:KW C v=C ⟨v,[],[]⟩:=_root_.id rfl
theorem YT {v:AV}:KA k C v=jM k v C:=_root_.id rfl
variable {rd:List Nat}
theorem iN {n:Int}:nE .i64 n=(-9223372036854775808≤n∧n≤9223372036854775807):=by
 simp only[nE];rfl
theorem Rr {n:Nat} {v:AV}:S.app (some n) ⟨v,[],rd⟩=S.put n v:=_root_.id rfl
theorem Ki {v:AV}:S.app none ⟨v,[],rd⟩=S:=_root_.id rfl
theorem Kh {n:Nat} {v:AV} {w:Nat×Blk} {ws:List (Nat×Blk)}:S.app (some n) ⟨v,w::ws,rd⟩=(S.put n v).hws (w::ws):=_root_.id rfl
theorem Fe {v:AV} {w:Nat×Blk} {ws:List (Nat×Blk)}:S.app none ⟨v,w::ws,rd⟩=S.hws (w::ws):=_root_.id rfl
theorem Kf {n:Nat} {v:AV}:S.puto (some n) v=S.put n v:=_root_.id rfl
theorem HX {as:List Arg} {t:Nat}:(eZ as).e t=(bK 0 as).getD t (.p .any):=_root_.id rfl
theorem GW {as:List Arg}:(eZ as).h=cm as:=_root_.id rfl
theorem F5 {as:List Arg}:(eZ as).n=as.length:=_root_.id rfl
theorem UM {n:Nat} {v:AV} {t:Nat}:(S.put n v).e t=if t=n then v else S.e t:=_root_.id rfl
theorem UO {l:List (Nat×Blk)}:(S.hws l).e=S.e:=_root_.id rfl
theorem aaa {n:Nat}:(S.nx n).e=S.e:=_root_.id rfl
theorem TE {n:Nat} {v:AV}:(S.put n v).h=S.h:=_root_.id rfl
theorem TF {l:List (Nat×Blk)}:(S.hws l).h=hwsH S.h l:=_root_.id rfl
theorem ZS {n:Nat}:(S.nx n).h=S.h:=_root_.id rfl
theorem R1 {n:Nat} {v:AV}:(S.put n v).n=S.n:=_root_.id rfl
theorem Se {l:List (Nat×Blk)}:(S.hws l).n=S.n:=_root_.id rfl
theorem Zo {n:Nat}:(S.nx n).n=S.n+n:=_root_.id rfl
theorem RP {t:Nat}:rm S (.tmp t)=S.e t:=_root_.id rfl
theorem FJ {v:Value}:rm S (.const v)=.p (dz v):=_root_.id rfl
theorem K4 {f:FuncId}:rm S (.func f)=.p (.fn f [] []):=_root_.id rfl
theorem Vc {kd:IntKind} {n:Int}:dz (.int kd n)=.int kd n:=_root_.id rfl
theorem Oj {b:Bool}:dz (.bool b)=.bool b:=_root_.id rfl
theorem Vb {s:ByteArray}:dz (.string s)=.str s.data.toList:=_root_.id rfl
theorem Oi:dz (.slice none 0 0)=.sl .own []:=_root_.id rfl
theorem aao:dz .nilFunc=.nilf:=_root_.id rfl
variable {ρ:Operand→AV} {h:Nat→Blk} {t t' t'':TypeId} {x y z:Operand}
theorem C8 {op:Op}:iw P false false false op=false:=by cases op<;>rfl
theorem Pp {op:Op} (hs:fJ sg=false) (hn:ga sg=false) (h3:f9 sg=false) (h4:f8 sg=false) (h5:gb sg=false):jc P sg ρ h k op C=fY P sg ρ h k op C:=by simp[jc,hs,hn,h3,h4,h5,C8]
theorem Pm {op:Op} (hs:fJ sg=false) (hn:iw P (ga sg) (f9 sg) (f8 sg) op=true):jc P sg ρ h k op C=rD P ρ h k op C:=by simp[jc,hs,hn]
theorem Pj {op:Op} (h5:gb sg=false) (hs:fJ sg=false) (hn:iw P (ga sg) (f9 sg) (f8 sg) op=false):jc P sg ρ h k op C=fY P sg ρ h k op C:=by simp[jc,hs,hn,h5]
theorem Pn {op:Op} (h5:gb sg=true) (hs:fJ sg=false) (hm:oE P op=true):jc P sg ρ h k op C=rD P ρ h k op C:=by simp[jc,hs,h5,hm]
theorem Po {op:Op} (h5:gb sg=true) (hs:fJ sg=false) (hm:oE P op=false) (hn:iw P (ga sg) (f9 sg) (f8 sg) op=false):jc P sg ρ h k op C=fY P sg ρ h k op C:=by simp[jc,hs,hn,h5,hm]
theorem Js:fY P sg ρ h k (.move x) C=jM k (ρ x) C:=_root_.id rfl
theorem A9:fY P sg ρ h k (.assign x) C=jM k (ρ x) C:=_root_.id rfl
theorem Jr:fY P sg ρ h k (.pick x y z) C=jk (ρ x) (ρ y) (ρ z) (KA k C):=_root_.id rfl
theorem PE {b:BinOp}:fY P sg ρ h k (.binOp b t x y t') C=dv P b t (ρ x) (ρ y) (KV C):=_root_.id rfl
theorem W3 {b:UnOp}:fY P sg ρ h k (.unOp b t x) C=IL b (ρ x) (KV C):=_root_.id rfl
theorem W7:fY P sg ρ h k (.convert t t' x) C=gl P t t' k h (ρ x) C:=_root_.id rfl
theorem Jt:fY P sg ρ h k (.makeSlice t x y) C=oa P t k (ρ x) (ρ y) C:=_root_.id rfl
theorem Jw:fY P sg ρ h k (.indexAddr t x y) C=bH P t (ρ x) (ρ y) (KW C):=_root_.id rfl
theorem ED:fY P sg ρ h k (.index t x y) C=kw P t (ρ x) (ρ y) (KW C):=_root_.id rfl
theorem Ju:fY P sg ρ h k (.load t x) C=dZ P t h (ρ x) C:=_root_.id rfl
theorem EB:fY P sg ρ h k (.store t x y) C=iT P t h (ρ x) (ρ y) C:=_root_.id rfl
theorem EJ:fY P sg ρ h k (.alloc t) C=kI P t k C:=_root_.id rfl
theorem PC:fY P sg ρ h k (.box t x) C=Ea h k (ρ x) C:=_root_.id rfl
theorem EE {f:Nat}:fY P sg ρ h k (.field t x f) C=jI P t f (ρ x) (KA k C):=_root_.id rfl
theorem ud {f:Nat}:fY P sg ρ h k (.fieldAddr t x f) C=da P t f (ρ x) (KW C):=_root_.id rfl
def qY (P:Program) (sg:FuncId→List Bool) (h:Nat→Blk) (k:Nat) (v:AV) (vs:List AV) (C:R→Prop):Prop:=
 match v with
 | .p (.fn g first caps)=>jS P sg h k g (first.map .p++vs++caps.map .p) C
 | .fn g first caps=>jS P sg h k g (first++vs++caps) C
 |_=>False
def Pk (P:Program) (h:Nat→Blk) (k:Nat) (f:FuncId) (C:R→Prop):List Arg→List Nat→List (Option (Nat×Option Nat))→Prop:=
 fun as rd ms=>CU ms rd∧∃tk outs res,CallT P tk f as outs res∧∃t,(t=false→tk=true→CW h ms)∧C ⟨impAll k res,dy h outs 0 ms++impWs t k res,cF ms++rd⟩
def PkX (P:Program) (h:Nat→Blk) (k:Nat) (f:FuncId) (C:R→Prop):List PV→List Nat→Prop:=
 fun xs rd=>Pk P h k f C (xs.map .pv) rd (xs.map fun _=>none)
def o0 (h:Nat→Blk):List AV→(List PV→List Nat→Prop)→Prop
 |[],F=>F [] []
 |v::vs,F=>uD h v fun x rd=>o0 h vs fun xs rd'=>F (x::xs) (rd++rd')
theorem kO {h:Nat→Blk}:∀{vs:List AV} {F:List Arg→List Nat→List (Option (Nat×Option Nat))→Prop},pass h [] vs F=o0 h vs fun xs rd=>F (xs.map .pv) rd (xs.map fun _=>none)
 |[],_=>rfl
 |v::vs,F=>by
  simp only[pass,o0,List.tail_nil]
  congr 1;funext x rd
  rw[kO]
  rfl
def UA (F:List PV→List Nat→Prop) (x:PV) (rd:List Nat):List PV→List Nat→Prop:=
 fun xs rd'=>F (x::xs) (rd++rd')
def UN (h:Nat→Blk) (vs:List AV) (F:List PV→List Nat→Prop) (x:PV) (rd:List Nat):Prop:=o0 h vs (UA F x rd)
def ou (b:Blk) (id off len:Nat) (F:PV→List Nat→Prop):Prop:=
 match b with
 | .live _ c=>off+len≤c.length∧F (.sl .ro ((c.drop off).take len)) [id]
 | .froz m c=>off+len≤c.length∧F (.sl (.lent m) ((c.drop off).take len)) [id]
 | .deep _ cs rs=>off+len≤cs.length∧F (.sl .ro (((cs.map (DC.rd rs)).drop off).take len)) [id]
 |_=>False
theorem Jv {f:Operand} {args:List Operand} {ts:Array TypeId}:fY P sg ρ h k (.call {callee:=.value f,args:=⟨args⟩,argTypes:=ts}) C=qY P sg h k (ρ f) (args.map ρ) C:=by
 simp only[fY];rfl
def FZ (P:Program) (sg:FuncId→List Bool) (h:Nat→Blk) (k:Nat) (g:FuncId) (vs:List AV) (C:R→Prop) (l:List Nat):Prop:=vR P sg (hwsH h (iD h l)) k g vs fun r=>C ⟨r.v,iD h l++r.ws,l++r.rd⟩
def FZC (C:R→Prop) (ws:List (Nat×Blk)) (rd:List Nat) (r:R):Prop:=C ⟨r.v,ws++r.ws,rd++r.rd⟩
theorem MP {v:AV} {ws ws':List (Nat×Blk)} {rd rd':List Nat}:FZC C ws rd ⟨v,ws',rd'⟩=C ⟨v,ws++ws',rd++rd'⟩:=_root_.id rfl
theorem MQ {g:FuncId} {vs:List AV}:FZ P sg h k g vs C []=pass h (sg g) vs (Pk P h k g C):=_root_.id rfl
theorem G3 {g:FuncId} {vs:List AV} {i:Nat} {l:List Nat}:FZ P sg h k g vs C (i::l)=pass (hwsH h (vr (h i) i (iD h l))) (sg g) vs (Pk P (hwsH h (vr (h i) i (iD h l))) k g (FZC C (vr (h i) i (iD h l)) (i::l))):=_root_.id rfl
theorem MT:iD h []=[]:=_root_.id rfl
theorem G7 {i:Nat} {l:List Nat}:iD h (i::l)=vr (h i) i (iD h l):=_root_.id rfl
theorem HP {m:Bool} {c:List PV} {i:Nat} {ws:List (Nat×Blk)}:vr (.live m c) i ws=(i,.froz m c)::ws:=_root_.id rfl
theorem HQ {m:Bool} {c:List PV} {i:Nat} {ws:List (Nat×Blk)}:vr (.froz m c) i ws=ws:=_root_.id rfl
theorem Nw {vs:List AV}:iE [] vs=[]:=by cases vs<;>rfl
theorem HS {fs:List Bool}:iE fs []=[]:=by cases fs with|nil=>rfl|cons b fs=>cases b<;>rfl
theorem Z7 {fs:List Bool} {i o l:Nat} {vs:List AV}:iE (true::fs) (.ref i o l::vs)=i::iE fs vs:=_root_.id rfl
theorem UG {fs:List Bool} {x:PV} {vs:List AV}:iE (true::fs) (.p x::vs)=iE fs vs:=_root_.id rfl
theorem Z8 {fs:List Bool} {v:AV} {vs:List AV}:iE (false::fs) (v::vs)=iE fs vs:=by cases v<;>rfl
def Wa (b:List Bool) (P:Program) (h:Nat→Blk) (g:FuncId) (vs:List AV) (C:R→Prop) (F:Prop):Prop:=if b.isEmpty=true then F else lm P h g vs C
theorem GH {g:FuncId} {vs:List AV} {F:Prop}:Wa [] P h g vs C F=F:=if_pos rfl
theorem C9 {x:Bool} {b:List Bool} {g:FuncId} {vs:List AV} {F:Prop}:Wa (x::b) P h g vs C F=lm P h g vs C:=if_neg (by simp)
def Wm (P:Program) (b:Blk) (g:FuncId) (id off len:Nat) (C:R→Prop):Prop:=
 match b with
 | .live m c=>off+len≤c.length∧∃f,Ep P g f∧∃l:List Int,(c.drop off).take len=l.map (PV.int .i64)∧C ⟨.p .any,[(id,.live m (c.take off++(f l).map (PV.int .i64)++c.drop (off+len)))],[id]⟩
 |_=>False
theorem Mx {g:FuncId} {id off len:Nat}:lm P h g [.ref id off len] C=Wm P (h id) g id off len C:=by
 simp only[lm,Wm];cases h id<;>rfl
def IPk (P:Program) (g:FuncId) (F:(List Int→List Int)→Prop):Prop:=∃f,Ep P g f∧F f
def IPL (m:Bool) (id off len:Nat) (L:List Int) (C:R→Prop) (f:List Int→List Int):Prop:=C ⟨.p .any,[(id,.live m (List.map (PV.int .i64) (L.take off++f ((L.drop off).take len)++L.drop (off+len))))],[id]⟩
theorem Mw {m:Bool} {id off len:Nat} {L:List Int} {f:List Int→List Int}:IPL m id off len L C f=C ⟨.p .any,[(id,.live m (List.map (PV.int .i64) (L.take off++f ((L.drop off).take len)++L.drop (off+len))))],[id]⟩:=_root_.id rfl
theorem uU:∀{a b:List Int},a.map (PV.int .i64)=b.map (PV.int .i64)→a=b
 |[],[],_=>rfl
 |[],_::_,h=>by cases h
 |_::_,[],h=>by cases h
 |x::a,y::b,h=>by
  simp only[List.map_cons,List.cons.injEq]at h
  obtain⟨h1,h2⟩:=h
  cases h1;rw[uU h2]
theorem GM {g:FuncId} {m:Bool} {id off len:Nat} {L:List Int}:Wm P (.live m (List.map (PV.int .i64) L)) g id off len C=(off+len≤L.length∧IPk P g (IPL m id off len L C)):=by
 apply propext
 simp only[Wm,IPk,IPL,List.length_map,List.map_append,List.map_take,List.map_drop]
 constructor
 ·rintro⟨h1,f,h2,l,h3,h4⟩
  rw[←List.map_drop,←List.map_take]at h3
  rw[←uU h3]at h4
  exact⟨h1,f,h2,h4⟩
 ·rintro⟨h1,f,h2,h4⟩
  exact⟨h1,f,h2,_,(by rw[List.map_take,List.map_drop]),h4⟩
theorem bQ {g:FuncId} {f:List Int→List Int} {F:(List Int→List Int)→Prop} (h:Ep P g f) (k:F f):IPk P g F:=⟨f,h,k⟩
theorem ZU {g:FuncId} {vs:List AV}:qY P sg h k (.p (.fn g [] [])) vs C=Wa (sg (g+12884901888)) P h g vs C (FZ P sg h k g vs C (iE (sg (g+8589934592)) vs)):=by
 simp only[qY,jS,List.map_nil,List.nil_append,List.append_nil];rfl
theorem Rz {f:FuncId} {vs:List AV}:pass h [] vs (Pk P h k f C)=o0 h vs (PkX P h k f C):=kO
theorem Rv {F:List PV→List Nat→Prop}:o0 h [] F=F [] []:=_root_.id rfl
theorem q_p {x:PV} {vs:List AV} {F:List PV→List Nat→Prop}:o0 h (.p x::vs) F=o0 h vs (UA F x.cell []):=_root_.id rfl
theorem Rt {id off len:Nat} {vs:List AV} {F:List PV→List Nat→Prop}:o0 h (.ref id off len::vs) F=ou (h id) id off len (UN h vs F):=by
 simp only[o0,uD,iA,ou];cases h id<;>rfl
theorem Rs {F:List PV→List Nat→Prop} {x:PV} {rd rd':List Nat} {xs:List PV}:UA F x rd xs rd'=F (x::xs) (rd++rd'):=_root_.id rfl
theorem YU {F:List PV→List Nat→Prop} {x:PV} {rd:List Nat} {vs:List AV}:UN h vs F x rd=o0 h vs (UA F x rd):=_root_.id rfl
theorem Km {m:Bool} {c:List PV} {id off len:Nat} {F:PV→List Nat→Prop}:ou (.live m c) id off len F=(off+len≤c.length∧F (.sl (.lent true) ((c.drop off).take len)) [id]):=_root_.id rfl
theorem Kn {m:Bool} {c:List PV} {id off len:Nat} {F:PV→List Nat→Prop}:ou (.froz m c) id off len F=(off+len≤c.length∧F (.sl (.lent m) ((c.drop off).take len)) [id]):=_root_.id rfl
theorem JG {f:FuncId} {xs res:List PV} {rd:List Nat} (hf:Fun P f xs res) (hc:C ⟨impAll k res,impWs false k res,rd⟩):PkX P h k f C xs rd:=by
 have hm:∀(l:List PV),cF (l.map fun _=>(none:Option (Nat×Option Nat)))=[]:=fun l=>by
  unfold cF;rw[List.filterMap_eq_nil_iff];intro a ha;obtain⟨_,_,rfl⟩:=List.mem_map.1 ha;rfl
 have ho:∀(l:List PV) (j:Nat),dy h [] j (l.map fun _=>(none:Option (Nat×Option Nat)))=[]:=fun l=>by
  induction l with
  |nil=>intro j;rfl
  |cons x l ih=>intro j;exact ih (j+1)
 refine⟨⟨by rw[hm];exact List.nodup_nil,by rw[hm];simp⟩,false,[],res,hf,false,fun _ e=>(by cases e), ?_⟩
 rw[hm,ho];exact hc
theorem D4 {kd:IntKind} {n:Int}:(PV.int kd n).cell=.int kd n:=_root_.id rfl
theorem AD {b:Bool}:(PV.bool b).cell=.bool b:=_root_.id rfl
theorem D2 {s:List UInt8}:(PV.str s).cell=.str s:=_root_.id rfl
theorem AC {m:Bool} {s:List PV}:(PV.sl (.lent m) s).cell=.sl (.lent m) s:=by cases m<;>rfl
theorem D3 {s:List PV}:(PV.sl .own s).cell=.sl (.lent false) []:=_root_.id rfl
theorem D5 {s:List PV}:(PV.agg s).cell=.agg s:=_root_.id rfl
theorem Il {f:FuncId} {a b:List PV}:(PV.fn f a b).cell=.fn f a b:=_root_.id rfl
theorem AB:PV.nilf.cell=.nilf:=_root_.id rfl
theorem V2 {kd:IntKind} {n:Int}:jM k (.p (.int kd n)) C=C ⟨.p (.int kd n),[],[]⟩:=_root_.id rfl
theorem OK {b:Bool}:jM k (.p (.bool b)) C=C ⟨.p (.bool b),[],[]⟩:=_root_.id rfl
theorem VX {s:List UInt8}:jM k (.p (.str s)) C=C ⟨.p (.str s),[],[]⟩:=_root_.id rfl
theorem OI {m:Bool} {s:List PV}:jM k (.p (.sl (.lent m) s)) C=C ⟨.p (.sl (.lent m) s),[],[]⟩:=by cases m<;>rfl
theorem V1 {s:List PV}:jM k (.p (.sl .own s)) C=C ⟨.ref k 0 s.length,[(k,.live false s)],[]⟩:=_root_.id rfl
theorem V4 {s:List PV}:jM k (.p (.agg s)) C=C ⟨.p (.agg s),[],[]⟩:=_root_.id rfl
theorem aaM {f:FuncId} {a b:List PV}:jM k (.p (.fn f a b)) C=C ⟨.p (.fn f a b),[],[]⟩:=_root_.id rfl
theorem OH:jM k (.p .nilf) C=C ⟨.p .nilf,[],[]⟩:=_root_.id rfl
theorem aaL {s:List PV}:jM k (.p (.pc s)) C=C ⟨.p (.pc s),[],[]⟩:=_root_.id rfl
theorem Ji:jM k (.p .any) C=C ⟨.p .any,[],[]⟩:=_root_.id rfl
theorem VY {a b c:Nat}:jM k (.ref a b c) C=C ⟨.ref a b c,[],[]⟩:=_root_.id rfl
theorem VZ {a b:Nat}:jM k (.ptr a b) C=C ⟨.ptr a b,[],[]⟩:=_root_.id rfl
theorem OL {s:List AV}:jM k (.agg s) C=C ⟨.agg s,[],[]⟩:=_root_.id rfl
theorem VW {s:List AV}:jM k (.tup s) C=C ⟨.tup s,[],[]⟩:=_root_.id rfl
theorem V3 {i r o l:Nat}:jM k (.inn i r o l) C=C ⟨.inn i r o l,[],[]⟩:=_root_.id rfl
theorem V0 {i n:Nat}:jM k (.prs i n) C=C ⟨.prs i n,[],[]⟩:=_root_.id rfl
theorem OJ {i r o:Nat}:jM k (.iptr i r o) C=C ⟨.iptr i r o,[],[]⟩:=_root_.id rfl
theorem abu {f:FuncId} {a b:List AV}:jM k (.fn f a b) C=C ⟨.fn f a b,[],[]⟩:=_root_.id rfl
variable {A:AV→Prop} {V:PV→Prop} {kd kd':IntKind} {m n:Int} {b b':Bool} {s s':List UInt8} {v v':AV}
theorem KQ {c:Bool}:jk (.p (.bool b)) (.p (.bool b')) (.p (.bool c)) A=A (.p (.bool (bif b then b' else c))):=_root_.id rfl
theorem KO:jk (.p (.bool true)) v v' A=A v:=by
 unfold jk;simp only[]
 split<;>rfl
theorem Fy:jk (.p (.bool false)) v v' A=A v':=by
 unfold jk;simp only[]
 split<;>rfl
theorem VF:dv P .add t (.p (.int kd m)) (.p (.int kd' n)) V=(kd=kd'∧nE kd (m+n)∧V (.int kd (m+n))):=_root_.id rfl
theorem Vm:dv P .sub t (.p (.int kd m)) (.p (.int kd' n)) V=(kd=kd'∧nE kd (m - n)∧V (.int kd (m - n))):=_root_.id rfl
theorem Vy:dv P .mul t (.p (.int kd m)) (.p (.int kd' n)) V=(kd=kd'∧nE kd (m*n)∧V (.int kd (m*n))):=_root_.id rfl
theorem Vq:dv P .quo t (.p (.int kd m)) (.p (.int kd' n)) V=(kd=kd'∧n≠0∧nE kd (m.tdiv n)∧V (.int kd (m.tdiv n))):=_root_.id rfl
theorem Vp:dv P .rem t (.p (.int kd m)) (.p (.int kd' n)) V=(kd=kd'∧n≠0∧V (.int kd (m.tmod n))):=_root_.id rfl
theorem Vo:dv P .shl t (.p (.int kd m)) (.p (.int kd' n)) V=(0≤n∧n<kd.bits∧nE kd (m*2^n.toNat)∧V (.int kd (m*2^n.toNat))):=_root_.id rfl
theorem Vn:dv P .shr t (.p (.int kd m)) (.p (.int kd' n)) V=(0≤n∧n<kd.bits∧V (.int kd (m.fdiv (2^n.toNat)))):=_root_.id rfl
theorem VE:dv P .and t (.p (.int kd m)) (.p (.int kd' n)) V=(kd=kd'∧0≤m∧0≤n∧nE kd m∧nE kd n∧V (.int kd ((m.toNat&&& n.toNat:Nat):Int))):=_root_.id rfl
theorem VD:dv P .eql t (.p (.int kd m)) (.p (.int kd' n)) V=(kd=kd'∧V (.bool (decide (m=n)))):=_root_.id rfl
theorem Vx:dv P .neq t (.p (.int kd m)) (.p (.int kd' n)) V=(kd=kd'∧V (.bool (!decide (m=n)))):=_root_.id rfl
theorem Vz:dv P .lss t (.p (.int kd m)) (.p (.int kd' n)) V=(kd=kd'∧V (.bool (decide (m<n)))):=_root_.id rfl
theorem VA:dv P .leq t (.p (.int kd m)) (.p (.int kd' n)) V=(kd=kd'∧V (.bool (decide (m≤n)))):=_root_.id rfl
theorem VB:dv P .gtr t (.p (.int kd m)) (.p (.int kd' n)) V=(kd=kd'∧V (.bool (decide (n<m)))):=_root_.id rfl
theorem VC:dv P .geq t (.p (.int kd m)) (.p (.int kd' n)) V=(kd=kd'∧V (.bool (decide (n≤m)))):=_root_.id rfl
theorem Ot {xs:List PV}:dv P .eql t (.p .nl) (.p (.sl .own xs)) V=(ls P t∧V (.bool true)):=_root_.id rfl
theorem Os {xs:List PV}:dv P .neq t (.p .nl) (.p (.sl .own xs)) V=(ls P t∧V (.bool false)):=_root_.id rfl
theorem Vu {xs ys:List PV}:dv P .eql t (.p (.sl .own ys)) (.p (.sl .own xs)) V=(ls P t∧V (.bool true)):=_root_.id rfl
theorem Vt {xs ys:List PV}:dv P .neq t (.p (.sl .own ys)) (.p (.sl .own xs)) V=(ls P t∧V (.bool false)):=_root_.id rfl
theorem Vw {xs ys:List PV}:dv P .eql t (.p (.sl .fr ys)) (.p (.sl .own xs)) V=(ls P t∧0<ys.length∧V (.bool false)):=_root_.id rfl
theorem Vv {xs ys:List PV}:dv P .neq t (.p (.sl .fr ys)) (.p (.sl .own xs)) V=(ls P t∧0<ys.length∧V (.bool true)):=_root_.id rfl
theorem Vs {xs:List PV} {i j l:Nat}:dv P .eql t (.ref i j l) (.p (.sl .own xs)) V=(ls P t∧0<l∧V (.bool false)):=_root_.id rfl
theorem Vr {xs:List PV} {i j l:Nat}:dv P .neq t (.ref i j l) (.p (.sl .own xs)) V=(ls P t∧0<l∧V (.bool true)):=_root_.id rfl
theorem Ra (h:(fh P t).isSome=true):ls P t=True:=by
 refine eq_true ?_
 unfold fh at h
 split at h
 ·exact⟨_,by assumption⟩
 ·cases h
theorem Rk:dv P .add t (.p (.str s)) (.p (.str s')) V=(s.length+s'.length≤2^60∧V (.str (s++s'))):=_root_.id rfl
theorem Rj:dv P .eql t (.p (.str s)) (.p (.str s')) V=V (.bool (decide (s=s'))):=_root_.id rfl
theorem Ri:dv P .neq t (.p (.str s)) (.p (.str s')) V=V (.bool (!decide (s=s'))):=_root_.id rfl
theorem aba:dv P .lss t (.p (.str s)) (.p (.str s')) V=V (.bool (qf s s')):=_root_.id rfl
theorem Ta:dv P .eql t (.p (.bool b)) (.p (.bool b')) V=(qZ P t=true∧V (.bool (b==b'))):=_root_.id rfl
theorem S9:dv P .neq t (.p (.bool b)) (.p (.bool b')) V=(qZ P t=true∧V (.bool (!(b==b')))):=_root_.id rfl
theorem PM:IL .not (.p (.bool b)) V=V (.bool (!b)):=_root_.id rfl
theorem PN:IL .neg (.p (.int kd m)) V=(nE kd (0 - m)∧V (.int kd (0 - m))):=_root_.id rfl
end
end Go.Gl
namespace Go.Gl
open Go Go.RowKit
theorem Fun.calls1 [Amb] {P:Program} {f:FuncId} {args:List PV} {b:Bool} (hf:Fun P f args [.bool b]) (w:World) (ha:∀B o,Amb.tb B=some o→w.heap[B]? =some o) {vs:List Value} (hr:RepL w (fun _=>False) (fun B=>w.heap.size≤B) args vs):
  Calls P f ⟨vs⟩ w fun e w'=>e=.returned (.bool b)∧Below w.heap.size w w':=by
 obtain⟨_,_,_,_,h⟩:=hf
 have dead:∀j,cm (args.map .pv) j=.dead:=fun j=>by
  unfold cm
  rw[List.getElem?_map]
  cases args[j]? <;>rfl
 have hno:∀(ι:Nat→Loc) B,¬Held (cm (args.map .pv)) ι B:=by
  rintro ι B ⟨id,ho⟩
  rw[dead]at ho;exact ho
 have hrep:∀(l:List PV) (vs:List Value) (k:Nat),RepL w (fun _=>False) (fun B=>w.heap.size≤B) l vs→RepAL w (Held (cm (args.map .pv)) fun _=>⟨0,0,0,0,bC⟩) (fun B=>w.heap.size≤B) (fun _=>⟨0,0,0,0,bC⟩) (bK k (l.map .pv)) vs:=by
  intro l
  induction l with
  |nil=>intro vs k h;simpa[bK,RepAL,RepL]using h
  |cons x l ih=>
   intro vs k h
   simp only[RepL]at h
   obtain⟨v,vs',rfl,h1,h2⟩:=h
   simp only[List.map_cons,bK,Arg.av,RepAL,RepA]
   exact⟨v,vs',rfl,RepP.tr (F:=fun _=>False) (fun _ _ _ _ hv=>⟨hv,hno _ _⟩) (fun _ _ _ h=>h) _ _ h1,ih _ _ h2⟩
 refine(h w (fun B=>w.heap.size≤B) (fun _=>⟨0,0,0,0,bC⟩) vs ⟨ha,fun B o _ hB=>hno _ B hB⟩ (fun _ h=>h) ⟨?_, ?_⟩ (hrep _ _ _ hr)).mono ?_
 ·intro id;rw[dead];trivial
 ·intro id _ B ho;rw[dead]at ho;exact ho.elim
 ·rintro e w' ⟨v,ι',rfl,_,hk,_,hv⟩
  have hv:v=.bool b:=by simpa[impAll,imp,imp1,RepA,RepP]using hv
  subst hv
  exact⟨rfl,hk.os,hk.tape,hk.output,hk.size,fun k hk'=>hk.block k hk' (hno _ _)⟩
theorem Fun.calls {P:Program} {f:FuncId} {args:List PV} {b:Bool} (hf: @Fun rZ P f args [.bool b]) (w:World) {vs:List Value} (hr:RepL w (fun _=>False) (fun B=>w.heap.size≤B) args vs):
  Calls P f ⟨vs⟩ w fun e w'=>e=.returned (.bool b)∧Below w.heap.size w w':=
 @Fun.calls1 rZ P f args b hf w (fun _ _ h=>by cases h) vs hr
theorem Wh {w:World} {F G:Nat→Prop}:RepL w F G [] []:=by simp only[RepL]
theorem Rp {w:World} {F G:Nat→Prop} {x:PV} {xs:List PV} {v:Value} {vs:List Value} (h:RepP w F G x v) (hs:RepL w F G xs vs):RepL w F G (x::xs) (v::vs):=by
 simp only[RepL];exact⟨v,vs,rfl,h,hs⟩
theorem abc {w:World} {F G:Nat→Prop} {k:IntKind} (n:Int):RepP w F G (.int k n) (.int k n):=by simp only[RepP]
theorem abd {w:World} {F G:Nat→Prop} (b:Bool):RepP w F G (.bool b) (.bool b):=by simp only[RepP]
theorem abb {w:World} {F G:Nat→Prop} (s:ByteArray):RepP w F G (.str s.data.toList) (.string s):=by simp only[RepP]
def IsRow (k:IntKind) (w:World) (a:Option Addr) (len cap:Nat) (zs:List Int):Prop:=
 (a=none∧len=0∧cap=0∧zs=[])∨
 ∃x,a=some x∧len≤cap∧cap≤maxLen∧zs.length=cap∧(∀i,i<zs.length→w.cell? (x.add i)=some (.int k (zs.getD i 0)))∧∀n∈zs,(Lit.int k n).wf=true
def Db (k:IntKind) (xs:List Int):PV:=.sl .ro (xs.map (.int k))
theorem IsRow.rep {k:IntKind} {w:World} {G:Nat→Prop} {a:Option Addr} {len cap:Nat} {zs:List Int} (h:IsRow k w a len cap zs):RepP w (fun _=>False) G (Db k (zs.take len)) (.slice a len cap):=by
 simp only[Db,RepP]
 rcases h with⟨rfl,rfl,rfl,rfl⟩|⟨x,rfl,hl,hm,hz,hc,_⟩
 ·exact⟨none,0,rfl,Nat.le_refl _,Nat.zero_le _,(by intro h;cases h),.inl rfl⟩
 ·have e:((zs.take len).map (PV.int k)).length=len:=by simp;omega
  refine⟨some x,cap,by rw[e],by rw[e];exact hl,hm,(by intro h;cases h), ?_⟩
  by_cases h0:len=0
  ·left;subst h0;rfl
  ·right
   obtain⟨B,off,spot⟩:=x
   have h1:=hc 0 (by omega)
   have hs:spot=none:=by simpa[Addr.add]using World.cell?_spot h1
   subst hs
   refine⟨B,off,rfl,id,(by intro h;cases h), ?_⟩
   have key:∀(ys:List Int) (o:Nat),(∀i (hi:i<ys.length),w.cell? ⟨B,o+i,none⟩=some (.int k ys[i]))→RepC w (fun _=>False) G B o (ys.map (.int k)):=by
    intro ys
    induction ys with
    |nil=>intro o _;simp only[List.map_nil,RepC]
    |cons y ys ih=>
     intro o hy
     simp only[List.map_cons,RepC,RepP]
     refine⟨⟨_,hy 0 (by simp),rfl,rfl⟩,ih (o+1) fun i hi=> ?_⟩
     have:=hy (i+1) (by simpa using hi)
     rw[show o+1+i=o+(i+1)by omega]
     simpa using this
   refine key _ off fun i hi=> ?_
   have hi':i<zs.length:=by simp at hi;omega
   have:=hc i hi'
   by_cases hi0:i=0
   ·subst hi0;simpa[Addr.add,hi']using this
   ·simpa[Addr.add,hi',hi0]using this
end Go.Gl
namespace Go.Gl
open Go
variable [Amb]
section
variable {P:Program} {sg:FuncId→List Bool} {h:Nat→Blk} {k:Nat} {ρ:Operand→AV} {C:R→Prop} {t t':TypeId} {x y:Operand}
def Rc (h:Nat→Blk) (i:Nat) (b:Blk) (j:Nat):Blk:=if j=i then b else h j
theorem ME:hwsH h []=h:=_root_.id rfl
theorem GS {i:Nat} {b:Blk} {l:List (Nat×Blk)}:hwsH h ((i,b)::l)=hwsH (Rc h i b) l:=_root_.id rfl
theorem E8 {i j:Nat} {b:Blk}:Rc h i b j=if j=i then b else h j:=_root_.id rfl
theorem K5 {S0 i:Nat}:lE S0 i=S0+256*i:=_root_.id rfl
def yt {α:Type} (o:Option α) (K:α→Prop):Prop:=match o with|some x=>K x|none=>False
theorem TH {α:Type} {xs:List α} {i:Int} {K:α→Prop}:gt xs i K=(0≤i∧yt xs[i.toNat]? K):=_root_.id rfl
theorem Df {α:Type} {a:α} {K:α→Prop}:yt (some a) K=K a:=_root_.id rfl
theorem abR {l:List Int} {i:Nat} {f:Int→PV} {K:PV→Prop} (hi:i<l.length) (hk:K (f (l.getD i 0))):yt (Option.map f l[i]?) K:=by
 rw[List.getElem?_eq_getElem hi]
 rw[List.getD_eq_getElem?_getD,List.getElem?_eq_getElem hi]at hk
 exact hk
theorem aa7 {l:List UInt8} {i:Nat} {K:UInt8→Prop} (hi:i<l.length) (hk:K (l.getD i 0)):yt l[i]? K:=by
 rw[List.getElem?_eq_getElem hi]
 rw[List.getD_eq_getElem?_getD,List.getElem?_eq_getElem hi]at hk
 exact hk
def KX (id:Nat) (C:R→Prop) (v:PV):Prop:=C ⟨.p v,[],[id]⟩
def KB (A:AV→Prop) (b:UInt8):Prop:=A (.p (.int .u8 b.toNat))
def KP (A:AV→Prop) (v:PV):Prop:=A (.p (.pc [v]))
def Eu (s:Option (Nat×Bool)) (h:Nat→Blk) (a:AV) (C:R→Prop):Prop:=
 match s with
 |some (n,false)=>n=1∧(match a with
  | .p (.pc (x::_))=>C ⟨.p x,[],[]⟩
  | .ptr id off=>match h id with
   | .live _ c=>gt c off fun x=>C ⟨.p x,[],[id]⟩
   | .froz _ c=>gt c off fun x=>C ⟨.p x,[],[id]⟩
   | .deep _ cs rs=>gt cs off fun x=>C ⟨x.av id rs,[],[id]⟩
   |_=>False
  | .iptr id r off=>match h id with
   | .deep _ _ rs=>(match rs[r]? with
    |some (some c)=>gt c off fun x=>C ⟨.p x,[],[id]⟩
    |_=>False)
   |_=>False
  |_=>False)
 |some (n,true)=>(match a with
  | .p (.pc xs)=>n≤xs.length∧C ⟨.p (.agg (xs.take n)),[],[]⟩
  | .ptr id off=>match h id with
   | .live _ c=>off+n≤c.length∧C ⟨.p (.agg ((c.drop off).take n)),[],[id]⟩
   | .froz _ c=>off+n≤c.length∧C ⟨.p (.agg ((c.drop off).take n)),[],[id]⟩
   | .deep _ cs rs=>off+n≤cs.length∧C ⟨.agg (((cs.drop off).take n).map (DC.av id rs)),[],[id]⟩
   |_=>False
  |_=>False)
 |none=>False
def KD (id:Nat) (rs:List (Option (List PV))) (C:R→Prop) (x:DC):Prop:=C ⟨x.av id rs,[],[id]⟩
def OQ (b:Blk) (id r off:Nat) (C:R→Prop):Prop:=
 match b with
 | .deep _ _ rs=>(match rs[r]? with
  |some (some c)=>gt c off (KX id C)
  |_=>False)
 |_=>False
def rE (b:Blk) (id:Nat) (off:Nat) (C:R→Prop):Prop:=
 match b with
 | .live _ c=>gt c off (KX id C)
 | .froz _ c=>gt c off (KX id C)
 | .deep _ cs rs=>gt cs off (KD id rs C)
 |_=>False
theorem L2 {a:AV}:dZ P t h a C=Eu (bc P t) h a C:=_root_.id rfl
theorem Gj {v:PV} {vs:List PV}:Eu (some (1,false)) h (.p (.pc (v::vs))) C=C ⟨.p v,[],[]⟩:=by simp[Eu]
theorem CJ {id off:Nat}:Eu (some (1,false)) h (.ptr id off) C=rE (h id) id off C:=by simp only[Eu,rE,true_and];rfl
theorem zO {id r off:Nat}:Eu (some (1,false)) h (.iptr id r off) C=OQ (h id) id r off C:=by simp only[Eu,OQ,true_and];rfl
theorem L3 {m:Bool} {c:List PV} {id off:Nat}:rE (.live m c) id off C=gt c off (KX id C):=_root_.id rfl
theorem L4 {m:Bool} {c:List PV} {id off:Nat}:rE (.froz m c) id off C=gt c off (KX id C):=_root_.id rfl
theorem ZB {id:Nat} {v:PV}:KX id C v=C ⟨.p v,[],[id]⟩:=_root_.id rfl
theorem CP {n:Nat} {xs:List PV}:Eu (some (n,true)) h (.p (.pc xs)) C=(n≤xs.length∧C ⟨.p (.agg (xs.take n)),[],[]⟩):=_root_.id rfl
variable {A:AV→Prop}
theorem zS {kd:IntKind} {i:Int} {o:Fl} {xs:List PV}:bH P t (.p (.sl o xs)) (.p (.int kd i)) A=((fh P t).isSome=true∧gt xs i (KP A)):=_root_.id rfl
theorem wG {kd:IntKind} {i:Int} {id off len:Nat}:bH P t (.ref id off len) (.p (.int kd i)) A=((fh P t).isSome=true∧0≤i∧i<len∧A (.ptr id (off+i.toNat))):=_root_.id rfl
theorem wI {kd:IntKind} {i:Int} {id r off len:Nat}:bH P t (.inn id r off len) (.p (.int kd i)) A=((fh P t).isSome=true∧0≤i∧i<len∧A (.iptr id r (off+i.toNat))):=_root_.id rfl
theorem ZC {v:PV}:KP A v=A (.p (.pc [v])):=_root_.id rfl
theorem Gk {kd:IntKind} {i:Int} {s:List UInt8}:kw P t (.p (.str s)) (.p (.int kd i)) A=(cE P t=true∧gt s i (KB A)):=_root_.id rfl
theorem ZD {b:UInt8}:KB A b=A (.p (.int .u8 b.toNat)):=_root_.id rfl
theorem Pw {ty:TypeId}:fY P sg ρ h k (.call {callee:=.builtin .len,args:=⟨[x]⟩,argTypes:=⟨[ty]⟩}) C=qg P ty (ρ x) (KW C):=_root_.id rfl
theorem Gi {s:List UInt8}:qg P t (.p (.str s)) A=(cE P t=true∧A (.p (.int .i64 s.length))):=_root_.id rfl
theorem CI {o:Fl} {xs:List PV}:qg P t (.p (.sl o xs)) A=((fh P t).isSome=true∧A (.p (.int .i64 xs.length))):=_root_.id rfl
theorem zL {id off len:Nat}:qg P t (.ref id off len) A=((fh P t).isSome=true∧A (.p (.int .i64 len))):=_root_.id rfl
theorem zN {id r off len:Nat}:qg P t (.inn id r off len) A=((fh P t).isSome=true∧A (.p (.int .i64 len))):=_root_.id rfl
def BS (n k:Nat) (C:R→Prop) (xs:List PV) (ws:List (Nat×Blk)) (rd:List Nat):Prop:=C ⟨.ref k 0 n,ws++[(k,.live false xs)],rd⟩
def PU (F:List PV→List (Nat×Blk)→List Nat→Prop) (v:PV) (xs:List PV) (ws:List (Nat×Blk)) (rd:List Nat):Prop:=F (v::xs) ws rd
theorem W8 {n:Nat} {parts:Array (Nat×Operand)} (hs:(fh P t).isSome=true):fY P sg ρ h k (.buildSlice t n parts) C=((fh P t).isSome=true∧eF n parts=true∧n≤1000000∧jU h (parts.toList.map fun p=>ρ p.2) (BS n k C)):=by
 show bz P t n parts k ρ h C=_
 unfold bz;rw[if_neg (zy hs)];rfl
def BP (n k:Nat) (C:R→Prop) (xs:List PV):Prop:=C ⟨.prs k n,[(k,.live false xs)],[]⟩
def PR (x y:PV) (F:List PV→Prop) (xs:List PV):Prop:=F (x::y::xs)
theorem PA {n:Nat} {parts:Array (Nat×Operand)} (hs:kk P t=true):fY P sg ρ h k (.buildSlice t n parts) C=(eF n parts=true∧1≤n∧n≤1000000∧zr (parts.toList.map fun p=>ρ p.2) (BP n k C)):=by
 show bz P t n parts k ρ h C=_
 unfold bz;rw[if_pos hs];rfl
theorem ZF {n:Nat} {xs:List PV}:BP n k C xs=C ⟨.prs k n,[(k,.live false xs)],[]⟩:=_root_.id rfl
theorem ZA {x y:PV} {F:List PV→Prop} {xs:List PV}:PR x y F xs=F (x::y::xs):=_root_.id rfl
theorem Kv {F:List PV→Prop}:zr [] F=F []:=_root_.id rfl
theorem Fu {x y:PV} {vs:List AV} {F:List PV→Prop}:zr (.agg [.p x,.p y]::vs) F=(x.cellOk=true∧y.cellOk=true∧zr vs (PR x y F)):=_root_.id rfl
theorem U8 {f:FuncId} {a b:List PV}:PV.cellOk (.fn f a b)=true:=_root_.id rfl
theorem RN {f:FuncId} {a b:List PV}:AV.one1 (.p (.fn f a b))=True:=_root_.id rfl
theorem wH {A:AV→Prop} {kd:IntKind} {i:Int} {id len:Nat}:bH P t (.prs id len) (.p (.int kd i)) A=(kk P t=true∧0≤i∧i<len∧A (.ptr id (i.toNat*2))):=_root_.id rfl
theorem zM {A:AV→Prop} {id len:Nat}:qg P t (.prs id len) A=(kk P t=true∧A (.p (.int .i64 len))):=_root_.id rfl
theorem Fx {n:Nat} {parts:Array (Nat×Operand)} (h:eF n parts=true):eF n parts=true:=h
theorem CH {F:List PV→List (Nat×Blk)→List Nat→Prop}:jU h [] F=F [] [] []:=_root_.id rfl
theorem L1 {F:List PV→List (Nat×Blk)→List Nat→Prop} {v:PV} {vs:List AV}:jU h (.p v::vs) F=(v.cell.cellOk=true∧jU h vs (PU F v.cell)):=_root_.id rfl
theorem Zz {F:List PV→List (Nat×Blk)→List Nat→Prop} {v:PV} {xs:List PV} {ws:List (Nat×Blk)} {rd:List Nat}:PU F v xs ws rd=F (v::xs) ws rd:=_root_.id rfl
theorem ZE {n:Nat} {xs:List PV} {ws:List (Nat×Blk)} {rd:List Nat}:BS n k C xs ws rd=C ⟨.ref k 0 n,ws++[(k,.live false xs)],rd⟩:=_root_.id rfl
theorem K0 {kd:IntKind} {n:Int}:(PV.int kd n).cellOk=true:=_root_.id rfl
theorem FG {b:Bool}:(PV.bool b).cellOk=true:=_root_.id rfl
theorem KZ {s:List UInt8}:(PV.str s).cellOk=true:=_root_.id rfl
theorem FF {m:Bool} {s:List PV}:(PV.sl (.lent m) s).cellOk=true:=by cases m<;>rfl
def AP (h:Nat→Blk) (k:Nat) (s:AV) (C:R→Prop) (ys:List PV) (rd:List Nat):Prop:=
 match s with
 | .ref id off len=>match h id with
  | .live m c=>len+ys.length≤1099511627776∧off+len≤c.length∧
    (if off+len=c.length then C ⟨.ref k 0 (len+ys.length),[(id,.dead),(k,.live m (c.drop off++ys))],id::rd⟩
    else if off+len+ys.length≤c.length then C ⟨.ref k off (len+ys.length),[(id,.dead),(k,.live m (c.take (off+len)++ys++c.drop (off+len+ys.length)))],id::rd⟩
    else C ⟨.ref k 0 (len+ys.length),[(id,.dead),(k,.live m ((c.drop off).take len++ys))],id::rd⟩)
  |_=>False
 | .p (.sl .own [])=>ys.length≤1099511627776∧C ⟨.ref k 0 ys.length,[(k,.live false ys)],rd⟩
 | .inn id r 0 len=>(match h id with
  | .deep m cs rs=>(match rs[r]? with
   |some (some c)=>len=c.length∧id∉rd∧len+ys.length≤1099511627776∧
     C ⟨.ref k 0 (len+ys.length),[(id,.deep m cs (rs.set r none)),(k,.live m (c++ys))],id::rd⟩
   |_=>False)
  |_=>False)
 |_=>False
def OX (b:Blk) (id r len k:Nat) (C:R→Prop) (ys:List PV) (rd:List Nat):Prop:=
 match b with
 | .deep m cs rs=>(match rs[r]? with
  |some (some c)=>len=c.length∧id∉rd∧len+ys.length≤1099511627776∧
    C ⟨.ref k 0 (len+ys.length),[(id,.deep m cs (rs.set r none)),(k,.live m (c++ys))],id::rd⟩
  |_=>False)
 |_=>False
def OY (b:Blk) (id off len k:Nat) (C:R→Prop) (ys:List PV) (rd:List Nat):Prop:=
 match b with
 | .live m c=>len+ys.length≤1099511627776∧off+len≤c.length∧
    (if off+len=c.length then C ⟨.ref k 0 (len+ys.length),[(id,.dead),(k,.live m (c.drop off++ys))],id::rd⟩
    else if off+len+ys.length≤c.length then C ⟨.ref k off (len+ys.length),[(id,.dead),(k,.live m (c.take (off+len)++ys++c.drop (off+len+ys.length)))],id::rd⟩
    else C ⟨.ref k 0 (len+ys.length),[(id,.dead),(k,.live m ((c.drop off).take len++ys))],id::rd⟩)
 |_=>False
def Ey (b:Blk) (id off len:Nat) (F:List PV→List Nat→Prop):Prop:=
 match b with
 | .live _ c=>off+len≤c.length∧F ((c.drop off).take len) [id]
 | .froz _ c=>off+len≤c.length∧F ((c.drop off).take len) [id]
 |_=>False
def Jf (b:Blk) (id r off len:Nat) (F:List PV→List Nat→Prop):Prop:=
 match b with
 | .deep _ _ rs=>(match rs[r]? with
  |some (some c)=>off+len≤c.length∧F ((c.drop off).take len) [id]
  |_=>False)
 |_=>False
def OD (h:Nat→Blk) (k:Nat) (s x:AV) (C:R→Prop):Prop:=if gp h x=true then dW h k s x C else iG h x (AP h k s C)
def OW (b:Blk) (h:Nat→Blk) (k:Nat) (s:AV) (j off n:Nat) (C:R→Prop):Prop:=
 match b with
 | .deep .. =>dW h k s (.ref j off n) C
 |b=>Ey b j off n (AP h k s C)
theorem aaw {s:AV} {v:PV}:OD h k s (.p v) C=iG h (.p v) (AP h k s C):=by simp[OD,gp]
theorem Ou {s:AV} {j off n:Nat}:OD h k s (.ref j off n) C=OW (h j) h k s j off n C:=by
 cases e:h j<;>simp[OD,gp,OW,iG,Ey,e]
theorem Ov {s:AV} {j r off n:Nat}:OD h k s (.inn j r off n) C=Jf (h j) j r off n (AP h k s C):=by
 simp only[OD,gp,Bool.false_eq_true,if_false,iG,Jf];cases h j<;>rfl
theorem Iw {m:Bool} {c:List PV} {s:AV} {j off n:Nat}:OW (.live m c) h k s j off n C=Ey (.live m c) j off n (AP h k s C):=_root_.id rfl
theorem Ix {m:Bool} {c:List PV} {s:AV} {j off n:Nat}:OW (.froz m c) h k s j off n C=Ey (.froz m c) j off n (AP h k s C):=_root_.id rfl
theorem CO {id r len:Nat} {ys:List PV} {rd:List Nat}:AP h k (.inn id r 0 len) C ys rd=OX (h id) id r len k C ys rd:=by
 simp only[AP,OX]
theorem Ba:fY P sg ρ h k (.call {callee:=.builtin .append,args:=⟨[x,y]⟩,argTypes:=⟨[t,t']⟩}) C=
  ((fh P t).isSome=true∧((fh P t').isSome=true∨cE P t'=true)∧OD h k (ρ x) (ρ y) C):=rfl
theorem Gm {o:Fl} {xs:List PV} {F:List PV→List Nat→Prop}:iG h (.p (.sl o xs)) F=F xs []:=_root_.id rfl
theorem L6 {s:List UInt8} {F:List PV→List Nat→Prop}:iG h (.p (.str s)) F=F (s.map fun b=>.int .u8 b.toNat) []:=_root_.id rfl
theorem CK {id off len:Nat} {F:List PV→List Nat→Prop}:iG h (.ref id off len) F=Ey (h id) id off len F:=by
 simp only[iG,Ey];cases h id<;>rfl
theorem CL {id r off len:Nat} {F:List PV→List Nat→Prop}:iG h (.inn id r off len) F=Jf (h id) id r off len F:=by
 simp only[iG,Jf];cases h id<;>rfl
theorem zP {m:Bool} {c:List PV} {id off len:Nat} {F:List PV→List Nat→Prop}:Ey (.live m c) id off len F=(off+len≤c.length∧F ((c.drop off).take len) [id]):=_root_.id rfl
theorem zQ {m:Bool} {c:List PV} {id off len:Nat} {F:List PV→List Nat→Prop}:Ey (.froz m c) id off len F=(off+len≤c.length∧F ((c.drop off).take len) [id]):=_root_.id rfl
theorem CN {ys:List PV} {rd:List Nat}:AP h k (.p (.sl .own [])) C ys rd=(ys.length≤1099511627776∧C ⟨.ref k 0 ys.length,[(k,.live false ys)],rd⟩):=_root_.id rfl
theorem CM {id off len:Nat} {ys:List PV} {rd:List Nat}:AP h k (.ref id off len) C ys rd=OY (h id) id off len k C ys rd:=by
 simp only[AP,OY]
theorem zR {m:Bool} {c:List PV} {id off len:Nat} {ys:List PV} {rd:List Nat}:OY (.live m c) id off len k C ys rd=(len+ys.length≤1099511627776∧off+len≤c.length∧
    (if off+len=c.length then C ⟨.ref k 0 (len+ys.length),[(id,.dead),(k,.live m (c.drop off++ys))],id::rd⟩
    else if off+len+ys.length≤c.length then C ⟨.ref k off (len+ys.length),[(id,.dead),(k,.live m (c.take (off+len)++ys++c.drop (off+len+ys.length)))],id::rd⟩
    else C ⟨.ref k 0 (len+ys.length),[(id,.dead),(k,.live m ((c.drop off).take len++ys))],id::rd⟩)):=rfl
theorem Bi {α:Type} {l:List α}:l.take l.length=l:=List.take_length
theorem sV {α β:Type} {f:α→β} {l:List α}:(l.map f).take l.length=l.map f:=by rw[List.take_of_length_le (by simp)]
end
end Go.Gl
namespace Go.Gl
open Go
variable [Amb]
section
variable {S:St} {as:List Arg} {h:Nat→Blk} {k:Nat} {F:List (Nat×Nat×Pl)→Prop} {v:AV} {vs:List AV} {xs:List PV}
def FK (h:Nat→Blk) (k:Nat) (vs:List AV) (xs:List PV) (F:List (Nat×Nat×Pl)→Prop) (L:List (Nat×Nat×Pl)):Prop:=cW false h k vs xs fun L'=>F (L++L')
def F0 (L:List (Nat×Nat×Pl)):Prop:=L.Pairwise Dj
theorem PJ {ts:List Nat} {ex:Ex} (hx:ex=.ret∨ex=.normal) (hf:cW false S.h as.length (ts.map S.e) xs F0):vY as ts xs ex S:=by
 have key:sN false S as [] (ts.map S.e) xs:=by
  unfold sN
  refine Eq.mpr (congrArg (cW false S.h as.length (ts.map S.e) xs) (?_:_=F0)) hf
  funext L
  simp only[F0]
  apply propext
  constructor
  ·intro h;exact h.1
  ·intro h;refine⟨h,fun j _=> ?_⟩
   split
   ·rename_i h;simp at h
   ·trivial
 rcases hx with rfl|rfl<;>exact key
theorem Uy:cW false h k [] [] F=F []:=_root_.id rfl
theorem Nu {x:PV}:cW false h k (v::vs) (x::xs) F=fin false h k v x (FK h (k+16) vs xs F):=_root_.id rfl
def FL (L:List (Nat×Nat×Pl)) (F:List (Nat×Nat×Pl)→Prop) (L':List (Nat×Nat×Pl)):Prop:=F (L++L')
theorem I9 {L:List (Nat×Nat×Pl)}:FK h k vs xs F L=cW false h k vs xs (FL L F):=_root_.id rfl
theorem Z6 {L L':List (Nat×Nat×Pl)}:FL L F L'=F (L++L'):=_root_.id rfl
theorem Uz {kd:IntKind} {n:Int}:fin false h k v (.int kd n) F=(v=.p (.int kd n)∧F []):=_root_.id rfl
theorem Nv {b:Bool}:fin false h k v (.bool b) F=(v=.p (.bool b)∧F []):=_root_.id rfl
theorem Uw {s:List UInt8}:fin false h k v (.str s) F=(v=.p (.str s)∧F []):=_root_.id rfl
theorem Z4 {s:List PV}:fin false h k v (.sl (.lent true) s) F=(v=.p (.sl (.lent true) s)∧F []):=_root_.id rfl
def OT (b:Blk) (k id off len:Nat) (ys:List PV) (F:List (Nat×Nat×Pl)→Prop):Prop:=
 match b with
 | .live m c=>off+len≤c.length∧(m=true→false=true)∧(c.drop off).take len=ys∧F [(k,id,.o off)]
 |_=>False
theorem Ux {id off len:Nat} {ys:List PV}:fin false h k (.ref id off len) (.sl .own ys) F=OT (h id) k id off len ys F:=by
 simp only[fin,dt,OT];cases h id<;>rfl
theorem Nt {c:List PV} {id off len:Nat} {ys:List PV}:OT (.live false c) k id off len ys F=(off+len≤c.length∧(c.drop off).take len=ys∧F [(k,id,.o off)]):=by
 simp[OT]
theorem Ns {ys zs:List PV}:fin false h k (.p (.sl .own zs)) (.sl .own ys) F=(ys=[]∧F []):=_root_.id rfl
theorem f_0:F0 []:=List.Pairwise.nil
theorem f_1 {p:Nat×Nat×Pl}:F0 [p]:=by simp[F0]
end
end Go.Gl
namespace Go.Gl
open Go
variable [Amb]
section
variable {S:St} {h:Nat→Blk} {C:R→Prop} {k:Nat} {P:Program} {t t':TypeId}
theorem Sz {α β:Type} {f:α→β} {l l':List α}:List.map f l++List.map f l'=List.map f (l++l'):=List.map_append.symm
theorem LG {l:List Int} {kd:IntKind} {x:Int} {r:List PV}:List.map (PV.int kd) l++(PV.int kd x::r)=List.map (PV.int kd) (l++[x])++r:=by simp
theorem LF {l:List (List UInt8)} {x:List UInt8} {r:List PV}:List.map PV.str l++(PV.str x::r)=List.map PV.str (l++[x])++r:=by simp
theorem Gd {l:List Bool} {x:Bool} {r:List PV}:List.map PV.bool l++(PV.bool x::r)=List.map PV.bool (l++[x])++r:=by simp
theorem JL {α β:Type} {f:α→β} {l:List α} {n:Nat}:(l.map f).take n=(l.take n).map f:=List.map_take.symm
theorem NN {α β:Type} {f:α→β} {l:List α} {n:Nat}:(l.map f).drop n=(l.drop n).map f:=List.map_drop.symm
def jW (b:UInt8):PV:=.int .u8 b.toNat
def bt (m:Bool) (l:List Int):PV:=.sl (.lent m) (l.map (.int .i64))
def HW (m:Bool) (l:List (List UInt8)):PV:=.sl (.lent m) (l.map .str)
theorem abg {b:UInt8}:noRo (jW b)=true:=_root_.id rfl
theorem Cr {l:List Int}:noRo (bt false l)=true:=cy (fun _=>rfl) l
theorem La {l:List (List UInt8)}:noRo (HW false l)=true:=cy (fun _=>rfl) l
theorem aa6 {α:Type} [Inhabited α] {l:List α} {i:Nat} {f:α→PV} {K:PV→Prop} (hi:i<l.length) (hk:K (f (l.getD i default))):yt (Option.map f l[i]?) K:=by
 rw[List.getElem?_eq_getElem hi]
 rw[List.getD_eq_getElem?_getD,List.getElem?_eq_getElem hi]at hk
 exact hk
theorem Ke {i o l l':Nat} (h:l=l'):AV.ref i o l=AV.ref i o l':=by rw[h]
theorem Gq {m:Bool} {α:Type} {f:α→PV} {l l':List α} (h:l=l'):Blk.live m (l.map f)=Blk.live m (l'.map f):=by rw[h]
theorem Wq {m:Bool} {α:Type} {f:α→PV} {l l':List α} (h:l=l'):Blk.froz m (l.map f)=Blk.froz m (l'.map f):=by rw[h]
theorem My {kd:IntKind} {a b:Int} (h:a=b):AV.p (.int kd a)=AV.p (.int kd b):=by rw[h]
theorem Is {a b:Bool} (h:a=b):AV.p (.bool a)=AV.p (.bool b):=by rw[h]
theorem JR {a b:List UInt8} (h:a=b):AV.p (.str a)=AV.p (.str b):=by rw[h]
theorem Rb {o:Fl} {α:Type} {f:α→PV} {l l':List α} (h:l=l'):AV.p (.sl o (l.map f))=AV.p (.sl o (l'.map f)):=by rw[h]
theorem Sy {α:Type} {f:α→PV} {l l':List α} (h:l=l'):l.map f=l'.map f:=by rw[h]
theorem abi {m:Bool} {l l':List PV} (h:l=l'):Blk.live m l=Blk.live m l':=by rw[h]
end
attribute [go_sem ↓] Pp Rq Kg Fd YQ U2 NR H9 aaj Js A9 Jr PE
attribute [go_sem ↓] W3 Jv Ju Jw ED UM RP FJ HX Pw W8 Ba
attribute [go_sem] GH C9 Mx GM Mw ZU MQ G3 MP MT G7 HP HQ Nw HS Z7 UG Z8 Rz Rv q_p Rt Rs YU Km Kn D4 AD D2
attribute [go_sem] AC D3 T2 T5 T3 T4 G1 TX T0 TY TZ
attribute [go_sem] G0 TN TQ TO TP gd YS YR YT V2 OK VX OI V1 V4
attribute [go_sem] Ji VY VZ OL VW aaM OH aaL KQ KO Fy VF
attribute [go_sem] Vm Vy Vq Vp Vo Vn VE VD Vx Vz VA VB
attribute [go_sem] Ra Ot Os Vu Vt Vw Vv Vs Vr
attribute [go_sem] VC Rk Rj Ri Ta S9 PM PN UO aaa TE ZS
attribute [go_sem] TF R1 Zo Se K4 Vc Oj Vb Oi Rr Ki Kh
attribute [go_sem] Kf Io In D6 true_and and_true List.getElem?_toArray List.getElem?_cons_zero List.getElem?_cons_succ Option.bind_some List.map_cons List.map_nil
attribute [go_sem] List.nil_append List.append_nil List.cons_append imp imp1 impAll impWs impW impW1 GW F5 bK
attribute [go_sem] List.toList_toArray Arg.av List.getD_cons_zero List.getD_cons_succ Bool.not_true Bool.not_false ne_eq not_false_eq_true not_true_eq_false false_implies true_implies implies_true
attribute [go_sem] eq_self Bool.true_eq_false Bool.false_eq_true cond_true cond_false Bool.and_true Bool.and_false Bool.true_and Bool.false_and Int.cast_ofNat_Int Int.toNat_natCast Int.toNat_natCast_add_one
attribute [go_sem] Nat.add_assoc List.take_succ_cons List.take_zero List.take_nil List.getElem?_map decide_true decide_false List.size_toArray List.length_cons List.length_nil ME GS
attribute [go_sem] E8 K5 TH Df L2 Gj CJ L3 L4 ZB CP zS
attribute [go_sem] V0 PA ZF ZA Kv Fu U8 RN wH zM wG ZC Gk ZD Gi CI zL CH L1 Zz ZE K0
attribute [go_sem] zO wI zN aaw Ou Ov Iw Ix CO CL V3 OJ
attribute [go_sem] FG KZ FF Gm L6 CK zP zQ CN CM zR
attribute [go_sem] Bi sV Uy Nu I9 Z6 Uz Nv Uw Z4 Ux Nt
attribute [go_sem] Ns f_0 f_1 Option.isSome_some Int.ofNat_lt true_or or_true List.drop_zero List.length_map Nat.zero_add Nat.add_zero Nat.le_refl
attribute [go_sem] AV.p.injEq PV.int.injEq PV.bool.injEq PV.str.injEq
attribute [go_sem] LG LF Gd T1 TW
end Go.Gl
namespace Go.Gl
open Go
variable [Amb]
section
variable {P:Program} {sg:FuncId→List Bool} {h:Nat→Blk} {k:Nat} {ρ:Operand→AV} {C:R→Prop} {t t':TypeId} {x y:Operand} {A:AV→Prop}
theorem JK {b:UInt8}:jW b=.int .u8 b.toNat:=_root_.id rfl
theorem DM {m:Bool} {l:List Int}:bt m l=.sl (.lent m) (l.map (.int .i64)):=_root_.id rfl
theorem NJ {m:Bool} {l:List (List UInt8)}:HW m l=.sl (.lent m) (l.map .str):=_root_.id rfl
theorem Sx {l:List UInt8} {b:UInt8} {r:List PV}:List.map jW l++(PV.int .u8 (b.toNat:Int)::r)=List.map jW (l++[b])++r:=by simp[jW]
theorem LI {m:Bool} {l:List (List Int)} {x:List Int} {r:List PV}:List.map (bt m) l++(PV.sl (.lent m) (List.map (PV.int .i64) x)::r)=List.map (bt m) (l++[x])++r:=by simp[bt]
theorem LH {m:Bool} {l:List (List (List UInt8))} {x:List (List UInt8)} {r:List PV}:List.map (HW m) l++(PV.sl (.lent m) (List.map PV.str x)::r)=List.map (HW m) (l++[x])++r:=by simp[HW]
theorem wC {n:Nat} {kd:IntKind} {z:Int}:List.replicate n (PV.int kd z)=List.map (PV.int kd) (List.replicate n z):=by simp
theorem uR {n:Nat} {z:Bool}:List.replicate n (PV.bool z)=List.map PV.bool (List.replicate n z):=by simp
theorem wB {n:Nat} {z:List UInt8}:List.replicate n (PV.str z)=List.map PV.str (List.replicate n z):=by simp
theorem zI {n:Nat}:List.replicate n (PV.sl (.lent false) [])=List.map (bt false) (List.replicate n []):=by simp[bt]
theorem wA {l:List Int} {kd:IntKind} {i:Nat} {z:Int}:(List.map (PV.int kd) l).set i (PV.int kd z)=List.map (PV.int kd) (l.set i z):=List.map_set.symm
theorem uQ {l:List Bool} {i:Nat} {z:Bool}:(List.map PV.bool l).set i (PV.bool z)=List.map PV.bool (l.set i z):=List.map_set.symm
theorem wz {l:List (List UInt8)} {i:Nat} {z:List UInt8}:(List.map PV.str l).set i (PV.str z)=List.map PV.str (l.set i z):=List.map_set.symm
theorem zH {m:Bool} {l:List (List Int)} {i:Nat} {z:List Int}:(List.map (bt m) l).set i (PV.sl (.lent m) (List.map (PV.int .i64) z))=List.map (bt m) (l.set i z):=by
 rw[←DM,List.map_set]
theorem JJ {l:List UInt8} {n:Int} (h0:0≤n) (h1:n<256):List.map jW l++[PV.int .u8 n]=List.map jW (l++[UInt8.ofNat n.toNat]):=by
 rw[List.map_append];congr 1
 simp only[List.map_cons,List.map_nil,jW,UInt8.toNat_ofNat']
 congr 2;omega
def vS (v:Option AV) (d:Int) (K:Int→Prop):Prop:=
 match v with
 |none=>K d
 |some (.p (.int _ i))=>K i
 |_=>False
theorem nS {x:Option Operand} {d:Nat} {K:Int→Prop}:iu ρ x d K=vS (x.map ρ) d K:=by
 cases x with
 |none=>rfl
 |some o=>
  simp only[iu,vS,Option.map_some]
  cases ρ o<;>try rfl
  rename_i v;cases v<;>rfl
def BL (lo:Option AV) (F:Int→Int→Prop) (h:Int):Prop:=vS lo 0 (F h)
def SLs (s:List UInt8) (C:R→Prop) (h l:Int):Prop:=0≤l∧l≤h∧h≤s.length∧C ⟨.p (.str ((s.take h.toNat).drop l.toNat)),[],[]⟩
def SLl (o:Fl) (xs:List PV) (C:R→Prop) (h l:Int):Prop:=0≤l∧l≤h∧h≤xs.length∧C ⟨.p (.sl o ((xs.take h.toNat).drop l.toNat)),[],[]⟩
def SLr (id off len:Nat) (C:R→Prop) (h l:Int):Prop:=0≤l∧l≤h∧h≤len∧C ⟨.ref id (off+l.toNat) (h.toNat - l.toNat),[],[]⟩
def SL3 (k:Nat) (C:R→Prop) (m h l:Int):Prop:=l=0∧h=0∧m=0∧C ⟨.ref k 0 0,[(k,.live false [])],[]⟩
def Wb (hi lo:Option AV) (F:Int→Int→Int→Prop) (m:Int):Prop:=vS hi 0 (BL lo (F m))
theorem EC {lo hi mx:Option Operand}:fY P sg ρ h k (.slice t x lo hi mx) C=cv P t (ρ x) lo hi mx k ρ C:=_root_.id rfl
theorem Rf {s:List UInt8} {lo hi:Option Operand}:cv P t (.p (.str s)) lo hi none k ρ C=(cE P t=true∧vS (hi.map ρ) s.length (BL (lo.map ρ) (SLs s C))):=by
 simp only[cv,nS,true_and];rfl
theorem YO {o:Fl} {xs:List PV} {lo hi:Option Operand}:cv P t (.p (.sl o xs)) lo hi none k ρ C=((fh P t).isSome=true∧vS (hi.map ρ) xs.length (BL (lo.map ρ) (SLl o xs C))):=by
 simp only[cv,nS];rfl
theorem Rh {id off len:Nat} {lo hi:Option Operand}:cv P t (.ref id off len) lo hi none k ρ C=((fh P t).isSome=true∧vS (hi.map ρ) len (BL (lo.map ρ) (SLr id off len C))):=by
 simp only[cv,nS];rfl
theorem Rg {o:Fl} {xs:List PV} {lo:Option Operand} {hi mx:Operand}:cv P t (.p (.sl o xs)) lo (some hi) (some mx) k ρ C=((fh P t).isSome=true∧vS (some (ρ mx)) 0 (Wb (some (ρ hi)) (lo.map ρ) (SL3 k C))):=by
 simp only[cv,nS,ne_eq,reduceCtorEq,not_false_eq_true,true_and];rfl
theorem J6 {id off len:Nat} {lo:Option Operand} {hi mx:Operand}:cv P t (.ref id off len) lo (some hi) (some mx) k ρ C=((fh P t).isSome=true∧vS (some (ρ mx)) 0 (Wb (some (ρ hi)) (lo.map ρ) (SL3 k C))):=by
 simp only[cv,nS,ne_eq,reduceCtorEq,not_false_eq_true,true_and];rfl
theorem Iv {d:Int} {K:Int→Prop}:vS none d K=K d:=_root_.id rfl
theorem Iu {d:Int} {kd:IntKind} {i:Int} {K:Int→Prop}:vS (some (.p (.int kd i))) d K=K i:=_root_.id rfl
theorem Vg {lo:Option AV} {F:Int→Int→Prop} {i:Int}:BL lo F i=vS lo 0 (F i):=_root_.id rfl
theorem On {hi lo:Option AV} {F:Int→Int→Int→Prop} {i:Int}:Wb hi lo F i=vS hi 0 (BL lo (F i)):=_root_.id rfl
theorem J1 {s:List UInt8} {i j:Int}:SLs s C i j=(0≤j∧j≤i∧i≤s.length∧C ⟨.p (.str ((s.take i.toNat).drop j.toNat)),[],[]⟩):=_root_.id rfl
theorem J3 {o:Fl} {xs:List PV} {i j:Int}:SLl o xs C i j=(0≤j∧j≤i∧i≤xs.length∧C ⟨.p (.sl o ((xs.take i.toNat).drop j.toNat)),[],[]⟩):=_root_.id rfl
theorem J2 {id off len:Nat} {i j:Int}:SLr id off len C i j=(0≤j∧j≤i∧i≤len∧C ⟨.ref id (off+j.toNat) (i.toNat - j.toNat),[],[]⟩):=_root_.id rfl
theorem J4 {m i j:Int}:SL3 k C m i j=(j=0∧i=0∧m=0∧C ⟨.ref k 0 0,[(k,.live false [])],[]⟩):=_root_.id rfl
def v7 (s:Option (Nat×Bool)) (h:Nat→Blk) (a v:AV) (C:R→Prop):Prop:=
 match s with
 |some (n,_)=>(match a with
  | .ptr id off=>match h id with
   | .live m c=>bU h v fun xs ws rd=>xs.length=n∧off+n≤c.length∧id∉rd∧
     C ⟨.p .any,ws++[(id,.live m (c.take off++xs++c.drop (off+n)))],id::rd⟩
   | .deep m cs rs=>ic h m id (fe v) rs fun xs rs ws rd=>xs.length=n∧off+n≤cs.length∧
     C ⟨.p .any,ws++[(id,.deep m (cs.take off++xs++cs.drop (off+n)) rs)],id::rd⟩
   |_=>False
  | .iptr id r off=>n=1∧zi h id r off v C
  |_=>False)
 |none=>False
def m7 (b:Blk) (id off:Nat) (v:PV) (C:R→Prop):Prop:=
 match b with
 | .live m c=>v.cell.cellOk=true∧off<c.length∧C ⟨.p .any,[(id,.live m (c.set off v.cell))],[id]⟩
 | .deep m cs rs=>(v.cellOk=true∨v=.sl .own [])∧off<cs.length∧C ⟨.p .any,[(id,.deep m (cs.set off (.v v)) rs)],[id]⟩
 |_=>False
def jY (b b':Blk) (id off id' off' len:Nat) (C:R→Prop):Prop:=
 match b,b' with
 | .live m c,.live m' c'=>off'+len≤c'.length∧off<c.length∧id≠id'∧
   C ⟨.p .any,[(id',.froz m' c'),(id,.live m (c.set off (.sl (.lent m') ((c'.drop off').take len))))],[id,id']⟩
 | .live m c,.froz m' c'=>off'+len≤c'.length∧off<c.length∧id≠id'∧
   C ⟨.p .any,[(id,.live m (c.set off (.sl (.lent m') ((c'.drop off').take len))))],[id,id']⟩
 | .deep m cs rs,.live m' c'=>(m'=true→m=true)∧off'=0∧len=c'.length∧off<cs.length∧id'≠id∧
   C ⟨.p .any,[(id',.dead),(id,.deep m (cs.set off (.row rs.length)) (rs++[some c']))],[id,id']⟩
 | .deep m cs rs,.froz m' c'=>off'+len≤c'.length∧off<cs.length∧id'≠id∧
   C ⟨.p .any,[(id,.deep m (cs.set off (.v (.sl (.lent m') ((c'.drop off').take len)))) rs)],[id,id']⟩
 |_,_=>False
theorem A8 {a v:AV}:iT P t h a v C=v7 (bc P t) h a v C:=_root_.id rfl
theorem c4 {α:Type} {c:List α} {off:Nat} {v:α} (ho:off<c.length):c.take off++[v]++c.drop (off+1)=c.set off v:=by
 rw[List.set_eq_take_append_cons_drop,if_pos ho,List.append_assoc];rfl
theorem Bt {id off:Nat} {v:PV} (hv:∀xs,v≠ .agg xs):v7 (some (1,false)) h (.ptr id off) (.p v) C=m7 (h id) id off v C:=by
 simp only[v7,m7]
 cases hb:h id with
 |live m c=>
  cases v with
  |agg xs=>exact absurd rfl (hv xs)
  |_=>
   simp only[bU,lT,List.length_cons,List.length_nil,Nat.zero_add,List.not_mem_nil,not_false_eq_true,true_and,List.nil_append]
   apply propext;constructor
   ·rintro⟨h1,ho,hc⟩;rw[c4 (by omega)]at hc;exact⟨h1,by omega,hc⟩
   ·rintro⟨h1,ho,hc⟩;rw[c4 (by omega)];exact⟨h1,by omega,hc⟩
 |froz m c=>rfl
 |deep m cs rs=>
   have ea:fe (.p v)=[.p v]:=by
    cases v with
    |agg xs=>exact absurd rfl (hv xs)
    |_=>rfl
   rw[ea]
   simp only[ic,lU,List.length_cons,List.length_nil,Nat.zero_add,List.not_mem_nil,List.append_nil,List.nil_append,true_and]
   apply propext;constructor
   ·rintro(⟨h1,ho,hc⟩|⟨h1,ho,hc⟩)
    ·rw[c4 (by omega)]at hc;exact⟨.inl h1,by omega,hc⟩
    ·rw[c4 (by omega)]at hc;exact⟨.inr h1,by omega,hc⟩
   ·rintro⟨h1|h1,ho,hc⟩
    ·rw[c4 (by omega)];exact .inl ⟨h1,by omega,hc⟩
    ·rw[c4 (by omega)];exact .inr ⟨h1,by omega,hc⟩
 |_=>rfl
theorem JX {id off:Nat} {kd:IntKind} {n:Int}:v7 (some (1,false)) h (.ptr id off) (.p (.int kd n)) C=m7 (h id) id off (.int kd n) C:=Bt (by simp)
theorem EV {id off:Nat} {b:Bool}:v7 (some (1,false)) h (.ptr id off) (.p (.bool b)) C=m7 (h id) id off (.bool b) C:=Bt (by simp)
theorem JU {id off:Nat} {s:List UInt8}:v7 (some (1,false)) h (.ptr id off) (.p (.str s)) C=m7 (h id) id off (.str s) C:=Bt (by simp)
theorem ER {m:Bool} {id off:Nat} {s:List PV}:v7 (some (1,false)) h (.ptr id off) (.p (.sl (.lent m) s)) C=m7 (h id) id off (.sl (.lent m) s) C:=Bt (by simp)
theorem JW {id off:Nat} {s:List PV}:v7 (some (1,false)) h (.ptr id off) (.p (.sl .own s)) C=m7 (h id) id off (.sl .own s) C:=Bt (by simp)
theorem JV {id off id' off' len:Nat}:v7 (some (1,false)) h (.ptr id off) (.ref id' off' len) C=jY (h id) (h id') id off id' off' len C:=by
 simp only[v7,jY]
 cases hb:h id with
 |live m c=>
  simp only[bU,lT]
  cases hb':h id' with
  |live m' c'=>
   simp only[List.length_cons,List.length_nil,Nat.zero_add,List.mem_singleton,true_and,List.cons_append,List.nil_append]
   apply propext;constructor
   ·rintro⟨h1,ho,hi,hc⟩;rw[c4 (by omega)]at hc;exact⟨h1,by omega,hi,hc⟩
   ·rintro⟨h1,ho,hi,hc⟩;rw[c4 (by omega)];exact⟨h1,by omega,hi,hc⟩
  |froz m' c'=>
   simp only[List.length_cons,List.length_nil,Nat.zero_add,List.mem_singleton,true_and,List.cons_append,List.nil_append]
   apply propext;constructor
   ·rintro⟨h1,ho,hi,hc⟩;rw[c4 (by omega)]at hc;exact⟨h1,by omega,hi,hc⟩
   ·rintro⟨h1,ho,hi,hc⟩;rw[c4 (by omega)];exact⟨h1,by omega,hi,hc⟩
  |deep m' cs rs=>rfl
  |_=>rfl
 |froz m c=>cases h id'<;>rfl
 |deep m cs rs=>
   simp only[fe,ic,lU]
   cases hb':h id' with
   |live m' c'=>
    simp only[List.length_cons,List.length_nil,Nat.zero_add,List.not_mem_nil,List.append_nil,List.cons_append,List.nil_append,true_and]
    apply propext;constructor
    ·rintro⟨hi,h0,h1,h2,ho,hc⟩;rw[c4 (by omega)]at hc;exact⟨h0,h1,h2,by omega,hi,hc⟩
    ·rintro⟨h0,h1,h2,ho,hi,hc⟩;rw[c4 (by omega)];exact⟨hi,h0,h1,h2,by omega,hc⟩
   |froz m' c'=>
    simp only[List.length_cons,List.length_nil,Nat.zero_add,List.not_mem_nil,List.append_nil,List.cons_append,List.nil_append,true_and]
    apply propext;constructor
    ·rintro⟨hi,h1,ho,hc⟩;rw[c4 (by omega)]at hc;exact⟨h1,by omega,hi,hc⟩
    ·rintro⟨h1,ho,hi,hc⟩;rw[c4 (by omega)];exact⟨hi,h1,by omega,hc⟩
   |deep m' cs' rs'=>simp
   |_=>simp
 |_=>cases h id'<;>rfl
theorem Bu {m:Bool} {c:List PV} {id off:Nat} {v:PV}:m7 (.live m c) id off v C=(v.cell.cellOk=true∧off<c.length∧C ⟨.p .any,[(id,.live m (c.set off v.cell))],[id]⟩):=_root_.id rfl
theorem Bv {m:Bool} {cs:List DC} {rs:List (Option (List PV))} {id off:Nat} {v:PV}:m7 (.deep m cs rs) id off v C=((v.cellOk=true∨v=.sl .own [])∧off<cs.length∧C ⟨.p .any,[(id,.deep m (cs.set off (.v v)) rs)],[id]⟩):=_root_.id rfl
theorem Bq {m:Bool} {cs:List DC} {rs:List (Option (List PV))} {c':List PV} {id off id' off' len:Nat}:jY (.deep m cs rs) (.live false c') id off id' off' len C=(off'=0∧len=c'.length∧off<cs.length∧id'≠id∧
   C ⟨.p .any,[(id',.dead),(id,.deep m (cs.set off (.row rs.length)) (rs++[some c']))],[id,id']⟩):=by simp[jY]
theorem za {cs:List DC} {rs:List (Option (List PV))} {c':List PV} {id off id' off' len:Nat}:jY (.deep true cs rs) (.live true c') id off id' off' len C=(off'=0∧len=c'.length∧off<cs.length∧id'≠id∧
   C ⟨.p .any,[(id',.dead),(id,.deep true (cs.set off (.row rs.length)) (rs++[some c']))],[id,id']⟩):=by simp[jY]
theorem y9 {m m':Bool} {cs:List DC} {rs:List (Option (List PV))} {c':List PV} {id off id' off' len:Nat}:jY (.deep m cs rs) (.froz m' c') id off id' off' len C=(off'+len≤c'.length∧off<cs.length∧id'≠id∧
   C ⟨.p .any,[(id,.deep m (cs.set off (.v (.sl (.lent m') ((c'.drop off').take len)))) rs)],[id,id']⟩):=_root_.id rfl
theorem Bn {m m':Bool} {c c':List PV} {id off id' off' len:Nat}:jY (.live m c) (.live m' c') id off id' off' len C=(off'+len≤c'.length∧off<c.length∧id≠id'∧
   C ⟨.p .any,[(id',.froz m' c'),(id,.live m (c.set off (.sl (.lent m') ((c'.drop off').take len))))],[id,id']⟩):=rfl
theorem Bp {m m':Bool} {c c':List PV} {id off id' off' len:Nat}:jY (.live m c) (.froz m' c') id off id' off' len C=(off'+len≤c'.length∧off<c.length∧id≠id'∧
   C ⟨.p .any,[(id,.live m (c.set off (.sl (.lent m') ((c'.drop off').take len))))],[id,id']⟩):=rfl
theorem ZI:Fl.lent false=.fr:=_root_.id rfl
theorem ZH:Fl.lent true=.ro:=_root_.id rfl
def IR (b:Blk) (id off len:Nat) (K:PV→List (Nat×Blk)→List Nat→Prop):Prop:=
 match b with
 | .live m c=>off+len≤c.length∧K (.sl (.lent m) ((c.drop off).take len)) [(id,.froz m c)] [id]
 | .froz m c=>off+len≤c.length∧K (.sl (.lent m) ((c.drop off).take len)) [] [id]
 |_=>False
def PUR (h:Nat→Blk) (vs:List AV) (F:List PV→List (Nat×Blk)→List Nat→Prop) (x:PV) (ws:List (Nat×Blk)) (rd:List Nat):Prop:=
 jU h vs fun xs ws' rd'=>F (x::xs) (ws++ws') (rd++rd')
def PUF (F:List PV→List (Nat×Blk)→List Nat→Prop) (x:PV) (ws:List (Nat×Blk)) (rd:List Nat) (xs:List PV) (ws':List (Nat×Blk)) (rd':List Nat):Prop:=F (x::xs) (ws++ws') (rd++rd')
theorem Kp {id off len:Nat} {vs:List AV} {F:List PV→List (Nat×Blk)→List Nat→Prop}:jU h (.ref id off len::vs) F=IR (h id) id off len (PUR h vs F):=by
 simp only[jU,lT,IR,PUR];cases h id<;>rfl
theorem Fp {m:Bool} {c:List PV} {id off len:Nat} {K:PV→List (Nat×Blk)→List Nat→Prop}:IR (.live m c) id off len K=(off+len≤c.length∧K (.sl (.lent m) ((c.drop off).take len)) [(id,.froz m c)] [id]):=_root_.id rfl
theorem Fq {m:Bool} {c:List PV} {id off len:Nat} {K:PV→List (Nat×Blk)→List Nat→Prop}:IR (.froz m c) id off len K=(off+len≤c.length∧K (.sl (.lent m) ((c.drop off).take len)) [] [id]):=_root_.id rfl
theorem YW {vs:List AV} {F:List PV→List (Nat×Blk)→List Nat→Prop} {v:PV} {ws:List (Nat×Blk)} {rd:List Nat}:PUR h vs F v ws rd=jU h vs (PUF F v ws rd):=_root_.id rfl
theorem YX {F:List PV→List (Nat×Blk)→List Nat→Prop} {v:PV} {xs:List PV} {ws ws':List (Nat×Blk)} {rd rd':List Nat}:PUF F v ws rd xs ws' rd'=F (v::xs) (ws++ws') (rd++rd'):=_root_.id rfl
def mkG (s:Option (Nat×PV)) (a:Int) (k:Nat) (C:R→Prop):Prop:=
 match s with
 |some (_,z)=>z.cellOk=true∧C ⟨.ref k 0 a.toNat,[(k,.live false (List.replicate a.toNat z))],[]⟩
 |none=>False
theorem SO {kd kd':IntKind} {a b:Int}:oa P t k (.p (.int kd a)) (.p (.int kd' b)) C=(0≤a∧a≤b∧b≤1099511627776∧mkG (fh P t) a k C):=_root_.id rfl
theorem Gf {a:Int} {n:Nat} {z:PV}:mkG (some (n,z)) a k C=(z.cellOk=true∧C ⟨.ref k 0 a.toNat,[(k,.live false (List.replicate a.toNat z))],[]⟩):=_root_.id rfl
def alG (s:Option (List PV)) (k:Nat) (C:R→Prop):Prop:=
 match s with
 |some xs=>xs≠[]∧xs.length≤1000000∧xs.all PV.cellOk=true∧C ⟨.ptr k 0,[(k,.live false xs)],[]⟩
 |none=>False
theorem VL:kI P t k C=alG (bh P t) k C:=_root_.id rfl
theorem IF {xs:List PV}:alG (some xs) k C=(xs≠[]∧xs.length≤1000000∧xs.all PV.cellOk=true∧C ⟨.ptr k 0,[(k,.live false xs)],[]⟩):=_root_.id rfl
def FM (o:Option AV) (A:AV→Prop):Prop:=match o with|some x=>A x|none=>False
theorem K7 {xs:List AV} {i:Nat}:AV.nth xs i A=FM xs[i]? A:=_root_.id rfl
theorem Cp {v:AV}:FM (some v) A=A v:=_root_.id rfl
def exG (v:AV) (i:Nat) (A:AV→Prop):Prop:=match v with| .tup xs=>AV.nth xs i A|_=>False
theorem y6 {i:Nat}:fY P sg ρ h k (.extract x i) C=exG (ρ x) i (KA k C):=_root_.id rfl
theorem NI {xs:List AV} {i:Nat}:exG (.tup xs) i A=FM xs[i]? A:=_root_.id rfl
def Ws (s:Option (Nat×Nat×Bool)) (v:AV) (A:AV→Prop):Prop:=
 match s with
 |some (off,1,false)=>(match v with
  | .p (.agg xs)=>gt xs off fun x=>A (.p x)
  | .agg xs=>AV.nth xs off A
  |_=>False)
 |_=>False
def KF (A:AV→Prop) (v:PV):Prop:=A (.p v)
theorem Uj {f:Nat} {v:AV}:jI P t f v A=Ws (bv P t f) v A:=_root_.id rfl
theorem ZZ {off:Nat} {xs:List PV}:Ws (some (off,1,false)) (.p (.agg xs)) A=yt xs[off]? (KF A):=by
 simp only[Ws,gt,Int.toNat_natCast,Int.natCast_nonneg,true_and];rfl
theorem Z2 {off:Nat} {xs:List AV}:Ws (some (off,1,false)) (.agg xs) A=FM xs[off]? A:=_root_.id rfl
theorem Td {v:PV}:KF A v=A (.p v):=_root_.id rfl
def Z3 (s:Option (Nat×Nat×Bool)) (a:AV) (A:AV→Prop):Prop:=
 match s with
 |some (off,n,_)=>n≠0∧(match a with
  | .p (.pc xs)=>A (.p (.pc (xs.drop off)))
  | .ptr id o=>A (.ptr id (o+off))
  |_=>False)
 |none=>False
theorem Uv {f:Nat} {v:AV}:da P t f v A=Z3 (bv P t f) v A:=_root_.id rfl
theorem Uu {off n:Nat} {b:Bool} {xs:List PV}:Z3 (some (off,n,b)) (.p (.pc xs)) A=(n≠0∧A (.p (.pc (xs.drop off)))):=_root_.id rfl
theorem Nq {off n id o:Nat} {b:Bool}:Z3 (some (off,n,b)) (.ptr id o) A=(n≠0∧A (.ptr id (o+off))):=_root_.id rfl
def bdG (pl:Option (List Nat)) (zs:Option (List PV)) (parts:List (Nat×AV)) (K:AV→Prop):Prop:=
 match pl,zs with
 |some places,some zs=>eY places (zs.map .p) parts fun cs=>K (.agg cs)
 |_,_=>False
def KG (K:AV→Prop) (cs:List AV):Prop:=K (.agg cs)
def fiG (pl:List Nat) (cells:List AV) (o:Option Nat) (v:AV) (rest:List (Nat×AV)) (K:List AV→Prop):Prop:=
 match o with
 |some o=>o<cells.length∧v.one1∧eY pl (cells.set o v) rest K
 |none=>False
theorem EI {parts:Array (Nat×Operand)}:fY P sg ρ h k (.build t parts) C=kF P t (parts.toList.map fun p=>(p.1,ρ p.2)) (KW C):=_root_.id rfl
theorem Vk {parts:List (Nat×AV)}:kF P t parts A=bdG (bi P t) (bh P t) parts A:=_root_.id rfl
theorem Vj {pl:List Nat} {zs:List PV} {parts:List (Nat×AV)}:bdG (some pl) (some zs) parts A=eY pl (zs.map .p) parts (KG A):=_root_.id rfl
theorem M1 {pl:List Nat} {cells:List AV} {K:List AV→Prop}:eY pl cells [] K=K cells:=_root_.id rfl
theorem Hi {pl:List Nat} {cells:List AV} {i:Nat} {v:AV} {rest:List (Nat×AV)} {K:List AV→Prop}:eY pl cells ((i,v)::rest) K=fiG pl cells pl[i]? v rest K:=_root_.id rfl
theorem Hh {pl:List Nat} {cells:List AV} {o:Nat} {v:AV} {rest:List (Nat×AV)} {K:List AV→Prop}:fiG pl cells (some o) v rest K=(o<cells.length∧v.one1∧eY pl (cells.set o v) rest K):=_root_.id rfl
theorem Tc {cs:List AV}:KG A cs=A (.agg cs):=_root_.id rfl
theorem KY {kd:IntKind} {n:Int}:AV.one1 (.p (.int kd n))=True:=_root_.id rfl
theorem FE {b:Bool}:AV.one1 (.p (.bool b))=True:=_root_.id rfl
theorem KT {s:List UInt8}:AV.one1 (.p (.str s))=True:=_root_.id rfl
theorem RM {o:Fl} {s:List PV}:AV.one1 (.p (.sl o s))=True:=_root_.id rfl
theorem KU {i o l:Nat}:AV.one1 (.ref i o l)=True:=_root_.id rfl
def ciG (o:Option IntKind) (s:Bool) (n:Int) (C:R→Prop):Prop:=
 match o with
 |some kd=>s=true∧nE kd n∧C ⟨.p (.int kd n),[],[]⟩
 |none=>False
theorem EG:fY P sg ρ h k (.convert t t' x) C=gl P t t' k h (ρ x) C:=_root_.id rfl
theorem N2 {kd:IntKind} {n:Int}:gl P t t' k h (.p (.int kd n)) C=ciG (jo P t') (P.underlying t).isSome n C:=_root_.id rfl
theorem Ii {kd:IntKind} {n:Int}:ciG (some kd) true n C=(nE kd n∧C ⟨.p (.int kd n),[],[]⟩):=by simp[ciG]
def Wu (b:Bool) (c:Bool) (d:Bool) (k:Nat) (s:List UInt8) (C:R→Prop):Prop:=
 if b then C ⟨.p (.str s),[],[]⟩else c=true∧d=true∧s.length≤Ww∧C ⟨.ref k 0 s.length,[(k,.live false (s.map jW))],[]⟩
theorem NZ {s:List UInt8}:gl P t t' k h (.p (.str s)) C=(cE P t=true∧Wu (cE P t') (fh P t').isSome (AJ P t') k s C):=_root_.id rfl
theorem aal {c d:Bool} {s:List UInt8}:Wu true c d k s C=C ⟨.p (.str s),[],[]⟩:=_root_.id rfl
theorem aam {s:List UInt8}:Wu false true true k s C=(s.length≤1099511627776∧C ⟨.ref k 0 s.length,[(k,.live false (s.map jW))],[]⟩):=by simp[Wu,Ww]
def CV (C:R→Prop) (xs:List PV) (rd:List Nat):Prop:=∃s:List UInt8,xs=s.map (fun b=>PV.int .u8 b.toNat)∧C ⟨.p (.str s),[],rd⟩
theorem N0 {id off len:Nat}:gl P t t' k h (.ref id off len) C=(cE P t'=true∧(fh P t).isSome=true∧AJ P t=true∧Ey (h id) id off len (CV C)):=by
 simp only[gl,iG,Ey];cases h id<;>rfl
theorem U4 {o:Fl} {xs:List PV}:gl P t t' k h (.p (.sl o xs)) C=(cE P t'=true∧(fh P t).isSome=true∧AJ P t=true∧CV C xs []):=_root_.id rfl
theorem EN {s s':List UInt8} (h:s.map jW=s'.map jW):s=s':=by
 induction s generalizing s' with
 |nil=>cases s' with
  |nil=>rfl
  |cons _ _=>simp at h
 |cons a s ih=>cases s' with
  |nil=>simp at h
  |cons b s'=>
   simp only[List.map_cons,List.cons.injEq,jW,PV.int.injEq,true_and]at h
   rw[ih h.2,UInt8.toNat_inj.1 (by omega:a.toNat=b.toNat)]
theorem xq {s:List UInt8} {rd:List Nat}:CV C (s.map jW) rd=C ⟨.p (.str s),[],rd⟩:=by
 apply propext;constructor
 ·rintro⟨s',e,hc⟩;rw[EN (s:=s) (s':=s') e];exact hc
 ·intro hc;exact⟨s,rfl,hc⟩
theorem N1 {rd:List Nat}:CV C [] rd=C ⟨.p (.str []),[],rd⟩:=xq (s:=[])
theorem U5 {b:UInt8} {rd:List Nat}:CV C [.int .u8 (b.toNat:Int)] rd=C ⟨.p (.str [b]),[],rd⟩:=xq (s:=[b])
theorem xE {n:Int} {rd:List Nat} (h0:0≤n) (h1:n<256) (hc:C ⟨.p (.str [UInt8.ofNat n.toNat]),[],rd⟩):CV C [.int .u8 n] rd:=
 ⟨_,by simp[UInt8.toNat_ofNat'];omega,hc⟩
theorem oC {n:Int}:nE .u8 n=(0≤n∧n≤255):=by simp only[nE];rfl
theorem Pv {ts:Array TypeId}:fY P sg ρ h k (.call {callee:=.builtin .max,args:=⟨[x,y]⟩,argTypes:=ts}) C=AK true (ρ x) (ρ y) (KW C):=_root_.id rfl
theorem Pu {ts:Array TypeId}:fY P sg ρ h k (.call {callee:=.builtin .min,args:=⟨[x,y]⟩,argTypes:=ts}) C=AK false (ρ x) (ρ y) (KW C):=_root_.id rfl
theorem LU {kd kd':IntKind} {a b:Int}:AK true (.p (.int kd a)) (.p (.int kd' b)) A=(kd=kd'∧A (.p (.int kd (max a b)))):=by
 simp only[AK,if_true]
 rw[show(if a<b then b else a)=max a b by rw[Int.max_def];split<;>split<;>omega]
theorem LT {kd kd':IntKind} {a b:Int}:AK false (.p (.int kd a)) (.p (.int kd' b)) A=(kd=kd'∧A (.p (.int kd (min a b)))):=by
 simp only[AK,Bool.false_eq_true,if_false]
 rw[show(if b<a then b else a)=min a b by rw[Int.min_def];split<;>split<;>omega]
theorem W5 {f:FuncId} {first caps:Array Operand}:fY P sg ρ h k (.makeFunc (.func f) first caps) C=C ⟨.fn f (first.toList.map ρ) (caps.toList.map ρ),[],[]⟩:=_root_.id rfl
theorem TU {g:FuncId} {first caps:List PV} {vs:List AV}:qY P sg h k (.p (.fn g first caps)) vs C=Wa (sg (g+12884901888)) P h g (first.map .p++vs++caps.map .p) C (FZ P sg h k g (first.map .p++vs++caps.map .p) C (iE (sg (g+8589934592)) (first.map .p++vs++caps.map .p))):=by
 simp only[qY,jS];rfl
theorem TV {g:FuncId} {first caps vs:List AV}:qY P sg h k (.fn g first caps) vs C=Wa (sg (g+12884901888)) P h g (first++vs++caps) C (FZ P sg h k g (first++vs++caps) C (iE (sg (g+8589934592)) (first++vs++caps))):=by
 simp only[qY,jS];rfl
def PF2 (f:FuncId) (ys:List PV) (rd:List Nat) (K:PV→List Nat→Prop) (zs:List PV) (rd':List Nat):Prop:=K (.fn f ys zs) (rd++rd')
def PF1 (h:Nat→Blk) (f:FuncId) (caps:List AV) (K:PV→List Nat→Prop) (ys:List PV) (rd:List Nat):Prop:=dh h caps (PF2 f ys rd K)
def PA1 (K:PV→List Nat→Prop) (ys:List PV) (rd:List Nat):Prop:=K (.agg ys) rd
def UP (h:Nat→Blk) (vs:List AV) (K:List PV→List Nat→Prop) (x:PV) (rd:List Nat):Prop:=dh h vs (UA K x rd)
theorem YV {f:FuncId} {first caps vs:List AV} {F:List PV→List Nat→Prop}:o0 h (.fn f first caps::vs) F=dh h first (PF1 h f caps (UN h vs F)):=_root_.id rfl
theorem RA {xs vs:List AV} {F:List PV→List Nat→Prop}:o0 h (.agg xs::vs) F=dh h xs (PA1 (UN h vs F)):=_root_.id rfl
theorem KE {f:FuncId} {caps:List AV} {K:PV→List Nat→Prop} {ys:List PV} {rd:List Nat}:PF1 h f caps K ys rd=dh h caps (PF2 f ys rd K):=_root_.id rfl
theorem KC {f:FuncId} {K:PV→List Nat→Prop} {ys zs:List PV} {rd rd':List Nat}:PF2 f ys rd K zs rd'=K (.fn f ys zs) (rd++rd'):=_root_.id rfl
theorem KN {K:PV→List Nat→Prop} {ys:List PV} {rd:List Nat}:PA1 K ys rd=K (.agg ys) rd:=_root_.id rfl
theorem Kt {K:List PV→List Nat→Prop}:dh h [] K=K [] []:=_root_.id rfl
theorem YZ {v:PV} {vs:List AV} {K:List PV→List Nat→Prop}:dh h (.p v::vs) K=dh h vs (UA K v.cell []):=_root_.id rfl
theorem Kr {id off len:Nat} {vs:List AV} {K:List PV→List Nat→Prop}:dh h (.ref id off len::vs) K=ou (h id) id off len (UP h vs K):=by
 simp only[dh,iA,ou];cases h id<;>rfl
theorem PL {v:PV} {vs:List AV} {K:List PV→List Nat→Prop} {rd:List Nat}:UP h vs K v rd=dh h vs (UA K v rd):=_root_.id rfl
def Kq (b:Blk) (id off:Nat) (F:PV→List Nat→Prop):Prop:=
 match b with
 | .live _ c=>F (.pc (c.drop off)) [id]
 | .froz _ c=>F (.pc (c.drop off)) [id]
 | .deep _ cs rs=>F (.pc ((cs.map (DC.rd rs)).drop off)) [id]
 |_=>False
theorem Ru {id off:Nat} {vs:List AV} {F:List PV→List Nat→Prop}:o0 h (.ptr id off::vs) F=Kq (h id) id off (UN h vs F):=by
 simp only[o0,uD,iA,Kq];cases h id<;>rfl
theorem Ks {id off:Nat} {vs:List AV} {K:List PV→List Nat→Prop}:dh h (.ptr id off::vs) K=Kq (h id) id off (UP h vs K):=by
 simp only[dh,iA,Kq];cases h id<;>rfl
theorem Fr {m:Bool} {c:List PV} {id off:Nat} {F:PV→List Nat→Prop}:Kq (.live m c) id off F=F (.pc (c.drop off)) [id]:=_root_.id rfl
theorem Fs {m:Bool} {c:List PV} {id off:Nat} {F:PV→List Nat→Prop}:Kq (.froz m c) id off F=F (.pc (c.drop off)) [id]:=_root_.id rfl
def R0 (v:AV) (C:R→Prop):Prop:=match v with| .ptr id off=>C ⟨.ptr id off,[],[]⟩| .p (.pc xs)=>C ⟨.p (.pc xs),[],[]⟩| .p (.fn f a b)=>C ⟨.p (.fn f a b),[],[]⟩| .fn f a b=>C ⟨.fn f a b,[],[]⟩|_=>False
theorem Ft {m:Bool} {cs:List DC} {rs:List (Option (List PV))} {id off:Nat} {F:PV→List Nat→Prop}:Kq (.deep m cs rs) id off F=F (.pc ((cs.map (DC.rd rs)).drop off)) [id]:=_root_.id rfl
theorem W4:fY P sg ρ h k (.nilCheck x) C=R0 (ρ x) C:=_root_.id rfl
theorem Lk {id off:Nat}:R0 (.ptr id off) C=C ⟨.ptr id off,[],[]⟩:=_root_.id rfl
theorem RY {xs:List PV}:R0 (.p (.pc xs)) C=C ⟨.p (.pc xs),[],[]⟩:=_root_.id rfl
theorem RZ {f:FuncId} {a b:List PV}:R0 (.p (.fn f a b)) C=C ⟨.p (.fn f a b),[],[]⟩:=_root_.id rfl
theorem Ll {f:FuncId} {a b:List AV}:R0 (.fn f a b) C=C ⟨.fn f a b,[],[]⟩:=_root_.id rfl
def Sw (b:Blk) (id len:Nat) (F:List PV→Prop):Prop:=
 match b with
 | .live _ c=>len=c.length∧F c
 | .deep _ cs rs=>∃rows,cs=canon rows.length∧rs=rows.map some∧len=rows.length∧F [.dl rows]
 |_=>False
def MU (h:Nat→Blk) (sg:List Bool) (vs:List AV) (id:Nat) (K:List Arg→List Nat→List (Option (Nat×Option Nat))→Prop) (c:List PV):Prop:=
 pass h sg vs fun as rd ms=>K (.mu false c::as) rd (some (id,none)::ms)
def MF (id:Nat) (c:List PV) (K:List Arg→List Nat→List (Option (Nat×Option Nat))→Prop) (as:List Arg) (rd:List Nat) (ms:List (Option (Nat×Option Nat))):Prop:=K (.mu false c::as) rd (some (id,none)::ms)
def PQ (F:List Arg→List Nat→List (Option (Nat×Option Nat))→Prop) (xs:List PV) (rd:List Nat):Prop:=F (xs.map .pv) rd (xs.map fun _=>none)
theorem LB {sg:List Bool} {id len:Nat} {vs:List AV} {K:List Arg→List Nat→List (Option (Nat×Option Nat))→Prop}:pass h (true::sg) (.ref id 0 len::vs) K=Sw (h id) id len (MU h sg vs id K):=by
 simp only[pass,Sw,MU];cases h id<;>rfl
theorem Gc {m:Bool} {c:List PV} {id len:Nat} {F:List PV→Prop}:Sw (.live m c) id len F=(len=c.length∧F c):=_root_.id rfl
theorem Ss {sg:List Bool} {id:Nat} {c:List PV} {vs:List AV} {K:List Arg→List Nat→List (Option (Nat×Option Nat))→Prop}:MU h sg vs id K c=pass h sg vs (MF id c K):=_root_.id rfl
theorem LD {vs:List AV} {id:Nat} {c:List PV} {K:List Arg→List Nat→List (Option (Nat×Option Nat))→Prop}:pass h [] vs (MF id c K)=o0 h vs (PQ (MF id c K)):=kO
theorem Sr {F:List Arg→List Nat→List (Option (Nat×Option Nat))→Prop} {xs:List PV} {rd:List Nat}:PQ F xs rd=F (xs.map .pv) rd (xs.map fun _=>none):=_root_.id rfl
theorem Su {id:Nat} {c:List PV} {K:List Arg→List Nat→List (Option (Nat×Option Nat))→Prop} {as:List Arg} {rd:List Nat} {ms:List (Option (Nat×Option Nat))}:MF id c K as rd ms=K (.mu false c::as) rd (some (id,none)::ms):=_root_.id rfl
end
end Go.Gl
namespace Go.Gl
open Go
variable [Amb]
section
variable {P:Program} {sg:FuncId→List Bool} {nt:Nat} {h:Nat→Blk} {k:Nat} {C:R→Prop} {S:St} {Q:Ex→St→Prop}
class NDl (c:List PV):Prop where
 h:∀rows,c≠[.dl rows]
class NDf {α:Type} (f:α→PV):Prop where
 h:∀a rows,f a≠ .dl rows
instance {kd:IntKind}:NDf (PV.int kd):=⟨by intro a rows h;cases h⟩
instance:NDf PV.bool:=⟨by intro a rows h;cases h⟩
instance:NDf PV.str:=⟨by intro a rows h;cases h⟩
instance:NDf jW:=⟨by intro a rows h;cases h⟩
instance {m:Bool}:NDf (bt m):=⟨by intro a rows h;cases h⟩
instance {m:Bool}:NDf (HW m):=⟨by intro a rows h;cases h⟩
instance {α:Type} {f:α→PV} [a:NDf f] {l:List α}:NDl (l.map f):=⟨by
 intro rows h
 cases l with
 |nil=>cases h
 |cons x l=>simp only[List.map_cons,List.cons.injEq]at h;exact a.h _ _ h.1⟩
instance:NDl []:=⟨by intro rows h;cases h⟩
instance {x y:PV} {l:List PV}:NDl (x::y::l):=⟨by intro rows h;cases h⟩
instance {kd:IntKind} {n:Int}:NDl [.int kd n]:=⟨by intro rows h;cases h⟩
instance {b:Bool}:NDl [.bool b]:=⟨by intro rows h;cases h⟩
instance {b:List UInt8}:NDl [.str b]:=⟨by intro rows h;cases h⟩
instance {o:Fl} {b:List PV}:NDl [.sl o b]:=⟨by intro rows h;cases h⟩
theorem Gg {c:List PV} {m:Bool} [a:NDl c]:tA m c=.live m c:=by
 unfold tA;split
 ·rename_i rows;exact absurd rfl (a.h rows)
 ·rfl
theorem zU {c:List PV} [a:NDl c]:wK c=c.length:=by
 unfold wK;split
 ·rename_i rows;exact absurd rfl (a.h rows)
 ·rfl
theorem FI {c c0:List PV} {m:Bool} [a:NDl c]:ed none (some (some c)) (.live m c0)=.live m c:=by
 unfold ed;split<;>first|rfl|skip
 all_goals first|(rename_i h _;cases h;exact absurd rfl (a.h _))|(rename_i h;cases h;exact absurd rfl (a.h _))|simp_all
theorem o4 {b:Blk}:ed none (some none) b=.dead:=by cases b<;>rfl
theorem G9 {m:Bool} {c:List PV}:qw (.live m c)=m:=_root_.id rfl
theorem Ha {m:Bool} {c:List PV}:qw (.froz m c)=false:=_root_.id rfl
theorem Hb {m:Bool} {cs:List DC} {rs:List (Option (List PV))}:qw (.deep m cs rs)=m:=_root_.id rfl
theorem kL {f:FuncId} {tk p:Bool} {c:List PV} {as:List Arg} {outs:List (Option (List PV))} {res:List PV} {rd:List Nat} {ms:List (Option (Nat×Option Nat))} {id:Nat} {r:Option Nat}
  (hf:CallT P tk f (.mu p c::as) outs res) (hn:(ms.all Option.isNone)=true) (hid:id∉rd)
  (hc:C ⟨impAll k res,(id,ed r outs[0]? (h id))::impWs (tk&&qw (h id)) k res,id::rd⟩):Pk P h k f C (.mu p c::as) rd (some (id,r)::ms):=by
 have e1':cF (some (id,r)::ms)=[id]:=by
  have:ms.filterMap (fun m=>m.map (·.1))=[]:=by
   rw[List.filterMap_eq_nil_iff];intro a ha
   have:=List.all_eq_true.1 hn a ha
   cases a with
   |none=>rfl
   |some _=>simp at this
  simp[cF,List.filterMap_cons,this]
 have ho:∀(l:List (Option (Nat×Option Nat))) (j:Nat),(l.all Option.isNone)=true→dy h outs j l=[]:=fun l=>by
  induction l with
  |nil=>intro j _;rfl
  |cons x l ih=>
   intro j hj
   simp only[List.all_cons,Bool.and_eq_true]at hj
   cases x with
   |none=>exact ih (j+1) hj.2
   |some _=>simp at hj
 refine⟨⟨by rw[e1'];simp,by rw[e1'];simpa using hid⟩,tk,outs,res,hf,tk&&qw (h id),fun e1 e2 i hi=>by rw[e1']at hi;simp at hi;subst hi;subst e2;simpa using e1, ?_⟩
 rw[e1']
 simp only[dy,ho ms 1 hn,List.cons_append,List.nil_append]
 exact hc
def rM (tk:Bool) (as:List Arg) (outs:List (Option (List PV))) (ts:List Nat) (res:List PV) (ex:Ex) (S:St):Prop:=
 match ex with
 | .exit _=>False
 |_=>sN tk S as outs (ts.map S.e) res
theorem CallT.of (hm:P.follows .mixedOrders=true) {tk:Bool} {f:FuncId} {as:List Arg} {outs:List (Option (List PV))} {res:List PV} {fn:Func} {code:Code} {ts:List Nat}
  (hf:P.funcs[f]? =some fn) (hb:fn.body=some code) (hname:(fn.name== "runtime.NumGoroutine")=false) (hres:fn.results=⟨ts.map .tmp⟩) (hargs:decide (as.length≤fn.ntmps)=true)
  (hck:eO fn.ntmps code=true) (hnr:noRoL res=true) (hro:gA res=true) (houts:(outs.all fun o=>o.all noRoL)=true)
  (hw:iI P sg code (rM tk as outs ts res) (eZ as)):CallT P tk f as outs res:=
 CallT.of_wp hm hf hb hname hres (of_decide_eq_true hargs) hnr hro houts (wp_mono _ (fun ex S h=>by cases ex with|exit id=>exact h|normal=>exact resW_tmp.symm▸h|ret=>exact resW_tmp.symm▸h) (m5 _ hck hw))
theorem JD {tk:Bool} {c c':List PV} {as:List Arg} {ts:List Nat} {xs:List PV} {ex:Ex} {p:Bool} {os:List (Option (List PV))} (hx:ex=.ret∨ex=.normal)
  (ho:(os.all Option.isNone)=true) (hl:S.h 0=tA true c') (hf:cW tk S.h (as.length+1) (ts.map S.e) xs fun L=>L.Pairwise Dj∧0∉L.map fun q=>q.2.1):
  rM tk (.mu p c::as) (some c'::os) ts xs ex S:=by
 have key:sN tk S (.mu p c::as) (some c'::os) (ts.map S.e) xs:=by
  unfold sN
  refine Eq.mp (congrArg (cW tk S.h (as.length+1) (ts.map S.e) xs) ?_) hf
  funext L
  apply propext
  constructor
  ·rintro⟨h1,h2⟩
   refine⟨h1,fun j hj=> ?_⟩
   cases j with
   |zero=>exact⟨hl,h2⟩
   |succ j=>
    simp only[List.getElem?_cons_succ]
    split
    ·rename_i c0 hc0
     have:=List.all_eq_true.1 ho _ (List.mem_of_getElem? hc0)
     simp at this
    ·trivial
  ·rintro⟨h1,h2⟩
   exact⟨h1,(h2 0 (by simp)).2⟩
 rcases hx with rfl|rfl<;>exact key
theorem Jz {tk:Bool} {c:List PV} {as:List Arg} {ts:List Nat} {xs:List PV} {ex:Ex} {p:Bool} {os:List (Option (List PV))} (hx:ex=.ret∨ex=.normal)
  (ho:(os.all Option.isNone)=true) (hf:cW tk S.h (as.length+1) (ts.map S.e) xs F0):
  rM tk (.mu p c::as) os ts xs ex S:=by
 have key:sN tk S (.mu p c::as) os (ts.map S.e) xs:=by
  unfold sN
  refine Eq.mp (congrArg (cW tk S.h (as.length+1) (ts.map S.e) xs) ?_) hf
  funext L
  simp only[F0]
  apply propext
  constructor
  ·intro h1
   refine⟨h1,fun j hj=> ?_⟩
   split
   ·rename_i c0 _ hc0
    have:=List.all_eq_true.1 ho _ (List.mem_of_getElem? hc0)
    simp at this
   ·trivial
  ·exact fun h=>h.1
 rcases hx with rfl|rfl<;>exact key
def F1 (L:List (Nat×Nat×Pl)):Prop:=L.Pairwise Dj∧0∉L.map fun q=>q.2.1
theorem NC:F1 []:=by simp[F1]
theorem Z9 {k id:Nat} {pl:Pl}:F1 [(k,id,pl)]=(0≠id):=by simp[F1]
def Od (ops:Array Oper) (ws:List Bool):List (Nat×Nat):=
 (List.range ops.size).flatMap fun j=>(List.range j).filterMap fun i=>
  if(ws.getD i false||ws.getD j false)&& !jb ops ops.size i j then some (i,j)else none
def ks:List (List (Nat×Blk)×List Nat)→List Bool→Bool
 |[],[]=>true
 |p::L,w::ws=>(p.1.isEmpty||w)&&ks L ws
 |_,_=>false
theorem nw:∀{L:List (List (Nat×Blk)×List Nat)} {ws:List Bool},ks L ws=true→∀i,ws.getD i false=false→(L.getD i ([],[])).1=[]
 |[],[],_,i,_=>by simp
 |p::L,w::ws,h,0,hi=>by
  simp only[ks,Bool.and_eq_true,Bool.or_eq_true]at h
  simp only[List.getD_cons_zero]at hi ⊢
  rcases h.1 with h1|h1
  ·simpa using h1
  ·rw[h1]at hi;cases hi
 |p::L,w::ws,h,i+1,hi=>by
  simp only[ks,Bool.and_eq_true]at h
  simp only[List.getD_cons_succ]at hi ⊢
  exact nw h.2 i hi
 |[],_::_,h,_,_=>by simp[ks]at h
 |_::_,[],h,_,_=>by simp[ks]at h
def IV (i:Nat):List Nat→Prop
 |[]=>True
 |j::l=>i≠j∧IV i l
def uO (i:Nat):List (Nat×Blk)→Prop
 |[]=>True
 |(j,_)::l=>i≠j∧uO i l
def D0:List (Nat×Blk)→List (Nat×Blk)→List Nat→Prop
 |[],_,_=>True
 |(i,_)::ws,bs,rd=>IV i rd∧uO i bs∧D0 ws bs rd
theorem yb {i:Nat}:∀{l:List Nat},IV i l→i∉l
 |[],_=>by simp
 |j::l,h=>by simp only[IV]at h;simp[h.1,yb h.2]
theorem uN {i:Nat}:∀{l:List (Nat×Blk)},uO i l→∀q∈l,i≠q.1
 |[],_=>by simp
 |(j,b)::l,h=>by
  simp only[uO]at h
  intro q hq
  rcases List.mem_cons.1 hq with rfl|hq
  ·exact h.1
  ·exact uN h.2 q hq
theorem sI {a b:List (Nat×Blk)×List Nat} (h:D0 a.1 b.1 b.2):clear a b:=by
 obtain⟨ws,rd⟩:=a
 simp only at h
 intro p hp
 simp only at hp
 induction ws with
 |nil=>simp at hp
 |cons w ws ih=>
  obtain⟨i,bl⟩:=w
  simp only[D0]at h
  rcases List.mem_cons.1 hp with rfl|hp
  ·exact⟨yb h.1,uN h.2.1⟩
  ·exact ih h.2.2 hp
def AA (a b:List (Nat×Blk)×List Nat):Prop:=D0 a.1 b.1 b.2∧D0 b.1 a.1 a.2
def kE (L:List (List (Nat×Blk)×List Nat)):List (Nat×Nat)→Prop
 |[]=>True
 |(i,j)::ps=>AA (L.getD i ([],[])) (L.getD j ([],[]))∧kE L ps
theorem sH {L:List (List (Nat×Blk)×List Nat)}:∀{ps:List (Nat×Nat)},kE L ps→∀p∈ps,AA (L.getD p.1 ([],[])) (L.getD p.2 ([],[]))
 |[],_=>by simp
 |(i,j)::ps,h=>by
  simp only[kE]at h
  intro p hp
  rcases List.mem_cons.1 hp with rfl|hp
  ·exact h.1
  ·exact sH h.2 p hp
theorem vQ {ops:Array Oper} {L:List (List (Nat×Blk)×List Nat)} (ws:List Bool) (ps:List (Nat×Nat)) (hw:ks L ws=true) (hp:Od ops ws=ps)
  (h:kE L ps):ir ops L:=by
 intro j hj i hi
 by_cases hb:jb ops ops.size i j=true
 ·exact .inl hb
 right
 by_cases hw':(ws.getD i false||ws.getD j false)=true
 ·have:(i,j)∈ps:=by
   subst hp
   unfold Od
   rw[List.mem_flatMap]
   refine⟨j,List.mem_range.2 hj, ?_⟩
   rw[List.mem_filterMap]
   refine⟨i,List.mem_range.2 hi, ?_⟩
   rw[if_pos]
   simp only[Bool.and_eq_true,Bool.not_eq_true']
   exact⟨hw',by simpa using hb⟩
  have:=sH h _ this
  exact⟨sI this.1,sI this.2⟩
 ·simp only[Bool.or_eq_true,not_or,Bool.not_eq_true]at hw'
  unfold clear
  rw[nw hw i hw'.1,nw hw j hw'.2]
  simp
theorem Oh {L:List (List (Nat×Blk)×List Nat)}:kE L []=True:=_root_.id rfl
theorem Iq {L:List (List (Nat×Blk)×List Nat)} {i j:Nat} {ps:List (Nat×Nat)}:kE L ((i,j)::ps)=(AA (L.getD i ([],[])) (L.getD j ([],[]))∧kE L ps):=_root_.id rfl
theorem Of {a b:List Nat}:AA ([],a) ([],b)=True:=by simp[AA,D0]
theorem U9 {a b:List (Nat×Blk)×List Nat}:AA a b=(D0 a.1 b.1 b.2∧D0 b.1 a.1 a.2):=_root_.id rfl
theorem Ok {bs:List (Nat×Blk)} {rd:List Nat}:D0 [] bs rd=True:=_root_.id rfl
theorem Ir {i:Nat} {b:Blk} {ws bs:List (Nat×Blk)} {rd:List Nat}:D0 ((i,b)::ws) bs rd=(IV i rd∧uO i bs∧D0 ws bs rd):=_root_.id rfl
theorem Li {i:Nat}:IV i []=True:=_root_.id rfl
theorem F3 {i j:Nat} {l:List Nat}:IV i (j::l)=(i≠j∧IV i l):=_root_.id rfl
theorem Lm {i:Nat}:uO i []=True:=_root_.id rfl
theorem F4 {i j:Nat} {b:Blk} {l:List (Nat×Blk)}:uO i ((j,b)::l)=(i≠j∧uO i l):=_root_.id rfl
def Wz (m:Bool) (l j:List PV) (id k:Nat) (C:R→Prop) (ys:List PV) (rd:List Nat):Prop:=OY (.live m (l++j)) id 0 l.length k C ys rd
theorem aaC {α:Type} {f:α→PV} {m:Bool} {l j:List α} {id:Nat} {ys:List PV} {rd:List Nat}:OY (.live m (List.map f (l++j))) id 0 l.length k C ys rd=Wz m (l.map f) (j.map f) id k C ys rd:=by
 rw[Wz,List.map_append,List.length_map]
theorem xF {α:Type} {f:α→PV} {m:Bool} {l j:List α} {id:Nat} {ys:List PV} {rd:List Nat} (hl:l.length+ys.length≤1099511627776)
  (hc:∀j':List α,C ⟨.ref k 0 (l.length+ys.length),[(id,.dead),(k,.live m (l.map f++ys++j'.map f))],id::rd⟩):Wz m (l.map f) (j.map f) id k C ys rd:=by
 unfold Wz OY
 simp only[List.length_map,List.length_append,Nat.zero_add]
 refine⟨hl,by omega, ?_⟩
 split
 ·rename_i hj
  have:j=[]:=List.eq_nil_of_length_eq_zero (by omega)
  subst this
  have:=hc []
  simpa using this
 ·split
  ·rename_i hj
   have:=hc (j.drop ys.length)
   have e1:(l.map f++j.map f).take l.length=l.map f:=by simp[List.take_append]
   have e2:(l.map f++j.map f).drop (l.length+ys.length)=(j.drop ys.length).map f:=by
    rw[List.drop_append,List.drop_eq_nil_of_le (by simp),List.nil_append,List.length_map,show l.length+ys.length - l.length=ys.length by omega,←List.map_drop]
   rw[e1,e2]
   exact this
  ·have:=hc []
   have e1:(l.map f++j.map f).take l.length=l.map f:=by simp[List.take_append]
   rw[List.drop_zero,e1]
   simpa using this
theorem vo {α β:Type} {f:α→β} {l:List α} {i:Nat} {K:β→Prop} (d:α):yt (Option.map f l[i]?) K=(i<l.length∧K (f (l.getD i d))):=by
 by_cases hi:i<l.length
 ·rw[List.getElem?_eq_getElem hi,List.getD_eq_getElem?_getD,List.getElem?_eq_getElem hi]
  simp[yt,hi]
 ·rw[List.getElem?_eq_none (by omega)]
  simp[yt,hi]
theorem MM {f:Int→PV} {l:List Int} {i:Nat} {K:PV→Prop}:yt (Option.map f l[i]?) K=(i<l.length∧K (f (l.getD i 0))):=vo 0
theorem GZ {f:Bool→PV} {l:List Bool} {i:Nat} {K:PV→Prop}:yt (Option.map f l[i]?) K=(i<l.length∧K (f (l.getD i false))):=vo false
theorem TG {f:UInt8→PV} {l:List UInt8} {i:Nat} {K:PV→Prop}:yt (Option.map f l[i]?) K=(i<l.length∧K (f (l.getD i 0))):=vo 0
theorem GY {α:Type} {f:List α→PV} {l:List (List α)} {i:Nat} {K:PV→Prop}:yt (Option.map f l[i]?) K=(i<l.length∧K (f (l.getD i []))):=vo []
theorem TL {l:List UInt8} {i:Nat} {K:UInt8→Prop}:yt l[i]? K=(i<l.length∧K (l.getD i 0)):=by
 have:=vo (f:=id) (l:=l) (i:=i) (K:=K) 0
 rwa [Option.map_id]at this
def OwnL {α:Type} (v:AV) (h:Nat→Blk) (n:Nat) (f:α→PV) (len:Nat) (l:List α):Prop:=
 match v with
 | .ref id 0 len'=>len'=len∧h id=.live false (l.map f)∧id<n
 |_=>False
def FroL {α:Type} (v:AV) (h:Nat→Blk) (n:Nat) (f:α→PV) (len:Nat) (l:List α):Prop:=
 match v with
 | .ref id 0 len'=>len'=len∧h id=.froz false (l.map f)∧id<n
 |_=>False
def NId (v v':AV):Prop:=
 match v,v' with
 | .ref i _ _,.ref j _ _=>i≠j
 |_,_=>False
def ZQ {α:Type} (b:Blk) (f:α→PV) (l:List α):Prop:=b=.live false (l.map f)
def ZR {α:Type} (b:Blk) (f:α→PV) (l:List α):Prop:=b=.froz false (l.map f)
theorem OwnL.out {α:Type} {v:AV} {h:Nat→Blk} {n:Nat} {f:α→PV} {len:Nat} {l:List α} (ho:OwnL v h n f len l):∃id,v=.ref id 0 len∧h id=.live false (l.map f)∧id<n:=by
 unfold OwnL at ho
 split at ho
 ·rename_i id len';obtain⟨rfl,h1,h2⟩:=ho;exact⟨id,rfl,h1,h2⟩
 ·exact ho.elim
theorem FroL.out {α:Type} {v:AV} {h:Nat→Blk} {n:Nat} {f:α→PV} {len:Nat} {l:List α} (ho:FroL v h n f len l):∃id,v=.ref id 0 len∧h id=.froz false (l.map f)∧id<n:=by
 unfold FroL at ho
 split at ho
 ·rename_i id len';obtain⟨rfl,h1,h2⟩:=ho;exact⟨id,rfl,h1,h2⟩
 ·exact ho.elim
theorem NId.out {v v':AV} {i o l i' o' l':Nat} (h:NId v v') (e:v=.ref i o l) (e':v'=.ref i' o' l'):i≠i':=by
 subst e;subst e';exact h
theorem Fz {α:Type} {h:Nat→Blk} {n id len':Nat} {f:α→PV} {len:Nat} {l:List α}:OwnL (.ref id 0 len') h n f len l=(len'=len∧ZQ (h id) f l∧id<n):=_root_.id rfl
theorem G4 {α:Type} {h:Nat→Blk} {n id len':Nat} {f:α→PV} {len:Nat} {l:List α}:FroL (.ref id 0 len') h n f len l=(len'=len∧ZR (h id) f l∧id<n):=_root_.id rfl
theorem MJ {α:Type} {f:α→PV} {c:List PV} {l:List α}:ZQ (.live false c) f l=(c=l.map f):=by simp[ZQ]
theorem MK {α:Type} {f:α→PV} {c:List PV} {l:List α}:ZR (.froz false c) f l=(c=l.map f):=by simp[ZR]
theorem Lh {i o l i' o' l':Nat}:NId (.ref i o l) (.ref i' o' l')=(i≠i'):=_root_.id rfl
theorem ya {kd:IntKind} {l:List Int}:noRoL (l.map (PV.int kd))=true:=cy (fun _=>rfl) l
theorem FO {l:List (List UInt8)}:noRoL (l.map PV.str)=true:=cy (fun _=>rfl) l
theorem Cs {l:List Bool}:noRoL (l.map PV.bool)=true:=cy (fun _=>rfl) l
theorem Ld {l:List UInt8}:noRoL (l.map jW)=true:=cy (fun _=>rfl) l
theorem FQ {l:List (List Int)}:noRoL (l.map (bt false))=true:=cy (fun _=>Cr) l
theorem FP {l:List (List (List UInt8))}:noRoL (l.map (HW false))=true:=cy (fun _=>La) l
theorem Z5 {F:List (Nat×Nat×Pl)→Prop} {tk:Bool} {ys xs:List PV}:fin tk h k (.p (.sl (.lent false) ys)) (.sl (.lent false) xs) F=(ys=xs∧F []):=_root_.id rfl
theorem UD {F:List (Nat×Nat×Pl)→Prop} {tk:Bool} {ys xs:List PV}:fin tk h k (.p (.sl .own ys)) (.sl (.lent false) xs) F=(xs=[]∧F []):=_root_.id rfl
def OS (b:Blk) (k id off len:Nat) (xs:List PV) (F:List (Nat×Nat×Pl)→Prop):Prop:=
 match b with
 | .froz false c=>off+len≤c.length∧(c.drop off).take len=xs∧F []
 | .live false c=>off+len≤c.length∧(c.drop off).take len=xs∧F [(k,id,.n none)]
 | .deep false cs rs=>off+len≤cs.length∧((cs.drop off).take len).map (DC.fz rs)=xs∧F [(k,id,.n none)]
 |_=>False
theorem UC {F:List (Nat×Nat×Pl)→Prop} {tk:Bool} {id off len:Nat} {xs:List PV}:fin tk h k (.ref id off len) (.sl (.lent false) xs) F=OS (h id) k id off len xs F:=by
 show fin tk h k (.ref id off len) (.sl .fr xs) F=_
 simp only[fin,dt,OS]
 cases h id with
 |live m c=>cases m<;>rfl
 |froz m c=>cases m<;>rfl
 |deep m cs rs=>cases m<;>rfl
 |_=>rfl
theorem G6 {F:List (Nat×Nat×Pl)→Prop} {k id off len:Nat} {c xs:List PV}:OS (.froz false c) k id off len xs F=(off+len≤c.length∧(c.drop off).take len=xs∧F []):=_root_.id rfl
theorem G5 {F:List (Nat×Nat×Pl)→Prop} {k id off len:Nat} {c xs:List PV}:OS (.live false c) k id off len xs F=(off+len≤c.length∧(c.drop off).take len=xs∧F [(k,id,.n none)]):=_root_.id rfl
theorem f_2 {p q:Nat×Nat×Pl}:F0 [p,q]=Dj p q:=by simp[F0]
theorem f_3 {p q r:Nat×Nat×Pl}:F0 [p,q,r]=(Dj p q∧Dj p r∧Dj q r):=by simp[F0,and_assoc]
theorem aag {k k' i j:Nat} {o:Nat} {pl:Pl}:Dj (k,i,.o o) (k',j,pl)=(i≠j):=by simp[Dj,Pl.row]
theorem UX {k k' i j:Nat} {o:Nat} {pl:Pl}:Dj (k,i,pl) (k',j,.o o)=(i≠j):=by simp[Dj,Pl.row]
theorem aai {k k' i j:Nat} {o:Nat} {s:List (Option Nat)} {pl:Pl}:Dj (k,i,.d o s) (k',j,pl)=(i≠j):=by simp[Dj,Pl.row]
theorem U1 {k k' i j:Nat} {o:Nat} {s:List (Option Nat)} {pl:Pl}:Dj (k,i,pl) (k',j,.d o s)=(i≠j):=by simp[Dj,Pl.row]
theorem aah {k k' i j:Nat} {pl:Pl}:Dj (k,i,.n none) (k',j,pl)=(i≠j):=by simp[Dj,Pl.row]
theorem UZ {k k' i j:Nat} {pl:Pl}:Dj (k,i,pl) (k',j,.n none)=(i≠j):=by simp[Dj,Pl.row]
theorem U0 {k k' i j r r':Nat} {o o':Nat}:Dj (k,i,.i r o) (k',j,.i r' o')=(i≠j∨r≠r'):=by simp[Dj,Pl.row]
theorem UY {k k' i j r r':Nat}:Dj (k,i,.n (some r)) (k',j,.n (some r'))=(i≠j∨r≠r'):=by simp[Dj,Pl.row]
def FLx (h:Nat→Blk) (k:Nat) (vs:List AV) (xs:List PV) (F:List (Nat×Nat×Pl)→Prop) (L:List (Nat×Nat×Pl)):Prop:=mQ false h k vs xs (FL L F)
theorem Nr {F:List (Nat×Nat×Pl)→Prop} {vs:List AV} {xs:List PV}:fin false h k (.agg vs) (.agg xs) F=mQ false h (k+1) vs xs F:=_root_.id rfl
theorem HR {F:List (Nat×Nat×Pl)→Prop} {ys xs:List PV}:fin false h k (.p (.agg ys)) (.agg xs) F=mQ false h (k+1) (ys.map .p) xs F:=_root_.id rfl
theorem Nz {F:List (Nat×Nat×Pl)→Prop}:mQ false h k [] [] F=F []:=_root_.id rfl
theorem HT {F:List (Nat×Nat×Pl)→Prop} {v:AV} {vs:List AV} {x:PV} {xs:List PV}:mQ false h k (v::vs) (x::xs) F=dt false h k v x (FLx h (k+1) vs xs F):=_root_.id rfl
theorem Ny {F:List (Nat×Nat×Pl)→Prop} {vs:List AV} {xs:List PV} {L:List (Nat×Nat×Pl)}:FLx h k vs xs F L=mQ false h k vs xs (FL L F):=_root_.id rfl
theorem ND {F:List (Nat×Nat×Pl)→Prop} {v:AV} {kd:IntKind} {n:Int}:dt false h k v (.int kd n) F=(v=.p (.int kd n)∧F []):=_root_.id rfl
theorem HV {F:List (Nat×Nat×Pl)→Prop} {v:AV} {b:Bool}:dt false h k v (.bool b) F=(v=.p (.bool b)∧F []):=_root_.id rfl
theorem NA {F:List (Nat×Nat×Pl)→Prop} {v:AV} {s:List UInt8}:dt false h k v (.str s) F=(v=.p (.str s)∧F []):=_root_.id rfl
theorem UH {F:List (Nat×Nat×Pl)→Prop} {v:AV} {s:List PV}:dt false h k v (.sl (.lent true) s) F=(v=.p (.sl (.lent true) s)∧F []):=_root_.id rfl
theorem NB {F:List (Nat×Nat×Pl)→Prop} {id off len:Nat} {ys:List PV}:dt false h k (.ref id off len) (.sl .own ys) F=OT (h id) k id off len ys F:=by
 simp only[dt,OT];cases h id<;>rfl
theorem HU {F:List (Nat×Nat×Pl)→Prop} {ys zs:List PV}:dt false h k (.p (.sl .own zs)) (.sl .own ys) F=(ys=[]∧F []):=_root_.id rfl
theorem UI {F:List (Nat×Nat×Pl)→Prop} {ys xs:List PV}:dt false h k (.p (.sl (.lent false) ys)) (.sl (.lent false) xs) F=(ys=xs∧F []):=_root_.id rfl
theorem NF {F:List (Nat×Nat×Pl)→Prop} {ys xs:List PV}:dt false h k (.p (.sl .own ys)) (.sl (.lent false) xs) F=(xs=[]∧F []):=_root_.id rfl
theorem NE {F:List (Nat×Nat×Pl)→Prop} {id off len:Nat} {xs:List PV}:dt false h k (.ref id off len) (.sl (.lent false) xs) F=OS (h id) k id off len xs F:=by
 show dt false h k (.ref id off len) (.sl .fr xs) F=_
 simp only[dt,OS]
 cases h id with
 |live m c=>cases m<;>rfl
 |froz m c=>cases m<;>rfl
 |deep m cs rs=>cases m<;>rfl
 |_=>rfl
theorem Mv {n:Nat}:imps n []=[]:=_root_.id rfl
theorem GG {n:Nat} {x:PV} {xs:List PV}:imps n (x::xs)=imp n x::imps (n+16) xs:=_root_.id rfl
theorem MD {n:Nat}:impL n []=[]:=_root_.id rfl
theorem GR {n:Nat} {x:PV} {xs:List PV}:impL n (x::xs)=imp1 n x::impL (n+1) xs:=_root_.id rfl
theorem MC {n:Nat} {m:Bool}:impWL m n []=[]:=_root_.id rfl
theorem GQ {n:Nat} {m:Bool} {x:PV} {xs:List PV}:impWL m n (x::xs)=impW1 m n x++impWL m (n+1) xs:=_root_.id rfl
end
attribute [go_sem ↓] EC y6 EG EI Pv Pu W5 W4 Jt EB EJ PC EE ud
attribute [go_sem] Sz Sx LI LH wC uR wB zI wA uQ wz zH JK DM NJ
attribute [go_sem] Rf YO Rh Rg J6 Iv Iu Vg On J1 J3 J2 J4 A8 JX EV JU ER JW JV Bu Bn Bp Bv Bq za y9 Ft
attribute [go_sem] Kp Fp Fq YW YX SO Gf VL IF K7 Cp NI Uj ZZ Z2 Td Uv Uu Nq Vk Vj M1 Hi Hh Tc KY FE KT RM KU
attribute [go_sem] N2 Ii NZ aal aam N0 U4 xq N1 U5 LU LT TU TV YV RA KE KC KN Kt YZ Kr Ks PL Ru Fr Fs Lk RY RZ Ll
attribute [go_sem] LB Gc Ss LD Sr Su FI o4 Oh Iq Of U9 Ok Ir Li F3 Lm F4 Z5 UD UC G6 G5 Gg zU f_2 f_3 Nr HR Nz HT Ny ND HV NA UH NB HU UI NF NE Mv GG MD GR MC GQ
attribute [go_sem] Option.map_some Option.map_none List.set_cons_zero List.set_cons_succ Option.isNone_none List.all_cons List.all_nil List.append_assoc Nat.sub_zero List.drop_zero Int.toNat_zero Il AB D5
attribute [go_sem] MM GZ TG GY TL
attribute [go_sem] aag UX aai U1 aah UZ U0 UY
attribute [go_sem] G9 Ha Hb Fz G4 MJ MK Lh
attribute [go_sem high] aaC
end Go.Gl
namespace Go.Gl
open Go
variable [Amb]
theorem FW {kd:IntKind} {n:Int}:noRo (.int kd n)=true:=_root_.id rfl
theorem Cv {b:Bool}:noRo (.bool b)=true:=_root_.id rfl
theorem FU {s:List UInt8}:noRo (.str s)=true:=_root_.id rfl
theorem FV {xs:List PV}:noRo (.sl .own xs)=noRoL xs:=_root_.id rfl
theorem uJ {xs:List PV}:noRo (.sl (.lent false) xs)=noRoL xs:=_root_.id rfl
theorem FX {xs:List PV}:noRo (.agg xs)=noRoL xs:=_root_.id rfl
class Imp1 (k:Nat) (x:PV) (v:outParam AV) (ws:outParam (List (Nat×Blk))):Prop where
 h:imp1 k x=v∧impW1 false k x=ws
instance {k:Nat} {kd:IntKind} {n:Int}:Imp1 k (.int kd n) (.p (.int kd n)) []:=⟨rfl,rfl⟩
instance {k:Nat} {b:Bool}:Imp1 k (.bool b) (.p (.bool b)) []:=⟨rfl,rfl⟩
instance {k:Nat} {s:List UInt8}:Imp1 k (.str s) (.p (.str s)) []:=⟨rfl,rfl⟩
instance {m:Bool} {k:Nat} {s:List PV}:Imp1 k (.sl (.lent m) s) (.p (.sl (.lent m) s)) []:=⟨by cases m<;>rfl,by cases m<;>rfl⟩
instance {α:Type} {k:Nat} {f:α→PV} {s:List α}:Imp1 k (.sl .own (s.map f)) (.ref k 0 s.length) [(k,.live false (s.map f))]:=⟨by simp[imp1],rfl⟩
instance {k:Nat} {f:FuncId} {a b:List PV}:Imp1 k (.fn f a b) (.p (.fn f a b)) []:=⟨rfl,rfl⟩
class ImpLs (k:Nat) (xs:List PV) (vs:outParam (List AV)) (ws:outParam (List (Nat×Blk))):Prop where
 h:impL k xs=vs∧impWL false k xs=ws
instance {k:Nat}:ImpLs k [] [] []:=⟨rfl,rfl⟩
instance {k:Nat} {x:PV} {v:AV} {xs:List PV} {vs:List AV} {ws:List (Nat×Blk)} [a:Imp1 k x v []] [b:ImpLs (k+1) xs vs ws]:ImpLs k (x::xs) (v::vs) ws:=
 ⟨by rw[impL,a.h.1,b.h.1],by rw[impWL,a.h.2,b.h.2];rfl⟩
instance {k:Nat} {x:PV} {v:AV} {w:Nat×Blk} {xs:List PV} {vs:List AV} {ws:List (Nat×Blk)} [a:Imp1 k x v [w]] [b:ImpLs (k+1) xs vs ws]:ImpLs k (x::xs) (v::vs) (w::ws):=
 ⟨by rw[impL,a.h.1,b.h.1],by rw[impWL,a.h.2,b.h.2];rfl⟩
class ImpO (k:Nat) (x:PV) (v:outParam AV) (ws:outParam (List (Nat×Blk))):Prop where
 h:imp k x=v∧impW false k x=ws
instance {k:Nat} {kd:IntKind} {n:Int}:ImpO k (.int kd n) (.p (.int kd n)) []:=⟨rfl,rfl⟩
instance {k:Nat} {b:Bool}:ImpO k (.bool b) (.p (.bool b)) []:=⟨rfl,rfl⟩
instance {k:Nat} {s:List UInt8}:ImpO k (.str s) (.p (.str s)) []:=⟨rfl,rfl⟩
instance {m:Bool} {k:Nat} {s:List PV}:ImpO k (.sl (.lent m) s) (.p (.sl (.lent m) s)) []:=⟨by cases m<;>rfl,by cases m<;>rfl⟩
instance {α:Type} {k:Nat} {f:α→PV} {s:List α}:ImpO k (.sl .own (s.map f)) (.ref k 0 s.length) [(k,.live false (s.map f))]:=⟨by simp[imp,imp1],rfl⟩
instance {k:Nat} {f:FuncId} {a b:List PV}:ImpO k (.fn f a b) (.p (.fn f a b)) []:=⟨rfl,rfl⟩
instance {k:Nat} {xs:List PV} {vs:List AV} {ws:List (Nat×Blk)} [a:ImpLs (k+1) xs vs ws]:ImpO k (.agg xs) (.agg vs) ws:=⟨by rw[imp,a.h.1],by rw[impW,a.h.2]⟩
class ImpS (k:Nat) (xs:List PV) (vs:outParam (List AV)) (ws:outParam (List (Nat×Blk))):Prop where
 h:imps k xs=vs∧impWs false k xs=ws
instance {k:Nat}:ImpS k [] [] []:=⟨rfl,rfl⟩
instance {k:Nat} {x:PV} {v:AV} {xs:List PV} {vs:List AV} {ws:List (Nat×Blk)} [a:ImpO k x v []] [b:ImpS (k+16) xs vs ws]:ImpS k (x::xs) (v::vs) ws:=
 ⟨by rw[imps,a.h.1,b.h.1],by rw[impWs,a.h.2,b.h.2];rfl⟩
instance {k:Nat} {x:PV} {v:AV} {w:Nat×Blk} {xs:List PV} {vs:List AV} {ws:List (Nat×Blk)} [a:ImpO k x v [w]] [b:ImpS (k+16) xs vs ws]:ImpS k (x::xs) (v::vs) (w::ws):=
 ⟨by rw[imps,a.h.1,b.h.1],by rw[impWs,a.h.2,b.h.2];rfl⟩
instance {k:Nat} {x:PV} {v:AV} {w w2:Nat×Blk} {xs:List PV} {vs:List AV} {ws:List (Nat×Blk)} [a:ImpO k x v [w,w2]] [b:ImpS (k+16) xs vs ws]:ImpS k (x::xs) (v::vs) (w::w2::ws):=
 ⟨by rw[imps,a.h.1,b.h.1],by rw[impWs,a.h.2,b.h.2];rfl⟩
instance {k:Nat} {x:PV} {v:AV} {w w2 w3:Nat×Blk} {xs:List PV} {vs:List AV} {ws:List (Nat×Blk)} [a:ImpO k x v [w,w2,w3]] [b:ImpS (k+16) xs vs ws]:ImpS k (x::xs) (v::vs) (w::w2::w3::ws):=
 ⟨by rw[imps,a.h.1,b.h.1],by rw[impWs,a.h.2,b.h.2];rfl⟩
class ImpA (k:Nat) (xs:List PV) (v:outParam AV) (ws:outParam (List (Nat×Blk))):Prop where
 h:impAll k xs=v∧impWs false k xs=ws
instance {k:Nat}:ImpA k [] (.tup []) []:=⟨rfl,rfl⟩
instance {k:Nat} {x:PV} {v:AV} {ws:List (Nat×Blk)} [a:ImpO k x v ws]:ImpA k [x] v ws:=⟨by rw[impAll,a.h.1],by rw[impWs,a.h.2,impWs,List.append_nil]⟩
instance {k:Nat} {x y:PV} {xs:List PV} {vs:List AV} {ws:List (Nat×Blk)} [a:ImpS k (x::y::xs) vs ws]:ImpA k (x::y::xs) (.tup vs) ws:=⟨by rw[impAll,a.h.1];intro z h;simp at h,a.h.2⟩
section
variable {S:St} {P:Program} {h:Nat→Blk} {C:R→Prop}
theorem au {k:Nat} {f:FuncId} {xs res:List PV} {rd:List Nat} {v:AV} {ws:List (Nat×Blk)} (hf:Fun P f xs res) [a:ImpA k res v ws] (hc:C ⟨v,ws,rd⟩):PkX P h k f C xs rd:=
 JG hf (by rw[a.h.1,a.h.2];exact hc)
theorem aJ {k:Nat} {p:Bool} {f:FuncId} {c c':List PV} {as:List Arg} {os:List (Option (List PV))} {res:List PV} {rd:List Nat} {ms:List (Option (Nat×Option Nat))} {id:Nat} {v:AV} {ws:List (Nat×Blk)}
  (hf:CallT P false f (.mu p c::as) (some c'::os) res) [a:ImpA k res v ws] (hn:(ms.all Option.isNone)=true) (hid:id∉rd)
  (hc:C ⟨v,(id,ed none (some (some c')) (h id))::ws,id::rd⟩):Pk P h k f C (.mu p c::as) rd (some (id,none)::ms):=by
 refine kL hf hn hid ?_
 rw[Bool.false_and,a.h.1,a.h.2,List.getElem?_cons_zero]
 exact hc
theorem Wc {k:Nat} {p:Bool} {f:FuncId} {c:List PV} {as:List Arg} {os:List (Option (List PV))} {res:List PV} {rd:List Nat} {ms:List (Option (Nat×Option Nat))} {id:Nat} {v:AV} {ws:List (Nat×Blk)}
  (hf:CallT P false f (.mu p c::as) (none::os) res) [a:ImpA k res v ws] (hn:(ms.all Option.isNone)=true) (hid:id∉rd)
  (hc:C ⟨v,(id,.dead)::ws,id::rd⟩):Pk P h k f C (.mu p c::as) rd (some (id,none)::ms):=by
 refine kL hf hn hid ?_
 rw[Bool.false_and,a.h.1,a.h.2,List.getElem?_cons_zero]
 exact hc
theorem Kj {caps:List PV} {F:List PV→List Nat→Prop}:o0 h (List.map AV.p caps) F=F (caps.map PV.cell) []:=by
 induction caps generalizing F with
 |nil=>rfl
 |cons c caps ih=>simp only[List.map_cons,q_p,ih,Rs,List.nil_append]
theorem VO {p:Bool} {c:List PV} {as:List Arg}:cm (.mu p c::as) 0=tA true c:=_root_.id rfl
theorem VN {x:PV} {as:List Arg}:cm (.pv x::as) 0=.dead:=_root_.id rfl
theorem aaG {a:Arg} {as:List Arg} {j:Nat}:cm (a::as) (j+1)=cm as j:=by simp[cm]
theorem JC {tk:Bool} {c c':List PV} {as:List Arg} {ts:List Nat} {xs:List PV} {ex:Ex} {p:Bool} {os:List (Option (List PV))} (hx:ex=.ret∨ex=.normal)
  (ho:(os.all Option.isNone)=true) (hl:S.h 0=tA true c') (hf:cW tk S.h (as.length+1) (ts.map S.e) xs F1):
  rM tk (.mu p c::as) (some c'::os) ts xs ex S:=JD hx ho hl hf
theorem ZG {c c':List PV} (h:c=c'):Blk.live true c=Blk.live true c':=by rw[h]
end
attribute [go_sem] Kj JL NN Fe VO VN aaG NC Z9
end Go.Gl
namespace Go.Gl
open Go Go.RowKit Go.ChangeShapes
section
variable {H:Type} {enc:TypeId×Value→H} {P:Program} {w:World} {base:Nat} {sp:Nat→Bool} {held:Bool} {G:Nat→Prop}
theorem Ik {a:Addr} {c:List Value} (h:w.cells? base a 1=some c):∃v,c=[v]∧w.cell? a=some v:=by
 have e0:a.add 0=a:=by simp[Addr.add]
 unfold World.cells? at h
 split at h
 ·simp only[List.range_succ,List.range_zero,List.nil_append,List.mapM_cons,List.mapM_nil,e0]at h
  cases hcc:w.cell? a with
  |none=>simp[hcc]at h
  |some c=>simp[hcc]at h;exact⟨c,h.symm,rfl⟩
 ·cases h
theorem zC {t e:TypeId} {fuel:Nat} {cs:List Value} {x:DataW H×List MemPlace} {α:Type} (f:α→PV) (ht:P.underlying t=some (.slice e)) (hc:P.cellsOf e=1)
  (hel:∀n v y,DataW.trod enc P w base sp held n e [v]=some y→∃a:α,v.oneCell'=true∧RepP w (fun _=>False) G (f a) v)
  (h:DataW.trod enc P w base sp held fuel t cs=some x):∃(v:Value) (L:List α),cs=[v]∧RepP w (fun _=>False) G (.sl .ro (L.map f)) v:=by
 rcases DataW.trod_slice ht h with⟨rfl,_⟩|⟨a,len,cap,elems,rest,n,_,rfl,rfl,hb,hl,hm,hlen,hes,_,_⟩
 ·refine⟨_,[],rfl, ?_⟩
  simp only[List.map_nil,RepP]
  exact⟨none,0,rfl,Nat.le_refl _,Nat.zero_le _,(by intro h;cases h),Or.inl trivial⟩
 ·have key:∀i,i<len→∃v,w.cell? (a.add i)=some v∧∃a:α,v.oneCell'=true∧RepP w (fun _=>False) G (f a) v:=by
   intro i hi
   have hE:=hes i hi
   rw[hc,Nat.mul_one,List.getElem?_eq_getElem (by omega)]at hE
   simp only[Option.bind_eq_some_iff]at hE
   obtain⟨c1,hc1,hy1⟩:=hE
   obtain⟨v,rfl,hv⟩:=Ik hc1
   exact⟨v,hv,hel _ _ _ hy1⟩
  have key2:∃L:List α,L.length=len∧∀i (hi:i<L.length),∃v,w.cell? (a.add i)=some v∧v.oneCell'=true∧RepP w (fun _=>False) G (f L[i]) v:=by
   have:∀m,m≤len→∃L:List α,L.length=m∧∀i (hi:i<L.length),∃v,w.cell? (a.add i)=some v∧v.oneCell'=true∧RepP w (fun _=>False) G (f L[i]) v:=by
    intro m
    induction m with
    |zero=>intro _;exact⟨[],rfl,fun i hi=>by simp at hi⟩
    |succ m ih=>
     intro hle
     obtain⟨L,hL,hL2⟩:=ih (by omega)
     obtain⟨v,hv,b,h1,h2⟩:=key m (by omega)
     refine⟨L++[b],by simp[hL],fun i hi=> ?_⟩
     by_cases him:i<L.length
     ·obtain⟨v',q1,q2,q3⟩:=hL2 i him
      exact⟨v',q1,q2,by rw[List.getElem_append_left him];exact q3⟩
     ·have:i=m:=by simp at hi;omega
      subst this
      refine⟨v,hv,h1, ?_⟩
      rw[List.getElem_append_right (by omega)]
      simpa[hL]using h2
   exact this len (Nat.le_refl _)
  obtain⟨L,hL,hL2⟩:=key2
  refine⟨_,L,rfl, ?_⟩
  simp only[RepP,List.length_map]
  refine⟨some a,cap,by rw[hL],by omega,hm,(by intro h;cases h), ?_⟩
  by_cases h0:len=0
  ·left;have:L=[]:=List.eq_nil_of_length_eq_zero (by omega)
   subst this;rfl
  ·right
   obtain⟨B,off,spot⟩:=a
   obtain⟨v,hv,_,_⟩:=hL2 0 (by omega)
   have hs:spot=none:=by simpa[Addr.add]using World.cell?_spot hv
   subst hs
   refine⟨B,off,rfl,id,(by intro h;cases h), ?_⟩
   have main:∀(M:List α) (o:Nat),(∀i (hi:i<M.length),∃v,w.cell? ⟨B,o+i,none⟩=some v∧v.oneCell'=true∧RepP w (fun _=>False) G (f M[i]) v)→RepC w (fun _=>False) G B o (M.map f):=by
    intro M
    induction M with
    |nil=>intro o _;simp only[List.map_nil,RepC]
    |cons y M ih=>
     intro o hy
     simp only[List.map_cons,RepC]
     refine⟨by have:=hy 0 (by simp);rw[List.getElem_cons_zero]at this;simpa using this,ih (o+1) fun i hi=> ?_⟩
     have:=hy (i+1) (by simpa using hi)
     rw[show o+1+i=o+(i+1)by omega]
     simpa using this
   refine main L off fun i hi=> ?_
   have:=hL2 i hi
   by_cases hi0:i=0
   ·subst hi0;simpa[Addr.add]using this
   ·simpa[Addr.add,hi0]using this
theorem qn {t e:TypeId} {k:IntKind} {fuel:Nat} {v:Value} {x:DataW H×List MemPlace} (ht:P.underlying t=some (.slice e)) (he:P.underlying e=some (.int k)) (hc:P.cellsOf e=1)
  (h:DataW.trod enc P w base (fun _=>true) held fuel t [v]=some x):∃zs:List Int,v.oneCell'=true∧RepP w (fun _=>False) G (Db k zs) v:=by
 rcases open_ints ht he hc h with⟨hcs,_⟩|⟨a,l,c,zs,hcs,_,hl,hm,hz,_,hcell,hwz⟩
 ·simp only[List.cons.injEq,and_true]at hcs
  subst hcs
  exact⟨[],rfl,(IsRow.rep (zs:=[]) (.inl ⟨rfl,rfl,rfl,rfl⟩):RepP w _ G (Db k _) _)⟩
 ·simp only[List.cons.injEq,and_true]at hcs
  subst hcs
  exact⟨zs.take l,rfl,IsRow.rep (.inr ⟨_,rfl,hl,hm,by simpa using hz,hcell,hwz⟩)⟩
theorem wy {t e i:TypeId} {fuel:Nat} {cs:List Value} {x:DataW H×List MemPlace} (ht:P.underlying t=some (.slice e)) (hc:P.cellsOf e=1)
  (he:P.underlying e=some (.slice i)) (hi:P.underlying i=some (.int .i64)) (hci:P.cellsOf i=1)
  (h:DataW.trod enc P w base (fun _=>true) held fuel t cs=some x):∃(v:Value) (L:List (List Int)),cs=[v]∧RepP w (fun _=>False) G (.sl .ro (L.map (bt true))) v:=
 zC (bt true) ht hc (fun n v y hy=>by
  obtain⟨zs,h1,h2⟩:=qn (G:=G) he hi hci hy
  exact⟨zs,h1,h2⟩) h
theorem rT {G:Nat→Prop} {B:Nat}:∀{L:List (List Int)} {off:Nat},RepC w (fun _=>False) G B off (L.map (bt true))→∀l∈L,l.length≤9223372036854775807
 |[],_,_=>by simp
 |x::L,off,h=>by
  have hm:maxLen=9223372036854775807:=rfl
  simp only[List.map_cons,RepC]at h
  obtain⟨⟨v',_,_,h4⟩,h5⟩:=h
  intro l hl
  rcases List.mem_cons.1 hl with rfl|hl
  ·simp only[bt,RepP,List.length_map]at h4
   obtain⟨_,_,_,q1,q2,_⟩:=h4
   omega
  ·exact rT h5 l hl
theorem B4 {G:Nat→Prop} {L:List (List Int)} {v:Value} (h:RepP w (fun _=>False) G (.sl .ro (L.map (bt true))) v):L.length≤9223372036854775807∧∀l∈L,l.length≤9223372036854775807:=by
 simp only[RepP,List.length_map]at h
 obtain⟨a,cap,_,h1,h2,_,h3⟩:=h
 have hm:maxLen=9223372036854775807:=rfl
 refine⟨by omega, ?_⟩
 rcases h3 with h3|⟨B,off,_,_,_,h3⟩
 ·intro l hl
  have:L=[]:=List.map_eq_nil_iff.1 h3
  subst this;simp at hl
 ·exact rT h3
end
end Go.Gl
namespace Go.Gl
open Go
variable [Amb]
section
variable {P:Program} {sg:FuncId→List Bool} {h:Nat→Blk} {k:Nat} {C:R→Prop} {A:AV→Prop}
def S8 (b:Blk) (id off n:Nat) (C:R→Prop):Prop:=
 match b with
 | .live _ c=>off+n≤c.length∧C ⟨.p (.agg ((c.drop off).take n)),[],[id]⟩
 | .froz _ c=>off+n≤c.length∧C ⟨.p (.agg ((c.drop off).take n)),[],[id]⟩
 | .deep _ cs rs=>off+n≤cs.length∧C ⟨.agg (((cs.drop off).take n).map (DC.av id rs)),[],[id]⟩
 |_=>False
theorem Gv {n id off:Nat}:Eu (some (n,true)) h (.ptr id off) C=S8 (h id) id off n C:=by
 simp only[Eu,S8]<;>cases h id<;>rfl
theorem CX {m:Bool} {c:List PV} {id off n:Nat}:S8 (.live m c) id off n C=(off+n≤c.length∧C ⟨.p (.agg ((c.drop off).take n)),[],[id]⟩):=_root_.id rfl
theorem CY {m:Bool} {c:List PV} {id off n:Nat}:S8 (.froz m c) id off n C=(off+n≤c.length∧C ⟨.p (.agg ((c.drop off).take n)),[],[id]⟩):=_root_.id rfl
def BX (k:Nat) (C:R→Prop) (xs:List PV) (ws:List (Nat×Blk)) (rd:List Nat):Prop:=xs≠[]∧xs.length≤1000000∧C ⟨.ptr k 0,ws++[(k,.live false xs)],rd⟩
theorem Vf {v:AV}:Ea h k v C=bU h v (BX k C):=_root_.id rfl
theorem Ve {xs:List PV} {ws:List (Nat×Blk)} {rd:List Nat}:BX k C xs ws rd=(xs≠[]∧xs.length≤1000000∧C ⟨.ptr k 0,ws++[(k,.live false xs)],rd⟩):=_root_.id rfl
variable {K:List PV→List (Nat×Blk)→List Nat→Prop}
theorem NX {xs:List PV}:bU h (.p (.agg xs)) K=(xs.all (fun x=>x.cell.cellOk)=true∧K (xs.map PV.cell) [] []):=_root_.id rfl
theorem Ic {vs:List AV}:bU h (.agg vs) K=jU h vs K:=_root_.id rfl
theorem NW {kd:IntKind} {n:Int}:bU h (.p (.int kd n)) K=K [.int kd n] [] []:=by simp[bU,lT,PV.cell,PV.cellOk]
theorem Ib {b:Bool}:bU h (.p (.bool b)) K=K [.bool b] [] []:=by simp[bU,lT,PV.cell,PV.cellOk]
theorem NT {s:List UInt8}:bU h (.p (.str s)) K=K [.str s] [] []:=by simp[bU,lT,PV.cell,PV.cellOk]
theorem Ia {m:Bool} {s:List PV}:bU h (.p (.sl (.lent m) s)) K=K [.sl (.lent m) s] [] []:=by cases m<;>simp[bU,lT,PV.cell,PV.cellOk,Fl.lent]
theorem NV {s:List PV}:bU h (.p (.sl .own s)) K=K [.sl (.lent false) []] [] []:=by simp[bU,lT,PV.cell,PV.cellOk,Fl.lent]
def CW1 (K:List PV→List (Nat×Blk)→List Nat→Prop) (x:PV) (ws:List (Nat×Blk)) (rd:List Nat):Prop:=K [x] ws rd
theorem NU {id off len:Nat}:bU h (.ref id off len) K=IR (h id) id off len (CW1 K):=by
 simp only[bU,lT,IR,CW1];cases h id<;>rfl
theorem NY {x:PV} {ws:List (Nat×Blk)} {rd:List Nat}:CW1 K x ws rd=K [x] ws rd:=_root_.id rfl
def ST (h:Nat→Blk) (n id off:Nat) (m:Bool) (c:List PV) (C:R→Prop) (xs:List PV) (ws:List (Nat×Blk)) (rd:List Nat):Prop:=
 xs.length=n∧off+n≤c.length∧id∉rd∧C ⟨.p .any,ws++[(id,.live m (c.take off++xs++c.drop (off+n)))],id::rd⟩
def STD (m:Bool) (n id off:Nat) (cs:List DC) (C:R→Prop) (xs:List DC) (rs:List (Option (List PV))) (ws:List (Nat×Blk)) (rd:List Nat):Prop:=
 xs.length=n∧off+n≤cs.length∧C ⟨.p .any,ws++[(id,.deep m (cs.take off++xs++cs.drop (off+n)) rs)],id::rd⟩
def Wf (b:Blk) (h:Nat→Blk) (n id off:Nat) (v:AV) (C:R→Prop):Prop:=
 match b with
 | .live m c=>bU h v (ST h n id off m c C)
 | .deep m cs rs=>ic h m id (fe v) rs (STD m n id off cs C)
 |_=>False
theorem JY {n id off:Nat} {v:AV}:v7 (some (n,true)) h (.ptr id off) v C=Wf (h id) h n id off v C:=by
 simp only[v7,Wf];rfl
theorem Br {n id off:Nat} {m:Bool} {c:List PV} {v:AV}:Wf (.live m c) h n id off v C=bU h v (ST h n id off m c C):=_root_.id rfl
theorem Q0 {n id off:Nat} {m:Bool} {c xs:List PV} {ws:List (Nat×Blk)} {rd:List Nat}:ST h n id off m c C xs ws rd=(xs.length=n∧off+n≤c.length∧id∉rd∧C ⟨.p .any,ws++[(id,.live m (c.take off++xs++c.drop (off+n)))],id::rd⟩):=_root_.id rfl
theorem abf {xs:List PV} {vs:List AV} {F:List PV→List Nat→Prop}:o0 h (.p (.pc xs)::vs) F=o0 h vs (UA F (.pc xs) []):=_root_.id rfl
end
attribute [go_sem] Gv CX CY Vf Ve NX Ic NW Ib NT Ia NV NU NY JY Br Q0 List.not_mem_nil List.mem_cons or_false List.all_cons List.all_nil List.take_succ_cons List.drop_succ_cons List.take_zero
end Go.Gl
namespace Go.Gl
open Go
variable [Amb]
section
variable {P:Program} {sg:FuncId→List Bool} {h:Nat→Blk} {k:Nat} {ρ:Operand→AV} {C:R→Prop} {S:St} {x y:Operand} {t t':TypeId} {kd kd':IntKind} {m n:Int} {V:PV→Prop}
theorem Pi {op:Op} (hs:fJ sg=true) (hx:iB op=true):jc P sg ρ h k op C=Cl P ρ h op C:=by simp[jc,hs,hx]
theorem Ph {op:Op} (hs:fJ sg=true) (hn:ga sg=false) (h3:f9 sg=false) (h4:f8 sg=false) (h5:gb sg=false) (hx:iB op=false):jc P sg ρ h k op C=fY P sg ρ h k op C:=by simp[jc,hx,hn,h3,h4,h5,C8]
theorem Pg {b:BinOp}:Cl P ρ h (.binOp b t x y t') C=k9 b (ρ x) (ρ y) (KV C):=_root_.id rfl
theorem Jq:k9 .add (.p (.int kd m)) (.p (.int kd' n)) V=(kd=kd'∧V (.int kd (kd.wrap (m+n)))):=_root_.id rfl
theorem Jn:k9 .sub (.p (.int kd m)) (.p (.int kd' n)) V=(kd=kd'∧V (.int kd (kd.wrap (m - n)))):=_root_.id rfl
theorem Jo:k9 .mul (.p (.int kd m)) (.p (.int kd' n)) V=(kd=kd'∧V (.int kd (kd.wrap (m*n)))):=_root_.id rfl
def SLx (c id off:Nat) (C:R→Prop) (h l:Int):Prop:=0≤l∧l≤h∧off+h.toNat≤c∧C ⟨.ref id (off+l.toNat) (h.toNat - l.toNat),[],[id]⟩
def SLy (len id:Nat) (C:R→Prop) (m h l:Int):Prop:=0≤l∧l≤h∧h≤m∧m≤len∧C ⟨.p .any,[],[id]⟩
def QY (b:Blk) (s:Bool) (id off len:Nat) (lo hi mx:Option AV) (C:R→Prop):Prop:=
 match b with
 | .live _ c=>s=true∧off+len≤c.length∧(match mx with
  |none=>vS hi len (BL lo (SLx c.length id off C))
  |some _=>hi≠none∧vS mx 0 (Wb hi lo (SLy len id C)))
 |_=>False
theorem Ez {lo hi mx:Option Operand}:Cl P ρ h (.slice t x lo hi mx) C=ia P t (ρ x) lo hi mx h ρ C:=_root_.id rfl
theorem JO {id off len:Nat} {lo hi mx:Option Operand}:ia P t (.ref id off len) lo hi mx h ρ C=QY (h id) (fh P t).isSome id off len (lo.map ρ) (hi.map ρ) (mx.map ρ) C:=by
 simp only[ia,QY,nS]
 cases h id with
 |live m c=>
  cases mx with
  |none=>rfl
  |some o=>
   simp only[Option.map_some]
   have:(hi≠none)=(Option.map ρ hi≠none):=by cases hi<;>simp
   rw[this];rfl
 |froz m c=>rfl
 |deep m cs rs=>rfl
 |_=>rfl
theorem EP {mm:Bool} {c:List PV} {s:Bool} {id off len:Nat} {lo hi:Option AV}:QY (.live mm c) s id off len lo hi none C=(s=true∧off+len≤c.length∧vS hi len (BL lo (SLx c.length id off C))):=_root_.id rfl
theorem Bl {mm:Bool} {c:List PV} {s:Bool} {id off len:Nat} {lo:Option AV} {hi mx:AV}:QY (.live mm c) s id off len lo (some hi) (some mx) C=(s=true∧off+len≤c.length∧vS (some mx) 0 (Wb (some hi) lo (SLy len id C))):=by
 simp[QY]
theorem J0 {c id off:Nat} {i j:Int}:SLx c id off C i j=(0≤j∧j≤i∧off+i.toNat≤c∧C ⟨.ref id (off+j.toNat) (i.toNat - j.toNat),[],[id]⟩):=_root_.id rfl
theorem JZ {len id:Nat} {l i j:Int}:SLy len id C l i j=(0≤j∧j≤i∧i≤l∧l≤len∧C ⟨.p .any,[],[id]⟩):=_root_.id rfl
def U7 (s:Option (Nat×PV)) (b:Blk) (id off len:Nat) (C:R→Prop):Prop:=
 match s,b with
 |some (_,z),.live m c=>off+len≤c.length∧z.cellOk=true∧C ⟨.p .any,[(id,.live m (c.take off++List.replicate len z++c.drop (off+len)))],[id]⟩
 |some (_,z),.deep m cs rs=>z=.sl .fr []∧off+len≤cs.length∧C ⟨.p .any,[(id,.deep m (cs.take off++List.replicate len (.v (.sl .own []))++cs.drop (off+len)) rs)],[id]⟩
 |_,_=>False
theorem EA:Cl P ρ h (.call {callee:=.builtin .clear,args:=⟨[x]⟩,argTypes:=⟨[t]⟩}) C=gu P t h (ρ x) C:=_root_.id rfl
theorem Py:fY P sg ρ h k (.call {callee:=.builtin .cap,args:=⟨[x]⟩,argTypes:=⟨[t]⟩}) C=xu P t (ρ x) (KW C):=_root_.id rfl
theorem Ip {A:AV→Prop}:xu P t (.p (.sl .own [])) A=((fh P t).isSome=true∧A (.p (.int .i64 0))):=_root_.id rfl
theorem EH:fY P sg ρ h k (.call {callee:=.builtin .clear,args:=⟨[x]⟩,argTypes:=⟨[t]⟩}) C=gu P t h (ρ x) C:=_root_.id rfl
theorem Oe {id off len:Nat}:gu P t h (.ref id off len) C=U7 (fh P t) (h id) id off len C:=by
 simp only[gu,U7]
 cases fh P t with
 |none=>rfl
 |some p=>cases h id<;>rfl
theorem Ig {q:Nat} {z:PV} {mm:Bool} {c:List PV} {id off len:Nat}:U7 (some (q,z)) (.live mm c) id off len C=(off+len≤c.length∧z.cellOk=true∧C ⟨.p .any,[(id,.live mm (c.take off++List.replicate len z++c.drop (off+len)))],[id]⟩):=_root_.id rfl
theorem C1 {lo hi mx:Option Operand}:iB (.slice t x lo hi mx)=true:=_root_.id rfl
theorem Mu:iB (.binOp .add t x y t')=true:=_root_.id rfl
theorem Md:iB (.binOp .sub t x y t')=true:=_root_.id rfl
theorem Mj:iB (.binOp .mul t x y t')=true:=_root_.id rfl
theorem Jp:k9 .and (.p (.int kd m)) (.p (.int kd' n)) V=(kd=kd'∧V (.int kd (rh kd m n))):=_root_.id rfl
theorem Jm:k9 .xor (.p (.int kd m)) (.p (.int kd' n)) V=(kd=kd'∧V (.int kd (yT kd m n))):=_root_.id rfl
theorem Mt:iB (.binOp .and t x y t')=true:=_root_.id rfl
theorem Mc:iB (.binOp .xor t x y t')=true:=_root_.id rfl
theorem Me:iB (.binOp .shr t x y t')=false:=_root_.id rfl
theorem Ms:iB (.box t x)=false:=_root_.id rfl
theorem C5:iB (.alloc t)=false:=_root_.id rfl
theorem Tj {i:Nat}:iB (.fieldAddr t x i)=false:=_root_.id rfl
theorem Ti {i:Nat}:iB (.field t x i)=false:=_root_.id rfl
theorem C4 {ps:Array (Nat×Operand)}:iB (.build t ps)=false:=_root_.id rfl
theorem Tf:iB (.nilCheck x)=false:=_root_.id rfl
theorem Tg {g:Fn} {a b:Array Operand}:iB (.makeFunc g a b)=false:=_root_.id rfl
theorem C3:iB (.call {callee:=.builtin .clear,args:=⟨[x]⟩,argTypes:=⟨[t]⟩})=true:=_root_.id rfl
theorem Mr:iB (.binOp .eql t x y t')=false:=_root_.id rfl
theorem Mh:iB (.binOp .neq t x y t')=false:=_root_.id rfl
theorem Ml:iB (.binOp .lss t x y t')=false:=_root_.id rfl
theorem Mm:iB (.binOp .leq t x y t')=false:=_root_.id rfl
theorem Mp:iB (.binOp .gtr t x y t')=false:=_root_.id rfl
theorem Mq:iB (.binOp .geq t x y t')=false:=_root_.id rfl
theorem Mg:iB (.binOp .quo t x y t')=false:=_root_.id rfl
theorem Mf:iB (.binOp .rem t x y t')=false:=_root_.id rfl
theorem Te {b:UnOp}:iB (.unOp b t x)=false:=_root_.id rfl
theorem Gy:iB (.move x)=wa x:=_root_.id rfl
theorem W1:Cl P ρ h (.move x) C=FY (ρ x) C:=_root_.id rfl
theorem W2:Cl P ρ h (.assign x) C=FY (ρ x) C:=_root_.id rfl
theorem Lg {xs:List PV}:FY (.p (.sl .own xs)) C=C ⟨.p .nl,[],[]⟩:=_root_.id rfl
theorem zX:iB (.assign x)=wa x:=_root_.id rfl
theorem Gx {z:Operand}:iB (.pick x y z)=false:=_root_.id rfl
theorem GC:iB (.convert t t' x)=false:=_root_.id rfl
theorem Gz:iB (.makeSlice t x y)=false:=_root_.id rfl
theorem Tk {n:Nat} {ps:Array (Nat×Operand)}:iB (.buildSlice t n ps)=false:=_root_.id rfl
theorem GE:iB (.indexAddr t x y)=false:=_root_.id rfl
theorem C2:iB (.index t x y)=false:=_root_.id rfl
theorem GA:iB (.load t x)=false:=_root_.id rfl
theorem C0:iB (.store t x y)=false:=_root_.id rfl
theorem wL {i:Nat}:iB (.extract x i)=false:=_root_.id rfl
theorem Mn:iB (.call {callee:=.builtin .len,args:=⟨[x]⟩,argTypes:=⟨[t]⟩})=false:=_root_.id rfl
theorem zY:iB (.call {callee:=.builtin .append,args:=⟨[x,y]⟩,argTypes:=⟨[t,t']⟩})=false:=_root_.id rfl
theorem GD {f:Operand} {args:List Operand} {ts:Array TypeId}:iB (.call {callee:=.value f,args:=⟨args⟩,argTypes:=ts})=false:=_root_.id rfl
theorem nq1 {a b:Nat}:(a=a+(b+1))=False:=eq_false (by omega)
theorem nq2 {a b:Nat}:(a+(b+1)=a)=False:=eq_false (by omega)
def OwnM {α:Type} (v:AV) (h:Nat→Blk) (n:Nat) (f:α→PV) (len:Nat) (l:List α):Prop:=
 match v with
 | .ref id 0 len'=>len'=len∧(∃m,h id=.live m (l.map f))∧id<n
 |_=>False
def ZP {α:Type} (b:Blk) (f:α→PV) (l:List α):Prop:=∃m,b=.live m (l.map f)
theorem OwnM.out {α:Type} {v:AV} {h:Nat→Blk} {n:Nat} {f:α→PV} {len:Nat} {l:List α} (ho:OwnM v h n f len l):∃id m,v=.ref id 0 len∧h id=.live m (l.map f)∧id<n:=by
 unfold OwnM at ho
 split at ho
 ·rename_i id len';obtain⟨rfl,⟨m,h1⟩,h2⟩:=ho;exact⟨id,m,rfl,h1,h2⟩
 ·exact ho.elim
theorem Ch {α:Type} {h:Nat→Blk} {n id len':Nat} {f:α→PV} {len:Nat} {l:List α}:OwnM (.ref id 0 len') h n f len l=(len'=len∧ZP (h id) f l∧id<n):=_root_.id rfl
theorem MI {α:Type} {f:α→PV} {mm:Bool} {c:List PV} {l:List α}:ZP (.live mm c) f l=(c=l.map f):=by simp[ZP]
def ZX (b:Blk) (off len:Nat) (ys:List PV):Prop:=
 match b with
 | .live _ c=>off+len≤c.length∧(c.drop off).take len=ys
 |_=>False
theorem MR {id off len:Nat} {ys:List PV}:cW true h k [.ref id off len] [.sl .own ys] F0=ZX (h id) off len ys:=by
 simp only[cW,fin,dt,ZX]
 cases h id with
 |live m c=>simp[F0]
 |froz m c=>rfl
 |deep m cs rs=>rfl
 |_=>rfl
theorem DD {mm:Bool} {c:List PV} {off len:Nat} {ys:List PV}:ZX (.live mm c) off len ys=(off+len≤c.length∧(c.drop off).take len=ys):=_root_.id rfl
theorem aH {α:Type} {g:α→PV} {l:List α} {f:FuncId} {c:List PV} {as:List Arg} {os:List (Option (List PV))} {rd:List Nat} {ms:List (Option (Nat×Option Nat))} {id:Nat}
  (hf:CallT P true f (.mu false c::as) (none::os) [.sl .own (l.map g)]) (hn:(ms.all Option.isNone)=true) (hid:id∉rd)
  (hc:C ⟨.ref k 0 l.length,[(id,.dead),(k,.live (qw (h id)) (l.map g))],id::rd⟩):Pk P h k f C (.mu false c::as) rd (some (id,none)::ms):=by
 refine kL hf hn hid ?_
 simp only[List.getElem?_cons_zero]
 have:impAll k [.sl .own (l.map g)]=.ref k 0 l.length:=by simp[impAll,imp,imp1]
 rw[this,Bool.true_and]
 exact hc
theorem JA {c:List PV} {as:List Arg} {ts:List Nat} {xs:List PV} {ex:Ex} {p:Bool} {os:List (Option (List PV))} (hx:ex=.ret∨ex=.normal)
  (ho:(os.all Option.isNone)=true) (hf:cW true S.h (as.length+1) (ts.map S.e) xs F0):rM true (.mu p c::as) os ts xs ex S:=Jz hx ho hf
def FC (S:St) (as:List Arg) (res:List PV) (r:R):Prop:=cW false S.h as.length [r.v] res F0
theorem JE {as:List Arg} {t ty:Nat} {xs:List PV} {ex:Ex} (hx:ex=.ret∨ex=.normal) (hf:dZ P ty S.h (S.e t) (FC S as xs)):IK P as [.cell t ty] xs ex S:=by
 have key:jC P S [.cell t ty] fun vs=>sN false S as [] vs xs:=by
  simp only[jC]
  have e:FC S as xs=fun r=>sN false S as [] [r.v] xs:=by
   funext r
   unfold FC sN
   refine congrArg (cW false S.h as.length [r.v] xs) ?_
   funext L
   simp only[F0]
   apply propext
   constructor
   ·intro h;refine⟨h,fun j _=> ?_⟩
    split
    ·rename_i h;simp at h
    ·trivial
   ·intro h;exact h.1
  rw[←e];exact hf
 rcases hx with rfl|rfl<;>exact key
theorem Ut {as:List Arg} {res:List PV} {r:R}:FC S as res r=cW false S.h as.length [r.v] res F0:=_root_.id rfl
end
attribute [go_sem ↓] Pi Ph Pg Ez EA EH Py W1 W2
attribute [go_sem] Lg
attribute [go_sem] Jq Jn Jo JO EP Bl J0 JZ Ip Oe Ig C1 Mu Md Mj C3 Mr Mh Ml Mm Mp Mq Mg Mf Te Gy zX Gx GC Gz Tk GE C2 GA C0 wL Mn zY GD
attribute [go_sem] Ut nq1 nq2 Ch MI MR DD
end Go.Gl
namespace Go.Gl
open Go Go.RowKit Go.ChangeShapes Go.Joins Go.WideShapes Go.Deep
section
variable {H:Type} {enc:TypeId×Value→H} {P:Program} {w:World} {base:Nat} {held:Bool} {G:Nat→Prop}
def IP (a b:List Int) (c:List (List Int)):PV:=.agg [.sl (.lent true) (a.map (.int .i64)),.sl (.lent true) (b.map (.int .i64)),.sl (.lent true) (c.map (bt true))]
theorem OP {t s ss i:TypeId} {r:Reach} {b0:Nat} {f0 f1 f2:Field} {v:Value} {d:DataW H} {p:List MemPlace} (hs:P.underlying t=some (.struct #[f0,f1,f2])) (hone:oneCellFields P #[f0,f1,f2]=true) (hC:P.cellsOf t=3)
  (e0:f0.type=s) (e1:f1.type=s) (e2:f2.type=ss) (hts:P.underlying s=some (.slice i)) (hti:P.underlying i=some (.int .i64)) (hci:P.cellsOf i=1) (htss:P.underlying ss=some (.slice s)) (hcs:P.cellsOf s=1)
  (hv:Value.okWide P w r b0 t v) (h:DataW.Trod enc P w base (fun _=>true) held t v d p):∃(a b:List Int) (c:List (List Int)),RepP w (fun _=>False) G (IP a b c) v:=by
 obtain⟨v0,v1,v2,y0,y1,y2,n,rfl,_,_,h0,h1,h2⟩:=open_agg3 hs hone hC hv h
 rw[e0]at h0
 rw[e1]at h1
 rw[e2]at h2
 obtain⟨a,_,ha⟩:=qn (G:=G) hts hti hci h0
 obtain⟨b,_,hb⟩:=qn (G:=G) hts hti hci h1
 obtain⟨v,c,hcv,hc⟩:=wy (G:=G) htss hcs hts hti hci h2
 simp only[List.cons.injEq,and_true]at hcv
 subst hcv
 refine⟨a,b,c, ?_⟩
 show RepP w (fun _=>False) G (.agg [_,_,_]) _
 simp only[RepP,RepL]
 exact⟨[v0,v1,v2],rfl,v0,[v1,v2],rfl,ha,v1,[v2],rfl,hb,v2,[],rfl,hc,rfl⟩
theorem xS {l:List Int} {v:Value} (h:RepP w (fun _=>False) G (.sl (.lent true) (l.map (.int .i64))) v):l.length≤9223372036854775807:=by
 simp only[RepP,List.length_map]at h
 obtain⟨a,cap,_,h1,h2,_⟩:=h
 have hm:maxLen=9223372036854775807:=rfl
 omega
theorem ON {a b:List Int} {c:List (List Int)} {v:Value} (h:RepP w (fun _=>False) G (IP a b c) v):
  a.length≤9223372036854775807∧b.length≤9223372036854775807∧c.length≤9223372036854775807∧∀l∈c,l.length≤9223372036854775807:=by
 have h:RepP w (fun _=>False) G (.agg [.sl (.lent true) (a.map (.int .i64)),.sl (.lent true) (b.map (.int .i64)),.sl (.lent true) (c.map (bt true))]) v:=h
 rw[RepP]at h
 obtain⟨cs,_,h⟩:=h
 simp only[RepL]at h
 obtain⟨v0,_,_,h0,v1,_,_,h1,v2,_,_,h2,_⟩:=h
 exact⟨xS h0,xS h1,B4 h2⟩
end
end Go.Gl
namespace Go.Gl
open Go
variable [Amb]
section
variable {P:Program} {sg:FuncId→List Bool} {h:Nat→Blk} {k:Nat} {ρ:Operand→AV} {C:R→Prop} {t t':TypeId} {x y:Operand} {A:AV→Prop}
variable {α:Type} {f:α→PV} {m:Bool} {L L':List (List α)}
def dk (f:α→PV) (m:Bool) (L:List (List α)):Blk:=.deep m (canon L.length) (L.map fun l=>some (l.map f))
theorem fd {n i:Nat}:(canon n)[i]? =if i<n then some (.row i)else none:=by
 simp only[canon,List.getElem?_map]
 by_cases hi:i<n
 ·rw[if_pos hi,List.getElem?_range hi];rfl
 ·rw[if_neg hi,List.getElem?_eq_none (by simp;omega)];rfl
theorem cB {n:Nat}:(canon n).length=n:=by simp[canon]
theorem xv {n j:Nat} (hj:j≤n):(canon n).take j=canon j:=by
 apply List.ext_getElem?;intro i
 rw[List.getElem?_take,fd,fd]
 by_cases hi:i<j
 ·rw[if_pos hi,if_pos hi,if_pos (by omega)]
 ·rw[if_neg hi,if_neg hi]
theorem sJ {n j:Nat}:canon n++(canon j).map (DC.up n)=canon (n+j):=by
 apply List.ext_getElem?;intro i
 by_cases hi:i<n
 ·rw[List.getElem?_append_left (by simpa[cB]using hi),fd,fd,if_pos hi,if_pos (by omega)]
 ·rw[List.getElem?_append_right (by simp[cB];omega),List.getElem?_map,fd,fd,cB]
  by_cases hj:i<n+j
  ·rw[if_pos (by omega),if_pos hj];simp only[Option.map_some,DC.up];congr 2;omega
  ·rw[if_neg (by omega),if_neg hj];rfl
theorem gR {n:Nat}:(canon n).all DC.noSelf=true:=by
 rw[List.all_eq_true];intro x hx;simp only[canon,List.mem_map]at hx;obtain⟨_,_,rfl⟩:=hx;rfl
theorem dx {i:Nat} (hi:i<L.length):(L.map fun l=>some (l.map f))[i]? =some (some ((L.getD i []).map f)):=by
 rw[List.getElem?_map,List.getD_eq_getElem?_getD,List.getElem?_eq_getElem hi];rfl
theorem UW {l:List α}:Blk.deep m [.row 0] [some (List.map f l)]=dk f m [l]:=_root_.id rfl
theorem aae {l l2:List α}:Blk.deep m [.row 0,.row 1] [some (List.map f l),some (List.map f l2)]=dk f m [l,l2]:=_root_.id rfl
theorem UU:tA m [.dl (L.map (List.map f))]=dk f m L:=by
 simp only[tA,dk,List.length_map,List.map_map];rfl
theorem Gr {rows:List (List PV)}:wK [.dl rows]=rows.length:=_root_.id rfl
theorem S7 {id off:Nat}:rE (dk f m L) id off C=(off<L.length∧C ⟨.inn id off 0 (L.getD off []).length,[],[id]⟩):=by
 simp only[rE,dk,gt,Int.toNat_natCast,fd,Int.natCast_nonneg,true_and,KD]
 by_cases ho:off<L.length
 ·rw[if_pos ho]
  simp only[DC.av,dx ho,List.length_map,ho,true_and]
 ·rw[if_neg ho];simp[ho]
theorem SZ {id r off:Nat}:OQ (dk f m L) id r off C=(r<L.length∧gt ((L.getD r []).map f) off (KX id C)):=by
 simp only[OQ,dk]
 by_cases hr:r<L.length
 ·rw[dx hr];simp only[hr,true_and]
 ·rw[List.getElem?_eq_none (by simp;omega)];simp[hr]
theorem Oa {id r off len:Nat} {F:List PV→List Nat→Prop}:Jf (dk f m L) id r off len F=(r<L.length∧off+len≤(L.getD r []).length∧F ((((L.getD r []).map f).drop off).take len) [id]):=by
 simp only[Jf,dk]
 by_cases hr:r<L.length
 ·rw[dx hr];simp only[hr,true_and,List.length_map]
 ·rw[List.getElem?_eq_none (by simp;omega)];simp[hr]
theorem IQ {β:Type} {g:List α→PV} (hg:∀l,g l=.sl .ro (l.map f)):(canon L.length).map (DC.rd (L.map fun l=>some (l.map f)))=L.map g:=by
 apply List.ext_getElem?;intro i
 rw[List.getElem?_map,fd]
 by_cases hi:i<L.length
 ·rw[if_pos hi]
  simp only[Option.map_some,DC.rd,dx hi]
  rw[List.getElem?_map,List.getElem?_eq_getElem hi,List.getD_eq_getElem?_getD,List.getElem?_eq_getElem hi]
  simp[hg]
 ·rw[if_neg hi,List.getElem?_eq_none (by simp;omega)];rfl
theorem Ry {L:List (List Int)} {id off len:Nat} {F:PV→List Nat→Prop}:ou (dk (PV.int .i64) m L) id off len F=(off+len≤L.length∧F (.sl (.lent true) ((L.drop off).take len |>.map (bt true))) [id]):=by
 simp only[ou,dk,cB]
 rw[IQ (β:=Int) (g:=bt true) (fun _=>rfl),←List.map_drop,←List.map_take];rfl
theorem Rx {L:List (List (List UInt8))} {id off len:Nat} {F:PV→List Nat→Prop}:ou (dk PV.str m L) id off len F=(off+len≤L.length∧F (.sl (.lent true) ((L.drop off).take len |>.map (HW true))) [id]):=by
 simp only[ou,dk,cB]
 rw[IQ (β:=Int) (g:=HW true) (fun _=>rfl),←List.map_drop,←List.map_take];rfl
def AL (b:Blk) (id r off len:Nat) (F:PV→List Nat→Prop):Prop:=
 match b with
 | .deep _ _ rs=>(match rs[r]? with
  |some (some c)=>off+len≤c.length∧F (.sl .ro ((c.drop off).take len)) [id]
  |_=>False)
 |_=>False
theorem Rw {id r off len:Nat} {vs:List AV} {F:List PV→List Nat→Prop}:o0 h (.inn id r off len::vs) F=AL (h id) id r off len (UN h vs F):=by
 simp only[o0,uD,iA,AL];cases h id<;>rfl
theorem Ku {id r off len:Nat} {vs:List AV} {K:List PV→List Nat→Prop}:dh h (.inn id r off len::vs) K=AL (h id) id r off len (UP h vs K):=by
 simp only[dh,iA,AL];cases h id<;>rfl
theorem Tw {id r off len:Nat} {F:PV→List Nat→Prop}:AL (dk f m L) id r off len F=(r<L.length∧off+len≤(L.getD r []).length∧F (.sl (.lent true) ((((L.getD r []).map f).drop off).take len)) [id]):=by
 simp only[AL,dk]
 by_cases hr:r<L.length
 ·rw[dx hr];simp only[hr,true_and,List.length_map];rfl
 ·rw[List.getElem?_eq_none (by simp;omega)];simp[hr]
theorem Sv {id len:Nat} {F:List PV→Prop}:Sw (dk f m L) id len F=(len=L.length∧F [.dl (L.map (List.map f))]):=by
 simp only[Sw,dk]
 apply propext;constructor
 ·rintro⟨rows,h1,h2,h3,h4⟩
  have:rows=L.map (List.map f):=by
   have:=congrArg (List.map (fun o:Option (List PV)=>o.getD [])) h2
   simpa[Function.comp_def]using this.symm
  subst this
  exact⟨by simpa using h3,h4⟩
 ·rintro⟨h1,h2⟩
  exact⟨_,by simp,by simp,by simpa using h1,h2⟩
def Wj (b:Blk) (r len:Nat) (F:List PV→Prop):Prop:=
 match b with
 | .deep _ _ rs=>(match rs[r]? with
  |some (some c)=>len=c.length∧F c
  |_=>False)
 |_=>False
def MUI (h:Nat→Blk) (sg:List Bool) (vs:List AV) (id r:Nat) (K:List Arg→List Nat→List (Option (Nat×Option Nat))→Prop) (c:List PV):Prop:=
 pass h sg vs fun as rd ms=>K (.mu false c::as) rd (some (id,some r)::ms)
def WF (id r:Nat) (c:List PV) (K:List Arg→List Nat→List (Option (Nat×Option Nat))→Prop) (as:List Arg) (rd:List Nat) (ms:List (Option (Nat×Option Nat))):Prop:=K (.mu false c::as) rd (some (id,some r)::ms)
theorem LC {sg:List Bool} {id r len:Nat} {vs:List AV} {K:List Arg→List Nat→List (Option (Nat×Option Nat))→Prop}:pass h (true::sg) (.inn id r 0 len::vs) K=Wj (h id) r len (MUI h sg vs id r K):=by
 simp only[pass,Wj,MUI];cases h id<;>rfl
theorem Ly {sg:List Bool} {id r:Nat} {c:List PV} {vs:List AV} {K:List Arg→List Nat→List (Option (Nat×Option Nat))→Prop}:MUI h sg vs id r K c=pass h sg vs (WF id r c K):=_root_.id rfl
theorem Gb {vs:List AV} {id r:Nat} {c:List PV} {K:List Arg→List Nat→List (Option (Nat×Option Nat))→Prop}:pass h [] vs (WF id r c K)=o0 h vs (PQ (WF id r c K)):=kO
theorem Lz {id r:Nat} {c:List PV} {K:List Arg→List Nat→List (Option (Nat×Option Nat))→Prop} {as:List Arg} {rd:List Nat} {ms:List (Option (Nat×Option Nat))}:WF id r c K as rd ms=K (.mu false c::as) rd (some (id,some r)::ms):=_root_.id rfl
theorem LA {r len:Nat} {F:List PV→Prop}:Wj (dk f m L) r len F=(r<L.length∧len=(L.getD r []).length∧F ((L.getD r []).map f)):=by
 simp only[Wj,dk]
 by_cases hr:r<L.length
 ·rw[dx hr];simp only[hr,true_and,List.length_map]
 ·rw[List.getElem?_eq_none (by simp;omega)];simp[hr]
theorem RO:ed none (some (some [.dl (L'.map (List.map f))])) (dk f m L)=if L'.length=L.length then dk f m L' else .dead:=by
 simp only[ed,dk,List.length_map,List.map_map,Function.comp_def]
theorem K3 {r:Nat} {l:List α} [NDl (l.map f)] (hr:r<L.length) (hl:l.length=(L.getD r []).length):ed (some r) (some (some (l.map f))) (dk f m L)=dk f m (L.set r l):=by
 have hn:=(inferInstance:NDl (l.map f))
 have e1:((L.map fun l=>some (l.map f)).getD r none).map List.length=some (l.map f).length:=by
  rw[List.getD_eq_getElem?_getD,dx hr];simp[hl]
 have e2:(L.map fun l=>some (l.map f)).set r (some (l.map f))=(L.set r l).map fun l=>some (l.map f):=List.map_set.symm
 rw[dk,mE hn.h,if_pos e1,e2,dk,List.length_set]
def BSD (n k:Nat) (C:R→Prop) (xs:List DC) (rs:List (Option (List PV))) (ws:List (Nat×Blk)) (rd:List Nat):Prop:=xs.all DC.noSelf=true∧C ⟨.ref k 0 n,ws++[(k,.deep false xs rs)],rd⟩
theorem PB {n:Nat} {parts:Array (Nat×Operand)}:rD P ρ h k (.buildSlice t n parts) C=((fh P t).isSome=true∧eF n parts=true∧n≤1000000∧ic h false k (parts.toList.map fun p=>ρ p.2) [] (BSD n k C)):=_root_.id rfl
theorem Pt {a b:Operand}:rD P ρ h k (.makeSlice t a b) C=qe P t k (ρ a) (ρ b) C:=_root_.id rfl
theorem LX {kd kd':IntKind} {a b:Int}:qe P t k (.p (.int kd a)) (.p (.int kd' b)) C=(0≤a∧a≤b∧b≤1099511627776∧mH P t=true∧C ⟨.ref k 0 a.toNat,[(k,.deep false (List.replicate a.toNat (.v (.sl .own []))) [])],[]⟩):=_root_.id rfl
def Cq (s:Option (Nat×PV)):Bool:=match s with|some (_,.sl .fr [])=>true|_=>false
theorem K8:mH P t=Cq (fh P t):=_root_.id rfl
theorem RQ {n:Nat}:Cq (some (n,.sl (.lent false) []))=true:=_root_.id rfl
theorem RS {n:Nat} {kd:IntKind} {z:Int}:Cq (some (n,.int kd z))=false:=_root_.id rfl
theorem RT {n:Nat} {z:Bool}:Cq (some (n,.bool z))=false:=_root_.id rfl
theorem RR {n:Nat} {z:List UInt8}:Cq (some (n,.str z))=false:=_root_.id rfl
variable {zz:Bool}
theorem Zs {n:Nat} {parts:Array (Nat×Operand)} {s:Bool}:iw P true s zz (.buildSlice t n parts)=mH P t:=by simp[iw]
theorem Zp {a b:Operand} {s:Bool}:iw P true s zz (.makeSlice t a b)=mH P t:=by simp[iw]
theorem Zt {n:Bool}:iw P n true zz (.alloc t)=En P t:=by simp[iw]
theorem Zr {n:Bool}:iw P n true zz (.box t x)=En P t:=by simp[iw]
variable {n s:Bool}
theorem Sj {i:Nat} {parts:Array (Nat×Operand)}:iw P false s zz (.buildSlice t i parts)=false:=by simp[iw]
theorem Si {a b:Operand}:iw P false s zz (.makeSlice t a b)=false:=by simp[iw]
theorem Sh:iw P n false zz (.alloc t)=false:=by simp[iw]
theorem Sg:iw P n false zz (.box t x)=false:=by simp[iw]
theorem Zn {b:BinOp}:iw P n s zz (.binOp b t x y t')=false:=_root_.id rfl
theorem Zm {b:UnOp}:iw P n s zz (.unOp b t x)=false:=_root_.id rfl
theorem Zl:iw P n s zz (.move x)=(zz&&wa x):=_root_.id rfl
theorem Pf {i:Nat}:wa (.tmp i)=false:=_root_.id rfl
theorem WZ {i:Nat}:wa (.func i)=false:=_root_.id rfl
theorem z_i {kd:IntKind} {i:Int}:wa (.const (.int kd i))=false:=_root_.id rfl
theorem z_b {b:Bool}:wa (.const (.bool b))=false:=_root_.id rfl
theorem z_s {b:ByteArray}:wa (.const (.string b))=false:=_root_.id rfl
theorem z_n:wa (.const (.slice none 0 0))=true:=_root_.id rfl
theorem WY:wa (.const .nilFunc)=false:=_root_.id rfl
theorem W0 {a:Array Value}:wa (.const (.agg a))=false:=_root_.id rfl
theorem Pq:rD P ρ h k (.move x) C=oM k (ρ x) C:=_root_.id rfl
theorem PF:rD P ρ h k (.assign x) C=oM k (ρ x) C:=_root_.id rfl
theorem OB:oM k (.p (.sl .own [])) C=C ⟨.ref k 0 0,[(k,.deep false [] [])],[]⟩:=by simp[oM]
theorem Zk:iw P n s zz (.assign x)=(zz&&wa x):=_root_.id rfl
theorem Zj {z:Operand}:iw P n s zz (.pick x y z)=false:=_root_.id rfl
theorem Zi:iw P n s zz (.convert t t' x)=false:=_root_.id rfl
theorem Zh:iw P n s zz (.indexAddr t x y)=false:=_root_.id rfl
theorem Zg:iw P n s zz (.index t x y)=false:=_root_.id rfl
theorem Zf:iw P n s zz (.load t x)=false:=_root_.id rfl
theorem Sa:iw P n s zz (.store t x y)=false:=_root_.id rfl
theorem R9 {i:Nat}:iw P n s zz (.extract x i)=false:=_root_.id rfl
theorem R8 {c:Call}:iw P n s zz (.call c)=false:=_root_.id rfl
theorem R7 {lo hi mx:Option Operand}:iw P n s zz (.slice t x lo hi mx)=false:=_root_.id rfl
theorem R6 {i:Nat}:iw P n s zz (.field t x i)=false:=_root_.id rfl
theorem R5 {i:Nat}:iw P n s zz (.fieldAddr t x i)=false:=_root_.id rfl
theorem R4 {parts:Array (Nat×Operand)}:iw P n false zz (.build t parts)=false:=by simp[iw]
theorem R3:iw P n s zz (.nilCheck x)=false:=_root_.id rfl
theorem R2 {f:Fn} {a b:Array Operand}:iw P n s zz (.makeFunc f a b)=false:=_root_.id rfl
theorem SI {b:BinOp}:oE P (.binOp b t x y t')=false:=_root_.id rfl
theorem SH {b:UnOp}:oE P (.unOp b t x)=false:=_root_.id rfl
theorem SG:oE P (.move x)=false:=_root_.id rfl
theorem SF:oE P (.assign x)=false:=_root_.id rfl
theorem SE {z:Operand}:oE P (.pick x y z)=false:=_root_.id rfl
theorem SD:oE P (.convert t t' x)=false:=_root_.id rfl
theorem SC:oE P (.indexAddr t x y)=false:=_root_.id rfl
theorem SB:oE P (.index t x y)=false:=_root_.id rfl
theorem SA:oE P (.load t x)=false:=_root_.id rfl
theorem LS:oE P (.store t x y)=false:=_root_.id rfl
theorem LR {i:Nat}:oE P (.extract x i)=false:=_root_.id rfl
theorem LQ {c:Call}:oE P (.call c)=false:=_root_.id rfl
theorem LP {lo hi mx:Option Operand}:oE P (.slice t x lo hi mx)=false:=_root_.id rfl
theorem LO {i:Nat}:oE P (.field t x i)=false:=_root_.id rfl
theorem LN {i:Nat}:oE P (.fieldAddr t x i)=false:=_root_.id rfl
theorem LM {parts:Array (Nat×Operand)}:oE P (.build t parts)=false:=_root_.id rfl
theorem LL:oE P (.nilCheck x)=false:=_root_.id rfl
theorem LK {f:Fn} {a b:Array Operand}:oE P (.makeFunc f a b)=false:=_root_.id rfl
theorem SL {n:Nat} {parts:Array (Nat×Operand)}:oE P (.buildSlice t n parts)=tx P t:=_root_.id rfl
theorem SJ {a b:Operand}:oE P (.makeSlice t a b)=tx P t:=_root_.id rfl
theorem SM:oE P (.alloc t)=false:=_root_.id rfl
theorem SK:oE P (.box t x)=false:=_root_.id rfl
def O0 (F:List DC→List (Option (List PV))→List (Nat×Blk)→List Nat→Prop) (x:DC) (ws:List (Nat×Blk)) (rd:List Nat) (xs:List DC) (rs:List (Option (List PV))) (ws':List (Nat×Blk)) (rd':List Nat):Prop:=F (x::xs) rs (ws++ws') (rd++rd')
def MVN (mt:Bool) (h:Nat→Blk) (id:Nat) (vs:List AV) (F:List DC→List (Option (List PV))→List (Nat×Blk)→List Nat→Prop) (x:DC) (rs:List (Option (List PV))) (ws:List (Nat×Blk)) (rd:List Nat):Prop:=ic (hwsH h ws) mt id vs rs (O0 F x ws rd)
def hu (h:Nat→Blk) (j:Nat) (b:Blk):Nat→Blk:=fun i=>if i=j then b else h i
theorem Tx {j i:Nat} {b:Blk}:hu h j b i=if i=j then b else h i:=_root_.id rfl
theorem F6 {mt:Bool} {id:Nat} {rs:List (Option (List PV))} {F:List DC→List (Option (List PV))→List (Nat×Blk)→List Nat→Prop}:ic h mt id [] rs F=F [] rs [] []:=_root_.id rfl
theorem Cx {mt:Bool} {id:Nat} {v:AV} {vs:List AV} {rs:List (Option (List PV))} {F:List DC→List (Option (List PV))→List (Nat×Blk)→List Nat→Prop}:ic h mt id (v::vs) rs F=lU h mt id v rs (MVN mt h id vs F):=_root_.id rfl
theorem Ln {mt:Bool} {id:Nat} {vs:List AV} {F:List DC→List (Option (List PV))→List (Nat×Blk)→List Nat→Prop} {x:DC} {rs:List (Option (List PV))} {rd:List Nat}:MVN mt h id vs F x rs [] rd=ic h mt id vs rs (O0 F x [] rd):=_root_.id rfl
theorem Sm {mt:Bool} {id:Nat} {vs:List AV} {F:List DC→List (Option (List PV))→List (Nat×Blk)→List Nat→Prop} {x:DC} {rs:List (Option (List PV))} {rd:List Nat} {j:Nat} {b:Blk}:MVN mt h id vs F x rs [(j,b)] rd=ic (hu h j b) mt id vs rs (O0 F x [(j,b)] rd):=_root_.id rfl
theorem Sp {F:List DC→List (Option (List PV))→List (Nat×Blk)→List Nat→Prop} {x:DC} {xs:List DC} {rs:List (Option (List PV))} {i:Nat} {b:Blk} {ws':List (Nat×Blk)} {rd':List Nat}:O0 F x [(i,b)] [i] xs rs ws' rd'=F (x::xs) rs ((i,b)::ws') (i::rd'):=_root_.id rfl
theorem Sq {F:List DC→List (Option (List PV))→List (Nat×Blk)→List Nat→Prop} {x:DC} {xs:List DC} {rs:List (Option (List PV))} {ws':List (Nat×Blk)} {rd':List Nat}:O0 F x [] [] xs rs ws' rd'=F (x::xs) rs ws' rd':=_root_.id rfl
theorem Sn {F:List DC→List (Option (List PV))→List (Nat×Blk)→List Nat→Prop} {x:DC} {xs:List DC} {rs:List (Option (List PV))} {i:Nat} {ws':List (Nat×Blk)} {rd':List Nat}:O0 F x [] [i] xs rs ws' rd'=F (x::xs) rs ws' (i::rd'):=_root_.id rfl
def Zu (o:Option (Option (List PV))) (j r len:Nat) (cs':List DC) (rs' rs:List (Option (List PV))) (K:DC→List (Option (List PV))→List (Nat×Blk)→List Nat→Prop):Prop:=
 match o with
 |some (some c)=>len=c.length∧K (.row rs.length) (rs++[some c]) [(j,.deep false cs' (rs'.set r none))] [j]
 |_=>False
def Zv (b:Blk) (j r len:Nat) (rs:List (Option (List PV))) (K:DC→List (Option (List PV))→List (Nat×Blk)→List Nat→Prop):Prop:=
 match b with
 | .deep false cs' rs'=>Zu rs'[r]? j r len cs' rs' rs K
 |_=>False
theorem Ls {mt:Bool} {id j r len:Nat} {rs:List (Option (List PV))} {K:DC→List (Option (List PV))→List (Nat×Blk)→List Nat→Prop} (hn:(j=id)=False):lU h mt id (.inn j r 0 len) rs K=Zv (h j) j r len rs K:=by
 simp only[lU,Zv,hn,if_false,true_and]
 cases hb:h j with
 |deep m cs' rs'=>cases m<;>rfl
 |_=>rfl
theorem Cy {j r len:Nat} {cs':List DC} {rs' rs:List (Option (List PV))} {K:DC→List (Option (List PV))→List (Nat×Blk)→List Nat→Prop}:Zv (.deep false cs' rs') j r len rs K=Zu rs'[r]? j r len cs' rs' rs K:=_root_.id rfl
theorem Lt {c:List PV} {j r len:Nat} {cs':List DC} {rs' rs:List (Option (List PV))} {K:DC→List (Option (List PV))→List (Nat×Blk)→List Nat→Prop}:Zu (some (some c)) j r len cs' rs' rs K=(len=c.length∧K (.row rs.length) (rs++[some c]) [(j,.deep false cs' (rs'.set r none))] [j]):=_root_.id rfl
def Lu (mt:Bool) (b:Blk) (id j off len:Nat) (rs:List (Option (List PV))) (K:DC→List (Option (List PV))→List (Nat×Blk)→List Nat→Prop):Prop:=
 match b with
 | .live m c=>(m=true→mt=true)∧j≠id∧off=0∧len=c.length∧K (.row rs.length) (rs++[some c]) [(j,.dead)] [j]
 | .froz m c=>j≠id∧off+len≤c.length∧K (.v (.sl (.lent m) ((c.drop off).take len))) rs [] [j]
 |_=>False
theorem Lp {mt:Bool} {id j off len:Nat} {rs:List (Option (List PV))} {K:DC→List (Option (List PV))→List (Nat×Blk)→List Nat→Prop}:lU h mt id (.ref j off len) rs K=Lu mt (h j) id j off len rs K:=by
 simp only[lU,Lu]
 cases h j with
 |live m c=>simp only[and_left_comm]
 |froz m c=>rfl
 |deep m cs rs=>simp
 |_=>simp
theorem Cz {mt:Bool} {c:List PV} {id j off len:Nat} {rs:List (Option (List PV))} {K:DC→List (Option (List PV))→List (Nat×Blk)→List Nat→Prop}:Lu mt (.live false c) id j off len rs K=(j≠id∧off=0∧len=c.length∧K (.row rs.length) (rs++[some c]) [(j,.dead)] [j]):=by simp[Lu]
theorem zG {c:List PV} {id j off len:Nat} {rs:List (Option (List PV))} {K:DC→List (Option (List PV))→List (Nat×Blk)→List Nat→Prop}:Lu true (.live true c) id j off len rs K=(j≠id∧off=0∧len=c.length∧K (.row rs.length) (rs++[some c]) [(j,.dead)] [j]):=by simp[Lu]
theorem CA {mt:Bool} {c:List PV} {id j off len:Nat} {rs:List (Option (List PV))} {K:DC→List (Option (List PV))→List (Nat×Blk)→List Nat→Prop}:Lu mt (.froz m c) id j off len rs K=(j≠id∧off+len≤c.length∧K (.v (.sl (.lent m) ((c.drop off).take len))) rs [] [j]):=_root_.id rfl
theorem Lr {mt:Bool} {id:Nat} {kd:IntKind} {n:Int} {rs:List (Option (List PV))} {K:DC→List (Option (List PV))→List (Nat×Blk)→List Nat→Prop}:lU h mt id (.p (.int kd n)) rs K=K (.v (.int kd n)) rs [] []:=by simp[lU,PV.cellOk]
theorem F8 {mt:Bool} {id:Nat} {n:Bool} {rs:List (Option (List PV))} {K:DC→List (Option (List PV))→List (Nat×Blk)→List Nat→Prop}:lU h mt id (.p (.bool n)) rs K=K (.v (.bool n)) rs [] []:=by simp[lU,PV.cellOk]
theorem Lo {mt:Bool} {id:Nat} {n:List UInt8} {rs:List (Option (List PV))} {K:DC→List (Option (List PV))→List (Nat×Blk)→List Nat→Prop}:lU h mt id (.p (.str n)) rs K=K (.v (.str n)) rs [] []:=by simp[lU,PV.cellOk]
theorem F7 {mt:Bool} {id:Nat} {n:List PV} {rs:List (Option (List PV))} {K:DC→List (Option (List PV))→List (Nat×Blk)→List Nat→Prop}:lU h mt id (.p (.sl (.lent m) n)) rs K=K (.v (.sl (.lent m) n)) rs [] []:=by cases m<;>simp[lU,PV.cellOk,Fl.lent]
theorem Lq {mt:Bool} {id:Nat} {rs:List (Option (List PV))} {K:DC→List (Option (List PV))→List (Nat×Blk)→List Nat→Prop}:lU h mt id (.p (.sl .own [])) rs K=K (.v (.sl .own [])) rs [] []:=by simp[lU,PV.cellOk]
theorem Ol {n:Nat} {xs:List DC} {rs:List (Option (List PV))} {ws:List (Nat×Blk)} {rd:List Nat}:BSD n k C xs rs ws rd=(xs.all DC.noSelf=true∧C ⟨.ref k 0 n,ws++[(k,.deep false xs rs)],rd⟩):=_root_.id rfl
theorem K9 {r:Nat}:DC.noSelf (.row r)=true:=_root_.id rfl
theorem Zc {v:PV}:DC.noSelf (.v v)=true:=_root_.id rfl
def yS (b b':Blk) (id len j n k:Nat) (C:R→Prop):Prop:=
 match b,b' with
 | .deep m cs rs,.deep false cs' rs'=>n=cs'.length∧cs'.all DC.noSelf=true∧id≠j∧len=cs.length∧cs.all DC.noSelf=true∧len+n≤1099511627776∧
   C ⟨.ref k 0 (len+n),[(j,.dead),(id,.dead),(k,.deep m (cs++cs'.map (DC.up rs.length)) (rs++rs'))],[id,j]⟩
 |_,_=>False
def WA (b':Blk) (j n k:Nat) (C:R→Prop):Prop:=
 match b' with
 | .deep false cs' rs'=>n=cs'.length∧cs'.all DC.noSelf=true∧n≤1099511627776∧C ⟨.ref k 0 n,[(j,.dead),(k,.deep false cs' rs')],[j]⟩
 |_=>False
theorem VH {s:AV} {j off n:Nat}:OW (dk f m L) h k s j off n C=dW h k s (.ref j off n) C:=_root_.id rfl
theorem Iy {cs:List DC} {rs:List (Option (List PV))} {s:AV} {j off n:Nat}:OW (.deep m cs rs) h k s j off n C=dW h k s (.ref j off n) C:=_root_.id rfl
theorem OF {id len j n:Nat}:dW h k (.ref id 0 len) (.ref j 0 n) C=yS (h id) (h j) id len j n k C:=by
 simp only[dW,yS]
 cases h j with
 |deep m' cs' rs'=>
  cases m' with
  |true=>cases h id<;>rfl
  |false=>cases h id<;>simp
 |_=>cases h id<;>rfl
theorem OG {j n:Nat}:dW h k (.p (.sl .own [])) (.ref j 0 n) C=WA (h j) j n k C:=by
 simp only[dW,WA]
 cases h j with
 |deep m' cs' rs'=>cases m'<;>rfl
 |_=>rfl
theorem VU {id len j n:Nat}:yS (dk f m L) (dk f false L') id len j n k C=(n=L'.length∧id≠j∧len=L.length∧len+n≤1099511627776∧
  C ⟨.ref k 0 (len+n),[(j,.dead),(id,.dead),(k,dk f m (L++L'))],[id,j]⟩):=by
 simp only[yS,dk,cB,gR,List.length_map,true_and]
 rw[sJ,←List.map_append,List.length_append]
theorem aaK {id len j n:Nat}:yS (.deep m [] []) (dk f false L') id len j n k C=(n=L'.length∧id≠j∧len=0∧n≤1099511627776∧
  C ⟨.ref k 0 n,[(j,.dead),(id,.dead),(k,dk f m L')],[id,j]⟩):=by
 simp only[yS,dk,cB,gR,List.length_nil,List.all_nil,true_and,List.nil_append]
 have e:(canon L'.length).map (DC.up 0)=canon L'.length:=by
  have:=sJ (n:=0) (j:=L'.length);simpa[canon]using this
 rw[e]
 apply propext;constructor
 ·rintro⟨h1,h2,h3,h4,h5⟩;subst h3;simp only[Nat.zero_add]at h4 h5;exact⟨h1,h2,rfl,h4,h5⟩
 ·rintro⟨h1,h2,h3,h4,h5⟩;subst h3;simp only[Nat.zero_add];exact⟨h1,h2,trivial,h4,h5⟩
theorem V6 {j n:Nat}:WA (dk f false L') j n k C=(n=L'.length∧n≤1099511627776∧C ⟨.ref k 0 n,[(j,.dead),(k,dk f false L')],[j]⟩):=by
 simp only[WA,dk,cB,gR,true_and]
def vK (f:α→PV) (m:Bool) (L:List (List α)) (z:Nat):Blk:=.deep m (canon L.length++List.replicate z (.v (.sl .own []))) (L.map fun l=>some (l.map f))
theorem abo:vK f m L 0=dk f m L:=by simp[vK,dk]
theorem H5 {n:Nat}:Blk.deep m (List.replicate n (.v (.sl .own []))) []=vK f m [] n:=by simp[vK,canon]
theorem xz {z id off id' len:Nat} {l:List α} (ho:off=L.length) (hz:0<z) (hl:len=l.length) (hi:id'≠id) (hc:C ⟨.p .any,[(id',.dead),(id,vK f false (L++[l]) (z - 1))],[id,id']⟩):
  jY (vK f false L z) (.live false (l.map f)) id off id' 0 len C:=by
 obtain⟨z,rfl⟩:∃y,z=y+1:=⟨z - 1,by omega⟩
 subst ho
 simp only[jY,vK,List.length_map,true_and,List.length_append,cB,List.length_replicate]
 refine⟨fun h=>h,hl,by omega,hi, ?_⟩
 have e1:(canon L.length++List.replicate (z+1) (DC.v (.sl .own []))).set L.length (.row L.length)=canon (L.length+1)++List.replicate z (DC.v (.sl .own [])):=by
  rw[List.set_append_right _ _ (by simp[cB]),cB,Nat.sub_self,List.replicate_succ,List.set_cons_zero]
  have:canon (L.length+1)=canon L.length++[.row L.length]:=by simp[canon,List.range_succ]
  rw[this,List.append_assoc];rfl
 rw[e1]
 simpa[vK]using hc
def dkU (f:α→PV) (m:Bool) (L:List (List α)) (r:Nat) (l:List α):Blk:=ed (some r) (some (some (l.map f))) (dk f m L)
theorem K2 {r:Nat} {l:List α}:ed (some r) (some (some (l.map f))) (dk f m L)=dkU f m L r l:=_root_.id rfl
theorem aaf {r:Nat} {l:List α} [NDl (l.map f)] (hr:r<L.length) (hl:l.length=(L.getD r []).length):dkU f m L r l=dk f m (L.set r l):=K3 hr hl
theorem aI {k:Nat} {f:FuncId} {c c':List PV} {as:List Arg} {os:List (Option (List PV))} {res:List PV} {rd:List Nat} {ms:List (Option (Nat×Option Nat))} {id r:Nat} {v:AV} {ws:List (Nat×Blk)}
  (hf:CallT P false f (.mu false c::as) (some c'::os) res) [a:ImpA k res v ws] (hn:(ms.all Option.isNone)=true) (hid:id∉rd)
  (hc:C ⟨v,(id,ed (some r) (some (some c')) (h id))::ws,id::rd⟩):Pk P h k f C (.mu false c::as) rd (some (id,some r)::ms):=by
 refine kL hf hn hid ?_
 rw[Bool.false_and,a.h.1,a.h.2,List.getElem?_cons_zero]
 exact hc
def wb (b:Blk) (tk:Bool) (k id off len:Nat) (rows:List (List PV)) (F:List (Nat×Nat×Pl)→Prop):Prop:=
 match b with
 | .deep m cs rs=>off+len≤cs.length∧(m=true→tk=true)∧∃sel,mz rs ((cs.drop off).take len)=some (sel,rows)∧(sel.filterMap _root_.id).Nodup∧F [(k,id,.d off sel)]
 |_=>False
variable {F:List (Nat×Nat×Pl)→Prop}
theorem UF {tk:Bool} {id off len:Nat} {rows:List (List PV)}:fin tk h k (.ref id off len) (.dl rows) F=wb (h id) tk k id off len rows F:=by
 simp only[fin,dt,wb];cases h id<;>rfl
theorem UJ {tk:Bool} {id off len:Nat} {rows:List (List PV)}:dt tk h k (.ref id off len) (.dl rows) F=wb (h id) tk k id off len rows F:=by
 simp only[dt,wb];cases h id<;>rfl
theorem UE {tk:Bool} {ys:List PV} {rows:List (List PV)}:fin tk h k (.p (.sl .own ys)) (.dl rows) F=(rows=[]∧F []):=_root_.id rfl
theorem NH {tk:Bool} {ys:List PV} {rows:List (List PV)}:dt tk h k (.p (.sl .own ys)) (.dl rows) F=(rows=[]∧F []):=_root_.id rfl
theorem kM {rs:List (Option (List PV))}:∀{l:List Nat} {cs:List (List PV)},(∀i,i<l.length→∃r,l[i]? =some r∧rs[r]? =some (cs[i]?))→cs.length=l.length→mz rs (l.map .row)=some (l.map some,cs)
 |[],cs,_,hl=>by
  have:cs=[]:=List.eq_nil_of_length_eq_zero (by simpa using hl)
  subst this;rfl
 |r::l,cs,hh,hl=>by
  cases cs with
  |nil=>simp at hl
  |cons c cs=>
   obtain⟨r',e1,e2⟩:=hh 0 (by simp)
   simp only[List.getElem?_cons_zero,Option.some.injEq]at e1 e2
   subst e1
   have ih:=kM (l:=l) (cs:=cs) (fun i hi=>by
    obtain⟨r',e1,e2⟩:=hh (i+1) (by simp;omega)
    exact⟨r',by simpa using e1,by simpa using e2⟩) (by simpa using hl)
   simp only[List.map_cons,mz,e2,ih]
theorem Uk {tk:Bool} {id len:Nat} {rows:List (List PV)}:wb (dk f m L) tk k id 0 len rows F=(len≤L.length∧(m=true→tk=true)∧(L.take len).map (List.map f)=rows∧F [(k,id,.d 0 ((List.range len).map some))]):=by
 simp only[wb,dk,cB,Nat.zero_add,List.drop_zero]
 by_cases hl:len≤L.length
 ·simp only[hl,true_and]
  have e:mz (L.map fun l=>some (l.map f)) ((canon L.length).take len)=some ((List.range len).map some,(L.take len).map (List.map f)):=by
   rw[xv hl]
   refine kM (fun i hi=> ?_) (by simp;omega)
   simp only[List.length_range]at hi
   refine⟨i,List.getElem?_range hi, ?_⟩
   rw[dx (by omega),List.getElem?_map,List.getElem?_take,if_pos hi,List.getD_eq_getElem?_getD,List.getElem?_eq_getElem (show i<L.length by omega)]
   rfl
  rw[e]
  have hd:(((List.range len).map some).filterMap (_root_.id:Option Nat→Option Nat)).Nodup:=by
   rw[List.filterMap_map];simpa[Function.comp_def]using List.nodup_range
  apply propext;constructor
  ·rintro⟨h1,sel,h2,h3,h4⟩
   simp only[Option.some.injEq,Prod.mk.injEq]at h2
   obtain⟨rfl,rfl⟩:=h2
   exact⟨h1,rfl,h4⟩
  ·rintro⟨h1,rfl,h4⟩
   exact⟨h1,_,rfl,hd,h4⟩
 ·simp only[hl,false_and]
theorem Z0 {tk:Bool} {id len:Nat} {rows:List (List PV)}:wb (.deep m [] []) tk k id 0 len rows F=(len=0∧(m=true→tk=true)∧rows=[]∧F [(k,id,.d 0 [])]):=by
 simp only[wb,List.length_nil,Nat.zero_add,List.drop_nil,List.take_nil,mz]
 apply propext;constructor
 ·rintro⟨h0,h1,sel,h2,h3,h4⟩
  simp only[Option.some.injEq,Prod.mk.injEq]at h2
  obtain⟨rfl,rfl⟩:=h2
  exact⟨by omega,h1,rfl,h4⟩
 ·rintro⟨h0,h1,rfl,h4⟩
  exact⟨by omega,h1,[],rfl,by simp,h4⟩
instance dkO {k:Nat} {L:List (List α)}:ImpO k (.dl (L.map (List.map f))) (.ref k 0 L.length) [(k,dk f false L)]:=⟨by simp[imp,imp1],by simp[impW,impW1,dk,Function.comp_def]⟩
instance dk1 {k:Nat} {L:List (List α)}:Imp1 k (.dl (L.map (List.map f))) (.ref k 0 L.length) [(k,dk f false L)]:=⟨by simp[imp1],by simp[impW1,dk,Function.comp_def]⟩
theorem IS {rows:List (List PV)}:noRo (.dl rows)=noRoLL rows:=_root_.id rfl
theorem RV {L:List (List α)} (hf:∀a,noRo (f a)=true):noRoLL (L.map (List.map f))=true:=by
 induction L with
 |nil=>rfl
 |cons l L ih=>simp only[List.map_cons,noRoLL,cy hf,ih,Bool.and_self]
theorem Ct {L:List (List Int)} {kd:IntKind}:noRoLL (L.map (List.map (PV.int kd)))=true:=RV fun _=>rfl
theorem IT {L:List (List (List UInt8))}:noRoLL (L.map (List.map PV.str))=true:=RV fun _=>rfl
theorem RU {L:List (List Int)} {kd:IntKind} {xs:List PV}:noRoL (.dl (L.map (List.map (PV.int kd)))::xs)=noRoL xs:=by
 simp only[noRoL,noRo,Ct,Bool.true_and]
def DwnL (v:AV) (h:Nat→Blk) (n:Nat) (f:α→PV) (len:Nat) (L:List (List α)):Prop:=
 match v with
 | .ref id 0 len'=>len'=len∧h id=dk f false L∧id<n
 |_=>False
def Wp (b:Blk) (f:α→PV) (L:List (List α)):Prop:=b=dk f false L
theorem DwnL.out {v:AV} {h:Nat→Blk} {n:Nat} {len:Nat} (ho:DwnL v h n f len L):∃id,v=.ref id 0 len∧h id=dk f false L∧id<n:=by
 unfold DwnL at ho
 split at ho
 ·rename_i id len';obtain⟨rfl,h1,h2⟩:=ho;exact⟨id,rfl,h1,h2⟩
 ·exact ho.elim
theorem HZ {h:Nat→Blk} {n id len':Nat} {len:Nat}:DwnL (.ref id 0 len') h n f len L=(len'=len∧Wp (h id) f L∧id<n):=_root_.id rfl
theorem ML:Wp (dk f false L') f L=(dk f false L'=dk f false L):=_root_.id rfl
def DznL (v:AV) (h:Nat→Blk) (n:Nat) (f:α→PV) (len:Nat) (L:List (List α)) (z:Nat):Prop:=
 match v with
 | .ref id 0 len'=>len'=len∧h id=vK f false L z∧id<n
 |_=>False
def Wn (b:Blk) (f:α→PV) (L:List (List α)) (z:Nat):Prop:=b=vK f false L z
theorem DznL.out {v:AV} {h:Nat→Blk} {n:Nat} {len z:Nat} (ho:DznL v h n f len L z):∃id,v=.ref id 0 len∧h id=vK f false L z∧id<n:=by
 unfold DznL at ho
 split at ho
 ·rename_i id len';obtain⟨rfl,h1,h2⟩:=ho;exact⟨id,rfl,h1,h2⟩
 ·exact ho.elim
theorem HY {h:Nat→Blk} {n id len' z:Nat} {len:Nat}:DznL (.ref id 0 len') h n f len L z=(len'=len∧Wn (h id) f L z∧id<n):=_root_.id rfl
theorem MG {z z':Nat}:Wn (vK f false L' z') f L z=(vK f false L' z'=vK f false L z):=_root_.id rfl
theorem Tz {z z':Nat}:Wn (.deep false (List.replicate z' (.v (.sl .own []))) []) f ([]:List (List α)) z=(z'=z):=by
 rw[H5 (f:=f)]
 apply propext;constructor
 ·intro h
  simp only[Wn,vK,Blk.deep.injEq,true_and,and_true]at h
  have:=congrArg List.length h
  simpa[canon]using this
 ·rintro rfl;rfl
theorem xp {z z':Nat} (h:L=L') (hz:z=z'):vK f m L z=vK f m L' z':=by rw[h,hz]
theorem De {xs:List DC} {rs:List (Option (List PV))}:Wp (.deep false xs rs) f L=(Blk.deep false xs rs=dk f false L):=_root_.id rfl
theorem TD:Wp (.deep false [] []) f ([]:List (List α)):=_root_.id rfl
theorem UV (h:L=L'):dk f m L=dk f m L':=by rw[h]
end
theorem Uf {α:Type} {f:α→PV} {m:Bool} {L:List (List α)}:qw (dk f m L)=m:=_root_.id rfl
attribute [go_sem] Uf UW aae UU Gr S7 SZ Oa Ry Rx Rw Ku Tw Sv LC Ly Gb Lz LA RO
attribute [go_sem ↓] Pm Pj Pn Po PB Pt Pq PF
attribute [go_sem] SI SH SG SF SE SD SC SB SA LS LR LQ LP LO LN LM LL LK SL SJ SM SK
attribute [go_sem] LX K8 RQ RS RT RR Zs Zp Zt Zr Sj Si Sh Sg Zn Zm Zl Zk Zj Zi Zh Zg Zf Sa R9 R8 R7 R6 R5 R4 R3 R2 Pf WZ z_i z_b z_s z_n WY W0 OB
attribute [go_sem] F6 Cx Ln Sm Tx Sp Sq Sn Ls Cy Lt Lp Cz zG CA Lr F8 Lo F7 Lq Ol K9 Zc
attribute [go_sem] VH Iy OF OG VU aaK V6 K2 HY MG Tz UF UJ UE NH Uk Z0 IS Ct IT RU HZ ML TD De
attribute [go_sem high] UW
attribute [go_sem] List.length_range
end Go.Gl
namespace Go.Gl
open Go
variable [Amb]
def zx:PV→Option Value
 | .int k n=>some (.int k n)
 | .bool b=>some (.bool b)
 | .str s=>some (.string ⟨s.toArray⟩)
 |_=>none
theorem Fun.of_plain [NoQ] {P:Program} {f:FuncId} {args:List PV} {x:PV} {v:Value} {fn:Func} (hf:P.funcs[f]? =some fn) (hb:fn.body.isSome=true) (hn:(fn.name== "runtime.NumGoroutine")=false) (hx:zx x=some v)
  (h:∀(w:World) (F G:Nat→Prop) (vs:List Value),(∀B o,Amb.tb B=some o→w.heap[B]? =some o)→RepL w F G args vs→Calls P f ⟨vs⟩ w fun e w'=>e=.returned v∧Go.RowKit.Below w.heap.size w w'):Fun P f args [x]:=by
 have dead:∀j,cm (args.map .pv) j=.dead:=by
  intro j
  unfold cm
  rw[List.getElem?_map]
  cases args[j]? <;>rfl
 have hno:∀(ι:Nat→Loc) B,¬Held (cm (args.map .pv)) ι B:=by
  rintro ι B ⟨id,ho⟩
  rw[dead]at ho;exact ho
 have hrep:∀(w:World) (F G:Nat→Prop) (ι:Nat→Loc) (l:List PV) (vs:List Value) (k:Nat),RepAL w F G ι (bK k (l.map .pv)) vs→RepL w F G l vs:=by
  intro w F G ι l
  induction l with
  |nil=>intro vs k h;simpa[bK,RepAL,RepL]using h
  |cons x l ih=>
   intro vs k h
   simp only[List.map_cons,bK,Arg.av,RepAL,RepA]at h
   obtain⟨v,vs',rfl,h1,h2⟩:=h
   simp only[RepL]
   exact⟨v,vs',rfl,h1,ih _ _ h2⟩
 have hr:noRoL [x]=true∧gA [x]=true∧impAll (args.map Arg.pv).length [x]=.p x∧impWs false (args.map Arg.pv).length [x]=[]∧∀w F G,RepP w F G x v:=by
  cases x with
  |int k n=>simp only[zx,Option.some.injEq]at hx;subst hx;exact⟨rfl,rfl,rfl,rfl,fun _ _ _=>by simp only[RepP]⟩
  |bool b=>simp only[zx,Option.some.injEq]at hx;subst hx;exact⟨rfl,rfl,rfl,rfl,fun _ _ _=>by simp only[RepP]⟩
  |str s=>simp only[zx,Option.some.injEq]at hx;subst hx;exact⟨rfl,rfl,rfl,rfl,fun _ _ _=>by simp only[RepP]⟩
  |_=>simp[zx]at hx
 obtain⟨h1,h2,h3,h4,h5⟩:=hr
 refine⟨⟨fn,hf,hb,hn⟩,h1,h2,rfl, ?_⟩
 intro w G ι vs hamb hG ok hrp
 have hpost:∀j,bq false (args.map .pv) [] [x] j=.dead:=by
  intro j
  unfold bq
  rw[h4]
  show ez (args.map .pv) [] j=.dead
  unfold ez
  rw[List.getElem?_map]
  cases args[j]? <;>rfl
 have hno2:∀(ι:Nat→Loc) B,¬Held (bq false (args.map .pv) [] [x]) ι B:=by
  rintro ι B ⟨id,ho⟩
  rw[hpost]at ho;exact ho
 refine(h w _ G vs hamb.ok (hrep w _ G ι args vs 0 hrp)).mono ?_
 rintro e w' ⟨rfl,hw⟩
 refine⟨v,ι,rfl,fun _ _=>LocEq.refl _,⟨hw.os,hw.tape,hw.output,hw.size,fun k hk _=>hw.block k hk,fun q=>by rw[NoQ.no]at q;cases q⟩,⟨fun id=>by rw[hpost];trivial,fun id _ B ho=>by rw[hpost]at ho;exact ho.elim⟩, ?_⟩
 rw[h3]
 exact h5 _ _ _
def B6 (x:PV):Value:=(zx x).getD undef
theorem xT {w:World} {F G:Nat→Prop} {x:PV} (h:(zx x).isSome=true):RepP w F G x (B6 x)∧(B6 x).oneCell'=true:=by
 cases x with
 |int k n=>exact⟨by simp only[B6,zx,Option.getD_some,RepP],rfl⟩
 |bool b=>exact⟨by simp only[B6,zx,Option.getD_some,RepP],rfl⟩
 |str s=>exact⟨by simp only[B6,zx,Option.getD_some,RepP],rfl⟩
 |_=>simp[zx]at h
theorem Fun.of_row [NoQ] {P:Program} {f:FuncId} {args xs:List PV} {fn:Func} (e:TypeId) (hf:P.funcs[f]? =some fn) (hb:fn.body.isSome=true) (hn:(fn.name== "runtime.NumGoroutine")=false) (hnr:noRoL xs=true) (hx:∀x∈xs,(zx x).isSome=true)
  (h:∀(w:World) (F G:Nat→Prop) (vs:List Value),(∀B o,Amb.tb B=some o→w.heap[B]? =some o)→RepL w F G args vs→Calls P f ⟨vs⟩ w fun ex w'=>∃v,ex=.returned v∧w'.ownsRow w.heap.size e 1 v xs.length (xs.map B6)∧Go.RowKit.Below w.heap.size w w'):Fun P f args [.sl .own xs]:=by
 have hrep:∀(w:World) (F G:Nat→Prop) (ι:Nat→Loc) (l:List PV) (vs:List Value) (k:Nat),RepAL w F G ι (bK k (l.map .pv)) vs→RepL w F G l vs:=by
  intro w F G ι l
  induction l with
  |nil=>intro vs k h;simpa[bK,RepAL,RepL]using h
  |cons x l ih=>
   intro vs k h
   simp only[List.map_cons,bK,Arg.av,RepAL,RepA]at h
   obtain⟨v,vs',rfl,h1,h2⟩:=h
   simp only[RepL]
   exact⟨v,vs',rfl,h1,ih _ _ h2⟩
 refine⟨⟨fn,hf,hb,hn⟩,by simp only[noRoL,noRo,hnr,Bool.and_true],rfl,rfl, ?_⟩
 intro w G ι vs hamb hG ok hrp
 have hpost:∀j,bq false (args.map .pv) [] [.sl .own xs] j=if j=(args.map Arg.pv).length then .live false xs else .dead:=by
  intro j
  show(if j=(args.map Arg.pv).length then Blk.live false xs else ez (args.map .pv) [] j)=_
  have:ez (args.map .pv) [] j=.dead:=by
   unfold ez
   rw[List.getElem?_map]
   cases args[j]? <;>rfl
  rw[this]
 refine(h w _ G vs hamb.ok (hrep w _ G ι args vs 0 hrp)).mono ?_
 rintro ex w' ⟨v,rfl,⟨hlen,ho⟩,hw⟩
 have hio:impAll (args.map Arg.pv).length [.sl .own xs]=.ref (args.map Arg.pv).length 0 xs.length:=by simp[impAll,imp,imp1]
 have keep:Keep w w' (eD (args.map .pv) ι):=⟨hw.os,hw.tape,hw.output,hw.size,fun k hk _=>hw.block k hk,fun q=>by rw[NoQ.no]at q;cases q⟩
 have own1:∀(l:Loc) id B,owns (bq false (args.map .pv) [] [.sl .own xs] id) (if id=(args.map Arg.pv).length then l else ι id) B→id=(args.map Arg.pv).length:=by
  intro l id B ho
  rw[hpost]at ho
  split at ho
  ·assumption
  ·exact ho.elim
 have fin:∀(l:Loc),(okB w' (Held (bq false (args.map .pv) [] [.sl .own xs]) fun j=>if j=(args.map Arg.pv).length then l else ι j) G (Org w.heap.size (eD (args.map .pv) ι) G) (.live false xs) l)→
   RepA w' (Held (bq false (args.map .pv) [] [.sl .own xs]) fun j=>if j=(args.map Arg.pv).length then l else ι j) G (fun j=>if j=(args.map Arg.pv).length then l else ι j) (.ref (args.map Arg.pv).length 0 xs.length) v→
   ∃v1 ι',Ending.returned v=.returned v1∧(∀j,j<(args.map Arg.pv).length→LocEq (ι j) (ι' j))∧Keep w w' (eD (args.map .pv) ι)∧
    HeapOk w' w.heap.size (eD (args.map .pv) ι) G (bq false (args.map .pv) [] [.sl .own xs]) ι'∧RepA w' (Held (bq false (args.map .pv) [] [.sl .own xs]) ι') G ι' (impAll (args.map Arg.pv).length [.sl .own xs]) v1:=by
  intro l h1 h2
  refine⟨v,fun j=>if j=(args.map Arg.pv).length then l else ι j,rfl,fun j hj=>LocEq.of_eq (if_neg (by omega)),keep,⟨fun id=> ?_,fun id id' B ho ho'=> ?_⟩,by rw[hio];exact h2⟩
  ·by_cases e:id=(args.map Arg.pv).length
   ·rw[hpost,if_pos e,if_pos e];exact h1
   ·rw[hpost,if_neg e];trivial
  ·rw[own1 l id B ho,own1 l id' B ho']
 rcases ho with⟨rfl,h0⟩|⟨g,cap,cur,rfl,hg,hcell,hle,hmax,hsz,htake⟩
 ·refine fin ⟨0,0,0,0,bC⟩ ⟨by simp[h0],Nat.zero_le _,.inl rfl⟩ ?_
  simp only[RepA]
  exact⟨none,0,by rw[h0],by omega,by simp,by simp,.inl rfl⟩
 ·have hsz':cur.size=cap:=by simpa using hsz
  refine fin ⟨g,0,cap,0,bC⟩ ⟨hle,hmax,.inr ⟨⟨cur,e,0,0,hcell,by simp;omega,.inl (Nat.le_refl _)⟩, ?_,.inl ⟨hg,hG g hg⟩⟩⟩ ?_
  ·rw[bD]
   intro j x hj
   have hlt:=(List.getElem?_eq_some_iff.1 hj).1
   have hmem:=List.mem_of_getElem? hj
   have h3:cur[j]? =some (B6 x):=by
    have h4:(cur.toList.take (xs.length*1))[j]? =(xs.map B6)[j]? :=by rw[htake]
    rw[List.getElem?_take,if_pos (by omega),List.getElem?_map,hj]at h4
    simpa using h4
   refine⟨B6 x, ?_,(xT (w:=w') (F:=fun _=>False) (G:=G) (hx x hmem)).2,(xT (hx x hmem)).1⟩
   rw[cell?_eq0]
   simp only[Nat.zero_add,hcell]
   exact h3
  ·simp only[RepA]
   exact⟨_,cap,rfl,hle,by simp,by simpa using hmax,.inr (by simp)⟩
theorem uy {w:World} {F G:Nat→Prop} {s:List UInt8} {v:Value} (h:RepP w F G (.str s) v):v=.string ⟨s.toArray⟩:=by simpa only[RepP]using h
theorem wr {w:World} {F G:Nat→Prop} {k:IntKind} {n:Int} {v:Value} (h:RepP w F G (.int k n) v):v=.int k n:=by simpa only[RepP]using h
theorem B3 {w:World} {F G:Nat→Prop} {o:Fl} {l:List (List UInt8)} {v:Value} (h:RepP w F G (.sl o (l.map .str)) v) (hl:l≠[]):
  ∃B off cap,v=.slice (some ⟨B,off,none⟩) l.length cap∧l.length≤cap∧cap≤maxLen∧B<w.heap.size∧∀(j:Nat) (x:ByteArray),(l.map fun s=>(⟨s.toArray⟩:ByteArray))[j]? =some x→w.cell? ⟨B,off+j,none⟩=some (.string x):=by
 simp only[RepP]at h
 obtain⟨a,cap,rfl,h1,h2,_,h3⟩:=h
 rcases h3 with h3|⟨B,off,rfl,_,_,hc⟩
 ·simp at h3;exact absurd h3 hl
 ·rw[bD]at hc
  have hcell:∀(j:Nat) (x:ByteArray),(l.map fun s=>(⟨s.toArray⟩:ByteArray))[j]? =some x→w.cell? ⟨B,off+j,none⟩=some (.string x):=by
   intro j x hj
   rw[List.getElem?_map,Option.map_eq_some_iff]at hj
   obtain⟨s,hs,rfl⟩:=hj
   obtain⟨u,hu,_,hr⟩:=hc j (.str s) (by rw[List.getElem?_map,hs];rfl)
   rw[uy hr]at hu
   exact hu
  refine⟨B,off,cap,by simp,by simpa using h1,h2, ?_,hcell⟩
  cases l with
  |nil=>exact absurd rfl hl
  |cons s l=>
   have:=hcell 0 ⟨s.toArray⟩ rfl
   rw[cell?_eq0]at this
   split at this
   ·rename_i c _ _ hb;exact(Array.getElem?_eq_some_iff.1 hb).1
   ·cases this
theorem B5 {w:World} {F G:Nat→Prop} {o:Fl} {v:Value} (h:RepP w F G (.sl o []) v):∃a cap,v=.slice a 0 cap:=by
 simp only[RepP]at h
 obtain⟨a,cap,rfl,_⟩:=h
 exact⟨a,cap,rfl⟩
section
variable {P:Program} {sg:FuncId→List Bool} {h:Nat→Blk} {k:Nat} {C:R→Prop} {S:St}
def WD (x:PV) (rd:List Nat) (K:List Arg→List Nat→List (Option (Nat×Option Nat))→Prop) (as:List Arg) (rd':List Nat) (ms:List (Option (Nat×Option Nat))):Prop:=K (.pv x::as) (rd++rd') (none::ms)
def PAP (h:Nat→Blk) (fs:List Bool) (vs:List AV) (K:List Arg→List Nat→List (Option (Nat×Option Nat))→Prop) (x:PV) (rd:List Nat):Prop:=pass h fs vs (WD x rd K)
theorem Zb {fs:List Bool} {x:PV} {vs:List AV} {K:List Arg→List Nat→List (Option (Nat×Option Nat))→Prop}:pass h (false::fs) (.p x::vs) K=pass h fs vs (WD x.cell [] K):=_root_.id rfl
theorem KL {fs:List Bool} {id o l:Nat} {vs:List AV} {K:List Arg→List Nat→List (Option (Nat×Option Nat))→Prop}:pass h (false::fs) (.ref id o l::vs) K=ou (h id) id o l (PAP h fs vs K):=by
 simp only[pass,uD,iA,ou,List.tail_cons];cases h id<;>rfl
theorem KM {fs:List Bool} {id r o l:Nat} {vs:List AV} {K:List Arg→List Nat→List (Option (Nat×Option Nat))→Prop}:pass h (false::fs) (.inn id r o l::vs) K=AL (h id) id r o l (PAP h fs vs K):=by
 simp only[pass,uD,iA,AL,List.tail_cons];cases h id<;>rfl
theorem KJ {fs:List Bool} {vs:List AV} {K:List Arg→List Nat→List (Option (Nat×Option Nat))→Prop} {x:PV} {rd:List Nat}:PAP h fs vs K x rd=pass h fs vs (WD x rd K):=_root_.id rfl
theorem KK {x:PV} {rd rd':List Nat} {K:List Arg→List Nat→List (Option (Nat×Option Nat))→Prop} {as:List Arg} {ms:List (Option (Nat×Option Nat))}:WD x rd K as rd' ms=K (.pv x::as) (rd++rd') (none::ms):=_root_.id rfl
theorem aD {α:Type} {g:α→PV} {l:List α} {f:FuncId} {c:List PV} {a:PV} {rd:List Nat} {id:Nat}
  (hf:CallT P true f [.pv a,.mu false c] [none,none] [.sl .own (l.map g)]) (hid:id∉rd)
  (hc:C ⟨.ref k 0 l.length,[(id,.dead),(k,.live (qw (h id)) (l.map g))],id::rd⟩):Pk P h k f C [.pv a,.mu false c] rd [none,some (id,none)]:=by
 refine⟨⟨by simp[cF],by simpa[cF]using hid⟩,true,_,_,hf,qw (h id),fun e1 _ i hi=>(by simp[cF]at hi;subst hi;exact e1), ?_⟩
 have e1:impAll k [.sl .own (l.map g)]=.ref k 0 l.length:=by simp[impAll,imp,imp1]
 have e2:ed none (some none) (h id)=.dead:=o4
 rw[e1]
 simpa[dy,cF,impWs,impW,impW1,e2]using hc
theorem aC {α:Type} {g:α→PV} {l:List α} {f:FuncId} {c:List PV} {a b:PV} {rd:List Nat} {id:Nat}
  (hf:CallT P true f [.pv a,.pv b,.mu false c] [none,none,none] [.sl .own (l.map g)]) (hid:id∉rd)
  (hc:C ⟨.ref k 0 l.length,[(id,.dead),(k,.live (qw (h id)) (l.map g))],id::rd⟩):Pk P h k f C [.pv a,.pv b,.mu false c] rd [none,none,some (id,none)]:=by
 refine⟨⟨by simp[cF],by simpa[cF]using hid⟩,true,_,_,hf,qw (h id),fun e1 _ i hi=>(by simp[cF]at hi;subst hi;exact e1), ?_⟩
 have e1:impAll k [.sl .own (l.map g)]=.ref k 0 l.length:=by simp[impAll,imp,imp1]
 have e2:ed none (some none) (h id)=.dead:=o4
 rw[e1]
 simpa[dy,cF,impWs,impW,impW1,e2]using hc
theorem aB {α:Type} {g:α→PV} {l:List α} {f:FuncId} {c:List PV} {a b b':PV} {rd:List Nat} {id:Nat}
  (hf:CallT P true f [.pv a,.pv b,.pv b',.mu false c] [none,none,none,none] [.sl .own (l.map g)]) (hid:id∉rd)
  (hc:C ⟨.ref k 0 l.length,[(id,.dead),(k,.live (qw (h id)) (l.map g))],id::rd⟩):Pk P h k f C [.pv a,.pv b,.pv b',.mu false c] rd [none,none,none,some (id,none)]:=by
 refine⟨⟨by simp[cF],by simpa[cF]using hid⟩,true,_,_,hf,qw (h id),fun e1 _ i hi=>(by simp[cF]at hi;subst hi;exact e1), ?_⟩
 have e1:impAll k [.sl .own (l.map g)]=.ref k 0 l.length:=by simp[impAll,imp,imp1]
 have e2:ed none (some none) (h id)=.dead:=o4
 rw[e1]
 simpa[dy,cF,impWs,impW,impW1,e2]using hc
def WC (K:List Arg→List Nat→List (Option (Nat×Option Nat))→Prop) (as:List Arg) (rd:List Nat) (ms:List (Option (Nat×Option Nat))):Prop:=K (.pv (.sl .own [])::as) rd (none::ms)
theorem Kw {sg:List Bool} {vs:List AV} {K:List Arg→List Nat→List (Option (Nat×Option Nat))→Prop}:pass h (true::sg) (.p (.sl .own [])::vs) K=pass h sg vs (WC K):=by simp only[pass];rfl
theorem Kx {vs:List AV} {K:List Arg→List Nat→List (Option (Nat×Option Nat))→Prop}:pass h [] vs (WC K)=o0 h vs (PQ (WC K)):=kO
theorem RC {K:List Arg→List Nat→List (Option (Nat×Option Nat))→Prop} {as:List Arg} {rd:List Nat} {ms:List (Option (Nat×Option Nat))}:WC K as rd ms=K (.pv (.sl .own [])::as) rd (none::ms):=_root_.id rfl
theorem de {f:FuncId} {a b:PV} {res:List PV} {rd:List Nat} {v:AV} {ws:List (Nat×Blk)} (hf:Fun P f [a,b] res) [i:ImpA k res v ws] (hc:C ⟨v,ws,rd⟩):Pk P h k f C [.pv a,.pv b] rd [none,none]:=au (xs:=[a,b]) hf hc
theorem aA {α:Type} {g:α→PV} {L:List (List α)} {f:FuncId} {c:List PV} {as:List Arg} {os:List (Option (List PV))} {rd:List Nat} {ms:List (Option (Nat×Option Nat))} {id:Nat}
  (hf:CallT P true f (.mu false c::as) (none::os) [.dl (L.map (List.map g))]) (hn:(ms.all Option.isNone)=true) (hid:id∉rd)
  (hc:C ⟨.ref k 0 L.length,[(id,.dead),(k,dk g (qw (h id)) L)],id::rd⟩):Pk P h k f C (.mu false c::as) rd (some (id,none)::ms):=by
 refine kL hf hn hid ?_
 simp only[List.getElem?_cons_zero]
 have e1:impAll k [.dl (L.map (List.map g))]=.ref k 0 L.length:=by simp[impAll,imp,imp1]
 have e2:impWs (true&&qw (h id)) k [.dl (L.map (List.map g))]=[(k,dk g (qw (h id)) L)]:=by simp[impWs,impW,impW1,dk]
 rw[e1,e2]
 exact hc
theorem JB {tk:Bool} {as:List Arg} {ts:List Nat} {xs:List PV} {ex:Ex} {os:List (Option (List PV))} (hx:ex=.ret∨ex=.normal)
  (ho:(os.all Option.isNone)=true) (hf:cW tk S.h as.length (ts.map S.e) xs F0):rM tk as os ts xs ex S:=by
 have key:sN tk S as os (ts.map S.e) xs:=by
  unfold sN
  refine Eq.mp (congrArg (cW tk S.h as.length (ts.map S.e) xs) ?_) hf
  funext L
  simp only[F0]
  apply propext
  constructor
  ·intro h1
   refine⟨h1,fun j hj=> ?_⟩
   split
   ·rename_i c0 _ hc0
    have:=List.all_eq_true.1 ho _ (List.mem_of_getElem? hc0)
    simp at this
   ·trivial
  ·exact fun h=>h.1
 rcases hx with rfl|rfl<;>exact key
def InnL (v w:AV) (r len:Nat):Prop:=
 match v,w with
 | .inn id r' 0 len',.ref id' _ _=>id=id'∧r'=r∧len'=len
 |_,_=>False
theorem InnL.out {v w:AV} {r len i o l:Nat} (hv:InnL v w r len) (e:w=.ref i o l):v=.inn i r 0 len:=by
 subst e
 unfold InnL at hv
 split at hv
 ·rename_i e;cases e;obtain⟨rfl,rfl,rfl⟩:=hv;rfl
 ·exact hv.elim
theorem Mz {id id' r r' len len' o l:Nat}:InnL (.inn id r' 0 len') (.ref id' o l) r len=(id=id'∧r'=r∧len'=len):=_root_.id rfl
variable {α:Type} {f:α→PV} {m:Bool} {L:List (List α)} {cs:List Nat}
def dq (f:α→PV) (m:Bool) (cs:List Nat) (L:List (List α)):Blk:=.deep m (cs.map .row) (L.map fun l=>some (l.map f))
theorem abp:dk f m L=dq f m (List.range L.length) L:=_root_.id rfl
theorem S6 {id off:Nat}:rE (dq f m cs L) id off C=(off<cs.length∧C ⟨DC.av id (L.map fun l=>some (l.map f)) (.row (cs.getD off 0)),[],[id]⟩):=by
 simp only[rE,dq,gt,Int.toNat_natCast,Int.natCast_nonneg,true_and,KD,List.getElem?_map]
 by_cases ho:off<cs.length
 ·rw[List.getElem?_eq_getElem ho,List.getD_eq_getElem?_getD,List.getElem?_eq_getElem ho]
  simp[ho]
 ·rw[List.getElem?_eq_none (by omega)];simp[ho]
theorem aay {id r:Nat} (hr:r<L.length):DC.av id (L.map fun l=>some (l.map f)) (.row r)=.inn id r 0 (L.getD r []).length:=by
 simp only[DC.av,dx hr,List.length_map]
theorem Tv {id r off len:Nat} {F:PV→List Nat→Prop}:AL (dq f m cs L) id r off len F=(r<L.length∧off+len≤(L.getD r []).length∧F (.sl (.lent true) ((((L.getD r []).map f).drop off).take len)) [id]):=by
 simp only[AL,dq]
 by_cases hr:r<L.length
 ·rw[dx hr];simp only[hr,true_and,List.length_map];rfl
 ·rw[List.getElem?_eq_none (by simp;omega)];simp[hr]
def We (b:Blk) (id off j r len:Nat) (C:R→Prop):Prop:=
 match b with
 | .deep m cs rs=>j=id∧off<cs.length∧(match rs[r]? with
  |some (some c)=>len=c.length∧C ⟨.p .any,[(id,.deep m (cs.set off (.row r)) rs)],[id]⟩
  |_=>False)
 |_=>False
theorem xA {id off j r len:Nat} (hq:We (h id) id off j r len C):v7 (some (1,false)) h (.ptr id off) (.inn j r 0 len) C:=by
 unfold We at hq
 simp only[v7]
 split at hq
 ·rename_i m cs rs hb
  obtain⟨rfl,ho,hq⟩:=hq
  rw[hb]
  simp only[fe,ic,lU,if_true,true_and]
  split at hq
  ·rename_i c hr
   rw[hr]
   obtain⟨h1,h2⟩:=hq
   refine⟨h1,(by first|rfl|omega|(simp;done)|(simp;omega)),(by first|rfl|omega|(simp;done)|(simp;omega)), ?_⟩
   have e:=c4 (v:=DC.row r) ho
   simpa only[List.nil_append,List.append_nil,e]using h2
  ·exact hq.elim
 ·exact hq.elim
theorem JS {id off j r len:Nat}:We (dq f m cs L) id off j r len C=(j=id∧off<cs.length∧r<L.length∧len=(L.getD r []).length∧C ⟨.p .any,[(id,dq f m (cs.set off r) L)],[id]⟩):=by
 simp only[We,dq,List.length_map]
 by_cases hr:r<L.length
 ·rw[dx hr]
  simp only[hr,true_and,List.length_map,List.map_set]
 ·rw[List.getElem?_eq_none (by simp;omega)];simp[hr]
def dqc (f:α→PV) (m:Bool) (cs:List Nat) (z:Nat) (L:List (List α)):Blk:=.deep m (cs.map .row++List.replicate z (.v (.sl .own []))) (L.map fun l=>some (l.map f))
theorem U6 {q id off len:Nat}:U7 (some (q,.sl (.lent false) [])) (dq f m cs L) id off len C=(off+len≤cs.length∧C ⟨.p .any,[(id,.deep m ((cs.map .row).take off++List.replicate len (.v (.sl .own []))++(cs.map .row).drop (off+len)) (L.map fun l=>some (l.map f)))],[id]⟩):=by
 simp only[U7,dq,List.length_map,Fl.lent,cond_false,true_and]
theorem aab {off len:Nat} (he:off+len=cs.length):Blk.deep m ((cs.map .row).take off++List.replicate len (.v (.sl .own []))++(cs.map .row).drop (off+len)) (L.map fun l=>some (l.map f))=dqc f m (cs.take off) len L:=by
 rw[List.drop_of_length_le (by simp;omega),List.append_nil,←List.map_take];rfl
theorem Z1 {F:List (Nat×Nat×Pl)→Prop} {tk:Bool} {id z:Nat} {rows:List (List PV)} (hm:m=true→tk=true) (hc:∀r∈cs,r<L.length) (hn:cs.Nodup) (hr:rows=(cs.map fun r=>(L.getD r []).map f)) (hF:F [(k,id,.d 0 (cs.map some))]):wb (dqc f m cs z L) tk k id 0 cs.length rows F:=by
 simp only[wb,dqc,Nat.zero_add,List.drop_zero,List.length_append,List.length_map,List.length_replicate]
 refine⟨by omega,hm,cs.map some, ?_, ?_,hF⟩
 ·rw[List.take_append_of_le_length (by simp),List.take_of_length_le (by simp)]
  subst hr
  refine kM (fun i hi=>⟨cs[i],List.getElem?_eq_getElem hi, ?_⟩) (by simp)
  rw[dx (hc _ (List.getElem_mem hi)),List.getElem?_map,List.getElem?_eq_getElem hi];rfl
 ·rw[List.filterMap_map]
  simpa[Function.comp_def]using hn
end
def FT (_:List (Nat×Nat×Pl)):Prop:=True
theorem T7 {h:Nat→Blk} {k id off len:Nat} {rows:List (List PV)}:cW true h k [.ref id off len] [.dl rows] F0=wb (h id) true k id off len rows FT:=by
 simp only[cW,fin,dt,wb]
 cases h id with
 |deep m cs rs=>simp[F0,FT]
 |_=>rfl
theorem T6 {L:List (Nat×Nat×Pl)}:FT L=True:=_root_.id rfl
theorem Ue {α:Type} {f:α→PV} {m:Bool} {cs:List Nat} {L:List (List α)}:qw (dq f m cs L)=m:=_root_.id rfl
attribute [go_sem] Kw Kx RC T7 T6 Ue Zb KL KM KJ KK Mz S6 Tv JS U6
end Go.Gl
namespace Go.Gl
open Go
variable [Amb]
class Stp (A:Prop) (B:outParam Prop):Prop where
 h:B→A
theorem EQ {A B:Prop} [s:Stp A B] (h:B):A:=s.h h
class FinX (ex:Ex):Prop where
 h:ex=.ret∨ex=.normal
instance:FinX .ret:=⟨.inl rfl⟩
instance:FinX .normal:=⟨.inr rfl⟩
section
variable {P:Program} {sg:FuncId→List Bool} {Q:Ex→St→Prop} {S:St}
instance {a b:Code}:Stp (iI P sg (.seq a b) Q S) (iI P sg a (ut P sg b Q) S):=⟨PH⟩
instance:Stp (iI P sg .skip Q S) (Q .normal S):=⟨Jx⟩
instance {id:Nat}:Stp (iI P sg (.exit id) Q S) (Q (.exit id) S):=⟨JF⟩
instance:Stp (iI P sg .ret Q S) (Q .ret S):=⟨PI⟩
instance {id:Nat} {c:Code}:Stp (iI P sg (.block id c) Q S) (iI P sg c (q0 id Q) S):=⟨EM⟩
instance {b:Code}:Stp (ut P sg b Q .normal S) (iI P sg b Q S):=⟨Fg⟩
instance {b:Code} {id:Nat}:Stp (ut P sg b Q (.exit id) S) (Q (.exit id) S):=⟨Fh⟩
instance {b:Code}:Stp (ut P sg b Q .ret S) (Q .ret S):=⟨Ff⟩
instance {id:Nat}:Stp (q0 id Q .normal S) (Q .normal S):=⟨Fk⟩
instance {id:Nat}:Stp (q0 id Q .ret S) (Q .ret S):=⟨Fj⟩
instance {id:Nat}:Stp (q0 id Q (.exit id) S) (Q .normal S):=⟨Fi⟩
instance {I:Nat→St→Prop} {n id:Nat}:Stp (L7 I n Q (.exit id) S) (Q (.exit id) S):=⟨Kl⟩
instance {I:Nat→St→Prop} {n:Nat}:Stp (L7 I n Q .ret S) (Q .ret S):=⟨Kk⟩
instance {i o l l':Nat}:Stp (AV.ref i o l=AV.ref i o l') (l=l'):=⟨Ke⟩
instance {m:Bool} {α:Type} {f:α→PV} {l l':List α}:Stp (Blk.live m (l.map f)=Blk.live m (l'.map f)) (l=l'):=⟨Gq⟩
instance {kd:IntKind} {a b:Int}:Stp (AV.p (.int kd a)=AV.p (.int kd b)) (a=b):=⟨My⟩
instance {a b:Bool}:Stp (AV.p (.bool a)=AV.p (.bool b)) (a=b):=⟨Is⟩
instance {a b:List UInt8}:Stp (AV.p (.str a)=AV.p (.str b)) (a=b):=⟨JR⟩
instance {o:Fl} {α:Type} {f:α→PV} {l l':List α}:Stp (AV.p (.sl o (l.map f))=AV.p (.sl o (l'.map f))) (l=l'):=⟨Rb⟩
instance {α:Type} {f:α→PV} {l l':List α}:Stp (l.map f=l'.map f) (l=l'):=⟨Sy⟩
instance {α:Type} {f:α→PV} {m:Bool} {L L':List (List α)}:Stp (dk f m L=dk f m L') (L=L'):=⟨UV⟩
theorem sP {as:List Arg} {xs:List PV} {ts:List Nat} {ex:Ex} [x:FinX ex] (hf:cW false S.h as.length (ts.map S.e) xs F0):vY as ts xs ex S:=PJ x.h hf
theorem oQ {as:List Arg} {t ty:Nat} {xs:List PV} {ex:Ex} [x:FinX ex] (hf:dZ P ty S.h (S.e t) (FC S as xs)):IK P as [.cell t ty] xs ex S:=JE x.h hf
theorem oO {tk:Bool} {as:List Arg} {ts:List Nat} {xs:List PV} {ex:Ex} {os:List (Option (List PV))} [x:FinX ex] (ho:(os.all Option.isNone)=true) (hf:cW tk S.h as.length (ts.map S.e) xs F0):rM tk as os ts xs ex S:=JB x.h ho hf
theorem oP {tk:Bool} {c c':List PV} {as:List Arg} {ts:List Nat} {xs:List PV} {ex:Ex} {p:Bool} {os:List (Option (List PV))} [x:FinX ex] (ho:(os.all Option.isNone)=true) (hl:S.h 0=tA true c') (hf:cW tk S.h (as.length+1) (ts.map S.e) xs F1):rM tk (.mu p c::as) (some c'::os) ts xs ex S:=JC x.h ho hl hf
theorem EL {c:List PV} {as:List Arg} {ts:List Nat} {xs:List PV} {ex:Ex} {p:Bool} {os:List (Option (List PV))} [x:FinX ex] (ho:(os.all Option.isNone)=true) (hf:cW true S.h (as.length+1) (ts.map S.e) xs F0):rM true (.mu p c::as) os ts xs ex S:=JA x.h ho hf
end
theorem hcs:(∀(p:Prop) [Decidable p],(decide p=true)=p)∧(∀(p:Prop) [Decidable p],(decide p=false)=¬p)∧(∀a b:Bool,((a&&b)=true)=(a=true∧b=true))∧(∀a b:Bool,((a||b)=true)=(a=true∨b=true))∧
  (∀a b:Bool,((a&&b)=false)=(a=false∨b=false))∧(∀a b:Bool,((a||b)=false)=(a=false∧b=false))∧(∀a:Bool,((!a)=true)=(a=false))∧(∀a:Bool,((!a)=false)=(a=true))∧(∀a b:Int,(¬a<b)=(b≤a))∧(∀a b:Int,(¬a≤b)=(b<a)):=
 ⟨fun p _=>by simp,fun p _=>by simp,fun a b=>by simp,fun a b=>by simp,fun a b=>by cases a<;>simp,fun a b=>by simp,fun a=>by simp,fun a=>by simp,fun a b=>by simp,fun a b=>by simp⟩
theorem tF:(∀(α:Type) (a b:List α),(a++b).length=a.length+b.length)∧(∀(α:Type) (x:α) (l:List α),(x::l).length=l.length+1)∧(∀α:Type,([]:List α).length=0)∧(∀(α:Type) (l:List α) (i:Nat) (x:α),(l.set i x).length=l.length)∧
  (∀(α:Type) (l:List α) (i:Nat),(l.take i).length=min i l.length)∧(∀(α:Type) (l:List α) (i:Nat),(l.drop i).length=l.length - i)∧(∀(α β:Type) (f:α→β) (l:List α),(l.map f).length=l.length)∧(∀(α:Type) (n:Nat) (x:α),(List.replicate n x).length=n):=
 ⟨fun _ _ _=>by simp,fun _ _ _=>by simp,fun _=>by simp,fun _ _ _ _=>by simp,fun _ _ _=>by simp,fun _ _ _=>by simp,fun _ _ _ _=>by simp,fun _ _ _=>by simp⟩
theorem nrs:noRoLL []=true∧noRoL []=true∧(∀x xs,noRoL (x::xs)=(noRo x&&noRoL xs)):=⟨rfl,rfl,fun _ _=>rfl⟩
attribute [go_sem] nrs Option.all_some Option.all_none Bool.and_self FW Cv FU FV uJ FX ya FO Cs Ld FQ FP IS Ct IT
end Go.Gl
namespace Go.Gl
open Go
variable [Amb]
section
variable {P:Program} {sg:FuncId→List Bool} {h:Nat→Blk} {k:Nat} {ρ:Operand→AV} {C:R→Prop} {t t':TypeId} {x y:Operand}
variable {m:Bool} {cs:List DC} {rs:List (Option (List PV))}
def tZ:List (Nat×Operand)→Option (List Nat)→Bool:=fun ps q=>decide (ps.length<(q.getD []).length)
theorem Sk {n zz:Bool} {parts:Array (Nat×Operand)}:iw P n true zz (.build t parts)=tZ parts.toList (bi P t):=by simp[iw,tZ]
theorem aar {p:Nat×Operand} {ps:List (Nat×Operand)} {y:Nat} {ys:List Nat}:tZ (p::ps) (some (y::ys))=tZ ps (some ys):=by simp[tZ]
theorem aas {y:Nat} {ys:List Nat}:tZ [] (some (y::ys))=true:=by simp[tZ]
theorem aaq {ps:List (Nat×Operand)}:tZ ps (some [])=false:=by simp[tZ]
def agG (s:Option (Nat×Bool)):Bool:=match s with|some (_,true)=>true|_=>false
theorem VQ:En P t=agG (bc P t):=_root_.id rfl
theorem aaH {n:Nat}:agG (some (n,true))=true:=_root_.id rfl
theorem aaI {n:Nat}:agG (some (n,false))=false:=_root_.id rfl
theorem PG:rD P ρ h k (.alloc t) C=lR P t k C:=_root_.id rfl
theorem Pz:rD P ρ h k (.box t x) C=Om h k (ρ x) C:=_root_.id rfl
theorem PD {parts:Array (Nat×Operand)}:rD P ρ h k (.build t parts) C=lP P t (parts.toList.map fun p=>(p.1,ρ p.2)) k C:=_root_.id rfl
def VM (s:Option (List PV)) (k:Nat) (C:R→Prop):Prop:=
 match s with
 |some xs=>xs≠[]∧xs.length≤1000000∧xs.all iY=true∧C ⟨.ptr k 0,[(k,.deep false (xs.map fun _=>.v (.sl .own [])) [])],[]⟩
 |none=>False
theorem V5:lR P t k C=VM (bh P t) k C:=_root_.id rfl
theorem aaO:VM (some [.sl (.lent false) [],.sl (.lent false) []]) k C=C ⟨.ptr k 0,[(k,.deep false [.v (.sl .own []),.v (.sl .own [])] [])],[]⟩:=by simp[VM,iY,Fl.lent]
theorem aaN:VM (some [.sl (.lent false) [],.sl (.lent false) [],.sl (.lent false) []]) k C=C ⟨.ptr k 0,[(k,.deep false [.v (.sl .own []),.v (.sl .own []),.v (.sl .own [])] [])],[]⟩:=by simp[VM,iY,Fl.lent]
def uK (p:Option (List Nat)) (z:Option (List PV)):Option (List Nat×Nat):=
 match p,z with
 |some places,some zs=>if zs.all iY=true then some (places,zs.length)else none
 |_,_=>none
def Vh (s:Option (List Nat×Nat)) (parts:List (Nat×AV)) (k:Nat) (K:R→Prop):Prop:=
 match s with
 |some (places,n)=>n≤64∧eY places ((List.range n).map fun i=>.ref (k+i) 0 0) parts fun cs=>K ⟨.agg cs,jn k n,[]⟩
 |none=>False
theorem aat {parts:List (Nat×AV)}:lP P t parts k C=Vh (uK (bi P t) (bh P t)) parts k C:=_root_.id rfl
theorem Ze {pl:List Nat}:uK (some pl) (some [.sl (.lent false) [],.sl (.lent false) []])=some (pl,2):=by simp[uK,iY,Fl.lent]
theorem Zd {pl:List Nat}:uK (some pl) (some [.sl (.lent false) [],.sl (.lent false) [],.sl (.lent false) []])=some (pl,3):=by simp[uK,iY,Fl.lent]
def FN (ws:List (Nat×Blk)) (C:R→Prop) (cs:List AV):Prop:=C ⟨.agg cs,ws,[]⟩
theorem Ub {ws:List (Nat×Blk)} {cs:List AV}:FN ws C cs=C ⟨.agg cs,ws,[]⟩:=_root_.id rfl
theorem aav {pl:List Nat} {parts:List (Nat×AV)}:Vh (some (pl,2)) parts k C=eY pl [.ref k 0 0,.ref (k+1) 0 0] parts (FN [(k,.live false []),(k+1,.live false [])] C):=by
 simp[Vh,jn,List.range_succ,FN];rfl
theorem aau {pl:List Nat} {parts:List (Nat×AV)}:Vh (some (pl,3)) parts k C=eY pl [.ref k 0 0,.ref (k+1) 0 0,.ref (k+2) 0 0] parts (FN [(k,.live false []),(k+1,.live false []),(k+2,.live false [])] C):=by
 simp[Vh,jn,List.range_succ,FN];rfl
theorem CZ {id off n:Nat}:S8 (.deep m cs rs) id off n C=(off+n≤cs.length∧C ⟨.agg (((cs.drop off).take n).map (DC.av id rs)),[],[id]⟩):=_root_.id rfl
theorem Bs {n id off:Nat} {v:AV}:Wf (.deep m cs rs) h n id off v C=ic h m id (fe v) rs (STD m n id off cs C):=_root_.id rfl
theorem JT {n id off:Nat} {xs:List DC} {ws:List (Nat×Blk)} {rd:List Nat}:STD m n id off cs C xs rs ws rd=(xs.length=n∧off+n≤cs.length∧C ⟨.p .any,ws++[(id,.deep m (cs.take off++xs++cs.drop (off+n)) rs)],id::rd⟩):=_root_.id rfl
theorem IG {vs:List AV}:fe (.agg vs)=vs:=_root_.id rfl
theorem VP {xs:List PV}:fe (.p (.agg xs))=xs.map .p:=_root_.id rfl
def avO (id r:Nat):Option (Option (List PV))→AV
 |some (some c)=>.inn id r 0 c.length
 |_=>.p .any
theorem aax {id:Nat} {v:PV}:DC.av id rs (.v v)=.p v:=_root_.id rfl
theorem aaz {id r:Nat}:DC.av id rs (.row r)=avO id r rs[r]? :=by
 simp only[DC.av,avO]
 cases rs[r]? with
 |none=>rfl
 |some o=>cases o<;>rfl
theorem Ox {id r:Nat} {c:List PV}:avO id r (some (some c))=.inn id r 0 c.length:=_root_.id rfl
theorem L5 {id off:Nat}:rE (.deep m cs rs) id off C=gt cs off (fun x=>C ⟨x.av id rs,[],[id]⟩):=_root_.id rfl
theorem TK {α:Type} {a:α} {l:List α} {K:α→Prop}:gt (a::l) 0 K=K a:=by simp[gt]
theorem TJ {α:Type} {a b:α} {l:List α} {K:α→Prop}:gt (a::b::l) 1 K=K b:=by simp[gt]
theorem TI {α:Type} {a b c:α} {l:List α} {K:α→Prop}:gt (a::b::c::l) 2 K=K c:=by simp[gt]
def apO (o:Option (Option (List PV))) (id r len k:Nat) (m:Bool) (cs:List DC) (rs:List (Option (List PV))) (C:R→Prop) (ys:List PV) (rd:List Nat):Prop:=
 match o with
 |some (some c)=>len=c.length∧id∉rd∧len+ys.length≤1099511627776∧C ⟨.ref k 0 (len+ys.length),[(id,.deep m cs (rs.set r none)),(k,.live m (c++ys))],id::rd⟩
 |_=>False
theorem Ei {id r len:Nat} {ys:List PV} {rd:List Nat}:OX (.deep m cs rs) id r len k C ys rd=apO rs[r]? id r len k m cs rs C ys rd:=_root_.id rfl
theorem OE {id r len:Nat} {c ys:List PV} {rd:List Nat}:apO (some (some c)) id r len k m cs rs C ys rd=(len=c.length∧id∉rd∧len+ys.length≤1099511627776∧C ⟨.ref k 0 (len+ys.length),[(id,.deep m cs (rs.set r none)),(k,.live m (c++ys))],id::rd⟩):=_root_.id rfl
variable {α:Type} {l:List α} {a b:α} {i j:Nat}
theorem TT:(l++[a])[l.length]? =some a:=by simp
theorem TS (hi:i<l.length):(l++[a])[i]? =l[i]? :=List.getElem?_append_left hi
theorem TR (hn:(i=j)=False):(l.set i a)[j]? =l[j]? :=by rw[List.getElem?_set_ne (fun e=>by rw[hn]at e;exact e)]
theorem MN (hi:i<l.length):(l.set j b++[a])[i]? =(l.set j b)[i]? :=List.getElem?_append_left (by simpa using hi)
theorem MO (hn:(l.set i b).length=j):(l.set i b++[a])[j]? =some a:=by subst hn;simp
variable {F:List (Nat×Nat×Pl)→Prop}
def Wr (o:Option (Option (List PV))) (k id r len:Nat) (ys:List PV) (F:List (Nat×Nat×Pl)→Prop):Prop:=
 match o with
 |some (some c)=>len≤c.length∧c.take len=ys∧F [(k,id,.n (some r))]
 |_=>False
def ZY (b:Blk) (k id r len:Nat) (ys:List PV) (F:List (Nat×Nat×Pl)→Prop):Prop:=
 match b with
 | .deep false _ rs=>Wr rs[r]? k id r len ys F
 |_=>False
theorem NG {id r len:Nat} {xs:List PV}:dt false h k (.inn id r 0 len) (.sl (.lent false) xs) F=ZY (h id) k id r len xs F:=by
 show dt false h k (.inn id r 0 len) (.sl .fr xs) F=_
 simp only[dt,ZY]
 cases h id with
 |deep m cs rs=>
  cases m
  ·simp only[Wr];cases rs[r]? with
   |none=>rfl
   |some o=>cases o<;>simp
  ·rfl
 |_=>rfl
theorem DB {id r len:Nat} {xs:List PV}:ZY (.deep false cs rs) k id r len xs F=Wr rs[r]? k id r len xs F:=_root_.id rfl
theorem M0 {id r len:Nat} {c xs:List PV}:Wr (some (some c)) k id r len xs F=(len≤c.length∧c.take len=xs∧F [(k,id,.n (some r))]):=_root_.id rfl
def Uh (b:Blk) (tk:Bool) (k id r len:Nat) (ys:List PV) (F:List (Nat×Nat×Pl)→Prop):Prop:=
 match b with
 | .deep m _ rs=>(match rs[r]? with
  |some (some c)=>len≤c.length∧(m=true→tk=true)∧c.take len=ys∧F [(k,id,.i r 0)]
  |_=>False)
 |_=>False
theorem DJ {tk:Bool} {id r len:Nat} {xs:List PV}:dt tk h k (.inn id r 0 len) (.sl .own xs) F=Uh (h id) tk k id r len xs F:=by
 simp only[dt,Uh,Nat.zero_add,List.drop_zero]
 cases h id with
 |deep m cs rs=>simp only[];cases rs[r]? with
  |none=>rfl
  |some o=>cases o<;>rfl
 |_=>rfl
theorem UB {tk:Bool} {id r len:Nat} {xs:List PV}:fin tk h k (.inn id r 0 len) (.sl .own xs) F=Uh (h id) tk k id r len xs F:=DJ
theorem M2 {α:Type} {f:α→PV} {L:List (List α)} {tk:Bool} {id r len:Nat} {xs:List PV}:Uh (dk f false L) tk k id r len xs F=(r<L.length∧len≤(L.getD r []).length∧((L.getD r []).map f).take len=xs∧F [(k,id,.i r 0)]):=by
 simp only[Uh,dk]
 by_cases hr:r<L.length
 ·rw[dx hr];simp[hr]
 ·rw[List.getElem?_eq_none (by simp;omega)];simp[hr]
def FR (S:St) (as:List Arg) (res:List PV) (vs:List AV):Prop:=cW false S.h as.length vs res F0
theorem oN {as:List Arg} {rs:List ResultVar} {xs:List PV} {ex:Ex} {S:St} [x:FinX ex] (hf:jC P S rs (FR S as xs)):IK P as rs xs ex S:=by
 have key:jC P S rs fun vs=>sN false S as [] vs xs:=by
  have e:FR S as xs=fun vs=>sN false S as [] vs xs:=by
   funext vs
   unfold FR sN
   refine congrArg (cW false S.h as.length vs xs) ?_
   funext L
   simp only[F0]
   apply propext
   constructor
   ·intro h;refine⟨h,fun j _=> ?_⟩
    split
    ·rename_i h;simp at h
    ·trivial
   ·intro h;exact h.1
  rw[←e];exact hf
 rcases x.h with rfl|rfl<;>exact key
theorem T8 {S:St} {as:List Arg} {res:List PV} {vs:List AV}:FR S as res vs=cW false S.h as.length vs res F0:=_root_.id rfl
def WB (K:List AV→Prop) (v:AV) (vs:List AV):Prop:=K (v::vs)
def RWC (P:Program) (S:St) (rs:List ResultVar) (K:List AV→Prop) (r:R):Prop:=jC P S rs (WB K r.v)
theorem Ka {S:St} {K:List AV→Prop}:jC P S [] K=K []:=_root_.id rfl
theorem J9 {S:St} {t:Nat} {rs:List ResultVar} {K:List AV→Prop}:jC P S (.tmp t::rs) K=jC P S rs (WB K (S.e t)):=_root_.id rfl
theorem Fa {S:St} {t ty:Nat} {rs:List ResultVar} {K:List AV→Prop}:jC P S (.cell t ty::rs) K=dZ P ty S.h (S.e t) (RWC P S rs K):=_root_.id rfl
theorem J7 {K:List AV→Prop} {v:AV} {vs:List AV}:WB K v vs=K (v::vs):=_root_.id rfl
theorem J8 {S:St} {rs:List ResultVar} {K:List AV→Prop} {r:R}:RWC P S rs K r=jC P S rs (WB K r.v):=_root_.id rfl
def D2B (b:Blk) (p q:List PV):Prop:=∃r0 r1 rs,b=.deep false [.row r0,.row r1] rs∧r0≠r1∧rs[r0]? =some (some p)∧rs[r1]? =some (some q)
def Dst2 (v:AV) (h:Nat→Blk) (n:Nat) (p q:List PV):Prop:=
 match v with
 | .ptr id 0=>D2B (h id) p q∧id<n
 |_=>False
theorem Dst2.out {v:AV} {n:Nat} {p q:List PV} (hd:Dst2 v h n p q):∃id r0 r1 rs,v=.ptr id 0∧h id=.deep false [.row r0,.row r1] rs∧id<n∧(r0=r1)=False∧(r1=r0)=False∧rs[r0]? =some (some p)∧rs[r1]? =some (some q)∧r0<rs.length∧r1<rs.length∧
  (r0=rs.length)=False∧(r1=rs.length)=False∧(rs.length=r0)=False∧(rs.length=r1)=False:=by
 unfold Dst2 at hd
 split at hd
 ·obtain⟨⟨r0,r1,rs,h1,h2,h3,h4⟩,h5⟩:=hd
  have l0:=(List.getElem?_eq_some_iff.1 h3).1
  have l1:=(List.getElem?_eq_some_iff.1 h4).1
  exact⟨_,r0,r1,rs,rfl,h1,h5,eq_false h2,eq_false (Ne.symm h2),h3,h4,l0,l1,eq_false (by omega),eq_false (by omega),eq_false (by omega),eq_false (by omega)⟩
 ·exact hd.elim
theorem NS {id n:Nat} {p q:List PV}:Dst2 (.ptr id 0) h n p q=(D2B (h id) p q∧id<n):=_root_.id rfl
theorem U3 {p q:List PV} {r0 r1:Nat}:D2B (.deep false [.row r0,.row r1] rs) p q=(r0≠r1∧rs[r0]? =some (some p)∧rs[r1]? =some (some q)):=by
 apply propext;constructor
 ·rintro⟨a,b,rs',e,h⟩;cases e;exact h
 ·exact fun h=>⟨r0,r1,rs,rfl,h⟩
def mZ:AV→AV
 | .ptr id _=>.ref id 0 0
 | .mp id=>.ref id 0 0
 | .prs id _=>.ref id 0 0
 |v=>v
theorem IB {id o:Nat}:mZ (.ptr id o)=.ref id 0 0:=_root_.id rfl
theorem cO {v:AV} {id o:Nat} (e:v=.ptr id o):mZ v=.ref id 0 0:=by subst e;rfl
def PtrL (v:AV) (h:Nat→Blk) (n:Nat) (b:Blk):Prop:=
 match v with
 | .ptr id 0=>h id=b∧id<n
 |_=>False
theorem PtrL.out {v:AV} {n:Nat} {b:Blk} (hd:PtrL v h n b):∃id,v=.ptr id 0∧h id=b∧id<n:=by
 unfold PtrL at hd
 split at hd
 ·exact⟨_,rfl,hd⟩
 ·exact hd.elim
theorem Ky {id n:Nat} {b:Blk}:PtrL (.ptr id 0) h n b=(h id=b∧id<n):=_root_.id rfl
def PrsL (v:AV) (h:Nat→Blk) (n len:Nat) (xs:List PV):Prop:=
 match v with
 | .prs id l=>l=len∧h id=.live false xs∧id<n
 |_=>False
theorem PrsL.out {v:AV} {n len:Nat} {xs:List PV} (hd:PrsL v h n len xs):∃id,v=.prs id len∧h id=.live false xs∧id<n:=by
 unfold PrsL at hd
 split at hd
 ·obtain⟨rfl,h1,h2⟩:=hd;exact⟨_,rfl,h1,h2⟩
 ·exact hd.elim
theorem Kz {id n l len:Nat} {xs:List PV}:PrsL (.prs id l) h n len xs=(l=len∧h id=.live false xs∧id<n):=_root_.id rfl
theorem IC {id o:Nat}:mZ (.prs id o)=.ref id 0 0:=_root_.id rfl
theorem Oz {v:AV} {id o:Nat} (e:v=.prs id o):mZ v=.ref id 0 0:=by subst e;rfl
theorem Wg {a b:List PV} (e:a=b):(some (some a))=some (some b):=by rw[e]
end
attribute [go_sem ↓] PG Pz PD
attribute [go_sem] Kz IC
attribute [go_sem] VQ aaH aaI Sk aar aas aaq V5 aaO aaN aat Ze Zd aav aau Ub CZ Bs JT IG VP aax aaz Ox L5 TK TJ TI Ei OE TT TS TR MN MO NG DB M0 DJ UB M2 NS U3 IB Ky T8 Ka J9 Fa J7 J8
end Go.Gl
namespace Go.Gl
open Go
variable [Amb]
section
variable {P:Program} {sg:FuncId→List Bool} {h:Nat→Blk} {k:Nat} {ρ:Operand→AV} {C:R→Prop} {t:TypeId} {x y z:Operand}
variable {m:Bool} {kt:TypeId} {es:List (PV×PV)} {q q' w:PV} {id:Nat} {v:AV}
theorem Ps {r:Option Operand}:fY P sg ρ h k (.makeMap t r) C=ku P t r k C:=_root_.id rfl
theorem W6 {c:Bool}:fY P sg ρ h k (.lookup t x y c) C=gL P t h (ρ x) (ρ y) c C:=_root_.id rfl
theorem Pr:fY P sg ρ h k (.mapUpdate t x y z) C=fi P t h (ρ x) (ρ y) (ρ z) C:=_root_.id rfl
theorem Px:fY P sg ρ h k (.insert t x y z) C=fi P t h (ρ x) (ρ y) (ρ z) C:=_root_.id rfl
theorem Sc {n s zz:Bool} {r:Option Operand}:iw P n s zz (.makeMap t r)=false:=_root_.id rfl
theorem Zq {n s zz c:Bool}:iw P n s zz (.lookup t x y c)=false:=_root_.id rfl
theorem Sb {n s zz:Bool}:iw P n s zz (.mapUpdate t x y z)=false:=_root_.id rfl
theorem Sd {n s zz:Bool}:iw P n s zz (.insert t x y z)=false:=_root_.id rfl
theorem Mk {r:Option Operand}:iB (.makeMap t r)=false:=_root_.id rfl
theorem Th {c:Bool}:iB (.lookup t x y c)=false:=_root_.id rfl
theorem Mi:iB (.mapUpdate t x y z)=false:=_root_.id rfl
theorem Mo:iB (.insert t x y z)=false:=_root_.id rfl
theorem VJ:jM k (.mp id) C=C ⟨.mp id,[],[]⟩:=_root_.id rfl
def Zw (P:Program) (s:Option (TypeId×PV)) (k:Nat) (C:R→Prop):Prop:=
 match s with
 |some (kt,_)=>C ⟨.mp k,[(k,.map false (o6 P kt) [])],[]⟩
 |none=>False
theorem LW:ku P t none k C=Zw P (qd P t) k C:=by
 simp only[ku,Zw,true_and];cases qd P t<;>rfl
theorem LV:Zw P (some (kt,w)) k C=C ⟨.mp k,[(k,.map false (o6 P kt) [])],[]⟩:=_root_.id rfl
def Wl (P:Program) (s:Option (TypeId×PV)) (q:Option PV) (b:Blk) (id:Nat) (c:Bool) (C:R→Prop):Prop:=
 match s,q,b with
 |some (kt,z),some q,.map _ kt' es=>kt'=o6 P kt∧Maps.Keyed P kt∧kv q=true∧o6 P kt (kV q)∧C ⟨I1 z c (mget es q),[],[id]⟩
 |_,_,_=>False
theorem SX {c:Bool}:gL P t h (.mp id) v c C=Wl P (qd P t) (AG v) (h id) id c C:=by
 unfold gL Wl
 cases qd P t with
 |none=>rfl
 |some s=>obtain⟨_,_⟩:=s;cases AG v with
  |none=>rfl
  |some q=>simp only[];cases h id<;>rfl
theorem SW {c:Bool}:Wl P (some (kt,w)) (some q) (.map m (o6 P kt) es) id c C=(Maps.Keyed P kt∧kv q=true∧o6 P kt (kV q)∧C ⟨I1 w c (mget es q),[],[id]⟩):=by simp only[Wl,true_and]
def UPK (id:Nat) (m:Bool) (kt:Value→Prop) (es:List (PV×PV)) (q:PV) (C:R→Prop) (x:PV) (ws:List (Nat×Blk)) (rd:List Nat):Prop:=id∉rd∧C ⟨.p .any,ws++[(id,.map m kt ((q,x)::es))],id::rd⟩
def Wd (P:Program) (s:Option (TypeId×PV)) (q:Option PV) (b:Blk) (h:Nat→Blk) (id:Nat) (v:AV) (C:R→Prop):Prop:=
 match s,q,b with
 |some (kt,_),some q,.map m kt' es=>kt'=o6 P kt∧Maps.Keyed P kt∧kv q=true∧o6 P kt (kV q)∧lT h v (UPK id m kt' es q C)
 |_,_,_=>False
theorem Lx {u:AV}:fi P t h (.mp id) u v C=Wd P (qd P t) (AG u) (h id) h id v C:=by
 unfold fi Wd
 cases qd P t with
 |none=>rfl
 |some s=>obtain⟨_,_⟩:=s;cases AG u with
  |none=>rfl
  |some q=>simp only[];cases h id<;>rfl
theorem PK:Wd P (some (kt,w)) (some q) (.map m (o6 P kt) es) h id v C=(Maps.Keyed P kt∧kv q=true∧o6 P kt (kV q)∧lT h v (UPK id m (o6 P kt) es q C)):=by simp only[Wd,true_and]
theorem JH {kq:Value→Prop} {x:PV} {ws:List (Nat×Blk)} {rd:List Nat}:UPK id m kq es q C x ws rd=(id∉rd∧C ⟨.p .any,ws++[(id,.map m kq ((q,x)::es))],id::rd⟩):=_root_.id rfl
variable {K:PV→List (Nat×Blk)→List Nat→Prop}
theorem KI {kd:IntKind} {n:Int}:lT h (.p (.int kd n)) K=K (.int kd n) [] []:=by simp[lT,PV.cell,PV.cellOk]
theorem Fw {b:Bool}:lT h (.p (.bool b)) K=K (.bool b) [] []:=by simp[lT,PV.cell,PV.cellOk]
theorem Fv {b:Bool} {s:List PV}:lT h (.p (.sl (.lent b) s)) K=K (.sl (.lent b) s) [] []:=by cases b<;>simp[lT,PV.cell,PV.cellOk,Fl.lent]
theorem KH {off len:Nat}:lT h (.ref id off len) K=IR (h id) id off len K:=by
 simp only[lT,IR];cases h id<;>rfl
theorem aaD:AG (.p q)=some q:=_root_.id rfl
theorem aaF {a b:PV}:AG (.agg [.p a,.p b])=some (.agg [a,b]):=_root_.id rfl
theorem aaE {a b c d:PV}:AG (.agg [.p a,.p b,.p c,.p d])=some (.agg [a,b,c,d]):=_root_.id rfl
theorem Mb {kd:IntKind} {n:Int}:kv (.int kd n)=true:=_root_.id rfl
theorem Ma {s:List UInt8}:kv (.str s)=true:=_root_.id rfl
theorem ZL {kd kd':IntKind} {a b:Int}:kv (.agg [.int kd a,.int kd' b])=true:=_root_.id rfl
theorem ZK {kd:IntKind} {a b c d:Int}:kv (.agg [.int kd a,.int kd b,.int kd c,.int kd d])=true:=_root_.id rfl
theorem SQ:I1 w true (some q)=.tup [.p q,.p (.bool true)]:=_root_.id rfl
theorem SR:I1 w true none=.tup [.p w,.p (.bool false)]:=_root_.id rfl
theorem SU:I1 w false (some q)=.p q:=_root_.id rfl
theorem SV:I1 w false none=.p w:=_root_.id rfl
theorem LZ:mget [] q=none:=_root_.id rfl
theorem Wk:mget ((q,w)::es) q'=open Classical in if kV q=kV q' then some w else mget es q':=_root_.id rfl
theorem ZJ {kd:IntKind} {a b:Int}:(kV (.int kd a)=kV (.int kd b))=(a=b):=by simp[kV,Gw]
theorem acd {kd kd':IntKind} {a b c d:Int}:(kV (.agg [.int kd a,.int kd' b])=kV (.agg [.int kd c,.int kd' d]))=(a=c∧b=d):=by simp[kV,Gw]
def MapL (v:AV) (h:Nat→Blk) (n:Nat) (kt:Value→Prop) (es:List (PV×PV)):Prop:=
 match v with
 | .mp id=>h id=.map false kt es∧id<n
 |_=>False
theorem MapL.out {v:AV} {n:Nat} {kq:Value→Prop} (hd:MapL v h n kq es):∃id,v=.mp id∧h id=.map false kq es∧id<n:=by
 unfold MapL at hd
 split at hd
 ·exact⟨_,rfl,hd⟩
 ·exact hd.elim
theorem SN {n:Nat} {kq:Value→Prop}:MapL (.mp id) h n kq es=(h id=.map false kq es∧id<n):=_root_.id rfl
theorem Oy:mZ (.mp id)=.ref id 0 0:=_root_.id rfl
theorem aaB {v:AV} (e:v=.mp id):mZ v=.ref id 0 0:=by subst e;rfl
theorem Zy {kq:Value→Prop} {es es':List (PV×PV)} (e:es=es'):Blk.map m kq es=Blk.map m kq es':=by rw[e]
end
attribute [go_sem ↓] Ps W6 Pr Px
attribute [go_sem] VJ Sc Zq Sb Sd Mk Th Mi Mo LW LV SX SW Lx PK JH KI Fw Fv KH aaD aaF aaE Mb Ma ZL ZK SQ SR SU SV LZ SN Oy
end Go.Gl
namespace Go.Gl
open Go
structure Cu where
 i:Nat
 h:Int
def bX (b:List UInt8) (s:Cu):List PV:=[.sl (.lent false) (b.map jW),.int .i64 s.i,.int .i64 s.h]
instance {b:List UInt8} {s:Cu}:NDl (bX b s):=⟨by intro rows h;cases h⟩
instance {k:Nat} {xs:List PV}:Imp1 k (.bx xs) (.ptr k 0) [(k,.live false xs)]:=⟨rfl,rfl⟩
instance {k:Nat} {xs:List PV}:ImpO k (.bx xs) (.ptr k 0) [(k,.live false xs)]:=⟨rfl,rfl⟩
theorem Le {xs:List PV}:noRo (.bx xs)=noRoL xs:=_root_.id rfl
theorem Lc {b:List UInt8} {s:Cu}:noRoL (bX b s)=true:=by
 simp only[bX,noRoL,noRo,uJ,Bool.and_true]
 exact cy (fun _=>rfl) b
section
variable [Amb]
variable {P:Program} {sg:FuncId→List Bool} {h:Nat→Blk} {k:Nat} {C:R→Prop} {S:St} {b:List UInt8} {s:Cu} {m:Bool} {id:Nat}
theorem Gu:rE (.live m (bX b s)) id 0 C=C ⟨.p (.sl (.lent false) (b.map jW)),[],[id]⟩:=by simp[rE,gt,bX,KX]
theorem Gt:rE (.live m (bX b s)) id 1 C=C ⟨.p (.int .i64 s.i),[],[id]⟩:=by simp[rE,gt,bX,KX]
theorem Gs:rE (.live m (bX b s)) id 2 C=C ⟨.p (.int .i64 s.h),[],[id]⟩:=by simp[rE,gt,bX,KX]
theorem EU {n:Int}:m7 (.live m (bX b s)) id 1 (.int .i64 n) C=C ⟨.p .any,[(id,.live m [.sl (.lent false) (b.map jW),.int .i64 n,.int .i64 s.h])],[id]⟩:=by
 simp[m7,bX,PV.cell,PV.cellOk]
theorem ET {n:Int}:m7 (.live m (bX b s)) id 2 (.int .i64 n) C=C ⟨.p .any,[(id,.live m (bX b ⟨s.i,n⟩))],[id]⟩:=by
 simp[m7,bX,PV.cell,PV.cellOk]
theorem N8 {n:Nat} {x:Int}:[PV.sl (.lent false) (b.map jW),.int .i64 (n:Int),.int .i64 x]=bX b ⟨n,x⟩:=_root_.id rfl
def LE (b:Blk) (F:List PV→Prop):Prop:=match b with| .live _ c=>F c|_=>False
def MUP (h:Nat→Blk) (fs:List Bool) (vs:List AV) (id:Nat) (K:List Arg→List Nat→List (Option (Nat×Option Nat))→Prop) (c:List PV):Prop:=
 pass h fs vs fun as rd ms=>K (.mu true c::as) rd (some (id,none)::ms)
def WE (id:Nat) (c:List PV) (K:List Arg→List Nat→List (Option (Nat×Option Nat))→Prop) (as:List Arg) (rd:List Nat) (ms:List (Option (Nat×Option Nat))):Prop:=K (.mu true c::as) rd (some (id,none)::ms)
theorem F9 {fs:List Bool} {vs:List AV} {K:List Arg→List Nat→List (Option (Nat×Option Nat))→Prop}:pass h (true::fs) (.ptr id 0::vs) K=LE (h id) (MUP h fs vs id K):=by
 simp only[pass,LE,MUP];cases h id<;>rfl
theorem CB {c:List PV} {F:List PV→Prop}:LE (.live m c) F=F c:=_root_.id rfl
theorem Lv {fs:List Bool} {c:List PV} {vs:List AV} {K:List Arg→List Nat→List (Option (Nat×Option Nat))→Prop}:MUP h fs vs id K c=pass h fs vs (WE id c K):=_root_.id rfl
theorem Ga {vs:List AV} {c:List PV} {K:List Arg→List Nat→List (Option (Nat×Option Nat))→Prop}:pass h [] vs (WE id c K)=o0 h vs (PQ (WE id c K)):=kO
theorem Lw {c:List PV} {K:List Arg→List Nat→List (Option (Nat×Option Nat))→Prop} {as:List Arg} {rd:List Nat} {ms:List (Option (Nat×Option Nat))}:WE id c K as rd ms=K (.mu true c::as) rd (some (id,none)::ms):=_root_.id rfl
def ZV (b:Blk) (tk:Bool) (xs:List PV):Prop:=match b with| .live m c=>(m=true→tk=true)∧c=xs|_=>False
theorem Ua {tk:Bool} {xs:List PV}:cW tk h k [.ptr id 0] [.bx xs] F0=ZV (h id) tk xs:=by
 simp only[cW,fin,dt,ZV]
 cases h id with
 |live m c=>simp[F0]
 |_=>rfl
theorem MV {tk:Bool} {c xs:List PV}:ZV (.live m c) tk xs=((m=true→tk=true)∧c=xs):=_root_.id rfl
theorem Ui {tk:Bool}:(false=true→tk=true)=True:=by simp
end
theorem YY {i o o':Nat}:(AV.ptr i o=AV.ptr i o')=(o=o'):=by simp
attribute [go_sem] Le Lc Gu Gt Gs EU ET N8 F9 CB Lv Ga Lw Ua MV Ui
attribute [go_sem] Jp Jm Mt Mc Me Ms C5 Tj Ti C4 Tf Tg
theorem Fun.callsT1 [Amb] {P:Program} {f:FuncId} {args:List PV} {b:Bool} (hf:Fun P f args [.bool b]) (w:World) (ha:∀B o,Amb.tb B=some o→w.heap[B]? =some o) {vs:List Value} (hr:RepL w (fun _=>False) (fun _=>True) args vs):
  Calls P f ⟨vs⟩ w fun e w'=>e=.returned (.bool b)∧Go.RowKit.Below w.heap.size w w':=by
 obtain⟨_,_,_,_,h⟩:=hf
 have dead:∀j,cm (args.map .pv) j=.dead:=fun j=>by
  unfold cm
  rw[List.getElem?_map]
  cases args[j]? <;>rfl
 have hno:∀(ι:Nat→Loc) B,¬Held (cm (args.map .pv)) ι B:=by
  rintro ι B ⟨id,ho⟩
  rw[dead]at ho;exact ho
 have hrep:∀(l:List PV) (vs:List Value) (k:Nat),RepL w (fun _=>False) (fun _=>True) l vs→RepAL w (Held (cm (args.map .pv)) fun _=>⟨0,0,0,0,bC⟩) (fun _=>True) (fun _=>⟨0,0,0,0,bC⟩) (bK k (l.map .pv)) vs:=by
  intro l
  induction l with
  |nil=>intro vs k h;simpa[bK,RepAL,RepL]using h
  |cons x l ih=>
   intro vs k h
   simp only[RepL]at h
   obtain⟨v,vs',rfl,h1,h2⟩:=h
   simp only[List.map_cons,bK,Arg.av,RepAL,RepA]
   exact⟨v,vs',rfl,RepP.tr (F:=fun _=>False) (fun _ _ _ _ hv=>⟨hv,hno _ _⟩) (fun _ _ _ h=>h) _ _ h1,ih _ _ h2⟩
 refine(h w (fun _=>True) (fun _=>⟨0,0,0,0,bC⟩) vs ⟨ha,fun B o _ hB=>hno _ B hB⟩ (fun _ _=>trivial) ⟨?_, ?_⟩ (hrep _ _ _ hr)).mono ?_
 ·intro id;rw[dead];trivial
 ·intro id _ B ho;rw[dead]at ho;exact ho.elim
 ·rintro e w' ⟨v,ι',rfl,_,hk,_,hv⟩
  have hv:v=.bool b:=by simpa[impAll,imp,imp1,RepA,RepP]using hv
  subst hv
  exact⟨rfl,hk.os,hk.tape,hk.output,hk.size,fun k hk'=>hk.block k hk' (hno _ _)⟩
theorem Fun.callsT {P:Program} {f:FuncId} {args:List PV} {b:Bool} (hf: @Fun rZ P f args [.bool b]) (w:World) {vs:List Value} (hr:RepL w (fun _=>False) (fun _=>True) args vs):
  Calls P f ⟨vs⟩ w fun e w'=>e=.returned (.bool b)∧Go.RowKit.Below w.heap.size w w':=
 @Fun.callsT1 rZ P f args b hf w (fun _ _ h=>by cases h) vs hr
theorem IsRow.repB {w:World} {a:Option Addr} {len cap:Nat} {zs:List Int} (h:IsRow .u8 w a len cap zs):
  RepP w (fun _=>False) (fun _=>True) (.sl (.lent false) (((zs.take len).map fun n=>UInt8.ofNat n.toNat).map jW)) (.slice a len cap):=by
 have e:((zs.take len).map fun n=>UInt8.ofNat n.toNat).map jW=(zs.take len).map (PV.int .u8):=by
  rw[List.map_map]
  refine List.map_congr_left fun n hn=> ?_
  have hw:∀n∈zs,(Lit.int .u8 n).wf=true:=by
   rcases h with⟨_,_,_,rfl⟩|⟨_,_,_,_,_,_,hw⟩
   ·intro n hn;cases hn
   ·exact hw
  have:=hw n (List.mem_of_mem_take hn)
  have h2:0≤n∧n≤255:=by simpa[Lit.wf,IntKind.min,IntKind.max,IntKind.signed,IntKind.bits]using this
  simp only[Function.comp,jW]
  congr 1
  rw[UInt8.toNat_ofNat']
  omega
 rw[e]
 have h3:=IsRow.rep (G:=fun _=>True) h
 simp only[Db,RepP]at h3 ⊢
 obtain⟨a',c',h4,h5,h6,h7,h8⟩:=h3
 refine⟨a',c',h4,h5,h6,(by intro e;cases e), ?_⟩
 rcases h8 with h8|⟨B,off,h9,h10,_,h11⟩
 ·exact .inl h8
 ·exact .inr ⟨B,off,h9,h10,fun _=>trivial,h11⟩
end Go.Gl
