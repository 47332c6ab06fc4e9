/-
 A program logic over the walk's rules, joined: the rules by which a goal is worked out. Conditions: those that each lemma names.
-/
import Derived.Test.YtbppfpdgahopeaaGreatDoorGlB
import Derived.Below
import Derived.LaidMore
import Derived.OpenShut
import Derived.Lib.SmallJoins
import Derived.Laws.AppendOwn
set_option linter.unusedSimpArgs false
set_option linter.unusedVariables false
set_option linter.unusedSectionVars false
namespace Go.Gl
open Go
variable [Amb]
def fy (nt:Nat):Code→Bool
 | .region _ ops false=>m8 nt ops
 | .region _ ops true=>m8 nt ops&&rK ops
 | .seq a b=>fy nt a&&fy nt b
 | .cond _ a b=>fy nt a&&fy nt b
 | .block _ c=>fy nt c
 | .loop c=>fy nt c
 |_=>true
section
variable {P:Program} {sg:FuncId→List Bool} {nt:Nat}
def jh (P:Program) (sg:FuncId→List Bool):Code→(Ex→St→Prop)→St→Prop
 | .skip,Q,S=>Q .normal S
 | .region _ ops false,Q,S=>lG P sg ops S.n ops.toList 0 S fun S'=>Q .normal (S'.nx (256*ops.size))
 | .region _ ops true,Q,S=>me P sg ops S.n ops.toList 0 S [] fun S' L=>iU ops L∧Q .normal (S'.nx (256*ops.size))
 | .seq a b,Q,S=>jh P sg a (fun ex S'=>match ex with| .normal=>jh P sg b Q S'|ex=>Q ex S') S
 | .cond c a b,Q,S=>match rQ S c with
  | .p (.bool t)=>(t=true→jh P sg a Q S)∧(t=false→jh P sg b Q S)
  |_=>False
 | .block id c,Q,S=>jh P sg c (fun ex S'=>match ex with| .exit j=>if j=id then Q .normal S' else Q (.exit j) S'|ex=>Q ex S') S
 | .loop c,Q,S=>∃I:Nat→St→Prop,(∃n,I n S)∧∀n S,I n S→jh P sg c (fun ex S'=>match ex with| .normal=>∃m,m<n∧I m S'|ex=>Q ex S') S
 | .exit id,Q,S=>Q (.exit id) S
 | .ret,Q,S=>Q .ret S
 |_,_,_=>False
theorem wp_mono:∀(c:Code) {Q Q':Ex→St→Prop} {S:St},(∀ex S',Q ex S'→Q' ex S')→Gl.wp P sg nt c Q S→Gl.wp P sg nt c Q' S:=by
 have opsM:∀{ops:Array Oper} {n0:Nat} (os:List Oper) (i:Nat) (S:St) {K K':St→Prop},(∀S,K S→K' S)→lG P sg ops n0 os i S K→lG P sg ops n0 os i S K':=by
  intro ops n0 os
  induction os with
  |nil=>intro i S K K' h hk;exact h _ hk
  |cons o os ih=>
   intro i S K K' h hk
   simp only[lG]at hk ⊢
   exact k9 (fun hy=>qA hy fun r hr=>ih _ _ h hr) (fun hn=>ih _ _ h hn) hk
 have opsDM:∀{ops:Array Oper} {n0:Nat} (os:List Oper) (i:Nat) (S:St) (L) {K K':St→List (List (Nat×Blk)×List Nat)→Prop},(∀S L,K S L→K' S L)→me P sg ops n0 os i S L K→me P sg ops n0 os i S L K':=by
  intro ops n0 os
  induction os with
  |nil=>intro i S L K K' h hk;exact h _ _ hk
  |cons o os ih=>
   intro i S L K K' h hk
   simp only[me]at hk ⊢
   exact k9 (fun hy=>qA hy fun r hr=>ih _ _ _ h hr) (fun hn=>ih _ _ _ h hn) hk
 intro c
 induction c with
 |skip=>intro Q Q' S h hw;exact h _ _ hw
 |exit id=>intro Q Q' S h hw;exact h _ _ hw
 |ret=>intro Q Q' S h hw;exact h _ _ hw
 |seq x y ihx ihy=>
  intro Q Q' S h hw
  refine ihx (fun ex S' hq=> ?_) hw
  cases ex with
  |normal=>exact ihy h hq
  |exit id=>exact h _ _ hq
  |ret=>exact h _ _ hq
 |cond c x y ihx ihy=>
  intro Q Q' S h hw
  simp only[Gl.wp]at hw ⊢
  split at hw
  ·rename_i t e;exact⟨fun ht=>ihx h (hw.1 ht),fun ht=>ihy h (hw.2 ht)⟩
  ·exact hw.elim
 |block id c ih=>
  intro Q Q' S h hw
  refine ih (fun ex S' hq=> ?_) hw
  cases ex with
  |normal=>exact h _ _ hq
  |exit j=>
   simp only at hq ⊢
   split
   ·rename_i e;rw[if_pos e]at hq;exact h _ _ hq
   ·rename_i e;rw[if_neg e]at hq;exact h _ _ hq
  |ret=>exact h _ _ hq
 |loop c ih=>
  intro Q Q' S h hw
  obtain⟨I,hn,hs⟩:=hw
  refine⟨I,hn,fun n S hI=>ih (fun ex S' hq=> ?_) (hs n S hI)⟩
  cases ex with
  |normal=>exact hq
  |exit id=>exact h _ _ hq
  |ret=>exact h _ _ hq
 |region id ops d=>
  intro Q Q' S h hw
  cases d with
  |false=>exact⟨hw.1,opsM _ _ _ (fun S hq=>h _ _ hq) hw.2⟩
  |true=>exact⟨hw.1,hw.2.1,opsDM _ _ _ _ (fun S L hq=>⟨hq.1,h _ _ hq.2⟩) hw.2.2⟩
 |rangeFunc=>intro Q Q' S h hw;exact hw
 |scope=>intro Q Q' S h hw;exact hw
 |label=>intro Q Q' S h hw;exact hw
 |goto=>intro Q Q' S h hw;exact hw
 |refuse=>intro Q Q' S h hw;exact hw
theorem nK:∀(c:Code) {Q:Ex→St→Prop} {S:St},fy nt c=true→jh P sg c Q S→Gl.wp P sg nt c Q S:=by
 intro c
 induction c with
 |skip=>intro Q S _ hw;exact hw
 |exit id=>intro Q S _ hw;exact hw
 |ret=>intro Q S _ hw;exact hw
 |seq x y ihx ihy=>
  intro Q S h hw
  simp only[fy,Bool.and_eq_true]at h
  refine wp_mono x (fun ex S' hq=> ?_) (ihx h.1 hw)
  cases ex with
  |normal=>exact ihy h.2 hq
  |exit id=>exact hq
  |ret=>exact hq
 |cond c x y ihx ihy=>
  intro Q S h hw
  simp only[fy,Bool.and_eq_true]at h
  simp only[Gl.wp,jh]at hw ⊢
  split at hw
  ·rename_i t e;simp only[e];exact⟨fun ht=>ihx h.1 (hw.1 ht),fun ht=>ihy h.2 (hw.2 ht)⟩
  ·exact hw.elim
 |block id c ih=>intro Q S h hw;exact ih h hw
 |loop c ih=>
  intro Q S h hw
  obtain⟨I,hn,hs⟩:=hw
  exact⟨I,hn,fun n S hI=>ih h (hs n S hI)⟩
 |region id ops d=>
  intro Q S h hw
  cases d with
  |false=>exact⟨h,hw⟩
  |true=>
   simp only[fy,Bool.and_eq_true]at h
   exact⟨h.1,h.2,hw⟩
 |rangeFunc=>intro Q S _ hw;exact hw
 |scope=>intro Q S _ hw;exact hw
 |label=>intro Q S _ hw;exact hw
 |goto=>intro Q S _ hw;exact hw
 |refuse=>intro Q S _ hw;exact hw
def wB (as:List Arg) (ts:List Nat) (res:List PV) (ex:Ex) (S:St):Prop:=
 match ex with
 | .exit _=>False
 |_=>tl false S as [] (ts.map S.e) res
theorem Fun.of (hm:P.follows .mixedOrders=true) {f:FuncId} {args res:List PV} {fn:Func} {code:Code} {ts:List Nat}
  (hf:P.funcs[f]? =some fn) (hb:fn.body=some code) (hname:(fn.name== "runtime.NumGoroutine")=false) (hres:fn.results=⟨ts.map .tmp⟩) (hargs:decide (args.length≤fn.ntmps)=true)
  (hck:fy fn.ntmps code=true) (hnr:noRoL res=true) (hro:hZ res=true)
  (hw:jh P sg code (wB (args.map .pv) ts res) (fH (args.map .pv))):Fun P f args res:=
 CallT.of_wp hm hf hb hname hres (by rw[an];exact of_decide_eq_true hargs) hnr hro rfl (wp_mono _ (fun ex S h=>by cases ex with|exit id=>exact h|normal=>exact resW_tmp.symm▸h|ret=>exact resW_tmp.symm▸h) (nK _ hck hw))
def Jc (P:Program) (as:List Arg) (rs:List ResultVar) (res:List PV) (ex:Ex) (S:St):Prop:=
 match ex with
 | .exit _=>False
 |_=>j8 P S rs fun vs=>tl false S as [] vs res
theorem Fun.ofR (hm:P.follows .mixedOrders=true) {f:FuncId} {args res:List PV} {fn:Func} {code:Code} {rs:List ResultVar}
  (hf:P.funcs[f]? =some fn) (hb:fn.body=some code) (hname:(fn.name== "runtime.NumGoroutine")=false) (hres:fn.results=⟨rs⟩) (hargs:decide (args.length≤fn.ntmps)=true)
  (hck:fy fn.ntmps code=true) (hnr:noRoL res=true) (hro:hZ res=true)
  (hw:jh P sg code (Jc P (args.map .pv) rs res) (fH (args.map .pv))):Fun P f args res:=
 CallT.of_wp hm hf hb hname hres (by rw[an];exact of_decide_eq_true hargs) hnr hro rfl (wp_mono _ (fun ex S h=>by cases ex with|exit id=>exact h|normal=>exact h|ret=>exact h) (nK _ hck hw))
class Dat where
 P:Program
 sg:FuncId→List Bool
 ops:Array Oper
 n0:Nat
 os:List Oper
 i:Nat
 S:St
def o0 [D:Dat] (K:St→Prop):Prop:=lG D.P D.sg D.ops D.n0 D.os D.i D.S K
def oZ [D:Dat] (L:List (List (Nat×Blk)×List Nat)) (K:St→List (List (Nat×Blk)×List Nat)→Prop):Prop:=me D.P D.sg D.ops D.n0 D.os D.i D.S L K
variable {Q:Ex→St→Prop} {S:St}
def uU (P:Program) (sg:FuncId→List Bool) (b:Code) (Q:Ex→St→Prop) (ex:Ex) (S':St):Prop:=match ex with| .normal=>jh P sg b Q S'|ex=>Q ex S'
def rG (id:Nat) (Q:Ex→St→Prop) (ex:Ex) (S':St):Prop:=match ex with| .exit j=>if j=id then Q .normal S' else Q (.exit j) S'|ex=>Q ex S'
def My (I:Nat→St→Prop) (n:Nat) (Q:Ex→St→Prop) (ex:Ex) (S':St):Prop:=match ex with| .normal=>∃m,m<n∧I m S'|ex=>Q ex S'
theorem Qe {a b:Code} (h:jh P sg a (uU P sg b Q) S):jh P sg (.seq a b) Q S:=h
theorem JY (h:Q .normal S):jh P sg .skip Q S:=h
theorem J6 {id:Nat} (h:Q (.exit id) S):jh P sg (.exit id) Q S:=h
theorem Qf (h:Q .ret S):jh P sg .ret Q S:=h
theorem Fe {id:Nat} {c:Code} (h:jh P sg c (rG id Q) S):jh P sg (.block id c) Q S:=h
theorem FM {b:Code} (h:jh P sg b Q S):uU P sg b Q .normal S:=h
theorem FO {b:Code} {id:Nat} (h:Q (.exit id) S):uU P sg b Q (.exit id) S:=h
theorem FJ {b:Code} (h:Q .ret S):uU P sg b Q .ret S:=h
theorem FS {id:Nat} (h:Q .normal S):rG id Q .normal S:=h
theorem FQ {id:Nat} (h:Q .ret S):rG id Q .ret S:=h
theorem FP {id:Nat} (h:Q .normal S):rG id Q (.exit id) S:=by simp only[rG,if_true];exact h
theorem pB {id j:Nat} (e:(j==id)=false) (h:Q (.exit j) S):rG id Q (.exit j) S:=by
 have:j≠id:=by simpa using e
 simp only[rG,if_neg this];exact h
theorem KS {I:Nat→St→Prop} {n id:Nat} (h:Q (.exit id) S):My I n Q (.exit id) S:=h
theorem KR {I:Nat→St→Prop} {n:Nat} (h:Q .ret S):My I n Q .ret S:=h
theorem ay {I:Nat→St→Prop} {n:Nat} (m:Nat) (hm:m<n) (h:I m S):My I n Q .normal S:=⟨m,hm,h⟩
theorem XB {c:Operand} {x y:Code} {t:Bool} (e:rQ S c=.p (.bool t)) (h1:t=true→jh P sg x Q S) (h2:t=false→jh P sg y Q S):jh P sg (.cond c x y) Q S:=by
 simp only[jh,e];exact⟨h1,h2⟩
theorem JZ {c:Code} (I:Nat→St→Prop) (n:Nat) (h:I n S) (hs:∀n S,I n S→jh P sg c (My I n Q) S):jh P sg (.loop c) Q S:=⟨I,⟨n,h⟩,hs⟩
theorem mH {id:Nat} {ops:Array Oper} {os:List Oper} {n:Nat} (e:ops.toList=os) (en:256*ops.size=n) (h:∀K:St→Prop,(∀S',Q .normal (S'.nx n)→K S')→ @o0 _ ⟨P,sg,ops,S.n,os,0,S⟩ K):jh P sg (.region id ops false) Q S:=by
 subst e;subst en;exact h _ fun S' hq=>hq
theorem pr {id:Nat} {ops:Array Oper} {os:List Oper} {n:Nat} (e:ops.toList=os) (en:256*ops.size=n) (h:∀K:St→List (List (Nat×Blk)×List Nat)→Prop,(∀S' L,iU ops L→Q .normal (S'.nx n)→K S' L)→ @oZ _ ⟨P,sg,ops,S.n,os,0,S⟩ [] K):jh P sg (.region id ops true) Q S:=by
 subst e;subst en;exact h _ fun S' L hc hq=>⟨hc,hq⟩
def OJ (v:AV) (A B:Prop):Prop:=
 match v with
 | .p (.bool t)=>(t=true→A)∧(t=false→B)
 |_=>False
theorem IQ {t:Bool} {A B:Prop}:OJ (.p (.bool t)) A B=((t=true→A)∧(t=false→B)):=_root_.id rfl
theorem IP {A B:Prop}:OJ (.p (.bool true)) A B=A:=by simp[OJ]
theorem Ez {A B:Prop}:OJ (.p (.bool false)) A B=B:=by simp[OJ]
theorem Fc {c:Operand} {x y:Code} (h:∀A B:Prop,(jh P sg x Q S→A)→(jh P sg y Q S→B)→OJ (rQ S c) A B):jh P sg (.cond c x y) Q S:=by
 have:=h _ _ id id
 simp only[jh,OJ]at this ⊢
 exact this
def kP:PV→Bool
 | .sl .own _| .sl .fr _| .agg _| .dl _| .bx _=>false
 |_=>true
theorem sW {as:List Arg} {t:Nat} {x:PV} (hx:kP x=true) (h:S.e t=.p x):tl false S as [] [S.e t] [x]:=by
 have e:∀K,K []→fin false S.h as.length (S.e t) x K:=fun K hK=>by
  rw[h]
  cases x with
  |sl o xs=>cases o with
   |ro=>exact⟨rfl,hK⟩
   |fr=>simp[kP]at hx
   |own=>simp[kP]at hx
  |agg xs=>simp[kP]at hx
  |dl xs=>simp[kP]at hx
  |bx xs=>simp[kP]at hx
  |_=>exact⟨rfl,hK⟩
 refine e _ ⟨by simp,fun j _=> ?_⟩
 split
 ·rename_i h;simp at h
 ·trivial
theorem x9 {as:List Arg} {t:Nat} {x:PV} (hx:kP x=true) (h:S.e t=.p x):wB as [t] [x] .ret S:=sW hx h
theorem XA {as:List Arg} {t:Nat} {x:PV} (hx:kP x=true) (h:S.e t=.p x):wB as [t] [x] .normal S:=sW hx h
theorem pT {as:List Arg}:wB as [] [] .ret S:=by
 refine⟨by simp,fun j _=> ?_⟩
 split
 ·rename_i h;simp at h
 ·trivial
theorem pq {as:List Arg}:wB as [] [] .normal S:=pT
theorem gh {ops:Array Oper} {L:List (List (Nat×Blk)×List Nat)} (h:(L.map (·.1)).all List.isEmpty=true):iU ops L:=by
 have key:∀i,(L.getD i ([],[])).1=[]:=fun i=>by
  rw[ac]
  cases hi:L[i]? with
  |none=>rfl
  |some p=>
   have:=List.all_eq_true.1 h p.1 (List.mem_map.2 ⟨p,aS hi,rfl⟩)
   simpa using this
 intro j _ i _
 right
 unfold clear
 rw[key i,key j]
 simp
def Nx [D:Dat] (d:Option Nat) (K:St→Prop):R→Prop:=
 fun r=>lG D.P D.sg D.ops D.n0 D.os (D.i+1) (D.S.app d r) K
def Dx [D:Dat] (d:Option Nat) (L:List (List (Nat×Blk)×List Nat)) (K:St→List (List (Nat×Blk)×List Nat)→Prop):R→Prop:=
 fun r=>me D.P D.sg D.ops D.n0 D.os (D.i+1) (D.S.app d r) (L++[(r.ws,r.rd)]) K
def KV (K:R→Prop) (v:PV):Prop:=K ⟨.p v,[],[]⟩
def KW (K:R→Prop) (v:AV):Prop:=K ⟨v,[],[]⟩
def KA (k:Nat) (K:R→Prop) (v:AV):Prop:=kn k v K
variable {ops:Array Oper} {n0 i k:Nat} {os:List Oper} {d:Option Nat} {K:St→Prop} {KD:St→List (List (Nat×Blk)×List Nat)→Prop} {L:List (List (Nat×Blk)×List Nat)} {op:Op} {ty:TypeId} {ps:String} {af:Array Edge} {C:R→Prop}
def gd (ops:Array Oper) (S:St) (j:Nat):AV:=match (ops[j]?).bind (·.dst)with|some d=>S.e d|none=>.p .any
theorem DQ {S:St} {j:Nat} {want:Bool} {yes no:Prop} {o:Oper} (hg:o.guard=some (j,want)):dW ops S o yes no=sP (gd ops S j) want yes no:=by
 unfold dW gd sP
 simp only[hg]
 cases (ops[j]?).bind (·.dst)<;>rfl
def gI [D:Dat] (v:AV) (want:Bool) (d:Option Nat) (op:Op) (K:St→Prop):Prop:=
 sP v want (jE D.P D.sg (rQ D.S) D.S.h (mf D.n0 D.i) op (Nx d K)) (lG D.P D.sg D.ops D.n0 D.os (D.i+1) (D.S.puto d (.tup [])) K)
def gJ [D:Dat] (v:AV) (want:Bool) (d:Option Nat) (op:Op) (L:List (List (Nat×Blk)×List Nat)) (K:St→List (List (Nat×Blk)×List Nat)→Prop):Prop:=
 sP v want (jE D.P D.sg (rQ D.S) D.S.h (mf D.n0 D.i) op (Dx d L K)) (me D.P D.sg D.ops D.n0 D.os (D.i+1) (D.S.puto d (.tup [])) (L++[([],[])]) K)
theorem RS: @o0 _ ⟨P,sg,ops,n0,[],i,S⟩ K=K S:=_root_.id rfl
theorem KM: @o0 _ ⟨P,sg,ops,n0,⟨d,op,ty,ps,af,none⟩::os,i,S⟩ K=jE P sg (rQ S) S.h (mf n0 i) op (@Nx _ ⟨P,sg,ops,n0,os,i,S⟩ d K):=_root_.id rfl
theorem FH {j:Nat} {want:Bool}: @o0 _ ⟨P,sg,ops,n0,⟨d,op,ty,ps,af,some (j,want)⟩::os,i,S⟩ K= @gI _ ⟨P,sg,ops,n0,os,i,S⟩ (gd ops S j) want d op K:=
 DQ (o:=⟨d,op,ty,ps,af,some (j,want)⟩) rfl
theorem Zh {r:R}: @Nx _ ⟨P,sg,ops,n0,os,i,S⟩ d K r= @o0 _ ⟨P,sg,ops,n0,os,i+1,S.app d r⟩ K:=_root_.id rfl
theorem Vt: @oZ _ ⟨P,sg,ops,n0,[],i,S⟩ L KD=KD S L:=_root_.id rfl
theorem Oi: @oZ _ ⟨P,sg,ops,n0,⟨d,op,ty,ps,af,none⟩::os,i,S⟩ L KD=jE P sg (rQ S) S.h (mf n0 i) op (@Dx _ ⟨P,sg,ops,n0,os,i,S⟩ d L KD):=_root_.id rfl
theorem IA {j:Nat} {want:Bool}: @oZ _ ⟨P,sg,ops,n0,⟨d,op,ty,ps,af,some (j,want)⟩::os,i,S⟩ L KD= @gJ _ ⟨P,sg,ops,n0,os,i,S⟩ (gd ops S j) want d op L KD:=
 DQ (o:=⟨d,op,ty,ps,af,some (j,want)⟩) rfl
theorem aaK {v:AV} {ws:List (Nat×Blk)} {rd:List Nat}: @Dx _ ⟨P,sg,ops,n0,os,i,S⟩ d L KD ⟨v,ws,rd⟩= @oZ _ ⟨P,sg,ops,n0,os,i+1,S.app d ⟨v,ws,rd⟩⟩ (L++[(ws,rd)]) KD:=_root_.id rfl
theorem yY {b want:Bool} {yes no:Prop}:sP (.p (.bool b)) want yes no=((b=want→yes)∧(b= !want→no)):=by
 cases b<;>cases want<;>simp[sP]
theorem Ut {want:Bool}: @gI _ ⟨P,sg,ops,n0,os,i,S⟩ (.tup []) want d op K= @o0 _ ⟨P,sg,ops,n0,os,i+1,S.puto d (.tup [])⟩ K:=by simp[gI,sP,o0]
theorem Uo {want:Bool}: @gJ _ ⟨P,sg,ops,n0,os,i,S⟩ (.tup []) want d op L KD= @oZ _ ⟨P,sg,ops,n0,os,i+1,S.puto d (.tup [])⟩ (L++[([],[])]) KD:=by simp[gJ,sP,oZ]
theorem Uu: @gI _ ⟨P,sg,ops,n0,os,i,S⟩ (.p (.bool true)) true d op K=jE P sg (rQ S) S.h (mf n0 i) op (@Nx _ ⟨P,sg,ops,n0,os,i,S⟩ d K):=by simp[gI,sP]
theorem Ux: @gI _ ⟨P,sg,ops,n0,os,i,S⟩ (.p (.bool false)) false d op K=jE P sg (rQ S) S.h (mf n0 i) op (@Nx _ ⟨P,sg,ops,n0,os,i,S⟩ d K):=by simp[gI,sP]
theorem Uv: @gI _ ⟨P,sg,ops,n0,os,i,S⟩ (.p (.bool true)) false d op K= @o0 _ ⟨P,sg,ops,n0,os,i+1,S.puto d (.tup [])⟩ K:=by simp[gI,sP,o0]
theorem Uw: @gI _ ⟨P,sg,ops,n0,os,i,S⟩ (.p (.bool false)) true d op K= @o0 _ ⟨P,sg,ops,n0,os,i+1,S.puto d (.tup [])⟩ K:=by simp[gI,sP,o0]
class Arm where
 A:Prop
 B:Prop
def GB (b want:Bool) [D:Arm]:Prop:=(b=want→D.A)∧(b= !want→D.B)
theorem Uf {A B:Prop}: @GB true true ⟨A,B⟩=A:=by simp[GB]
theorem Ui {A B:Prop}: @GB false false ⟨A,B⟩=A:=by simp[GB]
theorem Ug {A B:Prop}: @GB true false ⟨A,B⟩=B:=by simp[GB]
theorem Uh {A B:Prop}: @GB false true ⟨A,B⟩=B:=by simp[GB]
theorem x7 {b:Bool} {A B:Prop} (h1:b=true→A) (h2:b=false→B): @GB b true ⟨A,B⟩:=⟨h1,h2⟩
theorem x8 {b:Bool} {A B:Prop} (h1:b=false→A) (h2:b=true→B): @GB b false ⟨A,B⟩:=⟨h1,h2⟩
theorem Ht {b want:Bool}: @gI _ ⟨P,sg,ops,n0,os,i,S⟩ (.p (.bool b)) want d op K= @GB b want ⟨jE P sg (rQ S) S.h (mf n0 i) op (@Nx _ ⟨P,sg,ops,n0,os,i,S⟩ d K), @o0 _ ⟨P,sg,ops,n0,os,i+1,S.puto d (.tup [])⟩ K⟩:=yY
theorem Up: @gJ _ ⟨P,sg,ops,n0,os,i,S⟩ (.p (.bool true)) true d op L KD=jE P sg (rQ S) S.h (mf n0 i) op (@Dx _ ⟨P,sg,ops,n0,os,i,S⟩ d L KD):=by simp[gJ,sP]
theorem Us: @gJ _ ⟨P,sg,ops,n0,os,i,S⟩ (.p (.bool false)) false d op L KD=jE P sg (rQ S) S.h (mf n0 i) op (@Dx _ ⟨P,sg,ops,n0,os,i,S⟩ d L KD):=by simp[gJ,sP]
theorem Uq: @gJ _ ⟨P,sg,ops,n0,os,i,S⟩ (.p (.bool true)) false d op L KD= @oZ _ ⟨P,sg,ops,n0,os,i+1,S.puto d (.tup [])⟩ (L++[([],[])]) KD:=by simp[gJ,sP,oZ]
theorem Ur: @gJ _ ⟨P,sg,ops,n0,os,i,S⟩ (.p (.bool false)) true d op L KD= @oZ _ ⟨P,sg,ops,n0,os,i+1,S.puto d (.tup [])⟩ (L++[([],[])]) KD:=by simp[gJ,sP,oZ]
theorem Hs {b want:Bool}: @gJ _ ⟨P,sg,ops,n0,os,i,S⟩ (.p (.bool b)) want d op L KD= @GB b want ⟨jE P sg (rQ S) S.h (mf n0 i) op (@Dx _ ⟨P,sg,ops,n0,os,i,S⟩ d L KD), @oZ _ ⟨P,sg,ops,n0,os,i+1,S.puto d (.tup [])⟩ (L++[([],[])]) KD⟩:=yY
theorem Zj {v:PV}:KV C v=C ⟨.p v,[],[]⟩:=_root_.id rfl
theorem Zi {v:AV}:KW C v=C ⟨v,[],[]⟩:=_root_.id rfl
theorem Zk {v:AV}:KA k C v=kn k v C:=_root_.id rfl
variable {rd:List Nat}
theorem jn {n:Int}:oi .i64 n=(-9223372036854775808≤n∧n≤9223372036854775807):=by
 simp only[oi];rfl
theorem RT {n:Nat} {v:AV}:S.app (some n) ⟨v,[],rd⟩=S.put n v:=_root_.id rfl
theorem KO {v:AV}:S.app none ⟨v,[],rd⟩=S:=_root_.id rfl
theorem KN {n:Nat} {v:AV} {w:Nat×Blk} {ws:List (Nat×Blk)}:S.app (some n) ⟨v,w::ws,rd⟩=(S.put n v).hws (w::ws):=_root_.id rfl
theorem FI {v:AV} {w:Nat×Blk} {ws:List (Nat×Blk)}:S.app none ⟨v,w::ws,rd⟩=S.hws (w::ws):=_root_.id rfl
theorem KL {n:Nat} {v:AV}:S.puto (some n) v=S.put n v:=_root_.id rfl
theorem Iq {as:List Arg} {t:Nat}:(fH as).e t=(cr 0 as).getD t (.p .any):=_root_.id rfl
theorem Ho {as:List Arg}:(fH as).h=cP as:=_root_.id rfl
theorem Gy {as:List Arg}:(fH as).n=as.length:=_root_.id rfl
theorem Vf {n:Nat} {v:AV} {t:Nat}:(S.put n v).e t=if t=n then v else S.e t:=_root_.id rfl
theorem Vg {l:List (Nat×Blk)}:(S.hws l).e=S.e:=_root_.id rfl
theorem aaB {n:Nat}:(S.nx n).e=S.e:=_root_.id rfl
theorem T5 {n:Nat} {v:AV}:(S.put n v).h=S.h:=_root_.id rfl
theorem T6 {l:List (Nat×Blk)}:(S.hws l).h=hwsH S.h l:=_root_.id rfl
theorem aaj {n:Nat}:(S.nx n).h=S.h:=_root_.id rfl
theorem Sv {n:Nat} {v:AV}:(S.put n v).n=S.n:=_root_.id rfl
theorem SI {l:List (Nat×Blk)}:(S.hws l).n=S.n:=_root_.id rfl
theorem ZP {n:Nat}:(S.nx n).n=S.n+n:=_root_.id rfl
theorem Sh {t:Nat}:rQ S (.tmp t)=S.e t:=_root_.id rfl
theorem Gj {v:Value}:rQ S (.const v)=.p (d7 v):=_root_.id rfl
theorem Lw {f:FuncId}:rQ S (.func f)=.p (.fn f [] []):=_root_.id rfl
theorem VD {kd:IntKind} {n:Int}:d7 (.int kd n)=.int kd n:=_root_.id rfl
theorem OM {b:Bool}:d7 (.bool b)=.bool b:=_root_.id rfl
theorem VC {s:ByteArray}:d7 (.string s)=.str s.data.toList:=_root_.id rfl
theorem OL:d7 (.slice none 0 0)=.sl .own []:=_root_.id rfl
theorem aaP:d7 .nilFunc=.nilf:=_root_.id rfl
variable {ρ:Operand→AV} {h:Nat→Blk} {t t' t'':TypeId} {x y z:Operand}
theorem DB {op:Op}:iY P false false false op=false:=by cases op<;>rfl
theorem PS {op:Op} (hs:gk sg=false) (hn:gG sg=false) (h3:gF sg=false) (h4:gE sg=false) (h5:gH sg=false):jE P sg ρ h k op C=gA P sg ρ h k op C:=by simp[jE,hs,hn,h3,h4,h5,DB]
theorem PN {op:Op} (hs:gk sg=false) (hn:iY P (gG sg) (gF sg) (gE sg) op=true):jE P sg ρ h k op C=sb P ρ h k op C:=by simp[jE,hs,hn]
theorem PM {op:Op} (h5:gH sg=false) (hs:gk sg=false) (hn:iY P (gG sg) (gF sg) (gE sg) op=false):jE P sg ρ h k op C=gA P sg ρ h k op C:=by simp[jE,hs,hn,h5]
theorem PO {op:Op} (h5:gH sg=true) (hs:gk sg=false) (hm:o8 P op=true):jE P sg ρ h k op C=sb P ρ h k op C:=by simp[jE,hs,h5,hm]
theorem PP {op:Op} (h5:gH sg=true) (hs:gk sg=false) (hm:o8 P op=false) (hn:iY P (gG sg) (gF sg) (gE sg) op=false):jE P sg ρ h k op C=gA P sg ρ h k op C:=by simp[jE,hs,hn,h5,hm]
theorem JT:gA P sg ρ h k (.move x) C=kn k (ρ x) C:=_root_.id rfl
theorem BB:gA P sg ρ h k (.assign x) C=kn k (ρ x) C:=_root_.id rfl
theorem JS:gA P sg ρ h k (.pick x y z) C=jL (ρ x) (ρ y) (ρ z) (KA k C):=_root_.id rfl
theorem Qa {b:BinOp}:gA P sg ρ h k (.binOp b t x y t') C=dZ P b t (ρ x) (ρ y) (KV C):=_root_.id rfl
theorem Xu {b:UnOp}:gA P sg ρ h k (.unOp b t x) C=Jd b (ρ x) (KV C):=_root_.id rfl
theorem Xy:gA P sg ρ h k (.convert t t' x) C=gR P t t' k h (ρ x) C:=_root_.id rfl
theorem JU:gA P sg ρ h k (.makeSlice t x y) C=oL P t k (ρ x) (ρ y) C:=_root_.id rfl
theorem JX:gA P sg ρ h k (.indexAddr t x y) C=cn P t (ρ x) (ρ y) (KW C):=_root_.id rfl
theorem E5:gA P sg ρ h k (.index t x y) C=k5 P t (ρ x) (ρ y) (KW C):=_root_.id rfl
theorem JV:gA P sg ρ h k (.load t x) C=eQ P t h (ρ x) C:=_root_.id rfl
theorem E3:gA P sg ρ h k (.store t x y) C=jt P t h (ρ x) (ρ y) C:=_root_.id rfl
theorem Fb:gA P sg ρ h k (.alloc t) C=ll P t k C:=_root_.id rfl
theorem P8:gA P sg ρ h k (.box t x) C=ED h k (ρ x) C:=_root_.id rfl
theorem E6 {f:Nat}:gA P sg ρ h k (.field t x f) C=kf P t f (ρ x) (KA k C):=_root_.id rfl
theorem uG {f:Nat}:gA P sg ρ h k (.fieldAddr t x f) C=dL P t f (ρ x) (KW C):=_root_.id rfl
def rE (P:Program) (sg:FuncId→List Bool) (h:Nat→Blk) (k:Nat) (v:AV) (vs:List AV) (C:R→Prop):Prop:=
 match v with
 | .p (.fn g first caps)=>kv P sg h k g (first.map .p++vs++caps.map .p) C
 | .fn g first caps=>kv P sg h k g (first++vs++caps) C
 |_=>False
def Pk (P:Program) (h:Nat→Blk) (k:Nat) (f:FuncId) (C:R→Prop):List Arg→List Nat→List (Option (Nat×Option Nat))→Prop:=
 fun as rd ms=>Dn ms rd∧∃tk outs res,CallT P tk f as outs res∧∃t,(t=false→tk=true→Do h ms)∧C ⟨impAll k res,d6 h outs 0 ms++impWs t k res,da ms++rd⟩
def PkX (P:Program) (h:Nat→Blk) (k:Nat) (f:FuncId) (C:R→Prop):List PV→List Nat→Prop:=
 fun xs rd=>Pk P h k f C (xs.map .pv) rd (xs.map fun _=>none)
def pC (h:Nat→Blk):List AV→(List PV→List Nat→Prop)→Prop
 |[],F=>F [] []
 |v::vs,F=>va h v fun x rd=>pC h vs fun xs rd'=>F (x::xs) (rd++rd')
theorem ls {h:Nat→Blk}:∀{vs:List AV} {F:List Arg→List Nat→List (Option (Nat×Option Nat))→Prop},pass h [] vs F=pC h vs fun xs rd=>F (xs.map .pv) rd (xs.map fun _=>none)
 |[],_=>rfl
 |v::vs,F=>by
  simp only[pass,pC,List.tail_nil]
  congr 1;funext x rd
  rw[ls]
  rfl
def UA (F:List PV→List Nat→Prop) (x:PV) (rd:List Nat):List PV→List Nat→Prop:=
 fun xs rd'=>F (x::xs) (rd++rd')
def UN (h:Nat→Blk) (vs:List AV) (F:List PV→List Nat→Prop) (x:PV) (rd:List Nat):Prop:=pC h vs (UA F x rd)
def oX (b:Blk) (id off len:Nat) (F:PV→List Nat→Prop):Prop:=
 match b with
 | .live _ c=>off+len≤c.length∧F (.sl .ro ((c.drop off).take len)) [id]
 | .froz m c=>off+len≤c.length∧F (.sl (.lent m) ((c.drop off).take len)) [id]
 | .deep _ cs rs=>off+len≤cs.length∧F (.sl .ro (((cs.map (DC.rd rs)).drop off).take len)) [id]
 |_=>False
theorem JW {f:Operand} {args:List Operand} {ts:Array TypeId}:gA P sg ρ h k (.call {callee:=.value f,args:=⟨args⟩,argTypes:=ts}) C=rE P sg h k (ρ f) (args.map ρ) C:=by
 simp only[gA];rfl
def FZ (P:Program) (sg:FuncId→List Bool) (h:Nat→Blk) (k:Nat) (g:FuncId) (vs:List AV) (C:R→Prop) (l:List Nat):Prop:=wu P sg (hwsH h (jc h l)) k g vs fun r=>C ⟨r.v,jc h l++r.ws,l++r.rd⟩
def FZC (C:R→Prop) (ws:List (Nat×Blk)) (rd:List Nat) (r:R):Prop:=C ⟨r.v,ws++r.ws,rd++r.rd⟩
theorem Ni {v:AV} {ws ws':List (Nat×Blk)} {rd rd':List Nat}:FZC C ws rd ⟨v,ws',rd'⟩=C ⟨v,ws++ws',rd++rd'⟩:=_root_.id rfl
theorem Nj {g:FuncId} {vs:List AV}:FZ P sg h k g vs C []=pass h (sg g) vs (Pk P h k g C):=_root_.id rfl
theorem Hu {g:FuncId} {vs:List AV} {i:Nat} {l:List Nat}:FZ P sg h k g vs C (i::l)=pass (hwsH h (vT (h i) i (jc h l))) (sg g) vs (Pk P (hwsH h (vT (h i) i (jc h l))) k g (FZC C (vT (h i) i (jc h l)) (i::l))):=_root_.id rfl
theorem Nm:jc h []=[]:=_root_.id rfl
theorem Hy {i:Nat} {l:List Nat}:jc h (i::l)=vT (h i) i (jc h l):=_root_.id rfl
theorem Ii {m:Bool} {c:List PV} {i:Nat} {ws:List (Nat×Blk)}:vT (.live m c) i ws=(i,.froz m c)::ws:=_root_.id rfl
theorem Ij {m:Bool} {c:List PV} {i:Nat} {ws:List (Nat×Blk)}:vT (.froz m c) i ws=ws:=_root_.id rfl
theorem NY {vs:List AV}:jd [] vs=[]:=by cases vs<;>rfl
theorem Il {fs:List Bool}:jd fs []=[]:=by cases fs with|nil=>rfl|cons b fs=>cases b<;>rfl
theorem aay {fs:List Bool} {i o l:Nat} {vs:List AV}:jd (true::fs) (.ref i o l::vs)=i::jd fs vs:=_root_.id rfl
theorem U9 {fs:List Bool} {x:PV} {vs:List AV}:jd (true::fs) (.p x::vs)=jd fs vs:=_root_.id rfl
theorem aaz {fs:List Bool} {v:AV} {vs:List AV}:jd (false::fs) (v::vs)=jd fs vs:=by cases v<;>rfl
def WB (b:List Bool) (P:Program) (h:Nat→Blk) (g:FuncId) (vs:List AV) (C:R→Prop) (F:Prop):Prop:=if b.isEmpty=true then F else lR P h g vs C
theorem G9 {g:FuncId} {vs:List AV} {F:Prop}:WB [] P h g vs C F=F:=if_pos rfl
theorem DD {x:Bool} {b:List Bool} {g:FuncId} {vs:List AV} {F:Prop}:WB (x::b) P h g vs C F=lR P h g vs C:=if_neg (by simp)
def WN (P:Program) (b:Blk) (g:FuncId) (id off len:Nat) (C:R→Prop):Prop:=
 match b with
 | .live m c=>off+len≤c.length∧∃f,ES P g f∧∃l:List Int,(c.drop off).take len=l.map (PV.int .i64)∧C ⟨.p .any,[(id,.live m (c.take off++(f l).map (PV.int .i64)++c.drop (off+len)))],[id]⟩
 |_=>False
theorem M0 {g:FuncId} {id off len:Nat}:lR P h g [.ref id off len] C=WN P (h id) g id off len C:=by
 simp only[lR,WN];cases h id<;>rfl
def IPk (P:Program) (g:FuncId) (F:(List Int→List Int)→Prop):Prop:=∃f,ES P g f∧F f
def IPL (m:Bool) (id off len:Nat) (L:List Int) (C:R→Prop) (f:List Int→List Int):Prop:=C ⟨.p .any,[(id,.live m (List.map (PV.int .i64) (L.take off++f ((L.drop off).take len)++L.drop (off+len))))],[id]⟩
theorem MZ {m:Bool} {id off len:Nat} {L:List Int} {f:List Int→List Int}:IPL m id off len L C f=C ⟨.p .any,[(id,.live m (List.map (PV.int .i64) (L.take off++f ((L.drop off).take len)++L.drop (off+len))))],[id]⟩:=_root_.id rfl
theorem vr:∀{a b:List Int},a.map (PV.int .i64)=b.map (PV.int .i64)→a=b
 |[],[],_=>rfl
 |[],_::_,h=>by cases h
 |_::_,[],h=>by cases h
 |x::a,y::b,h=>by
  simp only[List.map_cons,List.cons.injEq]at h
  obtain⟨h1,h2⟩:=h
  cases h1;rw[vr h2]
theorem He {g:FuncId} {m:Bool} {id off len:Nat} {L:List Int}:WN P (.live m (List.map (PV.int .i64) L)) g id off len C=(off+len≤L.length∧IPk P g (IPL m id off len L C)):=by
 apply propext
 simp only[WN,IPk,IPL,an,aT,List.map_take,List.map_drop]
 constructor
 ·rintro⟨h1,f,h2,l,h3,h4⟩
  rw[←List.map_drop,←List.map_take]at h3
  rw[←vr h3]at h4
  exact⟨h1,f,h2,h4⟩
 ·rintro⟨h1,f,h2,h4⟩
  exact⟨h1,f,h2,_,(by rw[List.map_take,List.map_drop]),h4⟩
theorem cy {g:FuncId} {f:List Int→List Int} {F:(List Int→List Int)→Prop} (h:ES P g f) (k:F f):IPk P g F:=⟨f,h,k⟩
theorem aal {g:FuncId} {vs:List AV}:rE P sg h k (.p (.fn g [] [])) vs C=WB (sg (g+12884901888)) P h g vs C (FZ P sg h k g vs C (jd (sg (g+8589934592)) vs)):=by
 simp only[rE,kv,List.map_nil,aR,aN];rfl
theorem R1 {f:FuncId} {vs:List AV}:pass h [] vs (Pk P h k f C)=pC h vs (PkX P h k f C):=ls
theorem RX {F:List PV→List Nat→Prop}:pC h [] F=F [] []:=_root_.id rfl
theorem q_p {x:PV} {vs:List AV} {F:List PV→List Nat→Prop}:pC h (.p x::vs) F=pC h vs (UA F x.cell []):=_root_.id rfl
theorem RV {id off len:Nat} {vs:List AV} {F:List PV→List Nat→Prop}:pC h (.ref id off len::vs) F=oX (h id) id off len (UN h vs F):=by
 simp only[pC,va,i8,oX];cases h id<;>rfl
theorem RU {F:List PV→List Nat→Prop} {x:PV} {rd rd':List Nat} {xs:List PV}:UA F x rd xs rd'=F (x::xs) (rd++rd'):=_root_.id rfl
theorem Zl {F:List PV→List Nat→Prop} {x:PV} {rd:List Nat} {vs:List AV}:UN h vs F x rd=pC h vs (UA F x rd):=_root_.id rfl
theorem KT {m:Bool} {c:List PV} {id off len:Nat} {F:PV→List Nat→Prop}:oX (.live m c) id off len F=(off+len≤c.length∧F (.sl (.lent true) ((c.drop off).take len)) [id]):=_root_.id rfl
theorem KU {m:Bool} {c:List PV} {id off len:Nat} {F:PV→List Nat→Prop}:oX (.froz m c) id off len F=(off+len≤c.length∧F (.sl (.lent m) ((c.drop off).take len)) [id]):=_root_.id rfl
theorem J7 {f:FuncId} {xs res:List PV} {rd:List Nat} (hf:Fun P f xs res) (hc:C ⟨impAll k res,impWs false k res,rd⟩):PkX P h k f C xs rd:=by
 have hm:∀(l:List PV),da (l.map fun _=>(none:Option (Nat×Option Nat)))=[]:=fun l=>by
  unfold da;rw[List.filterMap_eq_nil_iff];intro a ha;obtain⟨_,_,rfl⟩:=List.mem_map.1 ha;rfl
 have ho:∀(l:List PV) (j:Nat),d6 h [] j (l.map fun _=>(none:Option (Nat×Option Nat)))=[]:=fun l=>by
  induction l with
  |nil=>intro j;rfl
  |cons x l ih=>intro j;exact ih (j+1)
 refine⟨⟨by rw[hm];exact List.nodup_nil,by rw[hm];simp⟩,false,[],res,hf,false,fun _ e=>(by cases e), ?_⟩
 rw[hm,ho];exact hc
theorem Ew {kd:IntKind} {n:Int}:(PV.int kd n).cell=.int kd n:=_root_.id rfl
theorem A6 {b:Bool}:(PV.bool b).cell=.bool b:=_root_.id rfl
theorem Eu {s:List UInt8}:(PV.str s).cell=.str s:=_root_.id rfl
theorem A5 {m:Bool} {s:List PV}:(PV.sl (.lent m) s).cell=.sl (.lent m) s:=by cases m<;>rfl
theorem Ev {s:List PV}:(PV.sl .own s).cell=.sl (.lent false) []:=_root_.id rfl
theorem Ey {s:List PV}:(PV.agg s).cell=.agg s:=_root_.id rfl
theorem IM {f:FuncId} {a b:List PV}:(PV.fn f a b).cell=.fn f a b:=_root_.id rfl
theorem A4:PV.nilf.cell=.nilf:=_root_.id rfl
theorem Wt {kd:IntKind} {n:Int}:kn k (.p (.int kd n)) C=C ⟨.p (.int kd n),[],[]⟩:=_root_.id rfl
theorem Pc {b:Bool}:kn k (.p (.bool b)) C=C ⟨.p (.bool b),[],[]⟩:=_root_.id rfl
theorem Wo {s:List UInt8}:kn k (.p (.str s)) C=C ⟨.p (.str s),[],[]⟩:=_root_.id rfl
theorem Pa {m:Bool} {s:List PV}:kn k (.p (.sl (.lent m) s)) C=C ⟨.p (.sl (.lent m) s),[],[]⟩:=by cases m<;>rfl
theorem Ws {s:List PV}:kn k (.p (.sl .own s)) C=C ⟨.ref k 0 s.length,[(k,.live false s)],[]⟩:=_root_.id rfl
theorem Wv {s:List PV}:kn k (.p (.agg s)) C=C ⟨.p (.agg s),[],[]⟩:=_root_.id rfl
theorem abd {f:FuncId} {a b:List PV}:kn k (.p (.fn f a b)) C=C ⟨.p (.fn f a b),[],[]⟩:=_root_.id rfl
theorem O9:kn k (.p .nilf) C=C ⟨.p .nilf,[],[]⟩:=_root_.id rfl
theorem abc {s:List PV}:kn k (.p (.pc s)) C=C ⟨.p (.pc s),[],[]⟩:=_root_.id rfl
theorem JJ:kn k (.p .any) C=C ⟨.p .any,[],[]⟩:=_root_.id rfl
theorem Wp {a b c:Nat}:kn k (.ref a b c) C=C ⟨.ref a b c,[],[]⟩:=_root_.id rfl
theorem Wq {a b:Nat}:kn k (.ptr a b) C=C ⟨.ptr a b,[],[]⟩:=_root_.id rfl
theorem Pd {s:List AV}:kn k (.agg s) C=C ⟨.agg s,[],[]⟩:=_root_.id rfl
theorem Wn {s:List AV}:kn k (.tup s) C=C ⟨.tup s,[],[]⟩:=_root_.id rfl
theorem Wu {i r o l:Nat}:kn k (.inn i r o l) C=C ⟨.inn i r o l,[],[]⟩:=_root_.id rfl
theorem Wr {i n:Nat}:kn k (.prs i n) C=C ⟨.prs i n,[],[]⟩:=_root_.id rfl
theorem Pb {i r o:Nat}:kn k (.iptr i r o) C=C ⟨.iptr i r o,[],[]⟩:=_root_.id rfl
theorem abV {f:FuncId} {a b:List AV}:kn k (.fn f a b) C=C ⟨.fn f a b,[],[]⟩:=_root_.id rfl
variable {A:AV→Prop} {V:PV→Prop} {kd kd':IntKind} {m n:Int} {b b':Bool} {s s':List UInt8} {v v':AV}
theorem Ll {c:Bool}:jL (.p (.bool b)) (.p (.bool b')) (.p (.bool c)) A=A (.p (.bool (bif b then b' else c))):=_root_.id rfl
theorem Lk:jL (.p (.bool true)) v v' A=A v:=by
 unfold jL;simp only[]
 split<;>rfl
theorem F9:jL (.p (.bool false)) v v' A=A v':=by
 unfold jL;simp only[]
 split<;>rfl
theorem V6:dZ P .add t (.p (.int kd m)) (.p (.int kd' n)) V=(kd=kd'∧oi kd (m+n)∧V (.int kd (m+n))):=_root_.id rfl
theorem VN:dZ P .sub t (.p (.int kd m)) (.p (.int kd' n)) V=(kd=kd'∧oi kd (m - n)∧V (.int kd (m - n))):=_root_.id rfl
theorem VZ:dZ P .mul t (.p (.int kd m)) (.p (.int kd' n)) V=(kd=kd'∧oi kd (m*n)∧V (.int kd (m*n))):=_root_.id rfl
theorem VR:dZ P .quo t (.p (.int kd m)) (.p (.int kd' n)) V=(kd=kd'∧n≠0∧oi kd (m.tdiv n)∧V (.int kd (m.tdiv n))):=_root_.id rfl
theorem VQ:dZ P .rem t (.p (.int kd m)) (.p (.int kd' n)) V=(kd=kd'∧n≠0∧V (.int kd (m.tmod n))):=_root_.id rfl
theorem VP:dZ P .shl t (.p (.int kd m)) (.p (.int kd' n)) V=(0≤n∧n<kd.bits∧oi kd (m*2^n.toNat)∧V (.int kd (m*2^n.toNat))):=_root_.id rfl
theorem VO:dZ P .shr t (.p (.int kd m)) (.p (.int kd' n)) V=(0≤n∧n<kd.bits∧V (.int kd (m.fdiv (2^n.toNat)))):=_root_.id rfl
theorem V5:dZ P .and t (.p (.int kd m)) (.p (.int kd' n)) V=(kd=kd'∧0≤m∧0≤n∧oi kd m∧oi kd n∧V (.int kd ((m.toNat&&& n.toNat:Nat):Int))):=_root_.id rfl
theorem V4:dZ P .eql t (.p (.int kd m)) (.p (.int kd' n)) V=(kd=kd'∧V (.bool (decide (m=n)))):=_root_.id rfl
theorem VY:dZ P .neq t (.p (.int kd m)) (.p (.int kd' n)) V=(kd=kd'∧V (.bool (!decide (m=n)))):=_root_.id rfl
theorem V0:dZ P .lss t (.p (.int kd m)) (.p (.int kd' n)) V=(kd=kd'∧V (.bool (decide (m<n)))):=_root_.id rfl
theorem V1:dZ P .leq t (.p (.int kd m)) (.p (.int kd' n)) V=(kd=kd'∧V (.bool (decide (m≤n)))):=_root_.id rfl
theorem V2:dZ P .gtr t (.p (.int kd m)) (.p (.int kd' n)) V=(kd=kd'∧V (.bool (decide (n<m)))):=_root_.id rfl
theorem V3:dZ P .geq t (.p (.int kd m)) (.p (.int kd' n)) V=(kd=kd'∧V (.bool (decide (n≤m)))):=_root_.id rfl
theorem OU {xs:List PV}:dZ P .eql t (.p .nl) (.p (.sl .own xs)) V=(lW P t∧V (.bool true)):=_root_.id rfl
theorem OT {xs:List PV}:dZ P .neq t (.p .nl) (.p (.sl .own xs)) V=(lW P t∧V (.bool false)):=_root_.id rfl
theorem VV {xs ys:List PV}:dZ P .eql t (.p (.sl .own ys)) (.p (.sl .own xs)) V=(lW P t∧V (.bool true)):=_root_.id rfl
theorem VU {xs ys:List PV}:dZ P .neq t (.p (.sl .own ys)) (.p (.sl .own xs)) V=(lW P t∧V (.bool false)):=_root_.id rfl
theorem VX {xs ys:List PV}:dZ P .eql t (.p (.sl .fr ys)) (.p (.sl .own xs)) V=(lW P t∧0<ys.length∧V (.bool false)):=_root_.id rfl
theorem VW {xs ys:List PV}:dZ P .neq t (.p (.sl .fr ys)) (.p (.sl .own xs)) V=(lW P t∧0<ys.length∧V (.bool true)):=_root_.id rfl
theorem VT {xs:List PV} {i j l:Nat}:dZ P .eql t (.ref i j l) (.p (.sl .own xs)) V=(lW P t∧0<l∧V (.bool false)):=_root_.id rfl
theorem VS {xs:List PV} {i j l:Nat}:dZ P .neq t (.ref i j l) (.p (.sl .own xs)) V=(lW P t∧0<l∧V (.bool true)):=_root_.id rfl
theorem RB (h:(fN P t).isSome=true):lW P t=True:=by
 refine eq_true ?_
 unfold fN at h
 split at h
 ·exact⟨_,by assumption⟩
 ·cases h
theorem RM:dZ P .add t (.p (.str s)) (.p (.str s')) V=(s.length+s'.length≤2^60∧V (.str (s++s'))):=_root_.id rfl
theorem RL:dZ P .eql t (.p (.str s)) (.p (.str s')) V=V (.bool (decide (s=s'))):=_root_.id rfl
theorem RK:dZ P .neq t (.p (.str s)) (.p (.str s')) V=V (.bool (!decide (s=s'))):=_root_.id rfl
theorem abB:dZ P .lss t (.p (.str s)) (.p (.str s')) V=V (.bool (qI s s')):=_root_.id rfl
theorem TE:dZ P .eql t (.p (.bool b)) (.p (.bool b')) V=(rF P t=true∧V (.bool (b==b'))):=_root_.id rfl
theorem TD:dZ P .neq t (.p (.bool b)) (.p (.bool b')) V=(rF P t=true∧V (.bool (!(b==b')))):=_root_.id rfl
theorem Qj:Jd .not (.p (.bool b)) V=V (.bool (!b)):=_root_.id rfl
theorem Qk:Jd .neg (.p (.int kd m)) V=(oi kd (0 - m)∧V (.int kd (0 - m))):=_root_.id rfl
end
end Go.Gl
namespace Go.Gl
open Go Go.RowKit
theorem Fun.calls1 [Amb] {P:Program} {f:FuncId} {args:List PV} {b:Bool} (hf:Fun P f args [.bool b]) (w:World) (ha:∀B o,Amb.tb B=some o→w.heap[B]? =some o) {vs:List Value} (hr:RepL w (fun _=>False) (fun B=>w.heap.size≤B) args vs):
  Calls P f ⟨vs⟩ w fun e w'=>e=.returned (.bool b)∧Below w.heap.size w w':=by
 obtain⟨_,_,_,_,h⟩:=hf
 have dead:∀j,cP (args.map .pv) j=.dead:=fun j=>by
  unfold cP
  rw[ax]
  cases args[j]? <;>rfl
 have hno:∀(ι:Nat→Loc) B,¬Held (cP (args.map .pv)) ι B:=by
  rintro ι B ⟨id,ho⟩
  rw[dead]at ho;exact ho
 have hrep:∀(l:List PV) (vs:List Value) (k:Nat),RepL w (fun _=>False) (fun B=>w.heap.size≤B) l vs→RepAL w (Held (cP (args.map .pv)) fun _=>⟨0,0,0,0,ce⟩) (fun B=>w.heap.size≤B) (fun _=>⟨0,0,0,0,ce⟩) (cr k (l.map .pv)) vs:=by
  intro l
  induction l with
  |nil=>intro vs k h;simpa[cr,RepAL,RepL]using h
  |cons x l ih=>
   intro vs k h
   simp only[RepL]at h
   obtain⟨v,vs',rfl,h1,h2⟩:=h
   simp only[List.map_cons,cr,Arg.av,RepAL,RepA]
   exact⟨v,vs',rfl,RepP.tr (F:=fun _=>False) (fun _ _ _ _ hv=>⟨hv,hno _ _⟩) (fun _ _ _ h=>h) _ _ h1,ih _ _ h2⟩
 refine(h w (fun B=>w.heap.size≤B) (fun _=>⟨0,0,0,0,ce⟩) vs ⟨ha,fun B o _ hB=>hno _ B hB⟩ (fun _ h=>h) ⟨?_, ?_⟩ (hrep _ _ _ hr)).mono ?_
 ·intro id;rw[dead];trivial
 ·intro id _ B ho;rw[dead]at ho;exact ho.elim
 ·rintro e w' ⟨v,ι',rfl,_,hk,_,hv⟩
  have hv:v=.bool b:=by simpa[impAll,imp,imp1,RepA,RepP]using hv
  subst hv
  exact⟨rfl,hk.os,hk.tape,hk.output,hk.size,fun k hk'=>hk.block k hk' (hno _ _)⟩
theorem Fun.calls {P:Program} {f:FuncId} {args:List PV} {b:Bool} (hf: @Fun sD P f args [.bool b]) (w:World) {vs:List Value} (hr:RepL w (fun _=>False) (fun B=>w.heap.size≤B) args vs):
  Calls P f ⟨vs⟩ w fun e w'=>e=.returned (.bool b)∧Below w.heap.size w w':=
 @Fun.calls1 sD P f args b hf w (fun _ _ h=>by cases h) vs hr
theorem WI {w:World} {F G:Nat→Prop}:RepL w F G [] []:=by simp only[RepL]
theorem RR {w:World} {F G:Nat→Prop} {x:PV} {xs:List PV} {v:Value} {vs:List Value} (h:RepP w F G x v) (hs:RepL w F G xs vs):RepL w F G (x::xs) (v::vs):=by
 simp only[RepL];exact⟨v,vs,rfl,h,hs⟩
theorem abD {w:World} {F G:Nat→Prop} {k:IntKind} (n:Int):RepP w F G (.int k n) (.int k n):=by simp only[RepP]
theorem abE {w:World} {F G:Nat→Prop} (b:Bool):RepP w F G (.bool b) (.bool b):=by simp only[RepP]
theorem abC {w:World} {F G:Nat→Prop} (s:ByteArray):RepP w F G (.str s.data.toList) (.string s):=by simp only[RepP]
def IsRow (k:IntKind) (w:World) (a:Option Addr) (len cap:Nat) (zs:List Int):Prop:=
 (a=none∧len=0∧cap=0∧zs=[])∨
 ∃x,a=some x∧len≤cap∧cap≤maxLen∧zs.length=cap∧(∀i,i<zs.length→w.cell? (x.add i)=some (.int k (zs.getD i 0)))∧∀n∈zs,(Lit.int k n).wf=true
def DF (k:IntKind) (xs:List Int):PV:=.sl .ro (xs.map (.int k))
theorem IsRow.rep {k:IntKind} {w:World} {G:Nat→Prop} {a:Option Addr} {len cap:Nat} {zs:List Int} (h:IsRow k w a len cap zs):RepP w (fun _=>False) G (DF k (zs.take len)) (.slice a len cap):=by
 simp only[DF,RepP]
 rcases h with⟨rfl,rfl,rfl,rfl⟩|⟨x,rfl,hl,hm,hz,hc,_⟩
 ·exact⟨none,0,rfl,am _,Nat.zero_le _,(by intro h;cases h),.inl rfl⟩
 ·have e:((zs.take len).map (PV.int k)).length=len:=by simp;omega
  refine⟨some x,cap,by rw[e],by rw[e];exact hl,hm,(by intro h;cases h), ?_⟩
  by_cases h0:len=0
  ·left;subst h0;rfl
  ·right
   obtain⟨B,off,spot⟩:=x
   have h1:=hc 0 (by omega)
   have hs:spot=none:=by simpa[Addr.add]using World.cell?_spot h1
   subst hs
   refine⟨B,off,rfl,id,(by intro h;cases h), ?_⟩
   have key:∀(ys:List Int) (o:Nat),(∀i (hi:i<ys.length),w.cell? ⟨B,o+i,none⟩=some (.int k ys[i]))→RepC w (fun _=>False) G B o (ys.map (.int k)):=by
    intro ys
    induction ys with
    |nil=>intro o _;simp only[List.map_nil,RepC]
    |cons y ys ih=>
     intro o hy
     simp only[List.map_cons,RepC,RepP]
     refine⟨⟨_,hy 0 (by simp),rfl,rfl⟩,ih (o+1) fun i hi=> ?_⟩
     have:=hy (i+1) (by simpa using hi)
     rw[show o+1+i=o+(i+1)by omega]
     simpa using this
   refine key _ off fun i hi=> ?_
   have hi':i<zs.length:=by simp at hi;omega
   have:=hc i hi'
   by_cases hi0:i=0
   ·subst hi0;simpa[Addr.add,hi']using this
   ·simpa[Addr.add,hi',hi0]using this
end Go.Gl
namespace Go.Gl
open Go
variable [Amb]
section
variable {P:Program} {sg:FuncId→List Bool} {h:Nat→Blk} {k:Nat} {ρ:Operand→AV} {C:R→Prop} {t t':TypeId} {x y:Operand}
def RD (h:Nat→Blk) (i:Nat) (b:Blk) (j:Nat):Blk:=if j=i then b else h j
theorem M7:hwsH h []=h:=_root_.id rfl
theorem Hk {i:Nat} {b:Blk} {l:List (Nat×Blk)}:hwsH h ((i,b)::l)=hwsH (RD h i b) l:=_root_.id rfl
theorem FB {i j:Nat} {b:Blk}:RD h i b j=if j=i then b else h j:=_root_.id rfl
theorem Lx {S0 i:Nat}:mf S0 i=S0+256*i:=_root_.id rfl
def yV {α:Type} (o:Option α) (K:α→Prop):Prop:=match o with|some x=>K x|none=>False
theorem T8 {α:Type} {xs:List α} {i:Int} {K:α→Prop}:gt xs i K=(0≤i∧yV xs[i.toNat]? K):=_root_.id rfl
theorem DK {α:Type} {a:α} {K:α→Prop}:yV (some a) K=K a:=_root_.id rfl
theorem acj {l:List Int} {i:Nat} {f:Int→PV} {K:PV→Prop} (hi:i<l.length) (hk:K (f (l.getD i 0))):yV (Option.map f l[i]?) K:=by
 rw[ae hi]
 rw[ac,ae hi]at hk
 exact hk
theorem aby {l:List UInt8} {i:Nat} {K:UInt8→Prop} (hi:i<l.length) (hk:K (l.getD i 0)):yV l[i]? K:=by
 rw[ae hi]
 rw[ac,ae hi]at hk
 exact hk
def KX (id:Nat) (C:R→Prop) (v:PV):Prop:=C ⟨.p v,[],[id]⟩
def KB (A:AV→Prop) (b:UInt8):Prop:=A (.p (.int .u8 b.toNat))
def KP (A:AV→Prop) (v:PV):Prop:=A (.p (.pc [v]))
def EW (s:Option (Nat×Bool)) (h:Nat→Blk) (a:AV) (C:R→Prop):Prop:=
 match s with
 |some (n,false)=>n=1∧(match a with
  | .p (.pc (x::_))=>C ⟨.p x,[],[]⟩
  | .ptr id off=>match h id with
   | .live _ c=>gt c off fun x=>C ⟨.p x,[],[id]⟩
   | .froz _ c=>gt c off fun x=>C ⟨.p x,[],[id]⟩
   | .deep _ cs rs=>gt cs off fun x=>C ⟨x.av id rs,[],[id]⟩
   |_=>False
  | .iptr id r off=>match h id with
   | .deep _ _ rs=>(match rs[r]? with
    |some (some c)=>gt c off fun x=>C ⟨.p x,[],[id]⟩
    |_=>False)
   |_=>False
  |_=>False)
 |some (n,true)=>(match a with
  | .p (.pc xs)=>n≤xs.length∧C ⟨.p (.agg (xs.take n)),[],[]⟩
  | .ptr id off=>match h id with
   | .live _ c=>off+n≤c.length∧C ⟨.p (.agg ((c.drop off).take n)),[],[id]⟩
   | .froz _ c=>off+n≤c.length∧C ⟨.p (.agg ((c.drop off).take n)),[],[id]⟩
   | .deep _ cs rs=>off+n≤cs.length∧C ⟨.agg (((cs.drop off).take n).map (DC.av id rs)),[],[id]⟩
   |_=>False
  |_=>False)
 |none=>False
def KD (id:Nat) (rs:List (Option (List PV))) (C:R→Prop) (x:DC):Prop:=C ⟨x.av id rs,[],[id]⟩
def Pi (b:Blk) (id r off:Nat) (C:R→Prop):Prop:=
 match b with
 | .deep _ _ rs=>(match rs[r]? with
  |some (some c)=>gt c off (KX id C)
  |_=>False)
 |_=>False
def sc (b:Blk) (id:Nat) (off:Nat) (C:R→Prop):Prop:=
 match b with
 | .live _ c=>gt c off (KX id C)
 | .froz _ c=>gt c off (KX id C)
 | .deep _ cs rs=>gt cs off (KD id rs C)
 |_=>False
theorem Mt {a:AV}:eQ P t h a C=EW (bK P t) h a C:=_root_.id rfl
theorem GN {v:PV} {vs:List PV}:EW (some (1,false)) h (.p (.pc (v::vs))) C=C ⟨.p v,[],[]⟩:=by simp[EW]
theorem Db {id off:Nat}:EW (some (1,false)) h (.ptr id off) C=sc (h id) id off C:=by simp only[EW,sc,true_and];rfl
theorem Am {id r off:Nat}:EW (some (1,false)) h (.iptr id r off) C=Pi (h id) id r off C:=by simp only[EW,Pi,true_and];rfl
theorem Mu {m:Bool} {c:List PV} {id off:Nat}:sc (.live m c) id off C=gt c off (KX id C):=_root_.id rfl
theorem Mv {m:Bool} {c:List PV} {id off:Nat}:sc (.froz m c) id off C=gt c off (KX id C):=_root_.id rfl
theorem Z2 {id:Nat} {v:PV}:KX id C v=C ⟨.p v,[],[id]⟩:=_root_.id rfl
theorem Dh {n:Nat} {xs:List PV}:EW (some (n,true)) h (.p (.pc xs)) C=(n≤xs.length∧C ⟨.p (.agg (xs.take n)),[],[]⟩):=_root_.id rfl
variable {A:AV→Prop}
theorem Aq {kd:IntKind} {i:Int} {o:Fl} {xs:List PV}:cn P t (.p (.sl o xs)) (.p (.int kd i)) A=((fN P t).isSome=true∧gt xs i (KP A)):=_root_.id rfl
theorem xh {kd:IntKind} {i:Int} {id off len:Nat}:cn P t (.ref id off len) (.p (.int kd i)) A=((fN P t).isSome=true∧0≤i∧i<len∧A (.ptr id (off+i.toNat))):=_root_.id rfl
theorem xj {kd:IntKind} {i:Int} {id r off len:Nat}:cn P t (.inn id r off len) (.p (.int kd i)) A=((fN P t).isSome=true∧0≤i∧i<len∧A (.iptr id r (off+i.toNat))):=_root_.id rfl
theorem Z3 {v:PV}:KP A v=A (.p (.pc [v])):=_root_.id rfl
theorem GO {kd:IntKind} {i:Int} {s:List UInt8}:k5 P t (.p (.str s)) (.p (.int kd i)) A=(c8 P t=true∧gt s i (KB A)):=_root_.id rfl
theorem Z4 {b:UInt8}:KB A b=A (.p (.int .u8 b.toNat)):=_root_.id rfl
theorem P2 {ty:TypeId}:gA P sg ρ h k (.call {callee:=.builtin .len,args:=⟨[x]⟩,argTypes:=⟨[ty]⟩}) C=qJ P ty (ρ x) (KW C):=_root_.id rfl
theorem GM {s:List UInt8}:qJ P t (.p (.str s)) A=(c8 P t=true∧A (.p (.int .i64 s.length))):=_root_.id rfl
theorem Da {o:Fl} {xs:List PV}:qJ P t (.p (.sl o xs)) A=((fN P t).isSome=true∧A (.p (.int .i64 xs.length))):=_root_.id rfl
theorem Aj {id off len:Nat}:qJ P t (.ref id off len) A=((fN P t).isSome=true∧A (.p (.int .i64 len))):=_root_.id rfl
theorem Al {id r off len:Nat}:qJ P t (.inn id r off len) A=((fN P t).isSome=true∧A (.p (.int .i64 len))):=_root_.id rfl
def BS (n k:Nat) (C:R→Prop) (xs:List PV) (ws:List (Nat×Blk)) (rd:List Nat):Prop:=C ⟨.ref k 0 n,ws++[(k,.live false xs)],rd⟩
def PU (F:List PV→List (Nat×Blk)→List Nat→Prop) (v:PV) (xs:List PV) (ws:List (Nat×Blk)) (rd:List Nat):Prop:=F (v::xs) ws rd
theorem Xz {n:Nat} {parts:Array (Nat×Operand)} (hs:(fN P t).isSome=true):gA P sg ρ h k (.buildSlice t n parts) C=((fN P t).isSome=true∧fp n parts=true∧n≤1000000∧kw h (parts.toList.map fun p=>ρ p.2) (BS n k C)):=by
 show ca P t n parts k ρ h C=_
 unfold ca;rw[if_neg (Aa hs)];rfl
def BP (n k:Nat) (C:R→Prop) (xs:List PV):Prop:=C ⟨.prs k n,[(k,.live false xs)],[]⟩
def PR (x y:PV) (F:List PV→Prop) (xs:List PV):Prop:=F (x::y::xs)
theorem P6 {n:Nat} {parts:Array (Nat×Operand)} (hs:kR P t=true):gA P sg ρ h k (.buildSlice t n parts) C=(fp n parts=true∧1≤n∧n≤1000000∧zZ (parts.toList.map fun p=>ρ p.2) (BP n k C)):=by
 show ca P t n parts k ρ h C=_
 unfold ca;rw[if_pos hs];rfl
theorem Z6 {n:Nat} {xs:List PV}:BP n k C xs=C ⟨.prs k n,[(k,.live false xs)],[]⟩:=_root_.id rfl
theorem Z1 {x y:PV} {F:List PV→Prop} {xs:List PV}:PR x y F xs=F (x::y::xs):=_root_.id rfl
theorem K5 {F:List PV→Prop}:zZ [] F=F []:=_root_.id rfl
theorem F5 {x y:PV} {vs:List AV} {F:List PV→Prop}:zZ (.agg [.p x,.p y]::vs) F=(x.cellOk=true∧y.cellOk=true∧zZ vs (PR x y F)):=_root_.id rfl
theorem Vz {f:FuncId} {a b:List PV}:PV.cellOk (.fn f a b)=true:=_root_.id rfl
theorem Se {f:FuncId} {a b:List PV}:AV.one1 (.p (.fn f a b))=True:=_root_.id rfl
theorem xi {A:AV→Prop} {kd:IntKind} {i:Int} {id len:Nat}:cn P t (.prs id len) (.p (.int kd i)) A=(kR P t=true∧0≤i∧i<len∧A (.ptr id (i.toNat*2))):=_root_.id rfl
theorem Ak {A:AV→Prop} {id len:Nat}:qJ P t (.prs id len) A=(kR P t=true∧A (.p (.int .i64 len))):=_root_.id rfl
theorem F8 {n:Nat} {parts:Array (Nat×Operand)} (h:fp n parts=true):fp n parts=true:=h
theorem C9 {F:List PV→List (Nat×Blk)→List Nat→Prop}:kw h [] F=F [] [] []:=_root_.id rfl
theorem Ms {F:List PV→List (Nat×Blk)→List Nat→Prop} {v:PV} {vs:List AV}:kw h (.p v::vs) F=(v.cell.cellOk=true∧kw h vs (PU F v.cell)):=_root_.id rfl
theorem Z0 {F:List PV→List (Nat×Blk)→List Nat→Prop} {v:PV} {xs:List PV} {ws:List (Nat×Blk)} {rd:List Nat}:PU F v xs ws rd=F (v::xs) ws rd:=_root_.id rfl
theorem Z5 {n:Nat} {xs:List PV} {ws:List (Nat×Blk)} {rd:List Nat}:BS n k C xs ws rd=C ⟨.ref k 0 n,ws++[(k,.live false xs)],rd⟩:=_root_.id rfl
theorem Ls {kd:IntKind} {n:Int}:(PV.int kd n).cellOk=true:=_root_.id rfl
theorem Gg {b:Bool}:(PV.bool b).cellOk=true:=_root_.id rfl
theorem Lr {s:List UInt8}:(PV.str s).cellOk=true:=_root_.id rfl
theorem Gf {m:Bool} {s:List PV}:(PV.sl (.lent m) s).cellOk=true:=by cases m<;>rfl
def AP (h:Nat→Blk) (k:Nat) (s:AV) (C:R→Prop) (ys:List PV) (rd:List Nat):Prop:=
 match s with
 | .ref id off len=>match h id with
  | .live m c=>len+ys.length≤1099511627776∧off+len≤c.length∧
    (if off+len=c.length then C ⟨.ref k 0 (len+ys.length),[(id,.dead),(k,.live m (c.drop off++ys))],id::rd⟩
    else if off+len+ys.length≤c.length then C ⟨.ref k off (len+ys.length),[(id,.dead),(k,.live m (c.take (off+len)++ys++c.drop (off+len+ys.length)))],id::rd⟩
    else C ⟨.ref k 0 (len+ys.length),[(id,.dead),(k,.live m ((c.drop off).take len++ys))],id::rd⟩)
  |_=>False
 | .p (.sl .own [])=>ys.length≤1099511627776∧C ⟨.ref k 0 ys.length,[(k,.live false ys)],rd⟩
 | .inn id r 0 len=>(match h id with
  | .deep m cs rs=>(match rs[r]? with
   |some (some c)=>len=c.length∧id∉rd∧len+ys.length≤1099511627776∧
     C ⟨.ref k 0 (len+ys.length),[(id,.deep m cs (rs.set r none)),(k,.live m (c++ys))],id::rd⟩
   |_=>False)
  |_=>False)
 |_=>False
def Pr (b:Blk) (id r len k:Nat) (C:R→Prop) (ys:List PV) (rd:List Nat):Prop:=
 match b with
 | .deep m cs rs=>(match rs[r]? with
  |some (some c)=>len=c.length∧id∉rd∧len+ys.length≤1099511627776∧
    C ⟨.ref k 0 (len+ys.length),[(id,.deep m cs (rs.set r none)),(k,.live m (c++ys))],id::rd⟩
  |_=>False)
 |_=>False
def Ps (b:Blk) (id off len k:Nat) (C:R→Prop) (ys:List PV) (rd:List Nat):Prop:=
 match b with
 | .live m c=>len+ys.length≤1099511627776∧off+len≤c.length∧
    (if off+len=c.length then C ⟨.ref k 0 (len+ys.length),[(id,.dead),(k,.live m (c.drop off++ys))],id::rd⟩
    else if off+len+ys.length≤c.length then C ⟨.ref k off (len+ys.length),[(id,.dead),(k,.live m (c.take (off+len)++ys++c.drop (off+len+ys.length)))],id::rd⟩
    else C ⟨.ref k 0 (len+ys.length),[(id,.dead),(k,.live m ((c.drop off).take len++ys))],id::rd⟩)
 |_=>False
def EZ (b:Blk) (id off len:Nat) (F:List PV→List Nat→Prop):Prop:=
 match b with
 | .live _ c=>off+len≤c.length∧F ((c.drop off).take len) [id]
 | .froz _ c=>off+len≤c.length∧F ((c.drop off).take len) [id]
 |_=>False
def JG (b:Blk) (id r off len:Nat) (F:List PV→List Nat→Prop):Prop:=
 match b with
 | .deep _ _ rs=>(match rs[r]? with
  |some (some c)=>off+len≤c.length∧F ((c.drop off).take len) [id]
  |_=>False)
 |_=>False
def O5 (h:Nat→Blk) (k:Nat) (s x:AV) (C:R→Prop):Prop:=if gV h x=true then eN h k s x C else jf h x (AP h k s C)
def Pq (b:Blk) (h:Nat→Blk) (k:Nat) (s:AV) (j off n:Nat) (C:R→Prop):Prop:=
 match b with
 | .deep .. =>eN h k s (.ref j off n) C
 |b=>EZ b j off n (AP h k s C)
theorem aaX {s:AV} {v:PV}:O5 h k s (.p v) C=jf h (.p v) (AP h k s C):=by simp[O5,gV]
theorem OV {s:AV} {j off n:Nat}:O5 h k s (.ref j off n) C=Pq (h j) h k s j off n C:=by
 cases e:h j<;>simp[O5,gV,Pq,jf,EZ,e]
theorem OW {s:AV} {j r off n:Nat}:O5 h k s (.inn j r off n) C=JG (h j) j r off n (AP h k s C):=by
 simp only[O5,gV,Bool.false_eq_true,if_false,jf,JG];cases h j<;>rfl
theorem IY {m:Bool} {c:List PV} {s:AV} {j off n:Nat}:Pq (.live m c) h k s j off n C=EZ (.live m c) j off n (AP h k s C):=_root_.id rfl
theorem IZ {m:Bool} {c:List PV} {s:AV} {j off n:Nat}:Pq (.froz m c) h k s j off n C=EZ (.froz m c) j off n (AP h k s C):=_root_.id rfl
theorem Dg {id r len:Nat} {ys:List PV} {rd:List Nat}:AP h k (.inn id r 0 len) C ys rd=Pr (h id) id r len k C ys rd:=by
 simp only[AP,Pr]
theorem BC:gA P sg ρ h k (.call {callee:=.builtin .append,args:=⟨[x,y]⟩,argTypes:=⟨[t,t']⟩}) C=
  ((fN P t).isSome=true∧((fN P t').isSome=true∨c8 P t'=true)∧O5 h k (ρ x) (ρ y) C):=rfl
theorem GP {o:Fl} {xs:List PV} {F:List PV→List Nat→Prop}:jf h (.p (.sl o xs)) F=F xs []:=_root_.id rfl
theorem Mx {s:List UInt8} {F:List PV→List Nat→Prop}:jf h (.p (.str s)) F=F (s.map fun b=>.int .u8 b.toNat) []:=_root_.id rfl
theorem Dc {id off len:Nat} {F:List PV→List Nat→Prop}:jf h (.ref id off len) F=EZ (h id) id off len F:=by
 simp only[jf,EZ];cases h id<;>rfl
theorem Dd {id r off len:Nat} {F:List PV→List Nat→Prop}:jf h (.inn id r off len) F=JG (h id) id r off len F:=by
 simp only[jf,JG];cases h id<;>rfl
theorem An {m:Bool} {c:List PV} {id off len:Nat} {F:List PV→List Nat→Prop}:EZ (.live m c) id off len F=(off+len≤c.length∧F ((c.drop off).take len) [id]):=_root_.id rfl
theorem Ao {m:Bool} {c:List PV} {id off len:Nat} {F:List PV→List Nat→Prop}:EZ (.froz m c) id off len F=(off+len≤c.length∧F ((c.drop off).take len) [id]):=_root_.id rfl
theorem Df {ys:List PV} {rd:List Nat}:AP h k (.p (.sl .own [])) C ys rd=(ys.length≤1099511627776∧C ⟨.ref k 0 ys.length,[(k,.live false ys)],rd⟩):=_root_.id rfl
theorem De {id off len:Nat} {ys:List PV} {rd:List Nat}:AP h k (.ref id off len) C ys rd=Ps (h id) id off len k C ys rd:=by
 simp only[AP,Ps]
theorem Ap {m:Bool} {c:List PV} {id off len:Nat} {ys:List PV} {rd:List Nat}:Ps (.live m c) id off len k C ys rd=(len+ys.length≤1099511627776∧off+len≤c.length∧
    (if off+len=c.length then C ⟨.ref k 0 (len+ys.length),[(id,.dead),(k,.live m (c.drop off++ys))],id::rd⟩
    else if off+len+ys.length≤c.length then C ⟨.ref k off (len+ys.length),[(id,.dead),(k,.live m (c.take (off+len)++ys++c.drop (off+len+ys.length)))],id::rd⟩
    else C ⟨.ref k 0 (len+ys.length),[(id,.dead),(k,.live m ((c.drop off).take len++ys))],id::rd⟩)):=rfl
theorem BK {α:Type} {l:List α}:l.take l.length=l:=List.take_length
theorem tv {α β:Type} {f:α→β} {l:List α}:(l.map f).take l.length=l.map f:=by rw[ah (by simp)]
end
end Go.Gl
namespace Go.Gl
open Go
variable [Amb]
section
variable {S:St} {as:List Arg} {h:Nat→Blk} {k:Nat} {F:List (Nat×Nat×Pl)→Prop} {v:AV} {vs:List AV} {xs:List PV}
def FK (h:Nat→Blk) (k:Nat) (vs:List AV) (xs:List PV) (F:List (Nat×Nat×Pl)→Prop) (L:List (Nat×Nat×Pl)):Prop:=dy false h k vs xs fun L'=>F (L++L')
def F0 (L:List (Nat×Nat×Pl)):Prop:=L.Pairwise Dj
theorem Qg {ts:List Nat} {ex:Ex} (hx:ex=.ret∨ex=.normal) (hf:dy false S.h as.length (ts.map S.e) xs F0):wB as ts xs ex S:=by
 have key:tl false S as [] (ts.map S.e) xs:=by
  unfold tl
  refine Eq.mpr (congrArg (dy false S.h as.length (ts.map S.e) xs) (?_:_=F0)) hf
  funext L
  simp only[F0]
  apply propext
  constructor
  ·intro h;exact h.1
  ·intro h;refine⟨h,fun j _=> ?_⟩
   split
   ·rename_i h;simp at h
   ·trivial
 rcases hx with rfl|rfl<;>exact key
theorem U2:dy false h k [] [] F=F []:=_root_.id rfl
theorem NW {x:PV}:dy false h k (v::vs) (x::xs) F=fin false h k v x (FK h (k+16) vs xs F):=_root_.id rfl
def FL (L:List (Nat×Nat×Pl)) (F:List (Nat×Nat×Pl)→Prop) (L':List (Nat×Nat×Pl)):Prop:=F (L++L')
theorem JA {L:List (Nat×Nat×Pl)}:FK h k vs xs F L=dy false h k vs xs (FL L F):=_root_.id rfl
theorem aax {L L':List (Nat×Nat×Pl)}:FL L F L'=F (L++L'):=_root_.id rfl
theorem U3 {kd:IntKind} {n:Int}:fin false h k v (.int kd n) F=(v=.p (.int kd n)∧F []):=_root_.id rfl
theorem NX {b:Bool}:fin false h k v (.bool b) F=(v=.p (.bool b)∧F []):=_root_.id rfl
theorem U0 {s:List UInt8}:fin false h k v (.str s) F=(v=.p (.str s)∧F []):=_root_.id rfl
theorem aav {s:List PV}:fin false h k v (.sl (.lent true) s) F=(v=.p (.sl (.lent true) s)∧F []):=_root_.id rfl
def Pn (b:Blk) (k id off len:Nat) (ys:List PV) (F:List (Nat×Nat×Pl)→Prop):Prop:=
 match b with
 | .live m c=>off+len≤c.length∧(m=true→false=true)∧(c.drop off).take len=ys∧F [(k,id,.o off)]
 |_=>False
theorem U1 {id off len:Nat} {ys:List PV}:fin false h k (.ref id off len) (.sl .own ys) F=Pn (h id) k id off len ys F:=by
 simp only[fin,dX,Pn];cases h id<;>rfl
theorem NV {c:List PV} {id off len:Nat} {ys:List PV}:Pn (.live false c) k id off len ys F=(off+len≤c.length∧(c.drop off).take len=ys∧F [(k,id,.o off)]):=by
 simp[Pn]
theorem NU {ys zs:List PV}:fin false h k (.p (.sl .own zs)) (.sl .own ys) F=(ys=[]∧F []):=_root_.id rfl
theorem f_0:F0 []:=List.Pairwise.nil
theorem f_1 {p:Nat×Nat×Pl}:F0 [p]:=by simp[F0]
end
end Go.Gl
namespace Go.Gl
open Go
variable [Amb]
section
variable {S:St} {h:Nat→Blk} {C:R→Prop} {k:Nat} {P:Program} {t t':TypeId}
theorem S7 {α β:Type} {f:α→β} {l l':List α}:List.map f l++List.map f l'=List.map f (l++l'):=List.map_append.symm
theorem L7 {l:List Int} {kd:IntKind} {x:Int} {r:List PV}:List.map (PV.int kd) l++(PV.int kd x::r)=List.map (PV.int kd) (l++[x])++r:=by simp
theorem L6 {l:List (List UInt8)} {x:List UInt8} {r:List PV}:List.map PV.str l++(PV.str x::r)=List.map PV.str (l++[x])++r:=by simp
theorem GH {l:List Bool} {x:Bool} {r:List PV}:List.map PV.bool l++(PV.bool x::r)=List.map PV.bool (l++[x])++r:=by simp
theorem Kd {α β:Type} {f:α→β} {l:List α} {n:Nat}:(l.map f).take n=(l.take n).map f:=List.map_take.symm
theorem Oe {α β:Type} {f:α→β} {l:List α} {n:Nat}:(l.map f).drop n=(l.drop n).map f:=List.map_drop.symm
def kA (b:UInt8):PV:=.int .u8 b.toNat
def bW (m:Bool) (l:List Int):PV:=.sl (.lent m) (l.map (.int .i64))
def Ip (m:Bool) (l:List (List UInt8)):PV:=.sl (.lent m) (l.map .str)
theorem abH {b:UInt8}:noRo (kA b)=true:=_root_.id rfl
theorem CT {l:List Int}:noRo (bW false l)=true:=cZ (fun _=>rfl) l
theorem LC {l:List (List UInt8)}:noRo (Ip false l)=true:=cZ (fun _=>rfl) l
theorem abx {α:Type} [Inhabited α] {l:List α} {i:Nat} {f:α→PV} {K:PV→Prop} (hi:i<l.length) (hk:K (f (l.getD i default))):yV (Option.map f l[i]?) K:=by
 rw[ae hi]
 rw[ac,ae hi]at hk
 exact hk
theorem KK {i o l l':Nat} (h:l=l'):AV.ref i o l=AV.ref i o l':=by rw[h]
theorem GS {m:Bool} {α:Type} {f:α→PV} {l l':List α} (h:l=l'):Blk.live m (l.map f)=Blk.live m (l'.map f):=by rw[h]
theorem WR {m:Bool} {α:Type} {f:α→PV} {l l':List α} (h:l=l'):Blk.froz m (l.map f)=Blk.froz m (l'.map f):=by rw[h]
theorem M1 {kd:IntKind} {a b:Int} (h:a=b):AV.p (.int kd a)=AV.p (.int kd b):=by rw[h]
theorem IU {a b:Bool} (h:a=b):AV.p (.bool a)=AV.p (.bool b):=by rw[h]
theorem Kj {a b:List UInt8} (h:a=b):AV.p (.str a)=AV.p (.str b):=by rw[h]
theorem RC {o:Fl} {α:Type} {f:α→PV} {l l':List α} (h:l=l'):AV.p (.sl o (l.map f))=AV.p (.sl o (l'.map f)):=by rw[h]
theorem S6 {α:Type} {f:α→PV} {l l':List α} (h:l=l'):l.map f=l'.map f:=by rw[h]
theorem abJ {m:Bool} {l l':List PV} (h:l=l'):Blk.live m l=Blk.live m l':=by rw[h]
end
attribute [go_sem ↓] PS RS KM FH Zh Vt Oi IA aaK JT BB JS Qa
attribute [go_sem ↓] Xu JW JV JX E5 Vf Sh Gj Iq P2 Xz BC
attribute [go_sem] G9 DD M0 He MZ aal Nj Hu Ni Nm Hy Ii Ij NY Il aay U9 aaz R1 RX q_p RV RU Zl KT KU Ew A6 Eu
attribute [go_sem] A5 Ev Uu Ux Uv Uw Ht Up Us Uq Ur
attribute [go_sem] Hs Uf Ui Ug Uh gd Zj Zi Zk Wt Pc Wo Pa Ws Wv
attribute [go_sem] JJ Wp Wq Pd Wn abd O9 abc Ll Lk F9 V6
attribute [go_sem] VN VZ VR VQ VP VO V5 V4 VY V0 V1 V2
attribute [go_sem] RB OU OT VV VU VX VW VT VS
attribute [go_sem] V3 RM RL RK TE TD Qj Qk Vg aaB T5 aaj
attribute [go_sem] T6 Sv ZP SI Lw VD OM VC OL RT KO KN
attribute [go_sem] KL IQ IP Ez true_and and_true List.getElem?_toArray aJ List.getElem?_cons_succ Option.bind_some List.map_cons List.map_nil
attribute [go_sem] aR aN List.cons_append imp imp1 impAll impWs impW impW1 Ho Gy cr
attribute [go_sem] List.toList_toArray Arg.av List.getD_cons_zero List.getD_cons_succ Bool.not_true Bool.not_false ne_eq not_false_eq_true not_true_eq_false false_implies true_implies implies_true
attribute [go_sem] eq_self Bool.true_eq_false Bool.false_eq_true cond_true cond_false Bool.and_true Bool.and_false Bool.true_and Bool.false_and Int.cast_ofNat_Int Int.toNat_natCast Int.toNat_natCast_add_one
attribute [go_sem] Nat.add_assoc List.take_succ_cons List.take_zero List.take_nil ax decide_true decide_false List.size_toArray aC List.length_nil M7 Hk
attribute [go_sem] FB Lx T8 DK Mt GN Db Mu Mv Z2 Dh Aq
attribute [go_sem] Wr P6 Z6 Z1 K5 F5 Vz Se xi Ak xh Z3 GO Z4 GM Da Aj C9 Ms Z0 Z5 Ls
attribute [go_sem] Am xj Al aaX OV OW IY IZ Dg Dd Wu Pb
attribute [go_sem] Gg Lr Gf GP Mx Dc An Ao Df De Ap
attribute [go_sem] BK tv U2 NW JA aax U3 NX U0 aav U1 NV
attribute [go_sem] NU f_0 f_1 Option.isSome_some Int.ofNat_lt true_or or_true List.drop_zero an Nat.zero_add Nat.add_zero am
attribute [go_sem] AV.p.injEq PV.int.injEq PV.bool.injEq PV.str.injEq
attribute [go_sem] L7 L6 GH Ut Uo
end Go.Gl
namespace Go.Gl
open Go
variable [Amb]
section
variable {P:Program} {sg:FuncId→List Bool} {h:Nat→Blk} {k:Nat} {ρ:Operand→AV} {C:R→Prop} {t t':TypeId} {x y:Operand} {A:AV→Prop}
theorem Kb {b:UInt8}:kA b=.int .u8 b.toNat:=_root_.id rfl
theorem Ed {m:Bool} {l:List Int}:bW m l=.sl (.lent m) (l.map (.int .i64)):=_root_.id rfl
theorem Oa {m:Bool} {l:List (List UInt8)}:Ip m l=.sl (.lent m) (l.map .str):=_root_.id rfl
theorem S5 {l:List UInt8} {b:UInt8} {r:List PV}:List.map kA l++(PV.int .u8 (b.toNat:Int)::r)=List.map kA (l++[b])++r:=by simp[kA]
theorem L9 {m:Bool} {l:List (List Int)} {x:List Int} {r:List PV}:List.map (bW m) l++(PV.sl (.lent m) (List.map (PV.int .i64) x)::r)=List.map (bW m) (l++[x])++r:=by simp[bW]
theorem L8 {m:Bool} {l:List (List (List UInt8))} {x:List (List UInt8)} {r:List PV}:List.map (Ip m) l++(PV.sl (.lent m) (List.map PV.str x)::r)=List.map (Ip m) (l++[x])++r:=by simp[Ip]
theorem xd {n:Nat} {kd:IntKind} {z:Int}:List.replicate n (PV.int kd z)=List.map (PV.int kd) (List.replicate n z):=by simp
theorem vo {n:Nat} {z:Bool}:List.replicate n (PV.bool z)=List.map PV.bool (List.replicate n z):=by simp
theorem xc {n:Nat} {z:List UInt8}:List.replicate n (PV.str z)=List.map PV.str (List.replicate n z):=by simp
theorem Ah {n:Nat}:List.replicate n (PV.sl (.lent false) [])=List.map (bW false) (List.replicate n []):=by simp[bW]
theorem xb {l:List Int} {kd:IntKind} {i:Nat} {z:Int}:(List.map (PV.int kd) l).set i (PV.int kd z)=List.map (PV.int kd) (l.set i z):=List.map_set.symm
theorem vn {l:List Bool} {i:Nat} {z:Bool}:(List.map PV.bool l).set i (PV.bool z)=List.map PV.bool (l.set i z):=List.map_set.symm
theorem xa {l:List (List UInt8)} {i:Nat} {z:List UInt8}:(List.map PV.str l).set i (PV.str z)=List.map PV.str (l.set i z):=List.map_set.symm
theorem Ag {m:Bool} {l:List (List Int)} {i:Nat} {z:List Int}:(List.map (bW m) l).set i (PV.sl (.lent m) (List.map (PV.int .i64) z))=List.map (bW m) (l.set i z):=by
 rw[←Ed,List.map_set]
theorem Ka {l:List UInt8} {n:Int} (h0:0≤n) (h1:n<256):List.map kA l++[PV.int .u8 n]=List.map kA (l++[UInt8.ofNat n.toNat]):=by
 rw[aT];congr 1
 simp only[List.map_cons,List.map_nil,kA,UInt8.toNat_ofNat']
 congr 2;omega
def wv (v:Option AV) (d:Int) (K:Int→Prop):Prop:=
 match v with
 |none=>K d
 |some (.p (.int _ i))=>K i
 |_=>False
theorem oD {x:Option Operand} {d:Nat} {K:Int→Prop}:iW ρ x d K=wv (x.map ρ) d K:=by
 cases x with
 |none=>rfl
 |some o=>
  simp only[iW,wv,Option.map_some]
  cases ρ o<;>try rfl
  rename_i v;cases v<;>rfl
def BL (lo:Option AV) (F:Int→Int→Prop) (h:Int):Prop:=wv lo 0 (F h)
def SLs (s:List UInt8) (C:R→Prop) (h l:Int):Prop:=0≤l∧l≤h∧h≤s.length∧C ⟨.p (.str ((s.take h.toNat).drop l.toNat)),[],[]⟩
def SLl (o:Fl) (xs:List PV) (C:R→Prop) (h l:Int):Prop:=0≤l∧l≤h∧h≤xs.length∧C ⟨.p (.sl o ((xs.take h.toNat).drop l.toNat)),[],[]⟩
def SLr (id off len:Nat) (C:R→Prop) (h l:Int):Prop:=0≤l∧l≤h∧h≤len∧C ⟨.ref id (off+l.toNat) (h.toNat - l.toNat),[],[]⟩
def SL3 (k:Nat) (C:R→Prop) (m h l:Int):Prop:=l=0∧h=0∧m=0∧C ⟨.ref k 0 0,[(k,.live false [])],[]⟩
def WC (hi lo:Option AV) (F:Int→Int→Int→Prop) (m:Int):Prop:=wv hi 0 (BL lo (F m))
theorem E4 {lo hi mx:Option Operand}:gA P sg ρ h k (.slice t x lo hi mx) C=cW P t (ρ x) lo hi mx k ρ C:=_root_.id rfl
theorem RH {s:List UInt8} {lo hi:Option Operand}:cW P t (.p (.str s)) lo hi none k ρ C=(c8 P t=true∧wv (hi.map ρ) s.length (BL (lo.map ρ) (SLs s C))):=by
 simp only[cW,oD,true_and];rfl
theorem Zf {o:Fl} {xs:List PV} {lo hi:Option Operand}:cW P t (.p (.sl o xs)) lo hi none k ρ C=((fN P t).isSome=true∧wv (hi.map ρ) xs.length (BL (lo.map ρ) (SLl o xs C))):=by
 simp only[cW,oD];rfl
theorem RJ {id off len:Nat} {lo hi:Option Operand}:cW P t (.ref id off len) lo hi none k ρ C=((fN P t).isSome=true∧wv (hi.map ρ) len (BL (lo.map ρ) (SLr id off len C))):=by
 simp only[cW,oD];rfl
theorem RI {o:Fl} {xs:List PV} {lo:Option Operand} {hi mx:Operand}:cW P t (.p (.sl o xs)) lo (some hi) (some mx) k ρ C=((fN P t).isSome=true∧wv (some (ρ mx)) 0 (WC (some (ρ hi)) (lo.map ρ) (SL3 k C))):=by
 simp only[cW,oD,ne_eq,reduceCtorEq,not_false_eq_true,true_and];rfl
theorem Ky {id off len:Nat} {lo:Option Operand} {hi mx:Operand}:cW P t (.ref id off len) lo (some hi) (some mx) k ρ C=((fN P t).isSome=true∧wv (some (ρ mx)) 0 (WC (some (ρ hi)) (lo.map ρ) (SL3 k C))):=by
 simp only[cW,oD,ne_eq,reduceCtorEq,not_false_eq_true,true_and];rfl
theorem IX {d:Int} {K:Int→Prop}:wv none d K=K d:=_root_.id rfl
theorem IW {d:Int} {kd:IntKind} {i:Int} {K:Int→Prop}:wv (some (.p (.int kd i))) d K=K i:=_root_.id rfl
theorem VH {lo:Option AV} {F:Int→Int→Prop} {i:Int}:BL lo F i=wv lo 0 (F i):=_root_.id rfl
theorem OQ {hi lo:Option AV} {F:Int→Int→Int→Prop} {i:Int}:WC hi lo F i=wv hi 0 (BL lo (F i)):=_root_.id rfl
theorem Kt {s:List UInt8} {i j:Int}:SLs s C i j=(0≤j∧j≤i∧i≤s.length∧C ⟨.p (.str ((s.take i.toNat).drop j.toNat)),[],[]⟩):=_root_.id rfl
theorem Kv {o:Fl} {xs:List PV} {i j:Int}:SLl o xs C i j=(0≤j∧j≤i∧i≤xs.length∧C ⟨.p (.sl o ((xs.take i.toNat).drop j.toNat)),[],[]⟩):=_root_.id rfl
theorem Ku {id off len:Nat} {i j:Int}:SLr id off len C i j=(0≤j∧j≤i∧i≤len∧C ⟨.ref id (off+j.toNat) (i.toNat - j.toNat),[],[]⟩):=_root_.id rfl
theorem Kw {m i j:Int}:SL3 k C m i j=(j=0∧i=0∧m=0∧C ⟨.ref k 0 0,[(k,.live false [])],[]⟩):=_root_.id rfl
def wD (s:Option (Nat×Bool)) (h:Nat→Blk) (a v:AV) (C:R→Prop):Prop:=
 match s with
 |some (n,_)=>(match a with
  | .ptr id off=>match h id with
   | .live m c=>cC h v fun xs ws rd=>xs.length=n∧off+n≤c.length∧id∉rd∧
     C ⟨.p .any,ws++[(id,.live m (c.take off++xs++c.drop (off+n)))],id::rd⟩
   | .deep m cs rs=>iM h m id (fK v) rs fun xs rs ws rd=>xs.length=n∧off+n≤cs.length∧
     C ⟨.p .any,ws++[(id,.deep m (cs.take off++xs++cs.drop (off+n)) rs)],id::rd⟩
   |_=>False
  | .iptr id r off=>n=1∧zV h id r off v C
  |_=>False)
 |none=>False
def nM (b:Blk) (id off:Nat) (v:PV) (C:R→Prop):Prop:=
 match b with
 | .live m c=>v.cell.cellOk=true∧off<c.length∧C ⟨.p .any,[(id,.live m (c.set off v.cell))],[id]⟩
 | .deep m cs rs=>(v.cellOk=true∨v=.sl .own [])∧off<cs.length∧C ⟨.p .any,[(id,.deep m (cs.set off (.v v)) rs)],[id]⟩
 |_=>False
def kC (b b':Blk) (id off id' off' len:Nat) (C:R→Prop):Prop:=
 match b,b' with
 | .live m c,.live m' c'=>off'+len≤c'.length∧off<c.length∧id≠id'∧
   C ⟨.p .any,[(id',.froz m' c'),(id,.live m (c.set off (.sl (.lent m') ((c'.drop off').take len))))],[id,id']⟩
 | .live m c,.froz m' c'=>off'+len≤c'.length∧off<c.length∧id≠id'∧
   C ⟨.p .any,[(id,.live m (c.set off (.sl (.lent m') ((c'.drop off').take len))))],[id,id']⟩
 | .deep m cs rs,.live m' c'=>(m'=true→m=true)∧off'=0∧len=c'.length∧off<cs.length∧id'≠id∧
   C ⟨.p .any,[(id',.dead),(id,.deep m (cs.set off (.row rs.length)) (rs++[some c']))],[id,id']⟩
 | .deep m cs rs,.froz m' c'=>off'+len≤c'.length∧off<cs.length∧id'≠id∧
   C ⟨.p .any,[(id,.deep m (cs.set off (.v (.sl (.lent m') ((c'.drop off').take len)))) rs)],[id,id']⟩
 |_,_=>False
theorem BA {a v:AV}:jt P t h a v C=wD (bK P t) h a v C:=_root_.id rfl
theorem dF {α:Type} {c:List α} {off:Nat} {v:α} (ho:off<c.length):c.take off++[v]++c.drop (off+1)=c.set off v:=by
 rw[List.set_eq_take_append_cons_drop,if_pos ho,aB];rfl
theorem BZ {id off:Nat} {v:PV} (hv:∀xs,v≠ .agg xs):wD (some (1,false)) h (.ptr id off) (.p v) C=nM (h id) id off v C:=by
 simp only[wD,nM]
 cases hb:h id with
 |live m c=>
  cases v with
  |agg xs=>exact absurd rfl (hv xs)
  |_=>
   simp only[cC,mF,aC,List.length_nil,Nat.zero_add,List.not_mem_nil,not_false_eq_true,true_and,aR]
   apply propext;constructor
   ·rintro⟨h1,ho,hc⟩;rw[dF (by omega)]at hc;exact⟨h1,by omega,hc⟩
   ·rintro⟨h1,ho,hc⟩;rw[dF (by omega)];exact⟨h1,by omega,hc⟩
 |froz m c=>rfl
 |deep m cs rs=>
   have ea:fK (.p v)=[.p v]:=by
    cases v with
    |agg xs=>exact absurd rfl (hv xs)
    |_=>rfl
   rw[ea]
   simp only[iM,mG,aC,List.length_nil,Nat.zero_add,List.not_mem_nil,aN,aR,true_and]
   apply propext;constructor
   ·rintro(⟨h1,ho,hc⟩|⟨h1,ho,hc⟩)
    ·rw[dF (by omega)]at hc;exact⟨.inl h1,by omega,hc⟩
    ·rw[dF (by omega)]at hc;exact⟨.inr h1,by omega,hc⟩
   ·rintro⟨h1|h1,ho,hc⟩
    ·rw[dF (by omega)];exact .inl ⟨h1,by omega,hc⟩
    ·rw[dF (by omega)];exact .inr ⟨h1,by omega,hc⟩
 |_=>rfl
theorem Kp {id off:Nat} {kd:IntKind} {n:Int}:wD (some (1,false)) h (.ptr id off) (.p (.int kd n)) C=nM (h id) id off (.int kd n) C:=BZ (by simp)
theorem Fp {id off:Nat} {b:Bool}:wD (some (1,false)) h (.ptr id off) (.p (.bool b)) C=nM (h id) id off (.bool b) C:=BZ (by simp)
theorem Km {id off:Nat} {s:List UInt8}:wD (some (1,false)) h (.ptr id off) (.p (.str s)) C=nM (h id) id off (.str s) C:=BZ (by simp)
theorem Fj {m:Bool} {id off:Nat} {s:List PV}:wD (some (1,false)) h (.ptr id off) (.p (.sl (.lent m) s)) C=nM (h id) id off (.sl (.lent m) s) C:=BZ (by simp)
theorem Ko {id off:Nat} {s:List PV}:wD (some (1,false)) h (.ptr id off) (.p (.sl .own s)) C=nM (h id) id off (.sl .own s) C:=BZ (by simp)
theorem Kn {id off id' off' len:Nat}:wD (some (1,false)) h (.ptr id off) (.ref id' off' len) C=kC (h id) (h id') id off id' off' len C:=by
 simp only[wD,kC]
 cases hb:h id with
 |live m c=>
  simp only[cC,mF]
  cases hb':h id' with
  |live m' c'=>
   simp only[aC,List.length_nil,Nat.zero_add,aP,true_and,List.cons_append,aR]
   apply propext;constructor
   ·rintro⟨h1,ho,hi,hc⟩;rw[dF (by omega)]at hc;exact⟨h1,by omega,hi,hc⟩
   ·rintro⟨h1,ho,hi,hc⟩;rw[dF (by omega)];exact⟨h1,by omega,hi,hc⟩
  |froz m' c'=>
   simp only[aC,List.length_nil,Nat.zero_add,aP,true_and,List.cons_append,aR]
   apply propext;constructor
   ·rintro⟨h1,ho,hi,hc⟩;rw[dF (by omega)]at hc;exact⟨h1,by omega,hi,hc⟩
   ·rintro⟨h1,ho,hi,hc⟩;rw[dF (by omega)];exact⟨h1,by omega,hi,hc⟩
  |deep m' cs rs=>rfl
  |_=>rfl
 |froz m c=>cases h id'<;>rfl
 |deep m cs rs=>
   simp only[fK,iM,mG]
   cases hb':h id' with
   |live m' c'=>
    simp only[aC,List.length_nil,Nat.zero_add,List.not_mem_nil,aN,List.cons_append,aR,true_and]
    apply propext;constructor
    ·rintro⟨hi,h0,h1,h2,ho,hc⟩;rw[dF (by omega)]at hc;exact⟨h0,h1,h2,by omega,hi,hc⟩
    ·rintro⟨h0,h1,h2,ho,hi,hc⟩;rw[dF (by omega)];exact⟨hi,h0,h1,h2,by omega,hc⟩
   |froz m' c'=>
    simp only[aC,List.length_nil,Nat.zero_add,List.not_mem_nil,aN,List.cons_append,aR,true_and]
    apply propext;constructor
    ·rintro⟨hi,h1,ho,hc⟩;rw[dF (by omega)]at hc;exact⟨h1,by omega,hi,hc⟩
    ·rintro⟨h1,ho,hi,hc⟩;rw[dF (by omega)];exact⟨hi,h1,by omega,hc⟩
   |deep m' cs' rs'=>simp
   |_=>simp
 |_=>cases h id'<;>rfl
theorem B1 {m:Bool} {c:List PV} {id off:Nat} {v:PV}:nM (.live m c) id off v C=(v.cell.cellOk=true∧off<c.length∧C ⟨.p .any,[(id,.live m (c.set off v.cell))],[id]⟩):=_root_.id rfl
theorem B2 {m:Bool} {cs:List DC} {rs:List (Option (List PV))} {id off:Nat} {v:PV}:nM (.deep m cs rs) id off v C=((v.cellOk=true∨v=.sl .own [])∧off<cs.length∧C ⟨.p .any,[(id,.deep m (cs.set off (.v v)) rs)],[id]⟩):=_root_.id rfl
theorem BV {m:Bool} {cs:List DC} {rs:List (Option (List PV))} {c':List PV} {id off id' off' len:Nat}:kC (.deep m cs rs) (.live false c') id off id' off' len C=(off'=0∧len=c'.length∧off<cs.length∧id'≠id∧
   C ⟨.p .any,[(id',.dead),(id,.deep m (cs.set off (.row rs.length)) (rs++[some c']))],[id,id']⟩):=by simp[kC]
theorem zQ {cs:List DC} {rs:List (Option (List PV))} {c':List PV} {id off id' off' len:Nat}:kC (.deep true cs rs) (.live true c') id off id' off' len C=(off'=0∧len=c'.length∧off<cs.length∧id'≠id∧
   C ⟨.p .any,[(id',.dead),(id,.deep true (cs.set off (.row rs.length)) (rs++[some c']))],[id,id']⟩):=by simp[kC]
theorem zP {m m':Bool} {cs:List DC} {rs:List (Option (List PV))} {c':List PV} {id off id' off' len:Nat}:kC (.deep m cs rs) (.froz m' c') id off id' off' len C=(off'+len≤c'.length∧off<cs.length∧id'≠id∧
   C ⟨.p .any,[(id,.deep m (cs.set off (.v (.sl (.lent m') ((c'.drop off').take len)))) rs)],[id,id']⟩):=_root_.id rfl
theorem BR {m m':Bool} {c c':List PV} {id off id' off' len:Nat}:kC (.live m c) (.live m' c') id off id' off' len C=(off'+len≤c'.length∧off<c.length∧id≠id'∧
   C ⟨.p .any,[(id',.froz m' c'),(id,.live m (c.set off (.sl (.lent m') ((c'.drop off').take len))))],[id,id']⟩):=rfl
theorem BU {m m':Bool} {c c':List PV} {id off id' off' len:Nat}:kC (.live m c) (.froz m' c') id off id' off' len C=(off'+len≤c'.length∧off<c.length∧id≠id'∧
   C ⟨.p .any,[(id,.live m (c.set off (.sl (.lent m') ((c'.drop off').take len))))],[id,id']⟩):=rfl
theorem Z9:Fl.lent false=.fr:=_root_.id rfl
theorem Z8:Fl.lent true=.ro:=_root_.id rfl
def Ji (b:Blk) (id off len:Nat) (K:PV→List (Nat×Blk)→List Nat→Prop):Prop:=
 match b with
 | .live m c=>off+len≤c.length∧K (.sl (.lent m) ((c.drop off).take len)) [(id,.froz m c)] [id]
 | .froz m c=>off+len≤c.length∧K (.sl (.lent m) ((c.drop off).take len)) [] [id]
 |_=>False
def PUR (h:Nat→Blk) (vs:List AV) (F:List PV→List (Nat×Blk)→List Nat→Prop) (x:PV) (ws:List (Nat×Blk)) (rd:List Nat):Prop:=
 kw h vs fun xs ws' rd'=>F (x::xs) (ws++ws') (rd++rd')
def PUF (F:List PV→List (Nat×Blk)→List Nat→Prop) (x:PV) (ws:List (Nat×Blk)) (rd:List Nat) (xs:List PV) (ws':List (Nat×Blk)) (rd':List Nat):Prop:=F (x::xs) (ws++ws') (rd++rd')
theorem KZ {id off len:Nat} {vs:List AV} {F:List PV→List (Nat×Blk)→List Nat→Prop}:kw h (.ref id off len::vs) F=Ji (h id) id off len (PUR h vs F):=by
 simp only[kw,mF,Ji,PUR];cases h id<;>rfl
theorem FW {m:Bool} {c:List PV} {id off len:Nat} {K:PV→List (Nat×Blk)→List Nat→Prop}:Ji (.live m c) id off len K=(off+len≤c.length∧K (.sl (.lent m) ((c.drop off).take len)) [(id,.froz m c)] [id]):=_root_.id rfl
theorem FX {m:Bool} {c:List PV} {id off len:Nat} {K:PV→List (Nat×Blk)→List Nat→Prop}:Ji (.froz m c) id off len K=(off+len≤c.length∧K (.sl (.lent m) ((c.drop off).take len)) [] [id]):=_root_.id rfl
theorem Zn {vs:List AV} {F:List PV→List (Nat×Blk)→List Nat→Prop} {v:PV} {ws:List (Nat×Blk)} {rd:List Nat}:PUR h vs F v ws rd=kw h vs (PUF F v ws rd):=_root_.id rfl
theorem Zo {F:List PV→List (Nat×Blk)→List Nat→Prop} {v:PV} {xs:List PV} {ws ws':List (Nat×Blk)} {rd rd':List Nat}:PUF F v ws rd xs ws' rd'=F (v::xs) (ws++ws') (rd++rd'):=_root_.id rfl
def mkG (s:Option (Nat×PV)) (a:Int) (k:Nat) (C:R→Prop):Prop:=
 match s with
 |some (_,z)=>z.cellOk=true∧C ⟨.ref k 0 a.toNat,[(k,.live false (List.replicate a.toNat z))],[]⟩
 |none=>False
theorem Tn {kd kd':IntKind} {a b:Int}:oL P t k (.p (.int kd a)) (.p (.int kd' b)) C=(0≤a∧a≤b∧b≤1099511627776∧mkG (fN P t) a k C):=_root_.id rfl
theorem GJ {a:Int} {n:Nat} {z:PV}:mkG (some (n,z)) a k C=(z.cellOk=true∧C ⟨.ref k 0 a.toNat,[(k,.live false (List.replicate a.toNat z))],[]⟩):=_root_.id rfl
def alG (s:Option (List PV)) (k:Nat) (C:R→Prop):Prop:=
 match s with
 |some xs=>xs≠[]∧xs.length≤1000000∧xs.all PV.cellOk=true∧C ⟨.ptr k 0,[(k,.live false xs)],[]⟩
 |none=>False
theorem Wc:ll P t k C=alG (bP P t) k C:=_root_.id rfl
theorem I7 {xs:List PV}:alG (some xs) k C=(xs≠[]∧xs.length≤1000000∧xs.all PV.cellOk=true∧C ⟨.ptr k 0,[(k,.live false xs)],[]⟩):=_root_.id rfl
def Gk (o:Option AV) (A:AV→Prop):Prop:=match o with|some x=>A x|none=>False
theorem Lz {xs:List AV} {i:Nat}:AV.nth xs i A=Gk xs[i]? A:=_root_.id rfl
theorem CR {v:AV}:Gk (some v) A=A v:=_root_.id rfl
def exG (v:AV) (i:Nat) (A:AV→Prop):Prop:=match v with| .tup xs=>AV.nth xs i A|_=>False
theorem zM {i:Nat}:gA P sg ρ h k (.extract x i) C=exG (ρ x) i (KA k C):=_root_.id rfl
theorem N9 {xs:List AV} {i:Nat}:exG (.tup xs) i A=Gk xs[i]? A:=_root_.id rfl
def WU (s:Option (Nat×Nat×Bool)) (v:AV) (A:AV→Prop):Prop:=
 match s with
 |some (off,1,false)=>(match v with
  | .p (.agg xs)=>gt xs off fun x=>A (.p x)
  | .agg xs=>AV.nth xs off A
  |_=>False)
 |_=>False
def KF (A:AV→Prop) (v:PV):Prop:=A (.p v)
theorem UL {f:Nat} {v:AV}:kf P t f v A=WU (bY P t f) v A:=_root_.id rfl
theorem aaq {off:Nat} {xs:List PV}:WU (some (off,1,false)) (.p (.agg xs)) A=yV xs[off]? (KF A):=by
 simp only[WU,gt,Int.toNat_natCast,Int.natCast_nonneg,true_and];rfl
theorem aat {off:Nat} {xs:List AV}:WU (some (off,1,false)) (.agg xs) A=Gk xs[off]? A:=_root_.id rfl
theorem TG {v:PV}:KF A v=A (.p v):=_root_.id rfl
def faG (s:Option (Nat×Nat×Bool)) (a:AV) (A:AV→Prop):Prop:=
 match s with
 |some (off,n,_)=>n≠0∧(match a with
  | .p (.pc xs)=>A (.p (.pc (xs.drop off)))
  | .ptr id o=>A (.ptr id (o+off))
  |_=>False)
 |none=>False
theorem UZ {f:Nat} {v:AV}:dL P t f v A=faG (bY P t f) v A:=_root_.id rfl
theorem UY {off n:Nat} {b:Bool} {xs:List PV}:faG (some (off,n,b)) (.p (.pc xs)) A=(n≠0∧A (.p (.pc (xs.drop off)))):=_root_.id rfl
theorem NS {off n id o:Nat} {b:Bool}:faG (some (off,n,b)) (.ptr id o) A=(n≠0∧A (.ptr id (o+off))):=_root_.id rfl
def bdG (pl:Option (List Nat)) (zs:Option (List PV)) (parts:List (Nat×AV)) (K:AV→Prop):Prop:=
 match pl,zs with
 |some places,some zs=>fG places (zs.map .p) parts fun cs=>K (.agg cs)
 |_,_=>False
def KG (K:AV→Prop) (cs:List AV):Prop:=K (.agg cs)
def fiG (pl:List Nat) (cells:List AV) (o:Option Nat) (v:AV) (rest:List (Nat×AV)) (K:List AV→Prop):Prop:=
 match o with
 |some o=>o<cells.length∧v.one1∧fG pl (cells.set o v) rest K
 |none=>False
theorem Fa {parts:Array (Nat×Operand)}:gA P sg ρ h k (.build t parts) C=lh P t (parts.toList.map fun p=>(p.1,ρ p.2)) (KW C):=_root_.id rfl
theorem VL {parts:List (Nat×AV)}:lh P t parts A=bdG (bQ P t) (bP P t) parts A:=_root_.id rfl
theorem VK {pl:List Nat} {zs:List PV} {parts:List (Nat×AV)}:bdG (some pl) (some zs) parts A=fG pl (zs.map .p) parts (KG A):=_root_.id rfl
theorem Nt {pl:List Nat} {cells:List AV} {K:List AV→Prop}:fG pl cells [] K=K cells:=_root_.id rfl
theorem HL {pl:List Nat} {cells:List AV} {i:Nat} {v:AV} {rest:List (Nat×AV)} {K:List AV→Prop}:fG pl cells ((i,v)::rest) K=fiG pl cells pl[i]? v rest K:=_root_.id rfl
theorem HK {pl:List Nat} {cells:List AV} {o:Nat} {v:AV} {rest:List (Nat×AV)} {K:List AV→Prop}:fiG pl cells (some o) v rest K=(o<cells.length∧v.one1∧fG pl (cells.set o v) rest K):=_root_.id rfl
theorem TF {cs:List AV}:KG A cs=A (.agg cs):=_root_.id rfl
theorem Lq {kd:IntKind} {n:Int}:AV.one1 (.p (.int kd n))=True:=_root_.id rfl
theorem Ge {b:Bool}:AV.one1 (.p (.bool b))=True:=_root_.id rfl
theorem Lo {s:List UInt8}:AV.one1 (.p (.str s))=True:=_root_.id rfl
theorem Sd {o:Fl} {s:List PV}:AV.one1 (.p (.sl o s))=True:=_root_.id rfl
theorem Lp {i o l:Nat}:AV.one1 (.ref i o l)=True:=_root_.id rfl
def ciG (o:Option IntKind) (s:Bool) (n:Int) (C:R→Prop):Prop:=
 match o with
 |some kd=>s=true∧oi kd n∧C ⟨.p (.int kd n),[],[]⟩
 |none=>False
theorem E8:gA P sg ρ h k (.convert t t' x) C=gR P t t' k h (ρ x) C:=_root_.id rfl
theorem Ov {kd:IntKind} {n:Int}:gR P t t' k h (.p (.int kd n)) C=ciG (jP P t') (P.underlying t).isSome n C:=_root_.id rfl
theorem IJ {kd:IntKind} {n:Int}:ciG (some kd) true n C=(oi kd n∧C ⟨.p (.int kd n),[],[]⟩):=by simp[ciG]
def WW (b:Bool) (c:Bool) (d:Bool) (k:Nat) (s:List UInt8) (C:R→Prop):Prop:=
 if b then C ⟨.p (.str s),[],[]⟩else c=true∧d=true∧s.length≤WY∧C ⟨.ref k 0 s.length,[(k,.live false (s.map kA))],[]⟩
theorem Os {s:List UInt8}:gR P t t' k h (.p (.str s)) C=(c8 P t=true∧WW (c8 P t') (fN P t').isSome (Bc P t') k s C):=_root_.id rfl
theorem aaM {c d:Bool} {s:List UInt8}:WW true c d k s C=C ⟨.p (.str s),[],[]⟩:=_root_.id rfl
theorem aaN {s:List UInt8}:WW false true true k s C=(s.length≤1099511627776∧C ⟨.ref k 0 s.length,[(k,.live false (s.map kA))],[]⟩):=by simp[WW,WY]
def CV (C:R→Prop) (xs:List PV) (rd:List Nat):Prop:=∃s:List UInt8,xs=s.map (fun b=>PV.int .u8 b.toNat)∧C ⟨.p (.str s),[],rd⟩
theorem Ot {id off len:Nat}:gR P t t' k h (.ref id off len) C=(c8 P t'=true∧(fN P t).isSome=true∧Bc P t=true∧EZ (h id) id off len (CV C)):=by
 simp only[gR,jf,EZ];cases h id<;>rfl
theorem Vv {o:Fl} {xs:List PV}:gR P t t' k h (.p (.sl o xs)) C=(c8 P t'=true∧(fN P t).isSome=true∧Bc P t=true∧CV C xs []):=_root_.id rfl
theorem Ff {s s':List UInt8} (h:s.map kA=s'.map kA):s=s':=by
 induction s generalizing s' with
 |nil=>cases s' with
  |nil=>rfl
  |cons _ _=>simp at h
 |cons a s ih=>cases s' with
  |nil=>simp at h
  |cons b s'=>
   simp only[List.map_cons,List.cons.injEq,kA,PV.int.injEq,true_and]at h
   rw[ih h.2,UInt8.toNat_inj.1 (by omega:a.toNat=b.toNat)]
theorem xS {s:List UInt8} {rd:List Nat}:CV C (s.map kA) rd=C ⟨.p (.str s),[],rd⟩:=by
 apply propext;constructor
 ·rintro⟨s',e,hc⟩;rw[Ff (s:=s) (s':=s') e];exact hc
 ·intro hc;exact⟨s,rfl,hc⟩
theorem Ou {rd:List Nat}:CV C [] rd=C ⟨.p (.str []),[],rd⟩:=xS (s:=[])
theorem Vw {b:UInt8} {rd:List Nat}:CV C [.int .u8 (b.toNat:Int)] rd=C ⟨.p (.str [b]),[],rd⟩:=xS (s:=[b])
theorem ya {n:Int} {rd:List Nat} (h0:0≤n) (h1:n<256) (hc:C ⟨.p (.str [UInt8.ofNat n.toNat]),[],rd⟩):CV C [.int .u8 n] rd:=
 ⟨_,by simp[UInt8.toNat_ofNat'];omega,hc⟩
theorem o6 {n:Int}:oi .u8 n=(0≤n∧n≤255):=by simp only[oi];rfl
theorem P0 {ts:Array TypeId}:gA P sg ρ h k (.call {callee:=.builtin .max,args:=⟨[x,y]⟩,argTypes:=ts}) C=Bd true (ρ x) (ρ y) (KW C):=_root_.id rfl
theorem PZ {ts:Array TypeId}:gA P sg ρ h k (.call {callee:=.builtin .min,args:=⟨[x,y]⟩,argTypes:=ts}) C=Bd false (ρ x) (ρ y) (KW C):=_root_.id rfl
theorem Ml {kd kd':IntKind} {a b:Int}:Bd true (.p (.int kd a)) (.p (.int kd' b)) A=(kd=kd'∧A (.p (.int kd (max a b)))):=by
 simp only[Bd,if_true]
 rw[show(if a<b then b else a)=max a b by rw[Int.max_def];split<;>split<;>omega]
theorem Mk {kd kd':IntKind} {a b:Int}:Bd false (.p (.int kd a)) (.p (.int kd' b)) A=(kd=kd'∧A (.p (.int kd (min a b)))):=by
 simp only[Bd,Bool.false_eq_true,if_false]
 rw[show(if b<a then b else a)=min a b by rw[Int.min_def];split<;>split<;>omega]
theorem Xw {f:FuncId} {first caps:Array Operand}:gA P sg ρ h k (.makeFunc (.func f) first caps) C=C ⟨.fn f (first.toList.map ρ) (caps.toList.map ρ),[],[]⟩:=_root_.id rfl
theorem Um {g:FuncId} {first caps:List PV} {vs:List AV}:rE P sg h k (.p (.fn g first caps)) vs C=WB (sg (g+12884901888)) P h g (first.map .p++vs++caps.map .p) C (FZ P sg h k g (first.map .p++vs++caps.map .p) C (jd (sg (g+8589934592)) (first.map .p++vs++caps.map .p))):=by
 simp only[rE,kv];rfl
theorem Un {g:FuncId} {first caps vs:List AV}:rE P sg h k (.fn g first caps) vs C=WB (sg (g+12884901888)) P h g (first++vs++caps) C (FZ P sg h k g (first++vs++caps) C (jd (sg (g+8589934592)) (first++vs++caps))):=by
 simp only[rE,kv];rfl
def PF2 (f:FuncId) (ys:List PV) (rd:List Nat) (K:PV→List Nat→Prop) (zs:List PV) (rd':List Nat):Prop:=K (.fn f ys zs) (rd++rd')
def PF1 (h:Nat→Blk) (f:FuncId) (caps:List AV) (K:PV→List Nat→Prop) (ys:List PV) (rd:List Nat):Prop:=dQ h caps (PF2 f ys rd K)
def PA1 (K:PV→List Nat→Prop) (ys:List PV) (rd:List Nat):Prop:=K (.agg ys) rd
def UP (h:Nat→Blk) (vs:List AV) (K:List PV→List Nat→Prop) (x:PV) (rd:List Nat):Prop:=dQ h vs (UA K x rd)
theorem Zm {f:FuncId} {first caps vs:List AV} {F:List PV→List Nat→Prop}:pC h (.fn f first caps::vs) F=dQ h first (PF1 h f caps (UN h vs F)):=_root_.id rfl
theorem R2 {xs vs:List AV} {F:List PV→List Nat→Prop}:pC h (.agg xs::vs) F=dQ h xs (PA1 (UN h vs F)):=_root_.id rfl
theorem Lb {f:FuncId} {caps:List AV} {K:PV→List Nat→Prop} {ys:List PV} {rd:List Nat}:PF1 h f caps K ys rd=dQ h caps (PF2 f ys rd K):=_root_.id rfl
theorem La {f:FuncId} {K:PV→List Nat→Prop} {ys zs:List PV} {rd rd':List Nat}:PF2 f ys rd K zs rd'=K (.fn f ys zs) (rd++rd'):=_root_.id rfl
theorem Lj {K:PV→List Nat→Prop} {ys:List PV} {rd:List Nat}:PA1 K ys rd=K (.agg ys) rd:=_root_.id rfl
theorem K3 {K:List PV→List Nat→Prop}:dQ h [] K=K [] []:=_root_.id rfl
theorem Zq {v:PV} {vs:List AV} {K:List PV→List Nat→Prop}:dQ h (.p v::vs) K=dQ h vs (UA K v.cell []):=_root_.id rfl
theorem K1 {id off len:Nat} {vs:List AV} {K:List PV→List Nat→Prop}:dQ h (.ref id off len::vs) K=oX (h id) id off len (UP h vs K):=by
 simp only[dQ,i8,oX];cases h id<;>rfl
theorem Qi {v:PV} {vs:List AV} {K:List PV→List Nat→Prop} {rd:List Nat}:UP h vs K v rd=dQ h vs (UA K v rd):=_root_.id rfl
def K0 (b:Blk) (id off:Nat) (F:PV→List Nat→Prop):Prop:=
 match b with
 | .live _ c=>F (.pc (c.drop off)) [id]
 | .froz _ c=>F (.pc (c.drop off)) [id]
 | .deep _ cs rs=>F (.pc ((cs.map (DC.rd rs)).drop off)) [id]
 |_=>False
theorem RW {id off:Nat} {vs:List AV} {F:List PV→List Nat→Prop}:pC h (.ptr id off::vs) F=K0 (h id) id off (UN h vs F):=by
 simp only[pC,va,i8,K0];cases h id<;>rfl
theorem K2 {id off:Nat} {vs:List AV} {K:List PV→List Nat→Prop}:dQ h (.ptr id off::vs) K=K0 (h id) id off (UP h vs K):=by
 simp only[dQ,i8,K0];cases h id<;>rfl
theorem FY {m:Bool} {c:List PV} {id off:Nat} {F:PV→List Nat→Prop}:K0 (.live m c) id off F=F (.pc (c.drop off)) [id]:=_root_.id rfl
theorem F3 {m:Bool} {c:List PV} {id off:Nat} {F:PV→List Nat→Prop}:K0 (.froz m c) id off F=F (.pc (c.drop off)) [id]:=_root_.id rfl
def Su (v:AV) (C:R→Prop):Prop:=match v with| .ptr id off=>C ⟨.ptr id off,[],[]⟩| .p (.pc xs)=>C ⟨.p (.pc xs),[],[]⟩| .p (.fn f a b)=>C ⟨.p (.fn f a b),[],[]⟩| .fn f a b=>C ⟨.fn f a b,[],[]⟩|_=>False
theorem F4 {m:Bool} {cs:List DC} {rs:List (Option (List PV))} {id off:Nat} {F:PV→List Nat→Prop}:K0 (.deep m cs rs) id off F=F (.pc ((cs.map (DC.rd rs)).drop off)) [id]:=_root_.id rfl
theorem Xv:gA P sg ρ h k (.nilCheck x) C=Su (ρ x) C:=_root_.id rfl
theorem LL {id off:Nat}:Su (.ptr id off) C=C ⟨.ptr id off,[],[]⟩:=_root_.id rfl
theorem Sr {xs:List PV}:Su (.p (.pc xs)) C=C ⟨.p (.pc xs),[],[]⟩:=_root_.id rfl
theorem Ss {f:FuncId} {a b:List PV}:Su (.p (.fn f a b)) C=C ⟨.p (.fn f a b),[],[]⟩:=_root_.id rfl
theorem LM {f:FuncId} {a b:List AV}:Su (.fn f a b) C=C ⟨.fn f a b,[],[]⟩:=_root_.id rfl
def SZ (b:Blk) (id len:Nat) (F:List PV→Prop):Prop:=
 match b with
 | .live _ c=>len=c.length∧F c
 | .deep _ cs rs=>∃rows,cs=canon rows.length∧rs=rows.map some∧len=rows.length∧F [.dl rows]
 |_=>False
def MU (h:Nat→Blk) (sg:List Bool) (vs:List AV) (id:Nat) (K:List Arg→List Nat→List (Option (Nat×Option Nat))→Prop) (c:List PV):Prop:=
 pass h sg vs fun as rd ms=>K (.mu false c::as) rd (some (id,none)::ms)
def MF (id:Nat) (c:List PV) (K:List Arg→List Nat→List (Option (Nat×Option Nat))→Prop) (as:List Arg) (rd:List Nat) (ms:List (Option (Nat×Option Nat))):Prop:=K (.mu false c::as) rd (some (id,none)::ms)
def PQ (F:List Arg→List Nat→List (Option (Nat×Option Nat))→Prop) (xs:List PV) (rd:List Nat):Prop:=F (xs.map .pv) rd (xs.map fun _=>none)
theorem L2 {sg:List Bool} {id len:Nat} {vs:List AV} {K:List Arg→List Nat→List (Option (Nat×Option Nat))→Prop}:pass h (true::sg) (.ref id 0 len::vs) K=SZ (h id) id len (MU h sg vs id K):=by
 simp only[pass,SZ,MU];cases h id<;>rfl
theorem GG {m:Bool} {c:List PV} {id len:Nat} {F:List PV→Prop}:SZ (.live m c) id len F=(len=c.length∧F c):=_root_.id rfl
theorem SW {sg:List Bool} {id:Nat} {c:List PV} {vs:List AV} {K:List Arg→List Nat→List (Option (Nat×Option Nat))→Prop}:MU h sg vs id K c=pass h sg vs (MF id c K):=_root_.id rfl
theorem L4 {vs:List AV} {id:Nat} {c:List PV} {K:List Arg→List Nat→List (Option (Nat×Option Nat))→Prop}:pass h [] vs (MF id c K)=pC h vs (PQ (MF id c K)):=ls
theorem SV {F:List Arg→List Nat→List (Option (Nat×Option Nat))→Prop} {xs:List PV} {rd:List Nat}:PQ F xs rd=F (xs.map .pv) rd (xs.map fun _=>none):=_root_.id rfl
theorem SX {id:Nat} {c:List PV} {K:List Arg→List Nat→List (Option (Nat×Option Nat))→Prop} {as:List Arg} {rd:List Nat} {ms:List (Option (Nat×Option Nat))}:MF id c K as rd ms=K (.mu false c::as) rd (some (id,none)::ms):=_root_.id rfl
end
end Go.Gl
namespace Go.Gl
open Go
variable [Amb]
section
variable {P:Program} {sg:FuncId→List Bool} {nt:Nat} {h:Nat→Blk} {k:Nat} {C:R→Prop} {S:St} {Q:Ex→St→Prop}
class NDl (c:List PV):Prop where
 h:∀rows,c≠[.dl rows]
class NDf {α:Type} (f:α→PV):Prop where
 h:∀a rows,f a≠ .dl rows
instance {kd:IntKind}:NDf (PV.int kd):=⟨by intro a rows h;cases h⟩
instance:NDf PV.bool:=⟨by intro a rows h;cases h⟩
instance:NDf PV.str:=⟨by intro a rows h;cases h⟩
instance:NDf kA:=⟨by intro a rows h;cases h⟩
instance {m:Bool}:NDf (bW m):=⟨by intro a rows h;cases h⟩
instance {m:Bool}:NDf (Ip m):=⟨by intro a rows h;cases h⟩
instance {α:Type} {f:α→PV} [a:NDf f] {l:List α}:NDl (l.map f):=⟨by
 intro rows h
 cases l with
 |nil=>cases h
 |cons x l=>simp only[List.map_cons,List.cons.injEq]at h;exact a.h _ _ h.1⟩
instance:NDl []:=⟨by intro rows h;cases h⟩
instance {x y:PV} {l:List PV}:NDl (x::y::l):=⟨by intro rows h;cases h⟩
instance {kd:IntKind} {n:Int}:NDl [.int kd n]:=⟨by intro rows h;cases h⟩
instance {b:Bool}:NDl [.bool b]:=⟨by intro rows h;cases h⟩
instance {b:List UInt8}:NDl [.str b]:=⟨by intro rows h;cases h⟩
instance {o:Fl} {b:List PV}:NDl [.sl o b]:=⟨by intro rows h;cases h⟩
theorem GK {c:List PV} {m:Bool} [a:NDl c]:t7 m c=.live m c:=by
 unfold t7;split
 ·rename_i rows;exact absurd rfl (a.h rows)
 ·rfl
theorem At {c:List PV} [a:NDl c]:xl c=c.length:=by
 unfold xl;split
 ·rename_i rows;exact absurd rfl (a.h rows)
 ·rfl
theorem Gi {c c0:List PV} {m:Bool} [a:NDl c]:fc none (some (some c)) (.live m c0)=.live m c:=by
 unfold fc;split<;>first|rfl|skip
 all_goals first|(rename_i h _;cases h;exact absurd rfl (a.h _))|(rename_i h;cases h;exact absurd rfl (a.h _))|simp_all
theorem pD {b:Blk}:fc none (some none) b=.dead:=by cases b<;>rfl
theorem HA {m:Bool} {c:List PV}:qX (.live m c)=m:=_root_.id rfl
theorem HB {m:Bool} {c:List PV}:qX (.froz m c)=false:=_root_.id rfl
theorem HC {m:Bool} {cs:List DC} {rs:List (Option (List PV))}:qX (.deep m cs rs)=m:=_root_.id rfl
theorem lp {f:FuncId} {tk p:Bool} {c:List PV} {as:List Arg} {outs:List (Option (List PV))} {res:List PV} {rd:List Nat} {ms:List (Option (Nat×Option Nat))} {id:Nat} {r:Option Nat}
  (hf:CallT P tk f (.mu p c::as) outs res) (hn:(ms.all Option.isNone)=true) (hid:id∉rd)
  (hc:C ⟨impAll k res,(id,fc r outs[0]? (h id))::impWs (tk&&qX (h id)) k res,id::rd⟩):Pk P h k f C (.mu p c::as) rd (some (id,r)::ms):=by
 have e1':da (some (id,r)::ms)=[id]:=by
  have:ms.filterMap (fun m=>m.map (·.1))=[]:=by
   rw[List.filterMap_eq_nil_iff];intro a ha
   have:=List.all_eq_true.1 hn a ha
   cases a with
   |none=>rfl
   |some _=>simp at this
  simp[da,List.filterMap_cons,this]
 have ho:∀(l:List (Option (Nat×Option Nat))) (j:Nat),(l.all Option.isNone)=true→d6 h outs j l=[]:=fun l=>by
  induction l with
  |nil=>intro j _;rfl
  |cons x l ih=>
   intro j hj
   simp only[List.all_cons,Bool.and_eq_true]at hj
   cases x with
   |none=>exact ih (j+1) hj.2
   |some _=>simp at hj
 refine⟨⟨by rw[e1'];simp,by rw[e1'];simpa using hid⟩,tk,outs,res,hf,tk&&qX (h id),fun e1 e2 i hi=>by rw[e1']at hi;simp at hi;subst hi;subst e2;simpa using e1, ?_⟩
 rw[e1']
 simp only[d6,ho ms 1 hn,List.cons_append,aR]
 exact hc
def sm (tk:Bool) (as:List Arg) (outs:List (Option (List PV))) (ts:List Nat) (res:List PV) (ex:Ex) (S:St):Prop:=
 match ex with
 | .exit _=>False
 |_=>tl tk S as outs (ts.map S.e) res
theorem CallT.of (hm:P.follows .mixedOrders=true) {tk:Bool} {f:FuncId} {as:List Arg} {outs:List (Option (List PV))} {res:List PV} {fn:Func} {code:Code} {ts:List Nat}
  (hf:P.funcs[f]? =some fn) (hb:fn.body=some code) (hname:(fn.name== "runtime.NumGoroutine")=false) (hres:fn.results=⟨ts.map .tmp⟩) (hargs:decide (as.length≤fn.ntmps)=true)
  (hck:fy fn.ntmps code=true) (hnr:noRoL res=true) (hro:hZ res=true) (houts:(outs.all fun o=>o.all noRoL)=true)
  (hw:jh P sg code (sm tk as outs ts res) (fH as)):CallT P tk f as outs res:=
 CallT.of_wp hm hf hb hname hres (of_decide_eq_true hargs) hnr hro houts (wp_mono _ (fun ex S h=>by cases ex with|exit id=>exact h|normal=>exact resW_tmp.symm▸h|ret=>exact resW_tmp.symm▸h) (nK _ hck hw))
theorem J4 {tk:Bool} {c c':List PV} {as:List Arg} {ts:List Nat} {xs:List PV} {ex:Ex} {p:Bool} {os:List (Option (List PV))} (hx:ex=.ret∨ex=.normal)
  (ho:(os.all Option.isNone)=true) (hl:S.h 0=t7 true c') (hf:dy tk S.h (as.length+1) (ts.map S.e) xs fun L=>L.Pairwise Dj∧0∉L.map fun q=>q.2.1):
  sm tk (.mu p c::as) (some c'::os) ts xs ex S:=by
 have key:tl tk S (.mu p c::as) (some c'::os) (ts.map S.e) xs:=by
  unfold tl
  refine Eq.mp (congrArg (dy tk S.h (as.length+1) (ts.map S.e) xs) ?_) hf
  funext L
  apply propext
  constructor
  ·rintro⟨h1,h2⟩
   refine⟨h1,fun j hj=> ?_⟩
   cases j with
   |zero=>exact⟨hl,h2⟩
   |succ j=>
    simp only[List.getElem?_cons_succ]
    split
    ·rename_i c0 hc0
     have:=List.all_eq_true.1 ho _ (aS hc0)
     simp at this
    ·trivial
  ·rintro⟨h1,h2⟩
   exact⟨h1,(h2 0 (by simp)).2⟩
 rcases hx with rfl|rfl<;>exact key
theorem J0 {tk:Bool} {c:List PV} {as:List Arg} {ts:List Nat} {xs:List PV} {ex:Ex} {p:Bool} {os:List (Option (List PV))} (hx:ex=.ret∨ex=.normal)
  (ho:(os.all Option.isNone)=true) (hf:dy tk S.h (as.length+1) (ts.map S.e) xs F0):
  sm tk (.mu p c::as) os ts xs ex S:=by
 have key:tl tk S (.mu p c::as) os (ts.map S.e) xs:=by
  unfold tl
  refine Eq.mp (congrArg (dy tk S.h (as.length+1) (ts.map S.e) xs) ?_) hf
  funext L
  simp only[F0]
  apply propext
  constructor
  ·intro h1
   refine⟨h1,fun j hj=> ?_⟩
   split
   ·rename_i c0 _ hc0
    have:=List.all_eq_true.1 ho _ (aS hc0)
    simp at this
   ·trivial
  ·exact fun h=>h.1
 rcases hx with rfl|rfl<;>exact key
def F1 (L:List (Nat×Nat×Pl)):Prop:=L.Pairwise Dj∧0∉L.map fun q=>q.2.1
theorem N3:F1 []:=by simp[F1]
theorem aaA {k id:Nat} {pl:Pl}:F1 [(k,id,pl)]=(0≠id):=by simp[F1]
def OG (ops:Array Oper) (ws:List Bool):List (Nat×Nat):=
 (List.range ops.size).flatMap fun j=>(List.range j).filterMap fun i=>
  if(ws.getD i false||ws.getD j false)&& !jD ops ops.size i j then some (i,j)else none
def kX:List (List (Nat×Blk)×List Nat)→List Bool→Bool
 |[],[]=>true
 |p::L,w::ws=>(p.1.isEmpty||w)&&kX L ws
 |_,_=>false
theorem oa:∀{L:List (List (Nat×Blk)×List Nat)} {ws:List Bool},kX L ws=true→∀i,ws.getD i false=false→(L.getD i ([],[])).1=[]
 |[],[],_,i,_=>by simp
 |p::L,w::ws,h,0,hi=>by
  simp only[kX,Bool.and_eq_true,Bool.or_eq_true]at h
  simp only[List.getD_cons_zero]at hi ⊢
  rcases h.1 with h1|h1
  ·simpa using h1
  ·rw[h1]at hi;cases hi
 |p::L,w::ws,h,i+1,hi=>by
  simp only[kX,Bool.and_eq_true]at h
  simp only[List.getD_cons_succ]at hi ⊢
  exact oa h.2 i hi
 |[],_::_,h,_,_=>by simp[kX]at h
 |_::_,[],h,_,_=>by simp[kX]at h
def Jm (i:Nat):List Nat→Prop
 |[]=>True
 |j::l=>i≠j∧Jm i l
def vl (i:Nat):List (Nat×Blk)→Prop
 |[]=>True
 |(j,_)::l=>i≠j∧vl i l
def Es:List (Nat×Blk)→List (Nat×Blk)→List Nat→Prop
 |[],_,_=>True
 |(i,_)::ws,bs,rd=>Jm i rd∧vl i bs∧Es ws bs rd
theorem yE {i:Nat}:∀{l:List Nat},Jm i l→i∉l
 |[],_=>by simp
 |j::l,h=>by simp only[Jm]at h;simp[h.1,yE h.2]
theorem vk {i:Nat}:∀{l:List (Nat×Blk)},vl i l→∀q∈l,i≠q.1
 |[],_=>by simp
 |(j,b)::l,h=>by
  simp only[vl]at h
  intro q hq
  rcases List.mem_cons.1 hq with rfl|hq
  ·exact h.1
  ·exact vk h.2 q hq
theorem tf {a b:List (Nat×Blk)×List Nat} (h:Es a.1 b.1 b.2):clear a b:=by
 obtain⟨ws,rd⟩:=a
 simp only at h
 intro p hp
 simp only at hp
 induction ws with
 |nil=>simp at hp
 |cons w ws ih=>
  obtain⟨i,bl⟩:=w
  simp only[Es]at h
  rcases List.mem_cons.1 hp with rfl|hp
  ·exact⟨yE h.1,vk h.2.1⟩
  ·exact ih h.2.2 hp
def A3 (a b:List (Nat×Blk)×List Nat):Prop:=Es a.1 b.1 b.2∧Es b.1 a.1 a.2
def lg (L:List (List (Nat×Blk)×List Nat)):List (Nat×Nat)→Prop
 |[]=>True
 |(i,j)::ps=>A3 (L.getD i ([],[])) (L.getD j ([],[]))∧lg L ps
theorem te {L:List (List (Nat×Blk)×List Nat)}:∀{ps:List (Nat×Nat)},lg L ps→∀p∈ps,A3 (L.getD p.1 ([],[])) (L.getD p.2 ([],[]))
 |[],_=>by simp
 |(i,j)::ps,h=>by
  simp only[lg]at h
  intro p hp
  rcases List.mem_cons.1 hp with rfl|hp
  ·exact h.1
  ·exact te h.2 p hp
theorem wt {ops:Array Oper} {L:List (List (Nat×Blk)×List Nat)} (ws:List Bool) (ps:List (Nat×Nat)) (hw:kX L ws=true) (hp:OG ops ws=ps)
  (h:lg L ps):iU ops L:=by
 intro j hj i hi
 by_cases hb:jD ops ops.size i j=true
 ·exact .inl hb
 right
 by_cases hw':(ws.getD i false||ws.getD j false)=true
 ·have:(i,j)∈ps:=by
   subst hp
   unfold OG
   rw[List.mem_flatMap]
   refine⟨j,List.mem_range.2 hj, ?_⟩
   rw[List.mem_filterMap]
   refine⟨i,List.mem_range.2 hi, ?_⟩
   rw[if_pos]
   simp only[Bool.and_eq_true,Bool.not_eq_true']
   exact⟨hw',by simpa using hb⟩
  have:=te h _ this
  exact⟨tf this.1,tf this.2⟩
 ·simp only[Bool.or_eq_true,not_or,aI]at hw'
  unfold clear
  rw[oa hw i hw'.1,oa hw j hw'.2]
  simp
theorem OK {L:List (List (Nat×Blk)×List Nat)}:lg L []=True:=_root_.id rfl
theorem IS {L:List (List (Nat×Blk)×List Nat)} {i j:Nat} {ps:List (Nat×Nat)}:lg L ((i,j)::ps)=(A3 (L.getD i ([],[])) (L.getD j ([],[]))∧lg L ps):=_root_.id rfl
theorem OI {a b:List Nat}:A3 ([],a) ([],b)=True:=by simp[A3,Es]
theorem VA {a b:List (Nat×Blk)×List Nat}:A3 a b=(Es a.1 b.1 b.2∧Es b.1 a.1 a.2):=_root_.id rfl
theorem ON {bs:List (Nat×Blk)} {rd:List Nat}:Es [] bs rd=True:=_root_.id rfl
theorem IT {i:Nat} {b:Blk} {ws bs:List (Nat×Blk)} {rd:List Nat}:Es ((i,b)::ws) bs rd=(Jm i rd∧vl i bs∧Es ws bs rd):=_root_.id rfl
theorem LJ {i:Nat}:Jm i []=True:=_root_.id rfl
theorem Gw {i j:Nat} {l:List Nat}:Jm i (j::l)=(i≠j∧Jm i l):=_root_.id rfl
theorem LN {i:Nat}:vl i []=True:=_root_.id rfl
theorem Gx {i j:Nat} {b:Blk} {l:List (Nat×Blk)}:vl i ((j,b)::l)=(i≠j∧vl i l):=_root_.id rfl
def W1 (m:Bool) (l j:List PV) (id k:Nat) (C:R→Prop) (ys:List PV) (rd:List Nat):Prop:=Ps (.live m (l++j)) id 0 l.length k C ys rd
theorem aa3 {α:Type} {f:α→PV} {m:Bool} {l j:List α} {id:Nat} {ys:List PV} {rd:List Nat}:Ps (.live m (List.map f (l++j))) id 0 l.length k C ys rd=W1 m (l.map f) (j.map f) id k C ys rd:=by
 rw[W1,aT,an]
theorem yb {α:Type} {f:α→PV} {m:Bool} {l j:List α} {id:Nat} {ys:List PV} {rd:List Nat} (hl:l.length+ys.length≤1099511627776)
  (hc:∀j':List α,C ⟨.ref k 0 (l.length+ys.length),[(id,.dead),(k,.live m (l.map f++ys++j'.map f))],id::rd⟩):W1 m (l.map f) (j.map f) id k C ys rd:=by
 unfold W1 Ps
 simp only[an,ak,Nat.zero_add]
 refine⟨hl,by omega, ?_⟩
 split
 ·rename_i hj
  have:j=[]:=ai (by omega)
  subst this
  have:=hc []
  simpa using this
 ·split
  ·rename_i hj
   have:=hc (j.drop ys.length)
   have e1:(l.map f++j.map f).take l.length=l.map f:=by simp[List.take_append]
   have e2:(l.map f++j.map f).drop (l.length+ys.length)=(j.drop ys.length).map f:=by
    rw[List.drop_append,List.drop_eq_nil_of_le (by simp),aR,an,show l.length+ys.length - l.length=ys.length by omega,←List.map_drop]
   rw[e1,e2]
   exact this
  ·have:=hc []
   have e1:(l.map f++j.map f).take l.length=l.map f:=by simp[List.take_append]
   rw[List.drop_zero,e1]
   simpa using this
theorem vQ {α β:Type} {f:α→β} {l:List α} {i:Nat} {K:β→Prop} (d:α):yV (Option.map f l[i]?) K=(i<l.length∧K (f (l.getD i d))):=by
 by_cases hi:i<l.length
 ·rw[ae hi,ac,ae hi]
  simp[yV,hi]
 ·rw[aO (by omega)]
  simp[yV,hi]
theorem Nf {f:Int→PV} {l:List Int} {i:Nat} {K:PV→Prop}:yV (Option.map f l[i]?) K=(i<l.length∧K (f (l.getD i 0))):=vQ 0
theorem Hr {f:Bool→PV} {l:List Bool} {i:Nat} {K:PV→Prop}:yV (Option.map f l[i]?) K=(i<l.length∧K (f (l.getD i false))):=vQ false
theorem T7 {f:UInt8→PV} {l:List UInt8} {i:Nat} {K:PV→Prop}:yV (Option.map f l[i]?) K=(i<l.length∧K (f (l.getD i 0))):=vQ 0
theorem Hq {α:Type} {f:List α→PV} {l:List (List α)} {i:Nat} {K:PV→Prop}:yV (Option.map f l[i]?) K=(i<l.length∧K (f (l.getD i []))):=vQ []
theorem Ud {l:List UInt8} {i:Nat} {K:UInt8→Prop}:yV l[i]? K=(i<l.length∧K (l.getD i 0)):=by
 have:=vQ (f:=id) (l:=l) (i:=i) (K:=K) 0
 rwa [Option.map_id]at this
def OwnL {α:Type} (v:AV) (h:Nat→Blk) (n:Nat) (f:α→PV) (len:Nat) (l:List α):Prop:=
 match v with
 | .ref id 0 len'=>len'=len∧h id=.live false (l.map f)∧id<n
 |_=>False
def FroL {α:Type} (v:AV) (h:Nat→Blk) (n:Nat) (f:α→PV) (len:Nat) (l:List α):Prop:=
 match v with
 | .ref id 0 len'=>len'=len∧h id=.froz false (l.map f)∧id<n
 |_=>False
def NId (v v':AV):Prop:=
 match v,v' with
 | .ref i _ _,.ref j _ _=>i≠j
 |_,_=>False
def hbL {α:Type} (b:Blk) (f:α→PV) (l:List α):Prop:=b=.live false (l.map f)
def hbF {α:Type} (b:Blk) (f:α→PV) (l:List α):Prop:=b=.froz false (l.map f)
theorem OwnL.out {α:Type} {v:AV} {h:Nat→Blk} {n:Nat} {f:α→PV} {len:Nat} {l:List α} (ho:OwnL v h n f len l):∃id,v=.ref id 0 len∧h id=.live false (l.map f)∧id<n:=by
 unfold OwnL at ho
 split at ho
 ·rename_i id len';obtain⟨rfl,h1,h2⟩:=ho;exact⟨id,rfl,h1,h2⟩
 ·exact ho.elim
theorem FroL.out {α:Type} {v:AV} {h:Nat→Blk} {n:Nat} {f:α→PV} {len:Nat} {l:List α} (ho:FroL v h n f len l):∃id,v=.ref id 0 len∧h id=.froz false (l.map f)∧id<n:=by
 unfold FroL at ho
 split at ho
 ·rename_i id len';obtain⟨rfl,h1,h2⟩:=ho;exact⟨id,rfl,h1,h2⟩
 ·exact ho.elim
theorem NId.out {v v':AV} {i o l i' o' l':Nat} (h:NId v v') (e:v=.ref i o l) (e':v'=.ref i' o' l'):i≠i':=by
 subst e;subst e';exact h
theorem Ga {α:Type} {h:Nat→Blk} {n id len':Nat} {f:α→PV} {len:Nat} {l:List α}:OwnL (.ref id 0 len') h n f len l=(len'=len∧hbL (h id) f l∧id<n):=_root_.id rfl
theorem Hv {α:Type} {h:Nat→Blk} {n id len':Nat} {f:α→PV} {len:Nat} {l:List α}:FroL (.ref id 0 len') h n f len l=(len'=len∧hbF (h id) f l∧id<n):=_root_.id rfl
theorem Nb {α:Type} {f:α→PV} {c:List PV} {l:List α}:hbL (.live false c) f l=(c=l.map f):=by simp[hbL]
theorem Nc {α:Type} {f:α→PV} {c:List PV} {l:List α}:hbF (.froz false c) f l=(c=l.map f):=by simp[hbF]
theorem LI {i o l i' o' l':Nat}:NId (.ref i o l) (.ref i' o' l')=(i≠i'):=_root_.id rfl
theorem yD {kd:IntKind} {l:List Int}:noRoL (l.map (PV.int kd))=true:=cZ (fun _=>rfl) l
theorem Gm {l:List (List UInt8)}:noRoL (l.map PV.str)=true:=cZ (fun _=>rfl) l
theorem CU {l:List Bool}:noRoL (l.map PV.bool)=true:=cZ (fun _=>rfl) l
theorem LF {l:List UInt8}:noRoL (l.map kA)=true:=cZ (fun _=>rfl) l
theorem Gp {l:List (List Int)}:noRoL (l.map (bW false))=true:=cZ (fun _=>CT) l
theorem Gn {l:List (List (List UInt8))}:noRoL (l.map (Ip false))=true:=cZ (fun _=>LC) l
theorem aaw {F:List (Nat×Nat×Pl)→Prop} {tk:Bool} {ys xs:List PV}:fin tk h k (.p (.sl (.lent false) ys)) (.sl (.lent false) xs) F=(ys=xs∧F []):=_root_.id rfl
theorem U6 {F:List (Nat×Nat×Pl)→Prop} {tk:Bool} {ys xs:List PV}:fin tk h k (.p (.sl .own ys)) (.sl (.lent false) xs) F=(xs=[]∧F []):=_root_.id rfl
def Pm (b:Blk) (k id off len:Nat) (xs:List PV) (F:List (Nat×Nat×Pl)→Prop):Prop:=
 match b with
 | .froz false c=>off+len≤c.length∧(c.drop off).take len=xs∧F []
 | .live false c=>off+len≤c.length∧(c.drop off).take len=xs∧F [(k,id,.n none)]
 | .deep false cs rs=>off+len≤cs.length∧((cs.drop off).take len).map (DC.fz rs)=xs∧F [(k,id,.n none)]
 |_=>False
theorem U5 {F:List (Nat×Nat×Pl)→Prop} {tk:Bool} {id off len:Nat} {xs:List PV}:fin tk h k (.ref id off len) (.sl (.lent false) xs) F=Pm (h id) k id off len xs F:=by
 show fin tk h k (.ref id off len) (.sl .fr xs) F=_
 simp only[fin,dX,Pm]
 cases h id with
 |live m c=>cases m<;>rfl
 |froz m c=>cases m<;>rfl
 |deep m cs rs=>cases m<;>rfl
 |_=>rfl
theorem Hx {F:List (Nat×Nat×Pl)→Prop} {k id off len:Nat} {c xs:List PV}:Pm (.froz false c) k id off len xs F=(off+len≤c.length∧(c.drop off).take len=xs∧F []):=_root_.id rfl
theorem Hw {F:List (Nat×Nat×Pl)→Prop} {k id off len:Nat} {c xs:List PV}:Pm (.live false c) k id off len xs F=(off+len≤c.length∧(c.drop off).take len=xs∧F [(k,id,.n none)]):=_root_.id rfl
theorem f_2 {p q:Nat×Nat×Pl}:F0 [p,q]=Dj p q:=by simp[F0]
theorem f_3 {p q r:Nat×Nat×Pl}:F0 [p,q,r]=(Dj p q∧Dj p r∧Dj q r):=by simp[F0,and_assoc]
theorem aaH {k k' i j:Nat} {o:Nat} {pl:Pl}:Dj (k,i,.o o) (k',j,pl)=(i≠j):=by simp[Dj,Pl.row]
theorem Vo {k k' i j:Nat} {o:Nat} {pl:Pl}:Dj (k,i,pl) (k',j,.o o)=(i≠j):=by simp[Dj,Pl.row]
theorem aaJ {k k' i j:Nat} {o:Nat} {s:List (Option Nat)} {pl:Pl}:Dj (k,i,.d o s) (k',j,pl)=(i≠j):=by simp[Dj,Pl.row]
theorem Vs {k k' i j:Nat} {o:Nat} {s:List (Option Nat)} {pl:Pl}:Dj (k,i,pl) (k',j,.d o s)=(i≠j):=by simp[Dj,Pl.row]
theorem aaI {k k' i j:Nat} {pl:Pl}:Dj (k,i,.n none) (k',j,pl)=(i≠j):=by simp[Dj,Pl.row]
theorem Vq {k k' i j:Nat} {pl:Pl}:Dj (k,i,pl) (k',j,.n none)=(i≠j):=by simp[Dj,Pl.row]
theorem Vr {k k' i j r r':Nat} {o o':Nat}:Dj (k,i,.i r o) (k',j,.i r' o')=(i≠j∨r≠r'):=by simp[Dj,Pl.row]
theorem Vp {k k' i j r r':Nat}:Dj (k,i,.n (some r)) (k',j,.n (some r'))=(i≠j∨r≠r'):=by simp[Dj,Pl.row]
def FLx (h:Nat→Blk) (k:Nat) (vs:List AV) (xs:List PV) (F:List (Nat×Nat×Pl)→Prop) (L:List (Nat×Nat×Pl)):Prop:=nC false h k vs xs (FL L F)
theorem NT {F:List (Nat×Nat×Pl)→Prop} {vs:List AV} {xs:List PV}:fin false h k (.agg vs) (.agg xs) F=nC false h (k+1) vs xs F:=_root_.id rfl
theorem Ik {F:List (Nat×Nat×Pl)→Prop} {ys xs:List PV}:fin false h k (.p (.agg ys)) (.agg xs) F=nC false h (k+1) (ys.map .p) xs F:=_root_.id rfl
theorem N0 {F:List (Nat×Nat×Pl)→Prop}:nC false h k [] [] F=F []:=_root_.id rfl
theorem Im {F:List (Nat×Nat×Pl)→Prop} {v:AV} {vs:List AV} {x:PV} {xs:List PV}:nC false h k (v::vs) (x::xs) F=dX false h k v x (FLx h (k+1) vs xs F):=_root_.id rfl
theorem NZ {F:List (Nat×Nat×Pl)→Prop} {vs:List AV} {xs:List PV} {L:List (Nat×Nat×Pl)}:FLx h k vs xs F L=nC false h k vs xs (FL L F):=_root_.id rfl
theorem N4 {F:List (Nat×Nat×Pl)→Prop} {v:AV} {kd:IntKind} {n:Int}:dX false h k v (.int kd n) F=(v=.p (.int kd n)∧F []):=_root_.id rfl
theorem Io {F:List (Nat×Nat×Pl)→Prop} {v:AV} {b:Bool}:dX false h k v (.bool b) F=(v=.p (.bool b)∧F []):=_root_.id rfl
theorem N1 {F:List (Nat×Nat×Pl)→Prop} {v:AV} {s:List UInt8}:dX false h k v (.str s) F=(v=.p (.str s)∧F []):=_root_.id rfl
theorem Va {F:List (Nat×Nat×Pl)→Prop} {v:AV} {s:List PV}:dX false h k v (.sl (.lent true) s) F=(v=.p (.sl (.lent true) s)∧F []):=_root_.id rfl
theorem N2 {F:List (Nat×Nat×Pl)→Prop} {id off len:Nat} {ys:List PV}:dX false h k (.ref id off len) (.sl .own ys) F=Pn (h id) k id off len ys F:=by
 simp only[dX,Pn];cases h id<;>rfl
theorem In {F:List (Nat×Nat×Pl)→Prop} {ys zs:List PV}:dX false h k (.p (.sl .own zs)) (.sl .own ys) F=(ys=[]∧F []):=_root_.id rfl
theorem Vb {F:List (Nat×Nat×Pl)→Prop} {ys xs:List PV}:dX false h k (.p (.sl (.lent false) ys)) (.sl (.lent false) xs) F=(ys=xs∧F []):=_root_.id rfl
theorem N6 {F:List (Nat×Nat×Pl)→Prop} {ys xs:List PV}:dX false h k (.p (.sl .own ys)) (.sl (.lent false) xs) F=(xs=[]∧F []):=_root_.id rfl
theorem N5 {F:List (Nat×Nat×Pl)→Prop} {id off len:Nat} {xs:List PV}:dX false h k (.ref id off len) (.sl (.lent false) xs) F=Pm (h id) k id off len xs F:=by
 show dX false h k (.ref id off len) (.sl .fr xs) F=_
 simp only[dX,Pm]
 cases h id with
 |live m c=>cases m<;>rfl
 |froz m c=>cases m<;>rfl
 |deep m cs rs=>cases m<;>rfl
 |_=>rfl
theorem MY {n:Nat}:imps n []=[]:=_root_.id rfl
theorem G8 {n:Nat} {x:PV} {xs:List PV}:imps n (x::xs)=imp n x::imps (n+16) xs:=_root_.id rfl
theorem M6 {n:Nat}:impL n []=[]:=_root_.id rfl
theorem Hj {n:Nat} {x:PV} {xs:List PV}:impL n (x::xs)=imp1 n x::impL (n+1) xs:=_root_.id rfl
theorem M5 {n:Nat} {m:Bool}:impWL m n []=[]:=_root_.id rfl
theorem Hi {n:Nat} {m:Bool} {x:PV} {xs:List PV}:impWL m n (x::xs)=impW1 m n x++impWL m (n+1) xs:=_root_.id rfl
end
attribute [go_sem ↓] E4 zM E8 Fa P0 PZ Xw Xv JU E3 Fb P8 E6 uG
attribute [go_sem] S7 S5 L9 L8 xd vo xc Ah xb vn xa Ag Kb Ed Oa
attribute [go_sem] RH Zf RJ RI Ky IX IW VH OQ Kt Kv Ku Kw BA Kp Fp Km Fj Ko Kn B1 BR BU B2 BV zQ zP F4
attribute [go_sem] KZ FW FX Zn Zo Tn GJ Wc I7 Lz CR N9 UL aaq aat TG UZ UY NS VL VK Nt HL HK TF Lq Ge Lo Sd Lp
attribute [go_sem] Ov IJ Os aaM aaN Ot Vv xS Ou Vw Ml Mk Um Un Zm R2 Lb La Lj K3 Zq K1 K2 Qi RW FY F3 LL Sr Ss LM
attribute [go_sem] L2 GG SW L4 SV SX Gi pD OK IS OI VA ON IT LJ Gw LN Gx aaw U6 U5 Hx Hw GK At f_2 f_3 NT Ik N0 Im NZ N4 Io N1 Va N2 In Vb N6 N5 MY G8 M6 Hj M5 Hi
attribute [go_sem] Option.map_some Option.map_none List.set_cons_zero List.set_cons_succ Option.isNone_none List.all_cons List.all_nil aB Nat.sub_zero List.drop_zero Int.toNat_zero IM A4 Ey
attribute [go_sem] Nf Hr T7 Hq Ud
attribute [go_sem] aaH Vo aaJ Vs aaI Vq Vr Vp
attribute [go_sem] HA HB HC Ga Hv Nb Nc LI
attribute [go_sem high] aa3
end Go.Gl
namespace Go.Gl
open Go
variable [Amb]
theorem Gt {kd:IntKind} {n:Int}:noRo (.int kd n)=true:=_root_.id rfl
theorem CX {b:Bool}:noRo (.bool b)=true:=_root_.id rfl
theorem Gr {s:List UInt8}:noRo (.str s)=true:=_root_.id rfl
theorem Gs {xs:List PV}:noRo (.sl .own xs)=noRoL xs:=_root_.id rfl
theorem vg {xs:List PV}:noRo (.sl (.lent false) xs)=noRoL xs:=_root_.id rfl
theorem Gu {xs:List PV}:noRo (.agg xs)=noRoL xs:=_root_.id rfl
class Imp1 (k:Nat) (x:PV) (v:outParam AV) (ws:outParam (List (Nat×Blk))):Prop where
 h:imp1 k x=v∧impW1 false k x=ws
instance {k:Nat} {kd:IntKind} {n:Int}:Imp1 k (.int kd n) (.p (.int kd n)) []:=⟨rfl,rfl⟩
instance {k:Nat} {b:Bool}:Imp1 k (.bool b) (.p (.bool b)) []:=⟨rfl,rfl⟩
instance {k:Nat} {s:List UInt8}:Imp1 k (.str s) (.p (.str s)) []:=⟨rfl,rfl⟩
instance {m:Bool} {k:Nat} {s:List PV}:Imp1 k (.sl (.lent m) s) (.p (.sl (.lent m) s)) []:=⟨by cases m<;>rfl,by cases m<;>rfl⟩
instance {α:Type} {k:Nat} {f:α→PV} {s:List α}:Imp1 k (.sl .own (s.map f)) (.ref k 0 s.length) [(k,.live false (s.map f))]:=⟨by simp[imp1],rfl⟩
instance {k:Nat} {f:FuncId} {a b:List PV}:Imp1 k (.fn f a b) (.p (.fn f a b)) []:=⟨rfl,rfl⟩
class ImpLs (k:Nat) (xs:List PV) (vs:outParam (List AV)) (ws:outParam (List (Nat×Blk))):Prop where
 h:impL k xs=vs∧impWL false k xs=ws
instance {k:Nat}:ImpLs k [] [] []:=⟨rfl,rfl⟩
instance {k:Nat} {x:PV} {v:AV} {xs:List PV} {vs:List AV} {ws:List (Nat×Blk)} [a:Imp1 k x v []] [b:ImpLs (k+1) xs vs ws]:ImpLs k (x::xs) (v::vs) ws:=
 ⟨by rw[impL,a.h.1,b.h.1],by rw[impWL,a.h.2,b.h.2];rfl⟩
instance {k:Nat} {x:PV} {v:AV} {w:Nat×Blk} {xs:List PV} {vs:List AV} {ws:List (Nat×Blk)} [a:Imp1 k x v [w]] [b:ImpLs (k+1) xs vs ws]:ImpLs k (x::xs) (v::vs) (w::ws):=
 ⟨by rw[impL,a.h.1,b.h.1],by rw[impWL,a.h.2,b.h.2];rfl⟩
class ImpO (k:Nat) (x:PV) (v:outParam AV) (ws:outParam (List (Nat×Blk))):Prop where
 h:imp k x=v∧impW false k x=ws
instance {k:Nat} {kd:IntKind} {n:Int}:ImpO k (.int kd n) (.p (.int kd n)) []:=⟨rfl,rfl⟩
instance {k:Nat} {b:Bool}:ImpO k (.bool b) (.p (.bool b)) []:=⟨rfl,rfl⟩
instance {k:Nat} {s:List UInt8}:ImpO k (.str s) (.p (.str s)) []:=⟨rfl,rfl⟩
instance {m:Bool} {k:Nat} {s:List PV}:ImpO k (.sl (.lent m) s) (.p (.sl (.lent m) s)) []:=⟨by cases m<;>rfl,by cases m<;>rfl⟩
instance {α:Type} {k:Nat} {f:α→PV} {s:List α}:ImpO k (.sl .own (s.map f)) (.ref k 0 s.length) [(k,.live false (s.map f))]:=⟨by simp[imp,imp1],rfl⟩
instance {k:Nat} {f:FuncId} {a b:List PV}:ImpO k (.fn f a b) (.p (.fn f a b)) []:=⟨rfl,rfl⟩
instance {k:Nat} {xs:List PV} {vs:List AV} {ws:List (Nat×Blk)} [a:ImpLs (k+1) xs vs ws]:ImpO k (.agg xs) (.agg vs) ws:=⟨by rw[imp,a.h.1],by rw[impW,a.h.2]⟩
class ImpS (k:Nat) (xs:List PV) (vs:outParam (List AV)) (ws:outParam (List (Nat×Blk))):Prop where
 h:imps k xs=vs∧impWs false k xs=ws
instance {k:Nat}:ImpS k [] [] []:=⟨rfl,rfl⟩
instance {k:Nat} {x:PV} {v:AV} {xs:List PV} {vs:List AV} {ws:List (Nat×Blk)} [a:ImpO k x v []] [b:ImpS (k+16) xs vs ws]:ImpS k (x::xs) (v::vs) ws:=
 ⟨by rw[imps,a.h.1,b.h.1],by rw[impWs,a.h.2,b.h.2];rfl⟩
instance {k:Nat} {x:PV} {v:AV} {w:Nat×Blk} {xs:List PV} {vs:List AV} {ws:List (Nat×Blk)} [a:ImpO k x v [w]] [b:ImpS (k+16) xs vs ws]:ImpS k (x::xs) (v::vs) (w::ws):=
 ⟨by rw[imps,a.h.1,b.h.1],by rw[impWs,a.h.2,b.h.2];rfl⟩
instance {k:Nat} {x:PV} {v:AV} {w w2:Nat×Blk} {xs:List PV} {vs:List AV} {ws:List (Nat×Blk)} [a:ImpO k x v [w,w2]] [b:ImpS (k+16) xs vs ws]:ImpS k (x::xs) (v::vs) (w::w2::ws):=
 ⟨by rw[imps,a.h.1,b.h.1],by rw[impWs,a.h.2,b.h.2];rfl⟩
instance {k:Nat} {x:PV} {v:AV} {w w2 w3:Nat×Blk} {xs:List PV} {vs:List AV} {ws:List (Nat×Blk)} [a:ImpO k x v [w,w2,w3]] [b:ImpS (k+16) xs vs ws]:ImpS k (x::xs) (v::vs) (w::w2::w3::ws):=
 ⟨by rw[imps,a.h.1,b.h.1],by rw[impWs,a.h.2,b.h.2];rfl⟩
class ImpA (k:Nat) (xs:List PV) (v:outParam AV) (ws:outParam (List (Nat×Blk))):Prop where
 h:impAll k xs=v∧impWs false k xs=ws
instance {k:Nat}:ImpA k [] (.tup []) []:=⟨rfl,rfl⟩
instance {k:Nat} {x:PV} {v:AV} {ws:List (Nat×Blk)} [a:ImpO k x v ws]:ImpA k [x] v ws:=⟨by rw[impAll,a.h.1],by rw[impWs,a.h.2,impWs,aN]⟩
instance {k:Nat} {x y:PV} {xs:List PV} {vs:List AV} {ws:List (Nat×Blk)} [a:ImpS k (x::y::xs) vs ws]:ImpA k (x::y::xs) (.tup vs) ws:=⟨by rw[impAll,a.h.1];intro z h;simp at h,a.h.2⟩
section
variable {S:St} {P:Program} {h:Nat→Blk} {C:R→Prop}
theorem aH {k:Nat} {f:FuncId} {xs res:List PV} {rd:List Nat} {v:AV} {ws:List (Nat×Blk)} (hf:Fun P f xs res) [a:ImpA k res v ws] (hc:C ⟨v,ws,rd⟩):PkX P h k f C xs rd:=
 J7 hf (by rw[a.h.1,a.h.2];exact hc)
theorem bo {k:Nat} {p:Bool} {f:FuncId} {c c':List PV} {as:List Arg} {os:List (Option (List PV))} {res:List PV} {rd:List Nat} {ms:List (Option (Nat×Option Nat))} {id:Nat} {v:AV} {ws:List (Nat×Blk)}
  (hf:CallT P false f (.mu p c::as) (some c'::os) res) [a:ImpA k res v ws] (hn:(ms.all Option.isNone)=true) (hid:id∉rd)
  (hc:C ⟨v,(id,fc none (some (some c')) (h id))::ws,id::rd⟩):Pk P h k f C (.mu p c::as) rd (some (id,none)::ms):=by
 refine lp hf hn hid ?_
 rw[Bool.false_and,a.h.1,a.h.2,aJ]
 exact hc
theorem WD {k:Nat} {p:Bool} {f:FuncId} {c:List PV} {as:List Arg} {os:List (Option (List PV))} {res:List PV} {rd:List Nat} {ms:List (Option (Nat×Option Nat))} {id:Nat} {v:AV} {ws:List (Nat×Blk)}
  (hf:CallT P false f (.mu p c::as) (none::os) res) [a:ImpA k res v ws] (hn:(ms.all Option.isNone)=true) (hid:id∉rd)
  (hc:C ⟨v,(id,.dead)::ws,id::rd⟩):Pk P h k f C (.mu p c::as) rd (some (id,none)::ms):=by
 refine lp hf hn hid ?_
 rw[Bool.false_and,a.h.1,a.h.2,aJ]
 exact hc
theorem KQ {caps:List PV} {F:List PV→List Nat→Prop}:pC h (List.map AV.p caps) F=F (caps.map PV.cell) []:=by
 induction caps generalizing F with
 |nil=>rfl
 |cons c caps ih=>simp only[List.map_cons,q_p,ih,RU,aR]
theorem Wf {p:Bool} {c:List PV} {as:List Arg}:cP (.mu p c::as) 0=t7 true c:=_root_.id rfl
theorem We {x:PV} {as:List Arg}:cP (.pv x::as) 0=.dead:=_root_.id rfl
theorem aa7 {a:Arg} {as:List Arg} {j:Nat}:cP (a::as) (j+1)=cP as j:=by simp[cP]
theorem J3 {tk:Bool} {c c':List PV} {as:List Arg} {ts:List Nat} {xs:List PV} {ex:Ex} {p:Bool} {os:List (Option (List PV))} (hx:ex=.ret∨ex=.normal)
  (ho:(os.all Option.isNone)=true) (hl:S.h 0=t7 true c') (hf:dy tk S.h (as.length+1) (ts.map S.e) xs F1):
  sm tk (.mu p c::as) (some c'::os) ts xs ex S:=J4 hx ho hl hf
theorem Z7 {c c':List PV} (h:c=c'):Blk.live true c=Blk.live true c':=by rw[h]
end
attribute [go_sem] KQ Kd Oe FI Wf We aa7 N3 aaA
end Go.Gl
namespace Go.Gl
open Go Go.RowKit Go.ChangeShapes
section
variable {H:Type} {enc:TypeId×Value→H} {P:Program} {w:World} {base:Nat} {sp:Nat→Bool} {held:Bool} {G:Nat→Prop}
theorem IL {a:Addr} {c:List Value} (h:w.cells? base a 1=some c):∃v,c=[v]∧w.cell? a=some v:=by
 have e0:a.add 0=a:=by simp[Addr.add]
 unfold World.cells? at h
 split at h
 ·simp only[List.range_succ,List.range_zero,aR,List.mapM_cons,List.mapM_nil,e0]at h
  cases hcc:w.cell? a with
  |none=>simp[hcc]at h
  |some c=>simp[hcc]at h;exact⟨c,h.symm,rfl⟩
 ·cases h
theorem Ab {t e:TypeId} {fuel:Nat} {cs:List Value} {x:DataW H×List MemPlace} {α:Type} (f:α→PV) (ht:P.underlying t=some (.slice e)) (hc:P.cellsOf e=1)
  (hel:∀n v y,DataW.trod enc P w base sp held n e [v]=some y→∃a:α,v.oneCell'=true∧RepP w (fun _=>False) G (f a) v)
  (h:DataW.trod enc P w base sp held fuel t cs=some x):∃(v:Value) (L:List α),cs=[v]∧RepP w (fun _=>False) G (.sl .ro (L.map f)) v:=by
 rcases DataW.trod_slice ht h with⟨rfl,_⟩|⟨a,len,cap,elems,rest,n,_,rfl,rfl,hb,hl,hm,hlen,hes,_,_⟩
 ·refine⟨_,[],rfl, ?_⟩
  simp only[List.map_nil,RepP]
  exact⟨none,0,rfl,am _,Nat.zero_le _,(by intro h;cases h),Or.inl trivial⟩
 ·have key:∀i,i<len→∃v,w.cell? (a.add i)=some v∧∃a:α,v.oneCell'=true∧RepP w (fun _=>False) G (f a) v:=by
   intro i hi
   have hE:=hes i hi
   rw[hc,Nat.mul_one,ae (by omega)]at hE
   simp only[Option.bind_eq_some_iff]at hE
   obtain⟨c1,hc1,hy1⟩:=hE
   obtain⟨v,rfl,hv⟩:=IL hc1
   exact⟨v,hv,hel _ _ _ hy1⟩
  have key2:∃L:List α,L.length=len∧∀i (hi:i<L.length),∃v,w.cell? (a.add i)=some v∧v.oneCell'=true∧RepP w (fun _=>False) G (f L[i]) v:=by
   have:∀m,m≤len→∃L:List α,L.length=m∧∀i (hi:i<L.length),∃v,w.cell? (a.add i)=some v∧v.oneCell'=true∧RepP w (fun _=>False) G (f L[i]) v:=by
    intro m
    induction m with
    |zero=>intro _;exact⟨[],rfl,fun i hi=>by simp at hi⟩
    |succ m ih=>
     intro hle
     obtain⟨L,hL,hL2⟩:=ih (by omega)
     obtain⟨v,hv,b,h1,h2⟩:=key m (by omega)
     refine⟨L++[b],by simp[hL],fun i hi=> ?_⟩
     by_cases him:i<L.length
     ·obtain⟨v',q1,q2,q3⟩:=hL2 i him
      exact⟨v',q1,q2,by rw[List.getElem_append_left him];exact q3⟩
     ·have:i=m:=by simp at hi;omega
      subst this
      refine⟨v,hv,h1, ?_⟩
      rw[List.getElem_append_right (by omega)]
      simpa[hL]using h2
   exact this len (am _)
  obtain⟨L,hL,hL2⟩:=key2
  refine⟨_,L,rfl, ?_⟩
  simp only[RepP,an]
  refine⟨some a,cap,by rw[hL],by omega,hm,(by intro h;cases h), ?_⟩
  by_cases h0:len=0
  ·left;have:L=[]:=ai (by omega)
   subst this;rfl
  ·right
   obtain⟨B,off,spot⟩:=a
   obtain⟨v,hv,_,_⟩:=hL2 0 (by omega)
   have hs:spot=none:=by simpa[Addr.add]using World.cell?_spot hv
   subst hs
   refine⟨B,off,rfl,id,(by intro h;cases h), ?_⟩
   have main:∀(M:List α) (o:Nat),(∀i (hi:i<M.length),∃v,w.cell? ⟨B,o+i,none⟩=some v∧v.oneCell'=true∧RepP w (fun _=>False) G (f M[i]) v)→RepC w (fun _=>False) G B o (M.map f):=by
    intro M
    induction M with
    |nil=>intro o _;simp only[List.map_nil,RepC]
    |cons y M ih=>
     intro o hy
     simp only[List.map_cons,RepC]
     refine⟨by have:=hy 0 (by simp);rw[List.getElem_cons_zero]at this;simpa using this,ih (o+1) fun i hi=> ?_⟩
     have:=hy (i+1) (by simpa using hi)
     rw[show o+1+i=o+(i+1)by omega]
     simpa using this
   refine main L off fun i hi=> ?_
   have:=hL2 i hi
   by_cases hi0:i=0
   ·subst hi0;simpa[Addr.add]using this
   ·simpa[Addr.add,hi0]using this
theorem qP {t e:TypeId} {k:IntKind} {fuel:Nat} {v:Value} {x:DataW H×List MemPlace} (ht:P.underlying t=some (.slice e)) (he:P.underlying e=some (.int k)) (hc:P.cellsOf e=1)
  (h:DataW.trod enc P w base (fun _=>true) held fuel t [v]=some x):∃zs:List Int,v.oneCell'=true∧RepP w (fun _=>False) G (DF k zs) v:=by
 rcases open_ints ht he hc h with⟨hcs,_⟩|⟨a,l,c,zs,hcs,_,hl,hm,hz,_,hcell,hwz⟩
 ·simp only[List.cons.injEq,and_true]at hcs
  subst hcs
  exact⟨[],rfl,(IsRow.rep (zs:=[]) (.inl ⟨rfl,rfl,rfl,rfl⟩):RepP w _ G (DF k _) _)⟩
 ·simp only[List.cons.injEq,and_true]at hcs
  subst hcs
  exact⟨zs.take l,rfl,IsRow.rep (.inr ⟨_,rfl,hl,hm,by simpa using hz,hcell,hwz⟩)⟩
theorem w9 {t e i:TypeId} {fuel:Nat} {cs:List Value} {x:DataW H×List MemPlace} (ht:P.underlying t=some (.slice e)) (hc:P.cellsOf e=1)
  (he:P.underlying e=some (.slice i)) (hi:P.underlying i=some (.int .i64)) (hci:P.cellsOf i=1)
  (h:DataW.trod enc P w base (fun _=>true) held fuel t cs=some x):∃(v:Value) (L:List (List Int)),cs=[v]∧RepP w (fun _=>False) G (.sl .ro (L.map (bW true))) v:=
 Ab (bW true) ht hc (fun n v y hy=>by
  obtain⟨zs,h1,h2⟩:=qP (G:=G) he hi hci hy
  exact⟨zs,h1,h2⟩) h
theorem sx {G:Nat→Prop} {B:Nat}:∀{L:List (List Int)} {off:Nat},RepC w (fun _=>False) G B off (L.map (bW true))→∀l∈L,l.length≤9223372036854775807
 |[],_,_=>by simp
 |x::L,off,h=>by
  have hm:maxLen=9223372036854775807:=rfl
  simp only[List.map_cons,RepC]at h
  obtain⟨⟨v',_,_,h4⟩,h5⟩:=h
  intro l hl
  rcases List.mem_cons.1 hl with rfl|hl
  ·simp only[bW,RepP,an]at h4
   obtain⟨_,_,_,q1,q2,_⟩:=h4
   omega
  ·exact sx h5 l hl
theorem Cw {G:Nat→Prop} {L:List (List Int)} {v:Value} (h:RepP w (fun _=>False) G (.sl .ro (L.map (bW true))) v):L.length≤9223372036854775807∧∀l∈L,l.length≤9223372036854775807:=by
 simp only[RepP,an]at h
 obtain⟨a,cap,_,h1,h2,_,h3⟩:=h
 have hm:maxLen=9223372036854775807:=rfl
 refine⟨by omega, ?_⟩
 rcases h3 with h3|⟨B,off,_,_,_,h3⟩
 ·intro l hl
  have:L=[]:=List.map_eq_nil_iff.1 h3
  subst this;simp at hl
 ·exact sx h3
end
end Go.Gl
namespace Go.Gl
open Go
variable [Amb]
section
variable {P:Program} {sg:FuncId→List Bool} {h:Nat→Blk} {k:Nat} {C:R→Prop} {A:AV→Prop}
def TC (b:Blk) (id off n:Nat) (C:R→Prop):Prop:=
 match b with
 | .live _ c=>off+n≤c.length∧C ⟨.p (.agg ((c.drop off).take n)),[],[id]⟩
 | .froz _ c=>off+n≤c.length∧C ⟨.p (.agg ((c.drop off).take n)),[],[id]⟩
 | .deep _ cs rs=>off+n≤cs.length∧C ⟨.agg (((cs.drop off).take n).map (DC.av id rs)),[],[id]⟩
 |_=>False
theorem GX {n id off:Nat}:EW (some (n,true)) h (.ptr id off) C=TC (h id) id off n C:=by
 simp only[EW,TC]<;>cases h id<;>rfl
theorem Dp {m:Bool} {c:List PV} {id off n:Nat}:TC (.live m c) id off n C=(off+n≤c.length∧C ⟨.p (.agg ((c.drop off).take n)),[],[id]⟩):=_root_.id rfl
theorem Dq {m:Bool} {c:List PV} {id off n:Nat}:TC (.froz m c) id off n C=(off+n≤c.length∧C ⟨.p (.agg ((c.drop off).take n)),[],[id]⟩):=_root_.id rfl
def BX (k:Nat) (C:R→Prop) (xs:List PV) (ws:List (Nat×Blk)) (rd:List Nat):Prop:=xs≠[]∧xs.length≤1000000∧C ⟨.ptr k 0,ws++[(k,.live false xs)],rd⟩
theorem VG {v:AV}:ED h k v C=cC h v (BX k C):=_root_.id rfl
theorem VF {xs:List PV} {ws:List (Nat×Blk)} {rd:List Nat}:BX k C xs ws rd=(xs≠[]∧xs.length≤1000000∧C ⟨.ptr k 0,ws++[(k,.live false xs)],rd⟩):=_root_.id rfl
variable {K:List PV→List (Nat×Blk)→List Nat→Prop}
theorem Oo {xs:List PV}:cC h (.p (.agg xs)) K=(xs.all (fun x=>x.cell.cellOk)=true∧K (xs.map PV.cell) [] []):=_root_.id rfl
theorem ID {vs:List AV}:cC h (.agg vs) K=kw h vs K:=_root_.id rfl
theorem On {kd:IntKind} {n:Int}:cC h (.p (.int kd n)) K=K [.int kd n] [] []:=by simp[cC,mF,PV.cell,PV.cellOk]
theorem IC {b:Bool}:cC h (.p (.bool b)) K=K [.bool b] [] []:=by simp[cC,mF,PV.cell,PV.cellOk]
theorem Ok {s:List UInt8}:cC h (.p (.str s)) K=K [.str s] [] []:=by simp[cC,mF,PV.cell,PV.cellOk]
theorem IB {m:Bool} {s:List PV}:cC h (.p (.sl (.lent m) s)) K=K [.sl (.lent m) s] [] []:=by cases m<;>simp[cC,mF,PV.cell,PV.cellOk,Fl.lent]
theorem Om {s:List PV}:cC h (.p (.sl .own s)) K=K [.sl (.lent false) []] [] []:=by simp[cC,mF,PV.cell,PV.cellOk,Fl.lent]
def CW1 (K:List PV→List (Nat×Blk)→List Nat→Prop) (x:PV) (ws:List (Nat×Blk)) (rd:List Nat):Prop:=K [x] ws rd
theorem Ol {id off len:Nat}:cC h (.ref id off len) K=Ji (h id) id off len (CW1 K):=by
 simp only[cC,mF,Ji,CW1];cases h id<;>rfl
theorem Oq {x:PV} {ws:List (Nat×Blk)} {rd:List Nat}:CW1 K x ws rd=K [x] ws rd:=_root_.id rfl
def ST (h:Nat→Blk) (n id off:Nat) (m:Bool) (c:List PV) (C:R→Prop) (xs:List PV) (ws:List (Nat×Blk)) (rd:List Nat):Prop:=
 xs.length=n∧off+n≤c.length∧id∉rd∧C ⟨.p .any,ws++[(id,.live m (c.take off++xs++c.drop (off+n)))],id::rd⟩
def STD (m:Bool) (n id off:Nat) (cs:List DC) (C:R→Prop) (xs:List DC) (rs:List (Option (List PV))) (ws:List (Nat×Blk)) (rd:List Nat):Prop:=
 xs.length=n∧off+n≤cs.length∧C ⟨.p .any,ws++[(id,.deep m (cs.take off++xs++cs.drop (off+n)) rs)],id::rd⟩
def WG (b:Blk) (h:Nat→Blk) (n id off:Nat) (v:AV) (C:R→Prop):Prop:=
 match b with
 | .live m c=>cC h v (ST h n id off m c C)
 | .deep m cs rs=>iM h m id (fK v) rs (STD m n id off cs C)
 |_=>False
theorem Kq {n id off:Nat} {v:AV}:wD (some (n,true)) h (.ptr id off) v C=WG (h id) h n id off v C:=by
 simp only[wD,WG];rfl
theorem BW {n id off:Nat} {m:Bool} {c:List PV} {v:AV}:WG (.live m c) h n id off v C=cC h v (ST h n id off m c C):=_root_.id rfl
theorem Rr {n id off:Nat} {m:Bool} {c xs:List PV} {ws:List (Nat×Blk)} {rd:List Nat}:ST h n id off m c C xs ws rd=(xs.length=n∧off+n≤c.length∧id∉rd∧C ⟨.p .any,ws++[(id,.live m (c.take off++xs++c.drop (off+n)))],id::rd⟩):=_root_.id rfl
theorem abG {xs:List PV} {vs:List AV} {F:List PV→List Nat→Prop}:pC h (.p (.pc xs)::vs) F=pC h vs (UA F (.pc xs) []):=_root_.id rfl
end
attribute [go_sem] GX Dp Dq VG VF Oo ID On IC Ok IB Om Ol Oq Kq BW Rr List.not_mem_nil List.mem_cons or_false List.all_cons List.all_nil List.take_succ_cons List.drop_succ_cons List.take_zero
end Go.Gl
namespace Go.Gl
open Go
variable [Amb]
section
variable {P:Program} {sg:FuncId→List Bool} {h:Nat→Blk} {k:Nat} {ρ:Operand→AV} {C:R→Prop} {S:St} {x y:Operand} {t t':TypeId} {kd kd':IntKind} {m n:Int} {V:PV→Prop}
theorem PL {op:Op} (hs:gk sg=true) (hx:ja op=true):jE P sg ρ h k op C=CN P ρ h op C:=by simp[jE,hs,hx]
theorem PK {op:Op} (hs:gk sg=true) (hn:gG sg=false) (h3:gF sg=false) (h4:gE sg=false) (h5:gH sg=false) (hx:ja op=false):jE P sg ρ h k op C=gA P sg ρ h k op C:=by simp[jE,hx,hn,h3,h4,h5,DB]
theorem PJ {b:BinOp}:CN P ρ h (.binOp b t x y t') C=lK b (ρ x) (ρ y) (KV C):=_root_.id rfl
theorem JR:lK .add (.p (.int kd m)) (.p (.int kd' n)) V=(kd=kd'∧V (.int kd (kd.wrap (m+n)))):=_root_.id rfl
theorem JO:lK .sub (.p (.int kd m)) (.p (.int kd' n)) V=(kd=kd'∧V (.int kd (kd.wrap (m - n)))):=_root_.id rfl
theorem JP:lK .mul (.p (.int kd m)) (.p (.int kd' n)) V=(kd=kd'∧V (.int kd (kd.wrap (m*n)))):=_root_.id rfl
def SLx (c id off:Nat) (C:R→Prop) (h l:Int):Prop:=0≤l∧l≤h∧off+h.toNat≤c∧C ⟨.ref id (off+l.toNat) (h.toNat - l.toNat),[],[id]⟩
def SLy (len id:Nat) (C:R→Prop) (m h l:Int):Prop:=0≤l∧l≤h∧h≤m∧m≤len∧C ⟨.p .any,[],[id]⟩
def Rp (b:Blk) (s:Bool) (id off len:Nat) (lo hi mx:Option AV) (C:R→Prop):Prop:=
 match b with
 | .live _ c=>s=true∧off+len≤c.length∧(match mx with
  |none=>wv hi len (BL lo (SLx c.length id off C))
  |some _=>hi≠none∧wv mx 0 (WC hi lo (SLy len id C)))
 |_=>False
theorem E0 {lo hi mx:Option Operand}:CN P ρ h (.slice t x lo hi mx) C=iK P t (ρ x) lo hi mx h ρ C:=_root_.id rfl
theorem Kg {id off len:Nat} {lo hi mx:Option Operand}:iK P t (.ref id off len) lo hi mx h ρ C=Rp (h id) (fN P t).isSome id off len (lo.map ρ) (hi.map ρ) (mx.map ρ) C:=by
 simp only[iK,Rp,oD]
 cases h id with
 |live m c=>
  cases mx with
  |none=>rfl
  |some o=>
   simp only[Option.map_some]
   have:(hi≠none)=(Option.map ρ hi≠none):=by cases hi<;>simp
   rw[this];rfl
 |froz m c=>rfl
 |deep m cs rs=>rfl
 |_=>rfl
theorem Fh {mm:Bool} {c:List PV} {s:Bool} {id off len:Nat} {lo hi:Option AV}:Rp (.live mm c) s id off len lo hi none C=(s=true∧off+len≤c.length∧wv hi len (BL lo (SLx c.length id off C))):=_root_.id rfl
theorem BO {mm:Bool} {c:List PV} {s:Bool} {id off len:Nat} {lo:Option AV} {hi mx:AV}:Rp (.live mm c) s id off len lo (some hi) (some mx) C=(s=true∧off+len≤c.length∧wv (some mx) 0 (WC (some hi) lo (SLy len id C))):=by
 simp[Rp]
theorem Ks {c id off:Nat} {i j:Int}:SLx c id off C i j=(0≤j∧j≤i∧off+i.toNat≤c∧C ⟨.ref id (off+j.toNat) (i.toNat - j.toNat),[],[id]⟩):=_root_.id rfl
theorem Kr {len id:Nat} {l i j:Int}:SLy len id C l i j=(0≤j∧j≤i∧i≤l∧l≤len∧C ⟨.p .any,[],[id]⟩):=_root_.id rfl
def Vy (s:Option (Nat×PV)) (b:Blk) (id off len:Nat) (C:R→Prop):Prop:=
 match s,b with
 |some (_,z),.live m c=>off+len≤c.length∧z.cellOk=true∧C ⟨.p .any,[(id,.live m (c.take off++List.replicate len z++c.drop (off+len)))],[id]⟩
 |some (_,z),.deep m cs rs=>z=.sl .fr []∧off+len≤cs.length∧C ⟨.p .any,[(id,.deep m (cs.take off++List.replicate len (.v (.sl .own []))++cs.drop (off+len)) rs)],[id]⟩
 |_,_=>False
theorem E2:CN P ρ h (.call {callee:=.builtin .clear,args:=⟨[x]⟩,argTypes:=⟨[t]⟩}) C=gY P t h (ρ x) C:=_root_.id rfl
theorem P4:gA P sg ρ h k (.call {callee:=.builtin .cap,args:=⟨[x]⟩,argTypes:=⟨[t]⟩}) C=xV P t (ρ x) (KW C):=_root_.id rfl
theorem IR {A:AV→Prop}:xV P t (.p (.sl .own [])) A=((fN P t).isSome=true∧A (.p (.int .i64 0))):=_root_.id rfl
theorem E9:gA P sg ρ h k (.call {callee:=.builtin .clear,args:=⟨[x]⟩,argTypes:=⟨[t]⟩}) C=gY P t h (ρ x) C:=_root_.id rfl
theorem OH {id off len:Nat}:gY P t h (.ref id off len) C=Vy (fN P t) (h id) id off len C:=by
 simp only[gY,Vy]
 cases fN P t with
 |none=>rfl
 |some p=>cases h id<;>rfl
theorem IH {q:Nat} {z:PV} {mm:Bool} {c:List PV} {id off len:Nat}:Vy (some (q,z)) (.live mm c) id off len C=(off+len≤c.length∧z.cellOk=true∧C ⟨.p .any,[(id,.live mm (c.take off++List.replicate len z++c.drop (off+len)))],[id]⟩):=_root_.id rfl
theorem Dt {lo hi mx:Option Operand}:ja (.slice t x lo hi mx)=true:=_root_.id rfl
theorem MX:ja (.binOp .add t x y t')=true:=_root_.id rfl
theorem ME:ja (.binOp .sub t x y t')=true:=_root_.id rfl
theorem ML:ja (.binOp .mul t x y t')=true:=_root_.id rfl
theorem JQ:lK .and (.p (.int kd m)) (.p (.int kd' n)) V=(kd=kd'∧V (.int kd (rL kd m n))):=_root_.id rfl
theorem JN:lK .xor (.p (.int kd m)) (.p (.int kd' n)) V=(kd=kd'∧V (.int kd (zC kd m n))):=_root_.id rfl
theorem MW:ja (.binOp .and t x y t')=true:=_root_.id rfl
theorem MD:ja (.binOp .xor t x y t')=true:=_root_.id rfl
theorem MG:ja (.binOp .shr t x y t')=false:=_root_.id rfl
theorem MV:ja (.box t x)=false:=_root_.id rfl
theorem Dy:ja (.alloc t)=false:=_root_.id rfl
theorem TM {i:Nat}:ja (.fieldAddr t x i)=false:=_root_.id rfl
theorem TL {i:Nat}:ja (.field t x i)=false:=_root_.id rfl
theorem Dw {ps:Array (Nat×Operand)}:ja (.build t ps)=false:=_root_.id rfl
theorem TI:ja (.nilCheck x)=false:=_root_.id rfl
theorem TJ {g:Fn} {a b:Array Operand}:ja (.makeFunc g a b)=false:=_root_.id rfl
theorem Dv:ja (.call {callee:=.builtin .clear,args:=⟨[x]⟩,argTypes:=⟨[t]⟩})=true:=_root_.id rfl
theorem MT:ja (.binOp .eql t x y t')=false:=_root_.id rfl
theorem MJ:ja (.binOp .neq t x y t')=false:=_root_.id rfl
theorem MN:ja (.binOp .lss t x y t')=false:=_root_.id rfl
theorem MO:ja (.binOp .leq t x y t')=false:=_root_.id rfl
theorem MR:ja (.binOp .gtr t x y t')=false:=_root_.id rfl
theorem MS:ja (.binOp .geq t x y t')=false:=_root_.id rfl
theorem MI:ja (.binOp .quo t x y t')=false:=_root_.id rfl
theorem MH:ja (.binOp .rem t x y t')=false:=_root_.id rfl
theorem TH {b:UnOp}:ja (.unOp b t x)=false:=_root_.id rfl
theorem G0:ja (.move x)=wF x:=_root_.id rfl
theorem Xs:CN P ρ h (.move x) C=Gv (ρ x) C:=_root_.id rfl
theorem Xt:CN P ρ h (.assign x) C=Gv (ρ x) C:=_root_.id rfl
theorem LH {xs:List PV}:Gv (.p (.sl .own xs)) C=C ⟨.p .nl,[],[]⟩:=_root_.id rfl
theorem Aw:ja (.assign x)=wF x:=_root_.id rfl
theorem GZ {z:Operand}:ja (.pick x y z)=false:=_root_.id rfl
theorem G4:ja (.convert t t' x)=false:=_root_.id rfl
theorem G1:ja (.makeSlice t x y)=false:=_root_.id rfl
theorem TN {n:Nat} {ps:Array (Nat×Operand)}:ja (.buildSlice t n ps)=false:=_root_.id rfl
theorem G6:ja (.indexAddr t x y)=false:=_root_.id rfl
theorem Du:ja (.index t x y)=false:=_root_.id rfl
theorem G3:ja (.load t x)=false:=_root_.id rfl
theorem Ds:ja (.store t x y)=false:=_root_.id rfl
theorem xm {i:Nat}:ja (.extract x i)=false:=_root_.id rfl
theorem MP:ja (.call {callee:=.builtin .len,args:=⟨[x]⟩,argTypes:=⟨[t]⟩})=false:=_root_.id rfl
theorem Ax:ja (.call {callee:=.builtin .append,args:=⟨[x,y]⟩,argTypes:=⟨[t,t']⟩})=false:=_root_.id rfl
theorem G5 {f:Operand} {args:List Operand} {ts:Array TypeId}:ja (.call {callee:=.value f,args:=⟨args⟩,argTypes:=ts})=false:=_root_.id rfl
theorem nq1 {a b:Nat}:(a=a+(b+1))=False:=eq_false (by omega)
theorem nq2 {a b:Nat}:(a+(b+1)=a)=False:=eq_false (by omega)
def OwnM {α:Type} (v:AV) (h:Nat→Blk) (n:Nat) (f:α→PV) (len:Nat) (l:List α):Prop:=
 match v with
 | .ref id 0 len'=>len'=len∧(∃m,h id=.live m (l.map f))∧id<n
 |_=>False
def hbM {α:Type} (b:Blk) (f:α→PV) (l:List α):Prop:=∃m,b=.live m (l.map f)
theorem OwnM.out {α:Type} {v:AV} {h:Nat→Blk} {n:Nat} {f:α→PV} {len:Nat} {l:List α} (ho:OwnM v h n f len l):∃id m,v=.ref id 0 len∧h id=.live m (l.map f)∧id<n:=by
 unfold OwnM at ho
 split at ho
 ·rename_i id len';obtain⟨rfl,⟨m,h1⟩,h2⟩:=ho;exact⟨id,m,rfl,h1,h2⟩
 ·exact ho.elim
theorem CJ {α:Type} {h:Nat→Blk} {n id len':Nat} {f:α→PV} {len:Nat} {l:List α}:OwnM (.ref id 0 len') h n f len l=(len'=len∧hbM (h id) f l∧id<n):=_root_.id rfl
theorem Na {α:Type} {f:α→PV} {mm:Bool} {c:List PV} {l:List α}:hbM (.live mm c) f l=(c=l.map f):=by simp[hbM]
def fiT (b:Blk) (off len:Nat) (ys:List PV):Prop:=
 match b with
 | .live _ c=>off+len≤c.length∧(c.drop off).take len=ys
 |_=>False
theorem Nk {id off len:Nat} {ys:List PV}:dy true h k [.ref id off len] [.sl .own ys] F0=fiT (h id) off len ys:=by
 simp only[dy,fin,dX,fiT]
 cases h id with
 |live m c=>simp[F0]
 |froz m c=>rfl
 |deep m cs rs=>rfl
 |_=>rfl
theorem D5 {mm:Bool} {c:List PV} {off len:Nat} {ys:List PV}:fiT (.live mm c) off len ys=(off+len≤c.length∧(c.drop off).take len=ys):=_root_.id rfl
theorem bj {α:Type} {g:α→PV} {l:List α} {f:FuncId} {c:List PV} {as:List Arg} {os:List (Option (List PV))} {rd:List Nat} {ms:List (Option (Nat×Option Nat))} {id:Nat}
  (hf:CallT P true f (.mu false c::as) (none::os) [.sl .own (l.map g)]) (hn:(ms.all Option.isNone)=true) (hid:id∉rd)
  (hc:C ⟨.ref k 0 l.length,[(id,.dead),(k,.live (qX (h id)) (l.map g))],id::rd⟩):Pk P h k f C (.mu false c::as) rd (some (id,none)::ms):=by
 refine lp hf hn hid ?_
 simp only[aJ]
 have:impAll k [.sl .own (l.map g)]=.ref k 0 l.length:=by simp[impAll,imp,imp1]
 rw[this,Bool.true_and]
 exact hc
theorem J1 {c:List PV} {as:List Arg} {ts:List Nat} {xs:List PV} {ex:Ex} {p:Bool} {os:List (Option (List PV))} (hx:ex=.ret∨ex=.normal)
  (ho:(os.all Option.isNone)=true) (hf:dy true S.h (as.length+1) (ts.map S.e) xs F0):sm true (.mu p c::as) os ts xs ex S:=J0 hx ho hf
def FC (S:St) (as:List Arg) (res:List PV) (r:R):Prop:=dy false S.h as.length [r.v] res F0
theorem J5 {as:List Arg} {t ty:Nat} {xs:List PV} {ex:Ex} (hx:ex=.ret∨ex=.normal) (hf:eQ P ty S.h (S.e t) (FC S as xs)):Jc P as [.cell t ty] xs ex S:=by
 have key:j8 P S [.cell t ty] fun vs=>tl false S as [] vs xs:=by
  simp only[j8]
  have e:FC S as xs=fun r=>tl false S as [] [r.v] xs:=by
   funext r
   unfold FC tl
   refine congrArg (dy false S.h as.length [r.v] xs) ?_
   funext L
   simp only[F0]
   apply propext
   constructor
   ·intro h;refine⟨h,fun j _=> ?_⟩
    split
    ·rename_i h;simp at h
    ·trivial
   ·intro h;exact h.1
  rw[←e];exact hf
 rcases hx with rfl|rfl<;>exact key
theorem UX {as:List Arg} {res:List PV} {r:R}:FC S as res r=dy false S.h as.length [r.v] res F0:=_root_.id rfl
end
attribute [go_sem ↓] PL PK PJ E0 E2 E9 P4 Xs Xt
attribute [go_sem] LH
attribute [go_sem] JR JO JP Kg Fh BO Ks Kr IR OH IH Dt MX ME ML Dv MT MJ MN MO MR MS MI MH TH G0 Aw GZ G4 G1 TN G6 Du G3 Ds xm MP Ax G5
attribute [go_sem] UX nq1 nq2 CJ Na Nk D5
end Go.Gl
namespace Go.Gl
open Go Go.RowKit Go.ChangeShapes Go.Joins Go.WideShapes Go.Deep
section
variable {H:Type} {enc:TypeId×Value→H} {P:Program} {w:World} {base:Nat} {held:Bool} {G:Nat→Prop}
def Jg (a b:List Int) (c:List (List Int)):PV:=.agg [.sl (.lent true) (a.map (.int .i64)),.sl (.lent true) (b.map (.int .i64)),.sl (.lent true) (c.map (bW true))]
theorem Ph {t s ss i:TypeId} {r:Reach} {b0:Nat} {f0 f1 f2:Field} {v:Value} {d:DataW H} {p:List MemPlace} (hs:P.underlying t=some (.struct #[f0,f1,f2])) (hone:oneCellFields P #[f0,f1,f2]=true) (hC:P.cellsOf t=3)
  (e0:f0.type=s) (e1:f1.type=s) (e2:f2.type=ss) (hts:P.underlying s=some (.slice i)) (hti:P.underlying i=some (.int .i64)) (hci:P.cellsOf i=1) (htss:P.underlying ss=some (.slice s)) (hcs:P.cellsOf s=1)
  (hv:Value.okWide P w r b0 t v) (h:DataW.Trod enc P w base (fun _=>true) held t v d p):∃(a b:List Int) (c:List (List Int)),RepP w (fun _=>False) G (Jg a b c) v:=by
 obtain⟨v0,v1,v2,y0,y1,y2,n,rfl,_,_,h0,h1,h2⟩:=open_agg3 hs hone hC hv h
 rw[e0]at h0
 rw[e1]at h1
 rw[e2]at h2
 obtain⟨a,_,ha⟩:=qP (G:=G) hts hti hci h0
 obtain⟨b,_,hb⟩:=qP (G:=G) hts hti hci h1
 obtain⟨v,c,hcv,hc⟩:=w9 (G:=G) htss hcs hts hti hci h2
 simp only[List.cons.injEq,and_true]at hcv
 subst hcv
 refine⟨a,b,c, ?_⟩
 show RepP w (fun _=>False) G (.agg [_,_,_]) _
 simp only[RepP,RepL]
 exact⟨[v0,v1,v2],rfl,v0,[v1,v2],rfl,ha,v1,[v2],rfl,hb,v2,[],rfl,hc,rfl⟩
theorem yo {l:List Int} {v:Value} (h:RepP w (fun _=>False) G (.sl (.lent true) (l.map (.int .i64))) v):l.length≤9223372036854775807:=by
 simp only[RepP,an]at h
 obtain⟨a,cap,_,h1,h2,_⟩:=h
 have hm:maxLen=9223372036854775807:=rfl
 omega
theorem Pf {a b:List Int} {c:List (List Int)} {v:Value} (h:RepP w (fun _=>False) G (Jg a b c) v):
  a.length≤9223372036854775807∧b.length≤9223372036854775807∧c.length≤9223372036854775807∧∀l∈c,l.length≤9223372036854775807:=by
 have h:RepP w (fun _=>False) G (.agg [.sl (.lent true) (a.map (.int .i64)),.sl (.lent true) (b.map (.int .i64)),.sl (.lent true) (c.map (bW true))]) v:=h
 rw[RepP]at h
 obtain⟨cs,_,h⟩:=h
 simp only[RepL]at h
 obtain⟨v0,_,_,h0,v1,_,_,h1,v2,_,_,h2,_⟩:=h
 exact⟨yo h0,yo h1,Cw h2⟩
end
end Go.Gl
namespace Go.Gl
open Go
variable [Amb]
section
variable {P:Program} {sg:FuncId→List Bool} {h:Nat→Blk} {k:Nat} {ρ:Operand→AV} {C:R→Prop} {t t':TypeId} {x y:Operand} {A:AV→Prop}
variable {α:Type} {f:α→PV} {m:Bool} {L L':List (List α)}
def dk (f:α→PV) (m:Bool) (L:List (List α)):Blk:=.deep m (canon L.length) (L.map fun l=>some (l.map f))
theorem fJ {n i:Nat}:(canon n)[i]? =if i<n then some (.row i)else none:=by
 simp only[canon,ax]
 by_cases hi:i<n
 ·rw[if_pos hi,List.getElem?_range hi];rfl
 ·rw[if_neg hi,aO (by simp;omega)];rfl
theorem c5 {n:Nat}:(canon n).length=n:=by simp[canon]
theorem xW {n j:Nat} (hj:j≤n):(canon n).take j=canon j:=by
 apply List.ext_getElem?;intro i
 rw[be,fJ,fJ]
 by_cases hi:i<j
 ·rw[if_pos hi,if_pos hi,if_pos (by omega)]
 ·rw[if_neg hi,if_neg hi]
theorem tg {n j:Nat}:canon n++(canon j).map (DC.up n)=canon (n+j):=by
 apply List.ext_getElem?;intro i
 by_cases hi:i<n
 ·rw[aE (by simpa[c5]using hi),fJ,fJ,if_pos hi,if_pos (by omega)]
 ·rw[aM (by simp[c5];omega),ax,fJ,fJ,c5]
  by_cases hj:i<n+j
  ·rw[if_pos (by omega),if_pos hj];simp only[Option.map_some,DC.up];congr 2;omega
  ·rw[if_neg (by omega),if_neg hj];rfl
theorem iw {n:Nat}:(canon n).all DC.noSelf=true:=by
 rw[List.all_eq_true];intro x hx;simp only[canon,List.mem_map]at hx;obtain⟨_,_,rfl⟩:=hx;rfl
theorem d5 {i:Nat} (hi:i<L.length):(L.map fun l=>some (l.map f))[i]? =some (some ((L.getD i []).map f)):=by
 rw[ax,ac,ae hi];rfl
theorem Vn {l:List α}:Blk.deep m [.row 0] [some (List.map f l)]=dk f m [l]:=_root_.id rfl
theorem aaF {l l2:List α}:Blk.deep m [.row 0,.row 1] [some (List.map f l),some (List.map f l2)]=dk f m [l,l2]:=_root_.id rfl
theorem Vl:t7 m [.dl (L.map (List.map f))]=dk f m L:=by
 simp only[t7,dk,an,List.map_map];rfl
theorem GT {rows:List (List PV)}:xl [.dl rows]=rows.length:=_root_.id rfl
theorem Tz {id off:Nat}:sc (dk f m L) id off C=(off<L.length∧C ⟨.inn id off 0 (L.getD off []).length,[],[id]⟩):=by
 simp only[sc,dk,gt,Int.toNat_natCast,fJ,Int.natCast_nonneg,true_and,KD]
 by_cases ho:off<L.length
 ·rw[if_pos ho]
  simp only[DC.av,d5 ho,an,ho,true_and]
 ·rw[if_neg ho];simp[ho]
theorem Tw {id r off:Nat}:Pi (dk f m L) id r off C=(r<L.length∧gt ((L.getD r []).map f) off (KX id C)):=by
 simp only[Pi,dk]
 by_cases hr:r<L.length
 ·rw[d5 hr];simp only[hr,true_and]
 ·rw[aO (by simp;omega)];simp[hr]
theorem OD {id r off len:Nat} {F:List PV→List Nat→Prop}:JG (dk f m L) id r off len F=(r<L.length∧off+len≤(L.getD r []).length∧F ((((L.getD r []).map f).drop off).take len) [id]):=by
 simp only[JG,dk]
 by_cases hr:r<L.length
 ·rw[d5 hr];simp only[hr,true_and,an]
 ·rw[aO (by simp;omega)];simp[hr]
theorem Jh {β:Type} {g:List α→PV} (hg:∀l,g l=.sl .ro (l.map f)):(canon L.length).map (DC.rd (L.map fun l=>some (l.map f)))=L.map g:=by
 apply List.ext_getElem?;intro i
 rw[ax,fJ]
 by_cases hi:i<L.length
 ·rw[if_pos hi]
  simp only[Option.map_some,DC.rd,d5 hi]
  rw[ax,ae hi,ac,ae hi]
  simp[hg]
 ·rw[if_neg hi,aO (by simp;omega)];rfl
theorem R0 {L:List (List Int)} {id off len:Nat} {F:PV→List Nat→Prop}:oX (dk (PV.int .i64) m L) id off len F=(off+len≤L.length∧F (.sl (.lent true) ((L.drop off).take len |>.map (bW true))) [id]):=by
 simp only[oX,dk,c5]
 rw[Jh (β:=Int) (g:=bW true) (fun _=>rfl),←List.map_drop,←List.map_take];rfl
theorem RZ {L:List (List (List UInt8))} {id off len:Nat} {F:PV→List Nat→Prop}:oX (dk PV.str m L) id off len F=(off+len≤L.length∧F (.sl (.lent true) ((L.drop off).take len |>.map (Ip true))) [id]):=by
 simp only[oX,dk,c5]
 rw[Jh (β:=Int) (g:=Ip true) (fun _=>rfl),←List.map_drop,←List.map_take];rfl
def Be (b:Blk) (id r off len:Nat) (F:PV→List Nat→Prop):Prop:=
 match b with
 | .deep _ _ rs=>(match rs[r]? with
  |some (some c)=>off+len≤c.length∧F (.sl .ro ((c.drop off).take len)) [id]
  |_=>False)
 |_=>False
theorem RY {id r off len:Nat} {vs:List AV} {F:List PV→List Nat→Prop}:pC h (.inn id r off len::vs) F=Be (h id) id r off len (UN h vs F):=by
 simp only[pC,va,i8,Be];cases h id<;>rfl
theorem K4 {id r off len:Nat} {vs:List AV} {K:List PV→List Nat→Prop}:dQ h (.inn id r off len::vs) K=Be (h id) id r off len (UP h vs K):=by
 simp only[dQ,i8,Be];cases h id<;>rfl
theorem TZ {id r off len:Nat} {F:PV→List Nat→Prop}:Be (dk f m L) id r off len F=(r<L.length∧off+len≤(L.getD r []).length∧F (.sl (.lent true) ((((L.getD r []).map f).drop off).take len)) [id]):=by
 simp only[Be,dk]
 by_cases hr:r<L.length
 ·rw[d5 hr];simp only[hr,true_and,an];rfl
 ·rw[aO (by simp;omega)];simp[hr]
theorem SY {id len:Nat} {F:List PV→Prop}:SZ (dk f m L) id len F=(len=L.length∧F [.dl (L.map (List.map f))]):=by
 simp only[SZ,dk]
 apply propext;constructor
 ·rintro⟨rows,h1,h2,h3,h4⟩
  have:rows=L.map (List.map f):=by
   have:=congrArg (List.map (fun o:Option (List PV)=>o.getD [])) h2
   simpa[Function.comp_def]using this.symm
  subst this
  exact⟨by simpa using h3,h4⟩
 ·rintro⟨h1,h2⟩
  exact⟨_,by simp,by simp,by simpa using h1,h2⟩
def WK (b:Blk) (r len:Nat) (F:List PV→Prop):Prop:=
 match b with
 | .deep _ _ rs=>(match rs[r]? with
  |some (some c)=>len=c.length∧F c
  |_=>False)
 |_=>False
def MUI (h:Nat→Blk) (sg:List Bool) (vs:List AV) (id r:Nat) (K:List Arg→List Nat→List (Option (Nat×Option Nat))→Prop) (c:List PV):Prop:=
 pass h sg vs fun as rd ms=>K (.mu false c::as) rd (some (id,some r)::ms)
def W7 (id r:Nat) (c:List PV) (K:List Arg→List Nat→List (Option (Nat×Option Nat))→Prop) (as:List Arg) (rd:List Nat) (ms:List (Option (Nat×Option Nat))):Prop:=K (.mu false c::as) rd (some (id,some r)::ms)
theorem L3 {sg:List Bool} {id r len:Nat} {vs:List AV} {K:List Arg→List Nat→List (Option (Nat×Option Nat))→Prop}:pass h (true::sg) (.inn id r 0 len::vs) K=WK (h id) r len (MUI h sg vs id r K):=by
 simp only[pass,WK,MUI];cases h id<;>rfl
theorem LZ {sg:List Bool} {id r:Nat} {c:List PV} {vs:List AV} {K:List Arg→List Nat→List (Option (Nat×Option Nat))→Prop}:MUI h sg vs id r K c=pass h sg vs (W7 id r c K):=_root_.id rfl
theorem GF {vs:List AV} {id r:Nat} {c:List PV} {K:List Arg→List Nat→List (Option (Nat×Option Nat))→Prop}:pass h [] vs (W7 id r c K)=pC h vs (PQ (W7 id r c K)):=ls
theorem L0 {id r:Nat} {c:List PV} {K:List Arg→List Nat→List (Option (Nat×Option Nat))→Prop} {as:List Arg} {rd:List Nat} {ms:List (Option (Nat×Option Nat))}:W7 id r c K as rd ms=K (.mu false c::as) rd (some (id,some r)::ms):=_root_.id rfl
theorem L1 {r len:Nat} {F:List PV→Prop}:WK (dk f m L) r len F=(r<L.length∧len=(L.getD r []).length∧F ((L.getD r []).map f)):=by
 simp only[WK,dk]
 by_cases hr:r<L.length
 ·rw[d5 hr];simp only[hr,true_and,an]
 ·rw[aO (by simp;omega)];simp[hr]
theorem Sg:fc none (some (some [.dl (L'.map (List.map f))])) (dk f m L)=if L'.length=L.length then dk f m L' else .dead:=by
 simp only[fc,dk,an,List.map_map,Function.comp_def]
theorem Lv {r:Nat} {l:List α} [NDl (l.map f)] (hr:r<L.length) (hl:l.length=(L.getD r []).length):fc (some r) (some (some (l.map f))) (dk f m L)=dk f m (L.set r l):=by
 have hn:=(inferInstance:NDl (l.map f))
 have e1:((L.map fun l=>some (l.map f)).getD r none).map List.length=some (l.map f).length:=by
  rw[ac,d5 hr];simp[hl]
 have e2:(L.map fun l=>some (l.map f)).set r (some (l.map f))=(L.set r l).map fun l=>some (l.map f):=List.map_set.symm
 rw[dk,nc hn.h,if_pos e1,e2,dk,List.length_set]
def BSD (n k:Nat) (C:R→Prop) (xs:List DC) (rs:List (Option (List PV))) (ws:List (Nat×Blk)) (rd:List Nat):Prop:=xs.all DC.noSelf=true∧C ⟨.ref k 0 n,ws++[(k,.deep false xs rs)],rd⟩
theorem P7 {n:Nat} {parts:Array (Nat×Operand)}:sb P ρ h k (.buildSlice t n parts) C=((fN P t).isSome=true∧fp n parts=true∧n≤1000000∧iM h false k (parts.toList.map fun p=>ρ p.2) [] (BSD n k C)):=_root_.id rfl
theorem PY {a b:Operand}:sb P ρ h k (.makeSlice t a b) C=qH P t k (ρ a) (ρ b) C:=_root_.id rfl
theorem Mo {kd kd':IntKind} {a b:Int}:qH P t k (.p (.int kd a)) (.p (.int kd' b)) C=(0≤a∧a≤b∧b≤1099511627776∧ni P t=true∧C ⟨.ref k 0 a.toNat,[(k,.deep false (List.replicate a.toNat (.v (.sl .own []))) [])],[]⟩):=_root_.id rfl
def CS (s:Option (Nat×PV)):Bool:=match s with|some (_,.sl .fr [])=>true|_=>false
theorem LA:ni P t=CS (fN P t):=_root_.id rfl
theorem Si {n:Nat}:CS (some (n,.sl (.lent false) []))=true:=_root_.id rfl
theorem Sk {n:Nat} {kd:IntKind} {z:Int}:CS (some (n,.int kd z))=false:=_root_.id rfl
theorem Sl {n:Nat} {z:Bool}:CS (some (n,.bool z))=false:=_root_.id rfl
theorem Sj {n:Nat} {z:List UInt8}:CS (some (n,.str z))=false:=_root_.id rfl
variable {zz:Bool}
theorem ZT {n:Nat} {parts:Array (Nat×Operand)} {s:Bool}:iY P true s zz (.buildSlice t n parts)=ni P t:=by simp[iY]
theorem ZQ {a b:Operand} {s:Bool}:iY P true s zz (.makeSlice t a b)=ni P t:=by simp[iY]
theorem ZU {n:Bool}:iY P n true zz (.alloc t)=EQ P t:=by simp[iY]
theorem ZS {n:Bool}:iY P n true zz (.box t x)=EQ P t:=by simp[iY]
variable {n s:Bool}
theorem SM {i:Nat} {parts:Array (Nat×Operand)}:iY P false s zz (.buildSlice t i parts)=false:=by simp[iY]
theorem SL {a b:Operand}:iY P false s zz (.makeSlice t a b)=false:=by simp[iY]
theorem SK:iY P n false zz (.alloc t)=false:=by simp[iY]
theorem SJ:iY P n false zz (.box t x)=false:=by simp[iY]
theorem ZO {b:BinOp}:iY P n s zz (.binOp b t x y t')=false:=_root_.id rfl
theorem ZN {b:UnOp}:iY P n s zz (.unOp b t x)=false:=_root_.id rfl
theorem ZM:iY P n s zz (.move x)=(zz&&wF x):=_root_.id rfl
theorem PI {i:Nat}:wF (.tmp i)=false:=_root_.id rfl
theorem Xq {i:Nat}:wF (.func i)=false:=_root_.id rfl
theorem z_i {kd:IntKind} {i:Int}:wF (.const (.int kd i))=false:=_root_.id rfl
theorem z_b {b:Bool}:wF (.const (.bool b))=false:=_root_.id rfl
theorem z_s {b:ByteArray}:wF (.const (.string b))=false:=_root_.id rfl
theorem z_n:wF (.const (.slice none 0 0))=true:=_root_.id rfl
theorem Xp:wF (.const .nilFunc)=false:=_root_.id rfl
theorem Xr {a:Array Value}:wF (.const (.agg a))=false:=_root_.id rfl
theorem PT:sb P ρ h k (.move x) C=pk k (ρ x) C:=_root_.id rfl
theorem Qb:sb P ρ h k (.assign x) C=pk k (ρ x) C:=_root_.id rfl
theorem O3:pk k (.p (.sl .own [])) C=C ⟨.ref k 0 0,[(k,.deep false [] [])],[]⟩:=by simp[pk]
theorem ZL:iY P n s zz (.assign x)=(zz&&wF x):=_root_.id rfl
theorem ZK {z:Operand}:iY P n s zz (.pick x y z)=false:=_root_.id rfl
theorem ZJ:iY P n s zz (.convert t t' x)=false:=_root_.id rfl
theorem ZI:iY P n s zz (.indexAddr t x y)=false:=_root_.id rfl
theorem ZH:iY P n s zz (.index t x y)=false:=_root_.id rfl
theorem ZG:iY P n s zz (.load t x)=false:=_root_.id rfl
theorem SE:iY P n s zz (.store t x y)=false:=_root_.id rfl
theorem SD {i:Nat}:iY P n s zz (.extract x i)=false:=_root_.id rfl
theorem SC {c:Call}:iY P n s zz (.call c)=false:=_root_.id rfl
theorem SB {lo hi mx:Option Operand}:iY P n s zz (.slice t x lo hi mx)=false:=_root_.id rfl
theorem SA {i:Nat}:iY P n s zz (.field t x i)=false:=_root_.id rfl
theorem Sz {i:Nat}:iY P n s zz (.fieldAddr t x i)=false:=_root_.id rfl
theorem Sy {parts:Array (Nat×Operand)}:iY P n false zz (.build t parts)=false:=by simp[iY]
theorem Sx:iY P n s zz (.nilCheck x)=false:=_root_.id rfl
theorem Sw {f:Fn} {a b:Array Operand}:iY P n s zz (.makeFunc f a b)=false:=_root_.id rfl
theorem Th {b:BinOp}:o8 P (.binOp b t x y t')=false:=_root_.id rfl
theorem Tg {b:UnOp}:o8 P (.unOp b t x)=false:=_root_.id rfl
theorem Tf:o8 P (.move x)=false:=_root_.id rfl
theorem Te:o8 P (.assign x)=false:=_root_.id rfl
theorem Td {z:Operand}:o8 P (.pick x y z)=false:=_root_.id rfl
theorem Tc:o8 P (.convert t t' x)=false:=_root_.id rfl
theorem Ta:o8 P (.indexAddr t x y)=false:=_root_.id rfl
theorem S9:o8 P (.index t x y)=false:=_root_.id rfl
theorem S8:o8 P (.load t x)=false:=_root_.id rfl
theorem Mj:o8 P (.store t x y)=false:=_root_.id rfl
theorem Mi {i:Nat}:o8 P (.extract x i)=false:=_root_.id rfl
theorem Mh {c:Call}:o8 P (.call c)=false:=_root_.id rfl
theorem Mg {lo hi mx:Option Operand}:o8 P (.slice t x lo hi mx)=false:=_root_.id rfl
theorem Mf {i:Nat}:o8 P (.field t x i)=false:=_root_.id rfl
theorem Me {i:Nat}:o8 P (.fieldAddr t x i)=false:=_root_.id rfl
theorem Md {parts:Array (Nat×Operand)}:o8 P (.build t parts)=false:=_root_.id rfl
theorem Mc:o8 P (.nilCheck x)=false:=_root_.id rfl
theorem Mb {f:Fn} {a b:Array Operand}:o8 P (.makeFunc f a b)=false:=_root_.id rfl
theorem Tk {n:Nat} {parts:Array (Nat×Operand)}:o8 P (.buildSlice t n parts)=tZ P t:=_root_.id rfl
theorem Ti {a b:Operand}:o8 P (.makeSlice t a b)=tZ P t:=_root_.id rfl
theorem Tl:o8 P (.alloc t)=false:=_root_.id rfl
theorem Tj:o8 P (.box t x)=false:=_root_.id rfl
def Pu (F:List DC→List (Option (List PV))→List (Nat×Blk)→List Nat→Prop) (x:DC) (ws:List (Nat×Blk)) (rd:List Nat) (xs:List DC) (rs:List (Option (List PV))) (ws':List (Nat×Blk)) (rd':List Nat):Prop:=F (x::xs) rs (ws++ws') (rd++rd')
def MVN (mt:Bool) (h:Nat→Blk) (id:Nat) (vs:List AV) (F:List DC→List (Option (List PV))→List (Nat×Blk)→List Nat→Prop) (x:DC) (rs:List (Option (List PV))) (ws:List (Nat×Blk)) (rd:List Nat):Prop:=iM (hwsH h ws) mt id vs rs (Pu F x ws rd)
def hu (h:Nat→Blk) (j:Nat) (b:Blk):Nat→Blk:=fun i=>if i=j then b else h i
theorem T0 {j i:Nat} {b:Blk}:hu h j b i=if i=j then b else h i:=_root_.id rfl
theorem Gz {mt:Bool} {id:Nat} {rs:List (Option (List PV))} {F:List DC→List (Option (List PV))→List (Nat×Blk)→List Nat→Prop}:iM h mt id [] rs F=F [] rs [] []:=_root_.id rfl
theorem CZ {mt:Bool} {id:Nat} {v:AV} {vs:List AV} {rs:List (Option (List PV))} {F:List DC→List (Option (List PV))→List (Nat×Blk)→List Nat→Prop}:iM h mt id (v::vs) rs F=mG h mt id v rs (MVN mt h id vs F):=_root_.id rfl
theorem LO {mt:Bool} {id:Nat} {vs:List AV} {F:List DC→List (Option (List PV))→List (Nat×Blk)→List Nat→Prop} {x:DC} {rs:List (Option (List PV))} {rd:List Nat}:MVN mt h id vs F x rs [] rd=iM h mt id vs rs (Pu F x [] rd):=_root_.id rfl
theorem SP {mt:Bool} {id:Nat} {vs:List AV} {F:List DC→List (Option (List PV))→List (Nat×Blk)→List Nat→Prop} {x:DC} {rs:List (Option (List PV))} {rd:List Nat} {j:Nat} {b:Blk}:MVN mt h id vs F x rs [(j,b)] rd=iM (hu h j b) mt id vs rs (Pu F x [(j,b)] rd):=_root_.id rfl
theorem SR {F:List DC→List (Option (List PV))→List (Nat×Blk)→List Nat→Prop} {x:DC} {xs:List DC} {rs:List (Option (List PV))} {i:Nat} {b:Blk} {ws':List (Nat×Blk)} {rd':List Nat}:Pu F x [(i,b)] [i] xs rs ws' rd'=F (x::xs) rs ((i,b)::ws') (i::rd'):=_root_.id rfl
theorem SU {F:List DC→List (Option (List PV))→List (Nat×Blk)→List Nat→Prop} {x:DC} {xs:List DC} {rs:List (Option (List PV))} {ws':List (Nat×Blk)} {rd':List Nat}:Pu F x [] [] xs rs ws' rd'=F (x::xs) rs ws' rd':=_root_.id rfl
theorem SQ {F:List DC→List (Option (List PV))→List (Nat×Blk)→List Nat→Prop} {x:DC} {xs:List DC} {rs:List (Option (List PV))} {i:Nat} {ws':List (Nat×Blk)} {rd':List Nat}:Pu F x [] [i] xs rs ws' rd'=F (x::xs) rs ws' (i::rd'):=_root_.id rfl
def ZV (o:Option (Option (List PV))) (j r len:Nat) (cs':List DC) (rs' rs:List (Option (List PV))) (K:DC→List (Option (List PV))→List (Nat×Blk)→List Nat→Prop):Prop:=
 match o with
 |some (some c)=>len=c.length∧K (.row rs.length) (rs++[some c]) [(j,.deep false cs' (rs'.set r none))] [j]
 |_=>False
def ZW (b:Blk) (j r len:Nat) (rs:List (Option (List PV))) (K:DC→List (Option (List PV))→List (Nat×Blk)→List Nat→Prop):Prop:=
 match b with
 | .deep false cs' rs'=>ZV rs'[r]? j r len cs' rs' rs K
 |_=>False
theorem LT {mt:Bool} {id j r len:Nat} {rs:List (Option (List PV))} {K:DC→List (Option (List PV))→List (Nat×Blk)→List Nat→Prop} (hn:(j=id)=False):mG h mt id (.inn j r 0 len) rs K=ZW (h j) j r len rs K:=by
 simp only[mG,ZW,hn,if_false,true_and]
 cases hb:h j with
 |deep m cs' rs'=>cases m<;>rfl
 |_=>rfl
theorem C0 {j r len:Nat} {cs':List DC} {rs' rs:List (Option (List PV))} {K:DC→List (Option (List PV))→List (Nat×Blk)→List Nat→Prop}:ZW (.deep false cs' rs') j r len rs K=ZV rs'[r]? j r len cs' rs' rs K:=_root_.id rfl
theorem LU {c:List PV} {j r len:Nat} {cs':List DC} {rs' rs:List (Option (List PV))} {K:DC→List (Option (List PV))→List (Nat×Blk)→List Nat→Prop}:ZV (some (some c)) j r len cs' rs' rs K=(len=c.length∧K (.row rs.length) (rs++[some c]) [(j,.deep false cs' (rs'.set r none))] [j]):=_root_.id rfl
def LV (mt:Bool) (b:Blk) (id j off len:Nat) (rs:List (Option (List PV))) (K:DC→List (Option (List PV))→List (Nat×Blk)→List Nat→Prop):Prop:=
 match b with
 | .live m c=>(m=true→mt=true)∧j≠id∧off=0∧len=c.length∧K (.row rs.length) (rs++[some c]) [(j,.dead)] [j]
 | .froz m c=>j≠id∧off+len≤c.length∧K (.v (.sl (.lent m) ((c.drop off).take len))) rs [] [j]
 |_=>False
theorem LQ {mt:Bool} {id j off len:Nat} {rs:List (Option (List PV))} {K:DC→List (Option (List PV))→List (Nat×Blk)→List Nat→Prop}:mG h mt id (.ref j off len) rs K=LV mt (h j) id j off len rs K:=by
 simp only[mG,LV]
 cases h j with
 |live m c=>simp only[and_left_comm]
 |froz m c=>rfl
 |deep m cs rs=>simp
 |_=>simp
theorem C1 {mt:Bool} {c:List PV} {id j off len:Nat} {rs:List (Option (List PV))} {K:DC→List (Option (List PV))→List (Nat×Blk)→List Nat→Prop}:LV mt (.live false c) id j off len rs K=(j≠id∧off=0∧len=c.length∧K (.row rs.length) (rs++[some c]) [(j,.dead)] [j]):=by simp[LV]
theorem Af {c:List PV} {id j off len:Nat} {rs:List (Option (List PV))} {K:DC→List (Option (List PV))→List (Nat×Blk)→List Nat→Prop}:LV true (.live true c) id j off len rs K=(j≠id∧off=0∧len=c.length∧K (.row rs.length) (rs++[some c]) [(j,.dead)] [j]):=by simp[LV]
theorem C2 {mt:Bool} {c:List PV} {id j off len:Nat} {rs:List (Option (List PV))} {K:DC→List (Option (List PV))→List (Nat×Blk)→List Nat→Prop}:LV mt (.froz m c) id j off len rs K=(j≠id∧off+len≤c.length∧K (.v (.sl (.lent m) ((c.drop off).take len))) rs [] [j]):=_root_.id rfl
theorem LS {mt:Bool} {id:Nat} {kd:IntKind} {n:Int} {rs:List (Option (List PV))} {K:DC→List (Option (List PV))→List (Nat×Blk)→List Nat→Prop}:mG h mt id (.p (.int kd n)) rs K=K (.v (.int kd n)) rs [] []:=by simp[mG,PV.cellOk]
theorem GC {mt:Bool} {id:Nat} {n:Bool} {rs:List (Option (List PV))} {K:DC→List (Option (List PV))→List (Nat×Blk)→List Nat→Prop}:mG h mt id (.p (.bool n)) rs K=K (.v (.bool n)) rs [] []:=by simp[mG,PV.cellOk]
theorem LP {mt:Bool} {id:Nat} {n:List UInt8} {rs:List (Option (List PV))} {K:DC→List (Option (List PV))→List (Nat×Blk)→List Nat→Prop}:mG h mt id (.p (.str n)) rs K=K (.v (.str n)) rs [] []:=by simp[mG,PV.cellOk]
theorem GA {mt:Bool} {id:Nat} {n:List PV} {rs:List (Option (List PV))} {K:DC→List (Option (List PV))→List (Nat×Blk)→List Nat→Prop}:mG h mt id (.p (.sl (.lent m) n)) rs K=K (.v (.sl (.lent m) n)) rs [] []:=by cases m<;>simp[mG,PV.cellOk,Fl.lent]
theorem LR {mt:Bool} {id:Nat} {rs:List (Option (List PV))} {K:DC→List (Option (List PV))→List (Nat×Blk)→List Nat→Prop}:mG h mt id (.p (.sl .own [])) rs K=K (.v (.sl .own [])) rs [] []:=by simp[mG,PV.cellOk]
theorem OO {n:Nat} {xs:List DC} {rs:List (Option (List PV))} {ws:List (Nat×Blk)} {rd:List Nat}:BSD n k C xs rs ws rd=(xs.all DC.noSelf=true∧C ⟨.ref k 0 n,ws++[(k,.deep false xs rs)],rd⟩):=_root_.id rfl
theorem LB {r:Nat}:DC.noSelf (.row r)=true:=_root_.id rfl
theorem ZD {v:PV}:DC.noSelf (.v v)=true:=_root_.id rfl
def zy (b b':Blk) (id len j n k:Nat) (C:R→Prop):Prop:=
 match b,b' with
 | .deep m cs rs,.deep false cs' rs'=>n=cs'.length∧cs'.all DC.noSelf=true∧id≠j∧len=cs.length∧cs.all DC.noSelf=true∧len+n≤1099511627776∧
   C ⟨.ref k 0 (len+n),[(j,.dead),(id,.dead),(k,.deep m (cs++cs'.map (DC.up rs.length)) (rs++rs'))],[id,j]⟩
 |_,_=>False
def W2 (b':Blk) (j n k:Nat) (C:R→Prop):Prop:=
 match b' with
 | .deep false cs' rs'=>n=cs'.length∧cs'.all DC.noSelf=true∧n≤1099511627776∧C ⟨.ref k 0 n,[(j,.dead),(k,.deep false cs' rs')],[j]⟩
 |_=>False
theorem V8 {s:AV} {j off n:Nat}:Pq (dk f m L) h k s j off n C=eN h k s (.ref j off n) C:=_root_.id rfl
theorem I0 {cs:List DC} {rs:List (Option (List PV))} {s:AV} {j off n:Nat}:Pq (.deep m cs rs) h k s j off n C=eN h k s (.ref j off n) C:=_root_.id rfl
theorem O7 {id len j n:Nat}:eN h k (.ref id 0 len) (.ref j 0 n) C=zy (h id) (h j) id len j n k C:=by
 simp only[eN,zy]
 cases h j with
 |deep m' cs' rs'=>
  cases m' with
  |true=>cases h id<;>rfl
  |false=>cases h id<;>simp
 |_=>cases h id<;>rfl
theorem O8 {j n:Nat}:eN h k (.p (.sl .own [])) (.ref j 0 n) C=W2 (h j) j n k C:=by
 simp only[eN,W2]
 cases h j with
 |deep m' cs' rs'=>cases m'<;>rfl
 |_=>rfl
theorem Wl {id len j n:Nat}:zy (dk f m L) (dk f false L') id len j n k C=(n=L'.length∧id≠j∧len=L.length∧len+n≤1099511627776∧
  C ⟨.ref k 0 (len+n),[(j,.dead),(id,.dead),(k,dk f m (L++L'))],[id,j]⟩):=by
 simp only[zy,dk,c5,iw,an,true_and]
 rw[tg,←aT,ak]
theorem abb {id len j n:Nat}:zy (.deep m [] []) (dk f false L') id len j n k C=(n=L'.length∧id≠j∧len=0∧n≤1099511627776∧
  C ⟨.ref k 0 n,[(j,.dead),(id,.dead),(k,dk f m L')],[id,j]⟩):=by
 simp only[zy,dk,c5,iw,List.length_nil,List.all_nil,true_and,aR]
 have e:(canon L'.length).map (DC.up 0)=canon L'.length:=by
  have:=tg (n:=0) (j:=L'.length);simpa[canon]using this
 rw[e]
 apply propext;constructor
 ·rintro⟨h1,h2,h3,h4,h5⟩;subst h3;simp only[Nat.zero_add]at h4 h5;exact⟨h1,h2,rfl,h4,h5⟩
 ·rintro⟨h1,h2,h3,h4,h5⟩;subst h3;simp only[Nat.zero_add];exact⟨h1,h2,trivial,h4,h5⟩
theorem Wx {j n:Nat}:W2 (dk f false L') j n k C=(n=L'.length∧n≤1099511627776∧C ⟨.ref k 0 n,[(j,.dead),(k,dk f false L')],[j]⟩):=by
 simp only[W2,dk,c5,iw,true_and]
def wl (f:α→PV) (m:Bool) (L:List (List α)) (z:Nat):Blk:=.deep m (canon L.length++List.replicate z (.v (.sl .own []))) (L.map fun l=>some (l.map f))
theorem abP:wl f m L 0=dk f m L:=by simp[wl,dk]
theorem Iw {n:Nat}:Blk.deep m (List.replicate n (.v (.sl .own []))) []=wl f m [] n:=by simp[wl,canon]
theorem x5 {z id off id' len:Nat} {l:List α} (ho:off=L.length) (hz:0<z) (hl:len=l.length) (hi:id'≠id) (hc:C ⟨.p .any,[(id',.dead),(id,wl f false (L++[l]) (z - 1))],[id,id']⟩):
  kC (wl f false L z) (.live false (l.map f)) id off id' 0 len C:=by
 obtain⟨z,rfl⟩:∃y,z=y+1:=⟨z - 1,by omega⟩
 subst ho
 simp only[kC,wl,an,true_and,ak,c5,List.length_replicate]
 refine⟨fun h=>h,hl,by omega,hi, ?_⟩
 have e1:(canon L.length++List.replicate (z+1) (DC.v (.sl .own []))).set L.length (.row L.length)=canon (L.length+1)++List.replicate z (DC.v (.sl .own [])):=by
  rw[List.set_append_right _ _ (by simp[c5]),c5,Nat.sub_self,List.replicate_succ,List.set_cons_zero]
  have:canon (L.length+1)=canon L.length++[.row L.length]:=by simp[canon,List.range_succ]
  rw[this,aB];rfl
 rw[e1]
 simpa[wl]using hc
def dkU (f:α→PV) (m:Bool) (L:List (List α)) (r:Nat) (l:List α):Blk:=fc (some r) (some (some (l.map f))) (dk f m L)
theorem Lu {r:Nat} {l:List α}:fc (some r) (some (some (l.map f))) (dk f m L)=dkU f m L r l:=_root_.id rfl
theorem aaG {r:Nat} {l:List α} [NDl (l.map f)] (hr:r<L.length) (hl:l.length=(L.getD r []).length):dkU f m L r l=dk f m (L.set r l):=Lv hr hl
theorem bm {k:Nat} {f:FuncId} {c c':List PV} {as:List Arg} {os:List (Option (List PV))} {res:List PV} {rd:List Nat} {ms:List (Option (Nat×Option Nat))} {id r:Nat} {v:AV} {ws:List (Nat×Blk)}
  (hf:CallT P false f (.mu false c::as) (some c'::os) res) [a:ImpA k res v ws] (hn:(ms.all Option.isNone)=true) (hid:id∉rd)
  (hc:C ⟨v,(id,fc (some r) (some (some c')) (h id))::ws,id::rd⟩):Pk P h k f C (.mu false c::as) rd (some (id,some r)::ms):=by
 refine lp hf hn hid ?_
 rw[Bool.false_and,a.h.1,a.h.2,aJ]
 exact hc
def wG (b:Blk) (tk:Bool) (k id off len:Nat) (rows:List (List PV)) (F:List (Nat×Nat×Pl)→Prop):Prop:=
 match b with
 | .deep m cs rs=>off+len≤cs.length∧(m=true→tk=true)∧∃sel,m7 rs ((cs.drop off).take len)=some (sel,rows)∧(sel.filterMap _root_.id).Nodup∧F [(k,id,.d off sel)]
 |_=>False
variable {F:List (Nat×Nat×Pl)→Prop}
theorem U8 {tk:Bool} {id off len:Nat} {rows:List (List PV)}:fin tk h k (.ref id off len) (.dl rows) F=wG (h id) tk k id off len rows F:=by
 simp only[fin,dX,wG];cases h id<;>rfl
theorem Vc {tk:Bool} {id off len:Nat} {rows:List (List PV)}:dX tk h k (.ref id off len) (.dl rows) F=wG (h id) tk k id off len rows F:=by
 simp only[dX,wG];cases h id<;>rfl
theorem U7 {tk:Bool} {ys:List PV} {rows:List (List PV)}:fin tk h k (.p (.sl .own ys)) (.dl rows) F=(rows=[]∧F []):=_root_.id rfl
theorem N8 {tk:Bool} {ys:List PV} {rows:List (List PV)}:dX tk h k (.p (.sl .own ys)) (.dl rows) F=(rows=[]∧F []):=_root_.id rfl
theorem lq {rs:List (Option (List PV))}:∀{l:List Nat} {cs:List (List PV)},(∀i,i<l.length→∃r,l[i]? =some r∧rs[r]? =some (cs[i]?))→cs.length=l.length→m7 rs (l.map .row)=some (l.map some,cs)
 |[],cs,_,hl=>by
  have:cs=[]:=ai (by simpa using hl)
  subst this;rfl
 |r::l,cs,hh,hl=>by
  cases cs with
  |nil=>simp at hl
  |cons c cs=>
   obtain⟨r',e1,e2⟩:=hh 0 (by simp)
   simp only[aJ,Option.some.injEq]at e1 e2
   subst e1
   have ih:=lq (l:=l) (cs:=cs) (fun i hi=>by
    obtain⟨r',e1,e2⟩:=hh (i+1) (by simp;omega)
    exact⟨r',by simpa using e1,by simpa using e2⟩) (by simpa using hl)
   simp only[List.map_cons,m7,e2,ih]
theorem UM {tk:Bool} {id len:Nat} {rows:List (List PV)}:wG (dk f m L) tk k id 0 len rows F=(len≤L.length∧(m=true→tk=true)∧(L.take len).map (List.map f)=rows∧F [(k,id,.d 0 ((List.range len).map some))]):=by
 simp only[wG,dk,c5,Nat.zero_add,List.drop_zero]
 by_cases hl:len≤L.length
 ·simp only[hl,true_and]
  have e:m7 (L.map fun l=>some (l.map f)) ((canon L.length).take len)=some ((List.range len).map some,(L.take len).map (List.map f)):=by
   rw[xW hl]
   refine lq (fun i hi=> ?_) (by simp;omega)
   simp only[List.length_range]at hi
   refine⟨i,List.getElem?_range hi, ?_⟩
   rw[d5 (by omega),ax,be,if_pos hi,ac,ae (show i<L.length by omega)]
   rfl
  rw[e]
  have hd:(((List.range len).map some).filterMap (_root_.id:Option Nat→Option Nat)).Nodup:=by
   rw[List.filterMap_map];simpa[Function.comp_def]using List.nodup_range
  apply propext;constructor
  ·rintro⟨h1,sel,h2,h3,h4⟩
   simp only[Option.some.injEq,Prod.mk.injEq]at h2
   obtain⟨rfl,rfl⟩:=h2
   exact⟨h1,rfl,h4⟩
  ·rintro⟨h1,rfl,h4⟩
   exact⟨h1,_,rfl,hd,h4⟩
 ·simp only[hl,false_and]
theorem aar {tk:Bool} {id len:Nat} {rows:List (List PV)}:wG (.deep m [] []) tk k id 0 len rows F=(len=0∧(m=true→tk=true)∧rows=[]∧F [(k,id,.d 0 [])]):=by
 simp only[wG,List.length_nil,Nat.zero_add,List.drop_nil,List.take_nil,m7]
 apply propext;constructor
 ·rintro⟨h0,h1,sel,h2,h3,h4⟩
  simp only[Option.some.injEq,Prod.mk.injEq]at h2
  obtain⟨rfl,rfl⟩:=h2
  exact⟨by omega,h1,rfl,h4⟩
 ·rintro⟨h0,h1,rfl,h4⟩
  exact⟨by omega,h1,[],rfl,by simp,h4⟩
instance dkO {k:Nat} {L:List (List α)}:ImpO k (.dl (L.map (List.map f))) (.ref k 0 L.length) [(k,dk f false L)]:=⟨by simp[imp,imp1],by simp[impW,impW1,dk,Function.comp_def]⟩
instance dk1 {k:Nat} {L:List (List α)}:Imp1 k (.dl (L.map (List.map f))) (.ref k 0 L.length) [(k,dk f false L)]:=⟨by simp[imp1],by simp[impW1,dk,Function.comp_def]⟩
theorem Jj {rows:List (List PV)}:noRo (.dl rows)=noRoLL rows:=_root_.id rfl
theorem Sn {L:List (List α)} (hf:∀a,noRo (f a)=true):noRoLL (L.map (List.map f))=true:=by
 induction L with
 |nil=>rfl
 |cons l L ih=>simp only[List.map_cons,noRoLL,cZ hf,ih,Bool.and_self]
theorem CW {L:List (List Int)} {kd:IntKind}:noRoLL (L.map (List.map (PV.int kd)))=true:=Sn fun _=>rfl
theorem Jk {L:List (List (List UInt8))}:noRoLL (L.map (List.map PV.str))=true:=Sn fun _=>rfl
theorem Sm {L:List (List Int)} {kd:IntKind} {xs:List PV}:noRoL (.dl (L.map (List.map (PV.int kd)))::xs)=noRoL xs:=by
 simp only[noRoL,noRo,CW,Bool.true_and]
def DwnL (v:AV) (h:Nat→Blk) (n:Nat) (f:α→PV) (len:Nat) (L:List (List α)):Prop:=
 match v with
 | .ref id 0 len'=>len'=len∧h id=dk f false L∧id<n
 |_=>False
def WQ (b:Blk) (f:α→PV) (L:List (List α)):Prop:=b=dk f false L
theorem DwnL.out {v:AV} {h:Nat→Blk} {n:Nat} {len:Nat} (ho:DwnL v h n f len L):∃id,v=.ref id 0 len∧h id=dk f false L∧id<n:=by
 unfold DwnL at ho
 split at ho
 ·rename_i id len';obtain⟨rfl,h1,h2⟩:=ho;exact⟨id,rfl,h1,h2⟩
 ·exact ho.elim
theorem Is {h:Nat→Blk} {n id len':Nat} {len:Nat}:DwnL (.ref id 0 len') h n f len L=(len'=len∧WQ (h id) f L∧id<n):=_root_.id rfl
theorem Nd:WQ (dk f false L') f L=(dk f false L'=dk f false L):=_root_.id rfl
def DznL (v:AV) (h:Nat→Blk) (n:Nat) (f:α→PV) (len:Nat) (L:List (List α)) (z:Nat):Prop:=
 match v with
 | .ref id 0 len'=>len'=len∧h id=wl f false L z∧id<n
 |_=>False
def WO (b:Blk) (f:α→PV) (L:List (List α)) (z:Nat):Prop:=b=wl f false L z
theorem DznL.out {v:AV} {h:Nat→Blk} {n:Nat} {len z:Nat} (ho:DznL v h n f len L z):∃id,v=.ref id 0 len∧h id=wl f false L z∧id<n:=by
 unfold DznL at ho
 split at ho
 ·rename_i id len';obtain⟨rfl,h1,h2⟩:=ho;exact⟨id,rfl,h1,h2⟩
 ·exact ho.elim
theorem Ir {h:Nat→Blk} {n id len' z:Nat} {len:Nat}:DznL (.ref id 0 len') h n f len L z=(len'=len∧WO (h id) f L z∧id<n):=_root_.id rfl
theorem M8 {z z':Nat}:WO (wl f false L' z') f L z=(wl f false L' z'=wl f false L z):=_root_.id rfl
theorem T2 {z z':Nat}:WO (.deep false (List.replicate z' (.v (.sl .own []))) []) f ([]:List (List α)) z=(z'=z):=by
 rw[Iw (f:=f)]
 apply propext;constructor
 ·intro h
  simp only[WO,wl,Blk.deep.injEq,true_and,and_true]at h
  have:=congrArg List.length h
  simpa[canon]using this
 ·rintro rfl;rfl
theorem xR {z z':Nat} (h:L=L') (hz:z=z'):wl f m L z=wl f m L' z':=by rw[h,hz]
theorem DJ {xs:List DC} {rs:List (Option (List PV))}:WQ (.deep false xs rs) f L=(Blk.deep false xs rs=dk f false L):=_root_.id rfl
theorem T4:WQ (.deep false [] []) f ([]:List (List α)):=_root_.id rfl
theorem Vm (h:L=L'):dk f m L=dk f m L':=by rw[h]
end
theorem UH {α:Type} {f:α→PV} {m:Bool} {L:List (List α)}:qX (dk f m L)=m:=_root_.id rfl
attribute [go_sem] UH Vn aaF Vl GT Tz Tw OD R0 RZ RY K4 TZ SY L3 LZ GF L0 L1 Sg
attribute [go_sem ↓] PN PM PO PP P7 PY PT Qb
attribute [go_sem] Th Tg Tf Te Td Tc Ta S9 S8 Mj Mi Mh Mg Mf Me Md Mc Mb Tk Ti Tl Tj
attribute [go_sem] Mo LA Si Sk Sl Sj ZT ZQ ZU ZS SM SL SK SJ ZO ZN ZM ZL ZK ZJ ZI ZH ZG SE SD SC SB SA Sz Sy Sx Sw PI Xq z_i z_b z_s z_n Xp Xr O3
attribute [go_sem] Gz CZ LO SP T0 SR SU SQ LT C0 LU LQ C1 Af C2 LS GC LP GA LR OO LB ZD
attribute [go_sem] V8 I0 O7 O8 Wl abb Wx Lu Ir M8 T2 U8 Vc U7 N8 UM aar Jj CW Jk Sm Is Nd T4 DJ
attribute [go_sem high] Vn
attribute [go_sem] List.length_range
end Go.Gl
namespace Go.Gl
open Go
variable [Amb]
def z8:PV→Option Value
 | .int k n=>some (.int k n)
 | .bool b=>some (.bool b)
 | .str s=>some (.string ⟨s.toArray⟩)
 |_=>none
theorem Fun.of_plain [NoQ] {P:Program} {f:FuncId} {args:List PV} {x:PV} {v:Value} {fn:Func} (hf:P.funcs[f]? =some fn) (hb:fn.body.isSome=true) (hn:(fn.name== "runtime.NumGoroutine")=false) (hx:z8 x=some v)
  (h:∀(w:World) (F G:Nat→Prop) (vs:List Value),(∀B o,Amb.tb B=some o→w.heap[B]? =some o)→RepL w F G args vs→Calls P f ⟨vs⟩ w fun e w'=>e=.returned v∧Go.RowKit.Below w.heap.size w w'):Fun P f args [x]:=by
 have dead:∀j,cP (args.map .pv) j=.dead:=by
  intro j
  unfold cP
  rw[ax]
  cases args[j]? <;>rfl
 have hno:∀(ι:Nat→Loc) B,¬Held (cP (args.map .pv)) ι B:=by
  rintro ι B ⟨id,ho⟩
  rw[dead]at ho;exact ho
 have hrep:∀(w:World) (F G:Nat→Prop) (ι:Nat→Loc) (l:List PV) (vs:List Value) (k:Nat),RepAL w F G ι (cr k (l.map .pv)) vs→RepL w F G l vs:=by
  intro w F G ι l
  induction l with
  |nil=>intro vs k h;simpa[cr,RepAL,RepL]using h
  |cons x l ih=>
   intro vs k h
   simp only[List.map_cons,cr,Arg.av,RepAL,RepA]at h
   obtain⟨v,vs',rfl,h1,h2⟩:=h
   simp only[RepL]
   exact⟨v,vs',rfl,h1,ih _ _ h2⟩
 have hr:noRoL [x]=true∧hZ [x]=true∧impAll (args.map Arg.pv).length [x]=.p x∧impWs false (args.map Arg.pv).length [x]=[]∧∀w F G,RepP w F G x v:=by
  cases x with
  |int k n=>simp only[z8,Option.some.injEq]at hx;subst hx;exact⟨rfl,rfl,rfl,rfl,fun _ _ _=>by simp only[RepP]⟩
  |bool b=>simp only[z8,Option.some.injEq]at hx;subst hx;exact⟨rfl,rfl,rfl,rfl,fun _ _ _=>by simp only[RepP]⟩
  |str s=>simp only[z8,Option.some.injEq]at hx;subst hx;exact⟨rfl,rfl,rfl,rfl,fun _ _ _=>by simp only[RepP]⟩
  |_=>simp[z8]at hx
 obtain⟨h1,h2,h3,h4,h5⟩:=hr
 refine⟨⟨fn,hf,hb,hn⟩,h1,h2,rfl, ?_⟩
 intro w G ι vs hamb hG ok hrp
 have hpost:∀j,bU false (args.map .pv) [] [x] j=.dead:=by
  intro j
  unfold bU
  rw[h4]
  show fi (args.map .pv) [] j=.dead
  unfold fi
  rw[ax]
  cases args[j]? <;>rfl
 have hno2:∀(ι:Nat→Loc) B,¬Held (bU false (args.map .pv) [] [x]) ι B:=by
  rintro ι B ⟨id,ho⟩
  rw[hpost]at ho;exact ho
 refine(h w _ G vs hamb.ok (hrep w _ G ι args vs 0 hrp)).mono ?_
 rintro e w' ⟨rfl,hw⟩
 refine⟨v,ι,rfl,fun _ _=>LocEq.refl _,⟨hw.os,hw.tape,hw.output,hw.size,fun k hk _=>hw.block k hk,fun q=>by rw[NoQ.no]at q;cases q⟩,⟨fun id=>by rw[hpost];trivial,fun id _ B ho=>by rw[hpost]at ho;exact ho.elim⟩, ?_⟩
 rw[h3]
 exact h5 _ _ _
def Cy (x:PV):Value:=(z8 x).getD undef
theorem yp {w:World} {F G:Nat→Prop} {x:PV} (h:(z8 x).isSome=true):RepP w F G x (Cy x)∧(Cy x).oneCell'=true:=by
 cases x with
 |int k n=>exact⟨by simp only[Cy,z8,Option.getD_some,RepP],rfl⟩
 |bool b=>exact⟨by simp only[Cy,z8,Option.getD_some,RepP],rfl⟩
 |str s=>exact⟨by simp only[Cy,z8,Option.getD_some,RepP],rfl⟩
 |_=>simp[z8]at h
theorem Fun.of_row [NoQ] {P:Program} {f:FuncId} {args xs:List PV} {fn:Func} (e:TypeId) (hf:P.funcs[f]? =some fn) (hb:fn.body.isSome=true) (hn:(fn.name== "runtime.NumGoroutine")=false) (hnr:noRoL xs=true) (hx:∀x∈xs,(z8 x).isSome=true)
  (h:∀(w:World) (F G:Nat→Prop) (vs:List Value),(∀B o,Amb.tb B=some o→w.heap[B]? =some o)→RepL w F G args vs→Calls P f ⟨vs⟩ w fun ex w'=>∃v,ex=.returned v∧w'.ownsRow w.heap.size e 1 v xs.length (xs.map Cy)∧Go.RowKit.Below w.heap.size w w'):Fun P f args [.sl .own xs]:=by
 have hrep:∀(w:World) (F G:Nat→Prop) (ι:Nat→Loc) (l:List PV) (vs:List Value) (k:Nat),RepAL w F G ι (cr k (l.map .pv)) vs→RepL w F G l vs:=by
  intro w F G ι l
  induction l with
  |nil=>intro vs k h;simpa[cr,RepAL,RepL]using h
  |cons x l ih=>
   intro vs k h
   simp only[List.map_cons,cr,Arg.av,RepAL,RepA]at h
   obtain⟨v,vs',rfl,h1,h2⟩:=h
   simp only[RepL]
   exact⟨v,vs',rfl,h1,ih _ _ h2⟩
 refine⟨⟨fn,hf,hb,hn⟩,by simp only[noRoL,noRo,hnr,Bool.and_true],rfl,rfl, ?_⟩
 intro w G ι vs hamb hG ok hrp
 have hpost:∀j,bU false (args.map .pv) [] [.sl .own xs] j=if j=(args.map Arg.pv).length then .live false xs else .dead:=by
  intro j
  show(if j=(args.map Arg.pv).length then Blk.live false xs else fi (args.map .pv) [] j)=_
  have:fi (args.map .pv) [] j=.dead:=by
   unfold fi
   rw[ax]
   cases args[j]? <;>rfl
  rw[this]
 refine(h w _ G vs hamb.ok (hrep w _ G ι args vs 0 hrp)).mono ?_
 rintro ex w' ⟨v,rfl,⟨hlen,ho⟩,hw⟩
 have hio:impAll (args.map Arg.pv).length [.sl .own xs]=.ref (args.map Arg.pv).length 0 xs.length:=by simp[impAll,imp,imp1]
 have keep:Keep w w' (fm (args.map .pv) ι):=⟨hw.os,hw.tape,hw.output,hw.size,fun k hk _=>hw.block k hk,fun q=>by rw[NoQ.no]at q;cases q⟩
 have own1:∀(l:Loc) id B,owns (bU false (args.map .pv) [] [.sl .own xs] id) (if id=(args.map Arg.pv).length then l else ι id) B→id=(args.map Arg.pv).length:=by
  intro l id B ho
  rw[hpost]at ho
  split at ho
  ·assumption
  ·exact ho.elim
 have fin:∀(l:Loc),(okB w' (Held (bU false (args.map .pv) [] [.sl .own xs]) fun j=>if j=(args.map Arg.pv).length then l else ι j) G (Org w.heap.size (fm (args.map .pv) ι) G) (.live false xs) l)→
   RepA w' (Held (bU false (args.map .pv) [] [.sl .own xs]) fun j=>if j=(args.map Arg.pv).length then l else ι j) G (fun j=>if j=(args.map Arg.pv).length then l else ι j) (.ref (args.map Arg.pv).length 0 xs.length) v→
   ∃v1 ι',Ending.returned v=.returned v1∧(∀j,j<(args.map Arg.pv).length→LocEq (ι j) (ι' j))∧Keep w w' (fm (args.map .pv) ι)∧
    HeapOk w' w.heap.size (fm (args.map .pv) ι) G (bU false (args.map .pv) [] [.sl .own xs]) ι'∧RepA w' (Held (bU false (args.map .pv) [] [.sl .own xs]) ι') G ι' (impAll (args.map Arg.pv).length [.sl .own xs]) v1:=by
  intro l h1 h2
  refine⟨v,fun j=>if j=(args.map Arg.pv).length then l else ι j,rfl,fun j hj=>LocEq.of_eq (if_neg (by omega)),keep,⟨fun id=> ?_,fun id id' B ho ho'=> ?_⟩,by rw[hio];exact h2⟩
  ·by_cases e:id=(args.map Arg.pv).length
   ·rw[hpost,if_pos e,if_pos e];exact h1
   ·rw[hpost,if_neg e];trivial
  ·rw[own1 l id B ho,own1 l id' B ho']
 rcases ho with⟨rfl,h0⟩|⟨g,cap,cur,rfl,hg,hcell,hle,hmax,hsz,htake⟩
 ·refine fin ⟨0,0,0,0,ce⟩ ⟨by simp[h0],Nat.zero_le _,.inl rfl⟩ ?_
  simp only[RepA]
  exact⟨none,0,by rw[h0],by omega,by simp,by simp,.inl rfl⟩
 ·have hsz':cur.size=cap:=by simpa using hsz
  refine fin ⟨g,0,cap,0,ce⟩ ⟨hle,hmax,.inr ⟨⟨cur,e,0,0,hcell,by simp;omega,.inl (am _)⟩, ?_,.inl ⟨hg,hG g hg⟩⟩⟩ ?_
  ·rw[cf]
   intro j x hj
   have hlt:=(List.getElem?_eq_some_iff.1 hj).1
   have hmem:=aS hj
   have h3:cur[j]? =some (Cy x):=by
    have h4:(cur.toList.take (xs.length*1))[j]? =(xs.map Cy)[j]? :=by rw[htake]
    rw[be,if_pos (by omega),ax,hj]at h4
    simpa using h4
   refine⟨Cy x, ?_,(yp (w:=w') (F:=fun _=>False) (G:=G) (hx x hmem)).2,(yp (hx x hmem)).1⟩
   rw[cell?_eq0]
   simp only[Nat.zero_add,hcell]
   exact h3
  ·simp only[RepA]
   exact⟨_,cap,rfl,hle,by simp,by simpa using hmax,.inr (by simp)⟩
theorem uZ {w:World} {F G:Nat→Prop} {s:List UInt8} {v:Value} (h:RepP w F G (.str s) v):v=.string ⟨s.toArray⟩:=by simpa only[RepP]using h
theorem wU {w:World} {F G:Nat→Prop} {k:IntKind} {n:Int} {v:Value} (h:RepP w F G (.int k n) v):v=.int k n:=by simpa only[RepP]using h
theorem Cv {w:World} {F G:Nat→Prop} {o:Fl} {l:List (List UInt8)} {v:Value} (h:RepP w F G (.sl o (l.map .str)) v) (hl:l≠[]):
  ∃B off cap,v=.slice (some ⟨B,off,none⟩) l.length cap∧l.length≤cap∧cap≤maxLen∧B<w.heap.size∧∀(j:Nat) (x:ByteArray),(l.map fun s=>(⟨s.toArray⟩:ByteArray))[j]? =some x→w.cell? ⟨B,off+j,none⟩=some (.string x):=by
 simp only[RepP]at h
 obtain⟨a,cap,rfl,h1,h2,_,h3⟩:=h
 rcases h3 with h3|⟨B,off,rfl,_,_,hc⟩
 ·simp at h3;exact absurd h3 hl
 ·rw[cf]at hc
  have hcell:∀(j:Nat) (x:ByteArray),(l.map fun s=>(⟨s.toArray⟩:ByteArray))[j]? =some x→w.cell? ⟨B,off+j,none⟩=some (.string x):=by
   intro j x hj
   rw[ax,Option.map_eq_some_iff]at hj
   obtain⟨s,hs,rfl⟩:=hj
   obtain⟨u,hu,_,hr⟩:=hc j (.str s) (by rw[ax,hs];rfl)
   rw[uZ hr]at hu
   exact hu
  refine⟨B,off,cap,by simp,by simpa using h1,h2, ?_,hcell⟩
  cases l with
  |nil=>exact absurd rfl hl
  |cons s l=>
   have:=hcell 0 ⟨s.toArray⟩ rfl
   rw[cell?_eq0]at this
   split at this
   ·rename_i c _ _ hb;exact(Array.getElem?_eq_some_iff.1 hb).1
   ·cases this
theorem Cx {w:World} {F G:Nat→Prop} {o:Fl} {v:Value} (h:RepP w F G (.sl o []) v):∃a cap,v=.slice a 0 cap:=by
 simp only[RepP]at h
 obtain⟨a,cap,rfl,_⟩:=h
 exact⟨a,cap,rfl⟩
section
variable {P:Program} {sg:FuncId→List Bool} {h:Nat→Blk} {k:Nat} {C:R→Prop} {S:St}
def W5 (x:PV) (rd:List Nat) (K:List Arg→List Nat→List (Option (Nat×Option Nat))→Prop) (as:List Arg) (rd':List Nat) (ms:List (Option (Nat×Option Nat))):Prop:=K (.pv x::as) (rd++rd') (none::ms)
def PAP (h:Nat→Blk) (fs:List Bool) (vs:List AV) (K:List Arg→List Nat→List (Option (Nat×Option Nat))→Prop) (x:PV) (rd:List Nat):Prop:=pass h fs vs (W5 x rd K)
theorem ZC {fs:List Bool} {x:PV} {vs:List AV} {K:List Arg→List Nat→List (Option (Nat×Option Nat))→Prop}:pass h (false::fs) (.p x::vs) K=pass h fs vs (W5 x.cell [] K):=_root_.id rfl
theorem Lh {fs:List Bool} {id o l:Nat} {vs:List AV} {K:List Arg→List Nat→List (Option (Nat×Option Nat))→Prop}:pass h (false::fs) (.ref id o l::vs) K=oX (h id) id o l (PAP h fs vs K):=by
 simp only[pass,va,i8,oX,List.tail_cons];cases h id<;>rfl
theorem Li {fs:List Bool} {id r o l:Nat} {vs:List AV} {K:List Arg→List Nat→List (Option (Nat×Option Nat))→Prop}:pass h (false::fs) (.inn id r o l::vs) K=Be (h id) id r o l (PAP h fs vs K):=by
 simp only[pass,va,i8,Be,List.tail_cons];cases h id<;>rfl
theorem Le {fs:List Bool} {vs:List AV} {K:List Arg→List Nat→List (Option (Nat×Option Nat))→Prop} {x:PV} {rd:List Nat}:PAP h fs vs K x rd=pass h fs vs (W5 x rd K):=_root_.id rfl
theorem Lg {x:PV} {rd rd':List Nat} {K:List Arg→List Nat→List (Option (Nat×Option Nat))→Prop} {as:List Arg} {ms:List (Option (Nat×Option Nat))}:W5 x rd K as rd' ms=K (.pv x::as) (rd++rd') (none::ms):=_root_.id rfl
theorem bd {α:Type} {g:α→PV} {l:List α} {f:FuncId} {c:List PV} {a:PV} {rd:List Nat} {id:Nat}
  (hf:CallT P true f [.pv a,.mu false c] [none,none] [.sl .own (l.map g)]) (hid:id∉rd)
  (hc:C ⟨.ref k 0 l.length,[(id,.dead),(k,.live (qX (h id)) (l.map g))],id::rd⟩):Pk P h k f C [.pv a,.mu false c] rd [none,some (id,none)]:=by
 refine⟨⟨by simp[da],by simpa[da]using hid⟩,true,_,_,hf,qX (h id),fun e1 _ i hi=>(by simp[da]at hi;subst hi;exact e1), ?_⟩
 have e1:impAll k [.sl .own (l.map g)]=.ref k 0 l.length:=by simp[impAll,imp,imp1]
 have e2:fc none (some none) (h id)=.dead:=pD
 rw[e1]
 simpa[d6,da,impWs,impW,impW1,e2]using hc
theorem bc {α:Type} {g:α→PV} {l:List α} {f:FuncId} {c:List PV} {a b:PV} {rd:List Nat} {id:Nat}
  (hf:CallT P true f [.pv a,.pv b,.mu false c] [none,none,none] [.sl .own (l.map g)]) (hid:id∉rd)
  (hc:C ⟨.ref k 0 l.length,[(id,.dead),(k,.live (qX (h id)) (l.map g))],id::rd⟩):Pk P h k f C [.pv a,.pv b,.mu false c] rd [none,none,some (id,none)]:=by
 refine⟨⟨by simp[da],by simpa[da]using hid⟩,true,_,_,hf,qX (h id),fun e1 _ i hi=>(by simp[da]at hi;subst hi;exact e1), ?_⟩
 have e1:impAll k [.sl .own (l.map g)]=.ref k 0 l.length:=by simp[impAll,imp,imp1]
 have e2:fc none (some none) (h id)=.dead:=pD
 rw[e1]
 simpa[d6,da,impWs,impW,impW1,e2]using hc
theorem ba {α:Type} {g:α→PV} {l:List α} {f:FuncId} {c:List PV} {a b b':PV} {rd:List Nat} {id:Nat}
  (hf:CallT P true f [.pv a,.pv b,.pv b',.mu false c] [none,none,none,none] [.sl .own (l.map g)]) (hid:id∉rd)
  (hc:C ⟨.ref k 0 l.length,[(id,.dead),(k,.live (qX (h id)) (l.map g))],id::rd⟩):Pk P h k f C [.pv a,.pv b,.pv b',.mu false c] rd [none,none,none,some (id,none)]:=by
 refine⟨⟨by simp[da],by simpa[da]using hid⟩,true,_,_,hf,qX (h id),fun e1 _ i hi=>(by simp[da]at hi;subst hi;exact e1), ?_⟩
 have e1:impAll k [.sl .own (l.map g)]=.ref k 0 l.length:=by simp[impAll,imp,imp1]
 have e2:fc none (some none) (h id)=.dead:=pD
 rw[e1]
 simpa[d6,da,impWs,impW,impW1,e2]using hc
def W4 (K:List Arg→List Nat→List (Option (Nat×Option Nat))→Prop) (as:List Arg) (rd:List Nat) (ms:List (Option (Nat×Option Nat))):Prop:=K (.pv (.sl .own [])::as) rd (none::ms)
theorem K6 {sg:List Bool} {vs:List AV} {K:List Arg→List Nat→List (Option (Nat×Option Nat))→Prop}:pass h (true::sg) (.p (.sl .own [])::vs) K=pass h sg vs (W4 K):=by simp only[pass];rfl
theorem K7 {vs:List AV} {K:List Arg→List Nat→List (Option (Nat×Option Nat))→Prop}:pass h [] vs (W4 K)=pC h vs (PQ (W4 K)):=ls
theorem R4 {K:List Arg→List Nat→List (Option (Nat×Option Nat))→Prop} {as:List Arg} {rd:List Nat} {ms:List (Option (Nat×Option Nat))}:W4 K as rd ms=K (.pv (.sl .own [])::as) rd (none::ms):=_root_.id rfl
theorem dN {f:FuncId} {a b:PV} {res:List PV} {rd:List Nat} {v:AV} {ws:List (Nat×Blk)} (hf:Fun P f [a,b] res) [i:ImpA k res v ws] (hc:C ⟨v,ws,rd⟩):Pk P h k f C [.pv a,.pv b] rd [none,none]:=aH (xs:=[a,b]) hf hc
theorem aZ {α:Type} {g:α→PV} {L:List (List α)} {f:FuncId} {c:List PV} {as:List Arg} {os:List (Option (List PV))} {rd:List Nat} {ms:List (Option (Nat×Option Nat))} {id:Nat}
  (hf:CallT P true f (.mu false c::as) (none::os) [.dl (L.map (List.map g))]) (hn:(ms.all Option.isNone)=true) (hid:id∉rd)
  (hc:C ⟨.ref k 0 L.length,[(id,.dead),(k,dk g (qX (h id)) L)],id::rd⟩):Pk P h k f C (.mu false c::as) rd (some (id,none)::ms):=by
 refine lp hf hn hid ?_
 simp only[aJ]
 have e1:impAll k [.dl (L.map (List.map g))]=.ref k 0 L.length:=by simp[impAll,imp,imp1]
 have e2:impWs (true&&qX (h id)) k [.dl (L.map (List.map g))]=[(k,dk g (qX (h id)) L)]:=by simp[impWs,impW,impW1,dk]
 rw[e1,e2]
 exact hc
theorem J2 {tk:Bool} {as:List Arg} {ts:List Nat} {xs:List PV} {ex:Ex} {os:List (Option (List PV))} (hx:ex=.ret∨ex=.normal)
  (ho:(os.all Option.isNone)=true) (hf:dy tk S.h as.length (ts.map S.e) xs F0):sm tk as os ts xs ex S:=by
 have key:tl tk S as os (ts.map S.e) xs:=by
  unfold tl
  refine Eq.mp (congrArg (dy tk S.h as.length (ts.map S.e) xs) ?_) hf
  funext L
  simp only[F0]
  apply propext
  constructor
  ·intro h1
   refine⟨h1,fun j hj=> ?_⟩
   split
   ·rename_i c0 _ hc0
    have:=List.all_eq_true.1 ho _ (aS hc0)
    simp at this
   ·trivial
  ·exact fun h=>h.1
 rcases hx with rfl|rfl<;>exact key
def InnL (v w:AV) (r len:Nat):Prop:=
 match v,w with
 | .inn id r' 0 len',.ref id' _ _=>id=id'∧r'=r∧len'=len
 |_,_=>False
theorem InnL.out {v w:AV} {r len i o l:Nat} (hv:InnL v w r len) (e:w=.ref i o l):v=.inn i r 0 len:=by
 subst e
 unfold InnL at hv
 split at hv
 ·rename_i e;cases e;obtain⟨rfl,rfl,rfl⟩:=hv;rfl
 ·exact hv.elim
theorem M2 {id id' r r' len len' o l:Nat}:InnL (.inn id r' 0 len') (.ref id' o l) r len=(id=id'∧r'=r∧len'=len):=_root_.id rfl
variable {α:Type} {f:α→PV} {m:Bool} {L:List (List α)} {cs:List Nat}
def dq (f:α→PV) (m:Bool) (cs:List Nat) (L:List (List α)):Blk:=.deep m (cs.map .row) (L.map fun l=>some (l.map f))
theorem abQ:dk f m L=dq f m (List.range L.length) L:=_root_.id rfl
theorem Ty {id off:Nat}:sc (dq f m cs L) id off C=(off<cs.length∧C ⟨DC.av id (L.map fun l=>some (l.map f)) (.row (cs.getD off 0)),[],[id]⟩):=by
 simp only[sc,dq,gt,Int.toNat_natCast,Int.natCast_nonneg,true_and,KD,ax]
 by_cases ho:off<cs.length
 ·rw[ae ho,ac,ae ho]
  simp[ho]
 ·rw[aO (by omega)];simp[ho]
theorem aaZ {id r:Nat} (hr:r<L.length):DC.av id (L.map fun l=>some (l.map f)) (.row r)=.inn id r 0 (L.getD r []).length:=by
 simp only[DC.av,d5 hr,an]
theorem TY {id r off len:Nat} {F:PV→List Nat→Prop}:Be (dq f m cs L) id r off len F=(r<L.length∧off+len≤(L.getD r []).length∧F (.sl (.lent true) ((((L.getD r []).map f).drop off).take len)) [id]):=by
 simp only[Be,dq]
 by_cases hr:r<L.length
 ·rw[d5 hr];simp only[hr,true_and,an];rfl
 ·rw[aO (by simp;omega)];simp[hr]
def WF (b:Blk) (id off j r len:Nat) (C:R→Prop):Prop:=
 match b with
 | .deep m cs rs=>j=id∧off<cs.length∧(match rs[r]? with
  |some (some c)=>len=c.length∧C ⟨.p .any,[(id,.deep m (cs.set off (.row r)) rs)],[id]⟩
  |_=>False)
 |_=>False
theorem x6 {id off j r len:Nat} (hq:WF (h id) id off j r len C):wD (some (1,false)) h (.ptr id off) (.inn j r 0 len) C:=by
 unfold WF at hq
 simp only[wD]
 split at hq
 ·rename_i m cs rs hb
  obtain⟨rfl,ho,hq⟩:=hq
  rw[hb]
  simp only[fK,iM,mG,if_true,true_and]
  split at hq
  ·rename_i c hr
   rw[hr]
   obtain⟨h1,h2⟩:=hq
   refine⟨h1,(by first|rfl|omega|(simp;done)|(simp;omega)),(by first|rfl|omega|(simp;done)|(simp;omega)), ?_⟩
   have e:=dF (v:=DC.row r) ho
   simpa only[aR,aN,e]using h2
  ·exact hq.elim
 ·exact hq.elim
theorem Kk {id off j r len:Nat}:WF (dq f m cs L) id off j r len C=(j=id∧off<cs.length∧r<L.length∧len=(L.getD r []).length∧C ⟨.p .any,[(id,dq f m (cs.set off r) L)],[id]⟩):=by
 simp only[WF,dq,an]
 by_cases hr:r<L.length
 ·rw[d5 hr]
  simp only[hr,true_and,an,List.map_set]
 ·rw[aO (by simp;omega)];simp[hr]
def dqc (f:α→PV) (m:Bool) (cs:List Nat) (z:Nat) (L:List (List α)):Blk:=.deep m (cs.map .row++List.replicate z (.v (.sl .own []))) (L.map fun l=>some (l.map f))
theorem Vx {q id off len:Nat}:Vy (some (q,.sl (.lent false) [])) (dq f m cs L) id off len C=(off+len≤cs.length∧C ⟨.p .any,[(id,.deep m ((cs.map .row).take off++List.replicate len (.v (.sl .own []))++(cs.map .row).drop (off+len)) (L.map fun l=>some (l.map f)))],[id]⟩):=by
 simp only[Vy,dq,an,Fl.lent,cond_false,true_and]
theorem aaC {off len:Nat} (he:off+len=cs.length):Blk.deep m ((cs.map .row).take off++List.replicate len (.v (.sl .own []))++(cs.map .row).drop (off+len)) (L.map fun l=>some (l.map f))=dqc f m (cs.take off) len L:=by
 rw[aL (by simp;omega),aN,←List.map_take];rfl
theorem aas {F:List (Nat×Nat×Pl)→Prop} {tk:Bool} {id z:Nat} {rows:List (List PV)} (hm:m=true→tk=true) (hc:∀r∈cs,r<L.length) (hn:cs.Nodup) (hr:rows=(cs.map fun r=>(L.getD r []).map f)) (hF:F [(k,id,.d 0 (cs.map some))]):wG (dqc f m cs z L) tk k id 0 cs.length rows F:=by
 simp only[wG,dqc,Nat.zero_add,List.drop_zero,ak,an,List.length_replicate]
 refine⟨by omega,hm,cs.map some, ?_, ?_,hF⟩
 ·rw[List.take_append_of_le_length (by simp),ah (by simp)]
  subst hr
  refine lq (fun i hi=>⟨cs[i],ae hi, ?_⟩) (by simp)
  rw[d5 (hc _ (List.getElem_mem hi)),ax,ae hi];rfl
 ·rw[List.filterMap_map]
  simpa[Function.comp_def]using hn
end
def FT (_:List (Nat×Nat×Pl)):Prop:=True
theorem Uz {h:Nat→Blk} {k id off len:Nat} {rows:List (List PV)}:dy true h k [.ref id off len] [.dl rows] F0=wG (h id) true k id off len rows FT:=by
 simp only[dy,fin,dX,wG]
 cases h id with
 |deep m cs rs=>simp[F0,FT]
 |_=>rfl
theorem Uy {L:List (Nat×Nat×Pl)}:FT L=True:=_root_.id rfl
theorem UG {α:Type} {f:α→PV} {m:Bool} {cs:List Nat} {L:List (List α)}:qX (dq f m cs L)=m:=_root_.id rfl
attribute [go_sem] K6 K7 R4 Uz Uy UG ZC Lh Li Le Lg M2 Ty TY Kk Vx
end Go.Gl
namespace Go.Gl
open Go
variable [Amb]
class Stp (A:Prop) (B:outParam Prop):Prop where
 h:B→A
theorem Fi {A B:Prop} [s:Stp A B] (h:B):A:=s.h h
class FinX (ex:Ex):Prop where
 h:ex=.ret∨ex=.normal
instance:FinX .ret:=⟨.inl rfl⟩
instance:FinX .normal:=⟨.inr rfl⟩
section
variable {P:Program} {sg:FuncId→List Bool} {Q:Ex→St→Prop} {S:St}
instance {a b:Code}:Stp (jh P sg (.seq a b) Q S) (jh P sg a (uU P sg b Q) S):=⟨Qe⟩
instance:Stp (jh P sg .skip Q S) (Q .normal S):=⟨JY⟩
instance {id:Nat}:Stp (jh P sg (.exit id) Q S) (Q (.exit id) S):=⟨J6⟩
instance:Stp (jh P sg .ret Q S) (Q .ret S):=⟨Qf⟩
instance {id:Nat} {c:Code}:Stp (jh P sg (.block id c) Q S) (jh P sg c (rG id Q) S):=⟨Fe⟩
instance {b:Code}:Stp (uU P sg b Q .normal S) (jh P sg b Q S):=⟨FM⟩
instance {b:Code} {id:Nat}:Stp (uU P sg b Q (.exit id) S) (Q (.exit id) S):=⟨FO⟩
instance {b:Code}:Stp (uU P sg b Q .ret S) (Q .ret S):=⟨FJ⟩
instance {id:Nat}:Stp (rG id Q .normal S) (Q .normal S):=⟨FS⟩
instance {id:Nat}:Stp (rG id Q .ret S) (Q .ret S):=⟨FQ⟩
instance {id:Nat}:Stp (rG id Q (.exit id) S) (Q .normal S):=⟨FP⟩
instance {I:Nat→St→Prop} {n id:Nat}:Stp (My I n Q (.exit id) S) (Q (.exit id) S):=⟨KS⟩
instance {I:Nat→St→Prop} {n:Nat}:Stp (My I n Q .ret S) (Q .ret S):=⟨KR⟩
instance {i o l l':Nat}:Stp (AV.ref i o l=AV.ref i o l') (l=l'):=⟨KK⟩
instance {m:Bool} {α:Type} {f:α→PV} {l l':List α}:Stp (Blk.live m (l.map f)=Blk.live m (l'.map f)) (l=l'):=⟨GS⟩
instance {kd:IntKind} {a b:Int}:Stp (AV.p (.int kd a)=AV.p (.int kd b)) (a=b):=⟨M1⟩
instance {a b:Bool}:Stp (AV.p (.bool a)=AV.p (.bool b)) (a=b):=⟨IU⟩
instance {a b:List UInt8}:Stp (AV.p (.str a)=AV.p (.str b)) (a=b):=⟨Kj⟩
instance {o:Fl} {α:Type} {f:α→PV} {l l':List α}:Stp (AV.p (.sl o (l.map f))=AV.p (.sl o (l'.map f))) (l=l'):=⟨RC⟩
instance {α:Type} {f:α→PV} {l l':List α}:Stp (l.map f=l'.map f) (l=l'):=⟨S6⟩
instance {α:Type} {f:α→PV} {m:Bool} {L L':List (List α)}:Stp (dk f m L=dk f m L') (L=L'):=⟨Vm⟩
theorem tn {as:List Arg} {xs:List PV} {ts:List Nat} {ex:Ex} [x:FinX ex] (hf:dy false S.h as.length (ts.map S.e) xs F0):wB as ts xs ex S:=Qg x.h hf
theorem pp {as:List Arg} {t ty:Nat} {xs:List PV} {ex:Ex} [x:FinX ex] (hf:eQ P ty S.h (S.e t) (FC S as xs)):Jc P as [.cell t ty] xs ex S:=J5 x.h hf
theorem pn {tk:Bool} {as:List Arg} {ts:List Nat} {xs:List PV} {ex:Ex} {os:List (Option (List PV))} [x:FinX ex] (ho:(os.all Option.isNone)=true) (hf:dy tk S.h as.length (ts.map S.e) xs F0):sm tk as os ts xs ex S:=J2 x.h ho hf
theorem po {tk:Bool} {c c':List PV} {as:List Arg} {ts:List Nat} {xs:List PV} {ex:Ex} {p:Bool} {os:List (Option (List PV))} [x:FinX ex] (ho:(os.all Option.isNone)=true) (hl:S.h 0=t7 true c') (hf:dy tk S.h (as.length+1) (ts.map S.e) xs F1):sm tk (.mu p c::as) (some c'::os) ts xs ex S:=J3 x.h ho hl hf
theorem Fd {c:List PV} {as:List Arg} {ts:List Nat} {xs:List PV} {ex:Ex} {p:Bool} {os:List (Option (List PV))} [x:FinX ex] (ho:(os.all Option.isNone)=true) (hf:dy true S.h (as.length+1) (ts.map S.e) xs F0):sm true (.mu p c::as) os ts xs ex S:=J1 x.h ho hf
end
theorem hcs:(∀(p:Prop) [Decidable p],(decide p=true)=p)∧(∀(p:Prop) [Decidable p],(decide p=false)=¬p)∧(∀a b:Bool,((a&&b)=true)=(a=true∧b=true))∧(∀a b:Bool,((a||b)=true)=(a=true∨b=true))∧
  (∀a b:Bool,((a&&b)=false)=(a=false∨b=false))∧(∀a b:Bool,((a||b)=false)=(a=false∧b=false))∧(∀a:Bool,((!a)=true)=(a=false))∧(∀a:Bool,((!a)=false)=(a=true))∧(∀a b:Int,(¬a<b)=(b≤a))∧(∀a b:Int,(¬a≤b)=(b<a)):=
 ⟨fun p _=>by simp,fun p _=>by simp,fun a b=>by simp,fun a b=>by simp,fun a b=>by cases a<;>simp,fun a b=>by simp,fun a=>by simp,fun a=>by simp,fun a b=>by simp,fun a b=>by simp⟩
theorem ud:(∀(α:Type) (a b:List α),(a++b).length=a.length+b.length)∧(∀(α:Type) (x:α) (l:List α),(x::l).length=l.length+1)∧(∀α:Type,([]:List α).length=0)∧(∀(α:Type) (l:List α) (i:Nat) (x:α),(l.set i x).length=l.length)∧
  (∀(α:Type) (l:List α) (i:Nat),(l.take i).length=min i l.length)∧(∀(α:Type) (l:List α) (i:Nat),(l.drop i).length=l.length - i)∧(∀(α β:Type) (f:α→β) (l:List α),(l.map f).length=l.length)∧(∀(α:Type) (n:Nat) (x:α),(List.replicate n x).length=n):=
 ⟨fun _ _ _=>by simp,fun _ _ _=>by simp,fun _=>by simp,fun _ _ _ _=>by simp,fun _ _ _=>by simp,fun _ _ _=>by simp,fun _ _ _ _=>by simp,fun _ _ _=>by simp⟩
theorem nrs:noRoLL []=true∧noRoL []=true∧(∀x xs,noRoL (x::xs)=(noRo x&&noRoL xs)):=⟨rfl,rfl,fun _ _=>rfl⟩
attribute [go_sem] nrs Option.all_some Option.all_none Bool.and_self Gt CX Gr Gs vg Gu yD Gm CU LF Gp Gn Jj CW Jk
end Go.Gl
namespace Go.Gl
open Go
variable [Amb]
section
variable {P:Program} {sg:FuncId→List Bool} {h:Nat→Blk} {k:Nat} {ρ:Operand→AV} {C:R→Prop} {t t':TypeId} {x y:Operand}
variable {m:Bool} {cs:List DC} {rs:List (Option (List PV))}
def uz:List (Nat×Operand)→Option (List Nat)→Bool:=fun ps q=>decide (ps.length<(q.getD []).length)
theorem SN {n zz:Bool} {parts:Array (Nat×Operand)}:iY P n true zz (.build t parts)=uz parts.toList (bQ P t):=by simp[iY,uz]
theorem aaS {p:Nat×Operand} {ps:List (Nat×Operand)} {y:Nat} {ys:List Nat}:uz (p::ps) (some (y::ys))=uz ps (some ys):=by simp[uz]
theorem aaT {y:Nat} {ys:List Nat}:uz [] (some (y::ys))=true:=by simp[uz]
theorem aaR {ps:List (Nat×Operand)}:uz ps (some [])=false:=by simp[uz]
def agG (s:Option (Nat×Bool)):Bool:=match s with|some (_,true)=>true|_=>false
theorem Wh:EQ P t=agG (bK P t):=_root_.id rfl
theorem aa8 {n:Nat}:agG (some (n,true))=true:=_root_.id rfl
theorem aa9 {n:Nat}:agG (some (n,false))=false:=_root_.id rfl
theorem Qd:sb P ρ h k (.alloc t) C=mD P t k C:=_root_.id rfl
theorem P5:sb P ρ h k (.box t x) C=OP h k (ρ x) C:=_root_.id rfl
theorem P9 {parts:Array (Nat×Operand)}:sb P ρ h k (.build t parts) C=mB P t (parts.toList.map fun p=>(p.1,ρ p.2)) k C:=_root_.id rfl
def Wd (s:Option (List PV)) (k:Nat) (C:R→Prop):Prop:=
 match s with
 |some xs=>xs≠[]∧xs.length≤1000000∧xs.all jy=true∧C ⟨.ptr k 0,[(k,.deep false (xs.map fun _=>.v (.sl .own [])) [])],[]⟩
 |none=>False
theorem Ww:mD P t k C=Wd (bP P t) k C:=_root_.id rfl
theorem abf:Wd (some [.sl (.lent false) [],.sl (.lent false) []]) k C=C ⟨.ptr k 0,[(k,.deep false [.v (.sl .own []),.v (.sl .own [])] [])],[]⟩:=by simp[Wd,jy,Fl.lent]
theorem abe:Wd (some [.sl (.lent false) [],.sl (.lent false) [],.sl (.lent false) []]) k C=C ⟨.ptr k 0,[(k,.deep false [.v (.sl .own []),.v (.sl .own []),.v (.sl .own [])] [])],[]⟩:=by simp[Wd,jy,Fl.lent]
def vh (p:Option (List Nat)) (z:Option (List PV)):Option (List Nat×Nat):=
 match p,z with
 |some places,some zs=>if zs.all jy=true then some (places,zs.length)else none
 |_,_=>none
def VI (s:Option (List Nat×Nat)) (parts:List (Nat×AV)) (k:Nat) (K:R→Prop):Prop:=
 match s with
 |some (places,n)=>n≤64∧fG places ((List.range n).map fun i=>.ref (k+i) 0 0) parts fun cs=>K ⟨.agg cs,jO k n,[]⟩
 |none=>False
theorem aaU {parts:List (Nat×AV)}:mB P t parts k C=VI (vh (bQ P t) (bP P t)) parts k C:=_root_.id rfl
theorem ZF {pl:List Nat}:vh (some pl) (some [.sl (.lent false) [],.sl (.lent false) []])=some (pl,2):=by simp[vh,jy,Fl.lent]
theorem ZE {pl:List Nat}:vh (some pl) (some [.sl (.lent false) [],.sl (.lent false) [],.sl (.lent false) []])=some (pl,3):=by simp[vh,jy,Fl.lent]
def FN (ws:List (Nat×Blk)) (C:R→Prop) (cs:List AV):Prop:=C ⟨.agg cs,ws,[]⟩
theorem UD {ws:List (Nat×Blk)} {cs:List AV}:FN ws C cs=C ⟨.agg cs,ws,[]⟩:=_root_.id rfl
theorem aaW {pl:List Nat} {parts:List (Nat×AV)}:VI (some (pl,2)) parts k C=fG pl [.ref k 0 0,.ref (k+1) 0 0] parts (FN [(k,.live false []),(k+1,.live false [])] C):=by
 simp[VI,jO,List.range_succ,FN];rfl
theorem aaV {pl:List Nat} {parts:List (Nat×AV)}:VI (some (pl,3)) parts k C=fG pl [.ref k 0 0,.ref (k+1) 0 0,.ref (k+2) 0 0] parts (FN [(k,.live false []),(k+1,.live false []),(k+2,.live false [])] C):=by
 simp[VI,jO,List.range_succ,FN];rfl
theorem Dr {id off n:Nat}:TC (.deep m cs rs) id off n C=(off+n≤cs.length∧C ⟨.agg (((cs.drop off).take n).map (DC.av id rs)),[],[id]⟩):=_root_.id rfl
theorem BY {n id off:Nat} {v:AV}:WG (.deep m cs rs) h n id off v C=iM h m id (fK v) rs (STD m n id off cs C):=_root_.id rfl
theorem Kl {n id off:Nat} {xs:List DC} {ws:List (Nat×Blk)} {rd:List Nat}:STD m n id off cs C xs rs ws rd=(xs.length=n∧off+n≤cs.length∧C ⟨.p .any,ws++[(id,.deep m (cs.take off++xs++cs.drop (off+n)) rs)],id::rd⟩):=_root_.id rfl
theorem I8 {vs:List AV}:fK (.agg vs)=vs:=_root_.id rfl
theorem Wg {xs:List PV}:fK (.p (.agg xs))=xs.map .p:=_root_.id rfl
def avO (id r:Nat):Option (Option (List PV))→AV
 |some (some c)=>.inn id r 0 c.length
 |_=>.p .any
theorem aaY {id:Nat} {v:PV}:DC.av id rs (.v v)=.p v:=_root_.id rfl
theorem aa0 {id r:Nat}:DC.av id rs (.row r)=avO id r rs[r]? :=by
 simp only[DC.av,avO]
 cases rs[r]? with
 |none=>rfl
 |some o=>cases o<;>rfl
theorem OY {id r:Nat} {c:List PV}:avO id r (some (some c))=.inn id r 0 c.length:=_root_.id rfl
theorem Mw {id off:Nat}:sc (.deep m cs rs) id off C=gt cs off (fun x=>C ⟨x.av id rs,[],[id]⟩):=_root_.id rfl
theorem Uc {α:Type} {a:α} {l:List α} {K:α→Prop}:gt (a::l) 0 K=K a:=by simp[gt]
theorem Ub {α:Type} {a b:α} {l:List α} {K:α→Prop}:gt (a::b::l) 1 K=K b:=by simp[gt]
theorem Ua {α:Type} {a b c:α} {l:List α} {K:α→Prop}:gt (a::b::c::l) 2 K=K c:=by simp[gt]
def apO (o:Option (Option (List PV))) (id r len k:Nat) (m:Bool) (cs:List DC) (rs:List (Option (List PV))) (C:R→Prop) (ys:List PV) (rd:List Nat):Prop:=
 match o with
 |some (some c)=>len=c.length∧id∉rd∧len+ys.length≤1099511627776∧C ⟨.ref k 0 (len+ys.length),[(id,.deep m cs (rs.set r none)),(k,.live m (c++ys))],id::rd⟩
 |_=>False
theorem EL {id r len:Nat} {ys:List PV} {rd:List Nat}:Pr (.deep m cs rs) id r len k C ys rd=apO rs[r]? id r len k m cs rs C ys rd:=_root_.id rfl
theorem O6 {id r len:Nat} {c ys:List PV} {rd:List Nat}:apO (some (some c)) id r len k m cs rs C ys rd=(len=c.length∧id∉rd∧len+ys.length≤1099511627776∧C ⟨.ref k 0 (len+ys.length),[(id,.deep m cs (rs.set r none)),(k,.live m (c++ys))],id::rd⟩):=_root_.id rfl
variable {α:Type} {l:List α} {a b:α} {i j:Nat}
theorem Ul:(l++[a])[l.length]? =some a:=by simp
theorem Uk (hi:i<l.length):(l++[a])[i]? =l[i]? :=aE hi
theorem Uj (hn:(i=j)=False):(l.set i a)[j]? =l[j]? :=by rw[List.getElem?_set_ne (fun e=>by rw[hn]at e;exact e)]
theorem Ng (hi:i<l.length):(l.set j b++[a])[i]? =(l.set j b)[i]? :=aE (by simpa using hi)
theorem Nh (hn:(l.set i b).length=j):(l.set i b++[a])[j]? =some a:=by subst hn;simp
variable {F:List (Nat×Nat×Pl)→Prop}
def WT (o:Option (Option (List PV))) (k id r len:Nat) (ys:List PV) (F:List (Nat×Nat×Pl)→Prop):Prop:=
 match o with
 |some (some c)=>len≤c.length∧c.take len=ys∧F [(k,id,.n (some r))]
 |_=>False
def fiJ (b:Blk) (k id r len:Nat) (ys:List PV) (F:List (Nat×Nat×Pl)→Prop):Prop:=
 match b with
 | .deep false _ rs=>WT rs[r]? k id r len ys F
 |_=>False
theorem N7 {id r len:Nat} {xs:List PV}:dX false h k (.inn id r 0 len) (.sl (.lent false) xs) F=fiJ (h id) k id r len xs F:=by
 show dX false h k (.inn id r 0 len) (.sl .fr xs) F=_
 simp only[dX,fiJ]
 cases h id with
 |deep m cs rs=>
  cases m
  ·simp only[WT];cases rs[r]? with
   |none=>rfl
   |some o=>cases o<;>simp
  ·rfl
 |_=>rfl
theorem D4 {id r len:Nat} {xs:List PV}:fiJ (.deep false cs rs) k id r len xs F=WT rs[r]? k id r len xs F:=_root_.id rfl
theorem Ns {id r len:Nat} {c xs:List PV}:WT (some (some c)) k id r len xs F=(len≤c.length∧c.take len=xs∧F [(k,id,.n (some r))]):=_root_.id rfl
def UJ (b:Blk) (tk:Bool) (k id r len:Nat) (ys:List PV) (F:List (Nat×Nat×Pl)→Prop):Prop:=
 match b with
 | .deep m _ rs=>(match rs[r]? with
  |some (some c)=>len≤c.length∧(m=true→tk=true)∧c.take len=ys∧F [(k,id,.i r 0)]
  |_=>False)
 |_=>False
theorem Ea {tk:Bool} {id r len:Nat} {xs:List PV}:dX tk h k (.inn id r 0 len) (.sl .own xs) F=UJ (h id) tk k id r len xs F:=by
 simp only[dX,UJ,Nat.zero_add,List.drop_zero]
 cases h id with
 |deep m cs rs=>simp only[];cases rs[r]? with
  |none=>rfl
  |some o=>cases o<;>rfl
 |_=>rfl
theorem U4 {tk:Bool} {id r len:Nat} {xs:List PV}:fin tk h k (.inn id r 0 len) (.sl .own xs) F=UJ (h id) tk k id r len xs F:=Ea
theorem Nu {α:Type} {f:α→PV} {L:List (List α)} {tk:Bool} {id r len:Nat} {xs:List PV}:UJ (dk f false L) tk k id r len xs F=(r<L.length∧len≤(L.getD r []).length∧((L.getD r []).map f).take len=xs∧F [(k,id,.i r 0)]):=by
 simp only[UJ,dk]
 by_cases hr:r<L.length
 ·rw[d5 hr];simp[hr]
 ·rw[aO (by simp;omega)];simp[hr]
def FR (S:St) (as:List Arg) (res:List PV) (vs:List AV):Prop:=dy false S.h as.length vs res F0
theorem pm {as:List Arg} {rs:List ResultVar} {xs:List PV} {ex:Ex} {S:St} [x:FinX ex] (hf:j8 P S rs (FR S as xs)):Jc P as rs xs ex S:=by
 have key:j8 P S rs fun vs=>tl false S as [] vs xs:=by
  have e:FR S as xs=fun vs=>tl false S as [] vs xs:=by
   funext vs
   unfold FR tl
   refine congrArg (dy false S.h as.length vs xs) ?_
   funext L
   simp only[F0]
   apply propext
   constructor
   ·intro h;refine⟨h,fun j _=> ?_⟩
    split
    ·rename_i h;simp at h
    ·trivial
   ·intro h;exact h.1
  rw[←e];exact hf
 rcases x.h with rfl|rfl<;>exact key
theorem UB {S:St} {as:List Arg} {res:List PV} {vs:List AV}:FR S as res vs=dy false S.h as.length vs res F0:=_root_.id rfl
def W3 (K:List AV→Prop) (v:AV) (vs:List AV):Prop:=K (v::vs)
def RWC (P:Program) (S:St) (rs:List ResultVar) (K:List AV→Prop) (r:R):Prop:=j8 P S rs (W3 K r.v)
theorem KH {S:St} {K:List AV→Prop}:j8 P S [] K=K []:=_root_.id rfl
theorem KE {S:St} {t:Nat} {rs:List ResultVar} {K:List AV→Prop}:j8 P S (.tmp t::rs) K=j8 P S rs (W3 K (S.e t)):=_root_.id rfl
theorem FE {S:St} {t ty:Nat} {rs:List ResultVar} {K:List AV→Prop}:j8 P S (.cell t ty::rs) K=eQ P ty S.h (S.e t) (RWC P S rs K):=_root_.id rfl
theorem Kz {K:List AV→Prop} {v:AV} {vs:List AV}:W3 K v vs=K (v::vs):=_root_.id rfl
theorem KC {S:St} {rs:List ResultVar} {K:List AV→Prop} {r:R}:RWC P S rs K r=j8 P S rs (W3 K r.v):=_root_.id rfl
def D2B (b:Blk) (p q:List PV):Prop:=∃r0 r1 rs,b=.deep false [.row r0,.row r1] rs∧r0≠r1∧rs[r0]? =some (some p)∧rs[r1]? =some (some q)
def Dst2 (v:AV) (h:Nat→Blk) (n:Nat) (p q:List PV):Prop:=
 match v with
 | .ptr id 0=>D2B (h id) p q∧id<n
 |_=>False
theorem Dst2.out {v:AV} {n:Nat} {p q:List PV} (hd:Dst2 v h n p q):∃id r0 r1 rs,v=.ptr id 0∧h id=.deep false [.row r0,.row r1] rs∧id<n∧(r0=r1)=False∧(r1=r0)=False∧rs[r0]? =some (some p)∧rs[r1]? =some (some q)∧r0<rs.length∧r1<rs.length∧
  (r0=rs.length)=False∧(r1=rs.length)=False∧(rs.length=r0)=False∧(rs.length=r1)=False:=by
 unfold Dst2 at hd
 split at hd
 ·obtain⟨⟨r0,r1,rs,h1,h2,h3,h4⟩,h5⟩:=hd
  have l0:=(List.getElem?_eq_some_iff.1 h3).1
  have l1:=(List.getElem?_eq_some_iff.1 h4).1
  exact⟨_,r0,r1,rs,rfl,h1,h5,eq_false h2,eq_false (Ne.symm h2),h3,h4,l0,l1,eq_false (by omega),eq_false (by omega),eq_false (by omega),eq_false (by omega)⟩
 ·exact hd.elim
theorem Oj {id n:Nat} {p q:List PV}:Dst2 (.ptr id 0) h n p q=(D2B (h id) p q∧id<n):=_root_.id rfl
theorem Vu {p q:List PV} {r0 r1:Nat}:D2B (.deep false [.row r0,.row r1] rs) p q=(r0≠r1∧rs[r0]? =some (some p)∧rs[r1]? =some (some q)):=by
 apply propext;constructor
 ·rintro⟨a,b,rs',e,h⟩;cases e;exact h
 ·exact fun h=>⟨r0,r1,rs,rfl,h⟩
def nJ:AV→AV
 | .ptr id _=>.ref id 0 0
 | .mp id=>.ref id 0 0
 | .prs id _=>.ref id 0 0
 |v=>v
theorem I3 {id o:Nat}:nJ (.ptr id o)=.ref id 0 0:=_root_.id rfl
theorem dp {v:AV} {id o:Nat} (e:v=.ptr id o):nJ v=.ref id 0 0:=by subst e;rfl
def PtrL (v:AV) (h:Nat→Blk) (n:Nat) (b:Blk):Prop:=
 match v with
 | .ptr id 0=>h id=b∧id<n
 |_=>False
theorem PtrL.out {v:AV} {n:Nat} {b:Blk} (hd:PtrL v h n b):∃id,v=.ptr id 0∧h id=b∧id<n:=by
 unfold PtrL at hd
 split at hd
 ·exact⟨_,rfl,hd⟩
 ·exact hd.elim
theorem K8 {id n:Nat} {b:Blk}:PtrL (.ptr id 0) h n b=(h id=b∧id<n):=_root_.id rfl
def PrsL (v:AV) (h:Nat→Blk) (n len:Nat) (xs:List PV):Prop:=
 match v with
 | .prs id l=>l=len∧h id=.live false xs∧id<n
 |_=>False
theorem PrsL.out {v:AV} {n len:Nat} {xs:List PV} (hd:PrsL v h n len xs):∃id,v=.prs id len∧h id=.live false xs∧id<n:=by
 unfold PrsL at hd
 split at hd
 ·obtain⟨rfl,h1,h2⟩:=hd;exact⟨_,rfl,h1,h2⟩
 ·exact hd.elim
theorem K9 {id n l len:Nat} {xs:List PV}:PrsL (.prs id l) h n len xs=(l=len∧h id=.live false xs∧id<n):=_root_.id rfl
theorem I4 {id o:Nat}:nJ (.prs id o)=.ref id 0 0:=_root_.id rfl
theorem O0 {v:AV} {id o:Nat} (e:v=.prs id o):nJ v=.ref id 0 0:=by subst e;rfl
theorem WH {a b:List PV} (e:a=b):(some (some a))=some (some b):=by rw[e]
end
attribute [go_sem ↓] Qd P5 P9
attribute [go_sem] K9 I4
attribute [go_sem] Wh aa8 aa9 SN aaS aaT aaR Ww abf abe aaU ZF ZE aaW aaV UD Dr BY Kl I8 Wg aaY aa0 OY Mw Uc Ub Ua EL O6 Ul Uk Uj Ng Nh N7 D4 Ns Ea U4 Nu Oj Vu I3 K8 UB KH KE FE Kz KC
end Go.Gl
namespace Go.Gl
open Go
variable [Amb]
section
variable {P:Program} {sg:FuncId→List Bool} {h:Nat→Blk} {k:Nat} {ρ:Operand→AV} {C:R→Prop} {t:TypeId} {x y z:Operand}
variable {m:Bool} {kt:TypeId} {es:List (PV×PV)} {q q' w:PV} {id:Nat} {v:AV}
theorem PX {r:Option Operand}:gA P sg ρ h k (.makeMap t r) C=kY P t r k C:=_root_.id rfl
theorem Xx {c:Bool}:gA P sg ρ h k (.lookup t x y c) C=ip P t h (ρ x) (ρ y) c C:=_root_.id rfl
theorem PW:gA P sg ρ h k (.mapUpdate t x y z) C=fP P t h (ρ x) (ρ y) (ρ z) C:=_root_.id rfl
theorem P3:gA P sg ρ h k (.insert t x y z) C=fP P t h (ρ x) (ρ y) (ρ z) C:=_root_.id rfl
theorem SG {n s zz:Bool} {r:Option Operand}:iY P n s zz (.makeMap t r)=false:=_root_.id rfl
theorem ZR {n s zz c:Bool}:iY P n s zz (.lookup t x y c)=false:=_root_.id rfl
theorem SF {n s zz:Bool}:iY P n s zz (.mapUpdate t x y z)=false:=_root_.id rfl
theorem SH {n s zz:Bool}:iY P n s zz (.insert t x y z)=false:=_root_.id rfl
theorem MM {r:Option Operand}:ja (.makeMap t r)=false:=_root_.id rfl
theorem TK {c:Bool}:ja (.lookup t x y c)=false:=_root_.id rfl
theorem MK:ja (.mapUpdate t x y z)=false:=_root_.id rfl
theorem MQ:ja (.insert t x y z)=false:=_root_.id rfl
theorem Wa:kn k (.mp id) C=C ⟨.mp id,[],[]⟩:=_root_.id rfl
def ZX (P:Program) (s:Option (TypeId×PV)) (k:Nat) (C:R→Prop):Prop:=
 match s with
 |some (kt,_)=>C ⟨.mp k,[(k,.map false (pF P kt) [])],[]⟩
 |none=>False
theorem Mn:kY P t none k C=ZX P (qG P t) k C:=by
 simp only[kY,ZX,true_and];cases qG P t<;>rfl
theorem Mm:ZX P (some (kt,w)) k C=C ⟨.mp k,[(k,.map false (pF P kt) [])],[]⟩:=_root_.id rfl
def WM (P:Program) (s:Option (TypeId×PV)) (q:Option PV) (b:Blk) (id:Nat) (c:Bool) (C:R→Prop):Prop:=
 match s,q,b with
 |some (kt,z),some q,.map _ kt' es=>kt'=pF P kt∧Maps.Keyed P kt∧kZ q=true∧pF P kt (kV q)∧C ⟨Js z c (mget es q),[],[id]⟩
 |_,_,_=>False
theorem Tu {c:Bool}:ip P t h (.mp id) v c C=WM P (qG P t) (A9 v) (h id) id c C:=by
 unfold ip WM
 cases qG P t with
 |none=>rfl
 |some s=>obtain⟨_,_⟩:=s;cases A9 v with
  |none=>rfl
  |some q=>simp only[];cases h id<;>rfl
theorem Tt {c:Bool}:WM P (some (kt,w)) (some q) (.map m (pF P kt) es) id c C=(Maps.Keyed P kt∧kZ q=true∧pF P kt (kV q)∧C ⟨Js w c (mget es q),[],[id]⟩):=by simp only[WM,true_and]
def UPK (id:Nat) (m:Bool) (kt:Value→Prop) (es:List (PV×PV)) (q:PV) (C:R→Prop) (x:PV) (ws:List (Nat×Blk)) (rd:List Nat):Prop:=id∉rd∧C ⟨.p .any,ws++[(id,.map m kt ((q,x)::es))],id::rd⟩
def WE (P:Program) (s:Option (TypeId×PV)) (q:Option PV) (b:Blk) (h:Nat→Blk) (id:Nat) (v:AV) (C:R→Prop):Prop:=
 match s,q,b with
 |some (kt,_),some q,.map m kt' es=>kt'=pF P kt∧Maps.Keyed P kt∧kZ q=true∧pF P kt (kV q)∧mF h v (UPK id m kt' es q C)
 |_,_,_=>False
theorem LY {u:AV}:fP P t h (.mp id) u v C=WE P (qG P t) (A9 u) (h id) h id v C:=by
 unfold fP WE
 cases qG P t with
 |none=>rfl
 |some s=>obtain⟨_,_⟩:=s;cases A9 u with
  |none=>rfl
  |some q=>simp only[];cases h id<;>rfl
theorem Qh:WE P (some (kt,w)) (some q) (.map m (pF P kt) es) h id v C=(Maps.Keyed P kt∧kZ q=true∧pF P kt (kV q)∧mF h v (UPK id m (pF P kt) es q C)):=by simp only[WE,true_and]
theorem J8 {kq:Value→Prop} {x:PV} {ws:List (Nat×Blk)} {rd:List Nat}:UPK id m kq es q C x ws rd=(id∉rd∧C ⟨.p .any,ws++[(id,.map m kq ((q,x)::es))],id::rd⟩):=_root_.id rfl
variable {K:PV→List (Nat×Blk)→List Nat→Prop}
theorem Ld {kd:IntKind} {n:Int}:mF h (.p (.int kd n)) K=K (.int kd n) [] []:=by simp[mF,PV.cell,PV.cellOk]
theorem F7 {b:Bool}:mF h (.p (.bool b)) K=K (.bool b) [] []:=by simp[mF,PV.cell,PV.cellOk]
theorem F6 {b:Bool} {s:List PV}:mF h (.p (.sl (.lent b) s)) K=K (.sl (.lent b) s) [] []:=by cases b<;>simp[mF,PV.cell,PV.cellOk,Fl.lent]
theorem Lc {off len:Nat}:mF h (.ref id off len) K=Ji (h id) id off len K:=by
 simp only[mF,Ji];cases h id<;>rfl
theorem aa4:A9 (.p q)=some q:=_root_.id rfl
theorem aa6 {a b:PV}:A9 (.agg [.p a,.p b])=some (.agg [a,b]):=_root_.id rfl
theorem aa5 {a b c d:PV}:A9 (.agg [.p a,.p b,.p c,.p d])=some (.agg [a,b,c,d]):=_root_.id rfl
theorem MC {kd:IntKind} {n:Int}:kZ (.int kd n)=true:=_root_.id rfl
theorem MB {s:List UInt8}:kZ (.str s)=true:=_root_.id rfl
theorem aac {kd kd':IntKind} {a b:Int}:kZ (.agg [.int kd a,.int kd' b])=true:=_root_.id rfl
theorem aab {kd:IntKind} {a b c d:Int}:kZ (.agg [.int kd a,.int kd b,.int kd c,.int kd d])=true:=_root_.id rfl
theorem Tp:Js w true (some q)=.tup [.p q,.p (.bool true)]:=_root_.id rfl
theorem Tq:Js w true none=.tup [.p w,.p (.bool false)]:=_root_.id rfl
theorem Tr:Js w false (some q)=.p q:=_root_.id rfl
theorem Ts:Js w false none=.p w:=_root_.id rfl
theorem Mq:mget [] q=none:=_root_.id rfl
theorem WL:mget ((q,w)::es) q'=open Classical in if kV q=kV q' then some w else mget es q':=_root_.id rfl
theorem aaa {kd:IntKind} {a b:Int}:(kV (.int kd a)=kV (.int kd b))=(a=b):=by simp[kV,GY]
theorem acE {kd kd':IntKind} {a b c d:Int}:(kV (.agg [.int kd a,.int kd' b])=kV (.agg [.int kd c,.int kd' d]))=(a=c∧b=d):=by simp[kV,GY]
def MapL (v:AV) (h:Nat→Blk) (n:Nat) (kt:Value→Prop) (es:List (PV×PV)):Prop:=
 match v with
 | .mp id=>h id=.map false kt es∧id<n
 |_=>False
theorem MapL.out {v:AV} {n:Nat} {kq:Value→Prop} (hd:MapL v h n kq es):∃id,v=.mp id∧h id=.map false kq es∧id<n:=by
 unfold MapL at hd
 split at hd
 ·exact⟨_,rfl,hd⟩
 ·exact hd.elim
theorem Tm {n:Nat} {kq:Value→Prop}:MapL (.mp id) h n kq es=(h id=.map false kq es∧id<n):=_root_.id rfl
theorem OZ:nJ (.mp id)=.ref id 0 0:=_root_.id rfl
theorem aa2 {v:AV} (e:v=.mp id):nJ v=.ref id 0 0:=by subst e;rfl
theorem ZZ {kq:Value→Prop} {es es':List (PV×PV)} (e:es=es'):Blk.map m kq es=Blk.map m kq es':=by rw[e]
end
attribute [go_sem ↓] PX Xx PW P3
attribute [go_sem] Wa SG ZR SF SH MM TK MK MQ Mn Mm Tu Tt LY Qh J8 Ld F7 F6 Lc aa4 aa6 aa5 MC MB aac aab Tp Tq Tr Ts Mq Tm OZ
end Go.Gl
namespace Go.Gl
open Go
structure Cu where
 i:Nat
 h:Int
def cF (b:List UInt8) (s:Cu):List PV:=[.sl (.lent false) (b.map kA),.int .i64 s.i,.int .i64 s.h]
instance {b:List UInt8} {s:Cu}:NDl (cF b s):=⟨by intro rows h;cases h⟩
instance {k:Nat} {xs:List PV}:Imp1 k (.bx xs) (.ptr k 0) [(k,.live false xs)]:=⟨rfl,rfl⟩
instance {k:Nat} {xs:List PV}:ImpO k (.bx xs) (.ptr k 0) [(k,.live false xs)]:=⟨rfl,rfl⟩
theorem LG {xs:List PV}:noRo (.bx xs)=noRoL xs:=_root_.id rfl
theorem LE {b:List UInt8} {s:Cu}:noRoL (cF b s)=true:=by
 simp only[cF,noRoL,noRo,vg,Bool.and_true]
 exact cZ (fun _=>rfl) b
section
variable [Amb]
variable {P:Program} {sg:FuncId→List Bool} {h:Nat→Blk} {k:Nat} {C:R→Prop} {S:St} {b:List UInt8} {s:Cu} {m:Bool} {id:Nat}
theorem GW:sc (.live m (cF b s)) id 0 C=C ⟨.p (.sl (.lent false) (b.map kA)),[],[id]⟩:=by simp[sc,gt,cF,KX]
theorem GV:sc (.live m (cF b s)) id 1 C=C ⟨.p (.int .i64 s.i),[],[id]⟩:=by simp[sc,gt,cF,KX]
theorem GU:sc (.live m (cF b s)) id 2 C=C ⟨.p (.int .i64 s.h),[],[id]⟩:=by simp[sc,gt,cF,KX]
theorem Fo {n:Int}:nM (.live m (cF b s)) id 1 (.int .i64 n) C=C ⟨.p .any,[(id,.live m [.sl (.lent false) (b.map kA),.int .i64 n,.int .i64 s.h])],[id]⟩:=by
 simp[nM,cF,PV.cell,PV.cellOk]
theorem Fm {n:Int}:nM (.live m (cF b s)) id 2 (.int .i64 n) C=C ⟨.p .any,[(id,.live m (cF b ⟨s.i,n⟩))],[id]⟩:=by
 simp[nM,cF,PV.cell,PV.cellOk]
theorem OB {n:Nat} {x:Int}:[PV.sl (.lent false) (b.map kA),.int .i64 (n:Int),.int .i64 x]=cF b ⟨n,x⟩:=_root_.id rfl
def L5 (b:Blk) (F:List PV→Prop):Prop:=match b with| .live _ c=>F c|_=>False
def MUP (h:Nat→Blk) (fs:List Bool) (vs:List AV) (id:Nat) (K:List Arg→List Nat→List (Option (Nat×Option Nat))→Prop) (c:List PV):Prop:=
 pass h fs vs fun as rd ms=>K (.mu true c::as) rd (some (id,none)::ms)
def W6 (id:Nat) (c:List PV) (K:List Arg→List Nat→List (Option (Nat×Option Nat))→Prop) (as:List Arg) (rd:List Nat) (ms:List (Option (Nat×Option Nat))):Prop:=K (.mu true c::as) rd (some (id,none)::ms)
theorem GD {fs:List Bool} {vs:List AV} {K:List Arg→List Nat→List (Option (Nat×Option Nat))→Prop}:pass h (true::fs) (.ptr id 0::vs) K=L5 (h id) (MUP h fs vs id K):=by
 simp only[pass,L5,MUP];cases h id<;>rfl
theorem C3 {c:List PV} {F:List PV→Prop}:L5 (.live m c) F=F c:=_root_.id rfl
theorem LW {fs:List Bool} {c:List PV} {vs:List AV} {K:List Arg→List Nat→List (Option (Nat×Option Nat))→Prop}:MUP h fs vs id K c=pass h fs vs (W6 id c K):=_root_.id rfl
theorem GE {vs:List AV} {c:List PV} {K:List Arg→List Nat→List (Option (Nat×Option Nat))→Prop}:pass h [] vs (W6 id c K)=pC h vs (PQ (W6 id c K)):=ls
theorem LX {c:List PV} {K:List Arg→List Nat→List (Option (Nat×Option Nat))→Prop} {as:List Arg} {rd:List Nat} {ms:List (Option (Nat×Option Nat))}:W6 id c K as rd ms=K (.mu true c::as) rd (some (id,none)::ms):=_root_.id rfl
def fpB (b:Blk) (tk:Bool) (xs:List PV):Prop:=match b with| .live m c=>(m=true→tk=true)∧c=xs|_=>False
theorem UC {tk:Bool} {xs:List PV}:dy tk h k [.ptr id 0] [.bx xs] F0=fpB (h id) tk xs:=by
 simp only[dy,fin,dX,fpB]
 cases h id with
 |live m c=>simp[F0]
 |_=>rfl
theorem Nn {tk:Bool} {c xs:List PV}:fpB (.live m c) tk xs=((m=true→tk=true)∧c=xs):=_root_.id rfl
theorem UK {tk:Bool}:(false=true→tk=true)=True:=by simp
end
theorem Zp {i o o':Nat}:(AV.ptr i o=AV.ptr i o')=(o=o'):=by simp
attribute [go_sem] LG LE GW GV GU Fo Fm OB GD C3 LW GE LX UC Nn UK
attribute [go_sem] JQ JN MW MD MG MV Dy TM TL Dw TI TJ
theorem Fun.callsT1 [Amb] {P:Program} {f:FuncId} {args:List PV} {b:Bool} (hf:Fun P f args [.bool b]) (w:World) (ha:∀B o,Amb.tb B=some o→w.heap[B]? =some o) {vs:List Value} (hr:RepL w (fun _=>False) (fun _=>True) args vs):
  Calls P f ⟨vs⟩ w fun e w'=>e=.returned (.bool b)∧Go.RowKit.Below w.heap.size w w':=by
 obtain⟨_,_,_,_,h⟩:=hf
 have dead:∀j,cP (args.map .pv) j=.dead:=fun j=>by
  unfold cP
  rw[ax]
  cases args[j]? <;>rfl
 have hno:∀(ι:Nat→Loc) B,¬Held (cP (args.map .pv)) ι B:=by
  rintro ι B ⟨id,ho⟩
  rw[dead]at ho;exact ho
 have hrep:∀(l:List PV) (vs:List Value) (k:Nat),RepL w (fun _=>False) (fun _=>True) l vs→RepAL w (Held (cP (args.map .pv)) fun _=>⟨0,0,0,0,ce⟩) (fun _=>True) (fun _=>⟨0,0,0,0,ce⟩) (cr k (l.map .pv)) vs:=by
  intro l
  induction l with
  |nil=>intro vs k h;simpa[cr,RepAL,RepL]using h
  |cons x l ih=>
   intro vs k h
   simp only[RepL]at h
   obtain⟨v,vs',rfl,h1,h2⟩:=h
   simp only[List.map_cons,cr,Arg.av,RepAL,RepA]
   exact⟨v,vs',rfl,RepP.tr (F:=fun _=>False) (fun _ _ _ _ hv=>⟨hv,hno _ _⟩) (fun _ _ _ h=>h) _ _ h1,ih _ _ h2⟩
 refine(h w (fun _=>True) (fun _=>⟨0,0,0,0,ce⟩) vs ⟨ha,fun B o _ hB=>hno _ B hB⟩ (fun _ _=>trivial) ⟨?_, ?_⟩ (hrep _ _ _ hr)).mono ?_
 ·intro id;rw[dead];trivial
 ·intro id _ B ho;rw[dead]at ho;exact ho.elim
 ·rintro e w' ⟨v,ι',rfl,_,hk,_,hv⟩
  have hv:v=.bool b:=by simpa[impAll,imp,imp1,RepA,RepP]using hv
  subst hv
  exact⟨rfl,hk.os,hk.tape,hk.output,hk.size,fun k hk'=>hk.block k hk' (hno _ _)⟩
theorem Fun.callsT {P:Program} {f:FuncId} {args:List PV} {b:Bool} (hf: @Fun sD P f args [.bool b]) (w:World) {vs:List Value} (hr:RepL w (fun _=>False) (fun _=>True) args vs):
  Calls P f ⟨vs⟩ w fun e w'=>e=.returned (.bool b)∧Go.RowKit.Below w.heap.size w w':=
 @Fun.callsT1 sD P f args b hf w (fun _ _ h=>by cases h) vs hr
theorem IsRow.repB {w:World} {a:Option Addr} {len cap:Nat} {zs:List Int} (h:IsRow .u8 w a len cap zs):
  RepP w (fun _=>False) (fun _=>True) (.sl (.lent false) (((zs.take len).map fun n=>UInt8.ofNat n.toNat).map kA)) (.slice a len cap):=by
 have e:((zs.take len).map fun n=>UInt8.ofNat n.toNat).map kA=(zs.take len).map (PV.int .u8):=by
  rw[List.map_map]
  refine List.map_congr_left fun n hn=> ?_
  have hw:∀n∈zs,(Lit.int .u8 n).wf=true:=by
   rcases h with⟨_,_,_,rfl⟩|⟨_,_,_,_,_,_,hw⟩
   ·intro n hn;cases hn
   ·exact hw
  have:=hw n (List.mem_of_mem_take hn)
  have h2:0≤n∧n≤255:=by simpa[Lit.wf,IntKind.min,IntKind.max,IntKind.signed,IntKind.bits]using this
  simp only[Function.comp,kA]
  congr 1
  rw[UInt8.toNat_ofNat']
  omega
 rw[e]
 have h3:=IsRow.rep (G:=fun _=>True) h
 simp only[DF,RepP]at h3 ⊢
 obtain⟨a',c',h4,h5,h6,h7,h8⟩:=h3
 refine⟨a',c',h4,h5,h6,(by intro e;cases e), ?_⟩
 rcases h8 with h8|⟨B,off,h9,h10,_,h11⟩
 ·exact .inl h8
 ·exact .inr ⟨B,off,h9,h10,fun _=>trivial,h11⟩
end Go.Gl
